/- A part of the proof. -/
import Derived.Test.YtkanpclgnhdbiaaGreatDoorTicketReadCard1
import Derived.Conc.Beside
import Derived.Conc.CrowdTrace
import Derived.Conc.CrowdComm
set_option linter.all false
set_option maxRecDepth 4000
set_option maxHeartbeats 4000000
open Array renaming getElem?_append_right->X5,getElem?_eq_getElem->SK,getElem?_eq_some_iff->SR,getElem?_map->WA,getElem?_modify->Wd,getElem?_setIfInBounds_ne->SU,getElem?_setIfInBounds_self_of_lt->S_,getElem_mem->XS,mem_append->Ut,size_append->Xz
open Bool renaming false_eq_true->TO
open Classical renaming byContradiction->Tu
open Go renaming Addr->U1,Code->T5,Deferred->UV,Event->Uq,FuncId->TQ,Goroutine->SH,IntKind->TU,LoopState->Z5,MemOp->V_,Operand->Ti,Program->SJ,ResultVar->UM,Touch->YH,Trace->Um,Value->SO,World->Tp
open Go.BinOp renaming neq->VT
open Go.Conc renaming Deaf->UR,Deaf_other->ate,Knows->Wi,QuitsD->Y2,act?_of->ad',act?_old->X4,deaf_succ->Z9,getElem?_append_cases->Xi,getElem?_stand->X8,heard_old->Wo,knows_own->Y',lt_of_act?->VY,lt_size_of_getElem?->TH,mem_ofEvents->TM,mem_of_getElem?->XQ,ofEvent_cell0->al',offersAt_of_not_blocked->UT,offersAt_ph->Zj,served->T4,touch_mute->ZR,touch_of->US,woken_run->Yj
open Go.Conc.QuitsD renaming status->ZC
open Go.ConcN renaming le_sumTo->Wz,sumTo_congr->Vj
open Go.Event renaming mute->WC
open Go.GoStatus renaming blocked->atc
open Go.Goroutine renaming again->YR
open Go.IntKind renaming i64->SE
open Go.MemAct renaming low_mono->Zg,ofEvent->Ts,touch?->Wa
open Go.MemAct.mark renaming injEq->ag_
open Go.MemOp renaming ofEvents->Ta
open Go.Obj renaming deferred->atm
open Go.Op renaming equal->Xe
open Go.Proofs.Tryz renaming f107->af',f109->af_,f89->ak_,f97->ar_,prog->SC
open Go.Trace renaming g?->Wx
open Go.Value renaming int->SG
open Go.World renaming cell?->Ux,setCell->Xh
open Int renaming toNat->X7
open List renaming append_assoc->SD,append_nil->SY,cons_append->VA,drop->Ue,drop_append->Vt,drop_append_of_le_length->Wn,drop_drop->aj_,drop_eq_getElem_cons->TW,drop_eq_nil_of_le->TS,drop_zero->Xw,ext_getElem?->Ym,flatMap_append->Vv,flatMap_cons->Ui,foldl->aa_,foldl_append->ZK,foldl_cons->UW,getD_eq_getElem?_getD->SF,getElem?_append_left->SZ,getElem?_append_right->Tj,getElem?_drop->Uo,getElem?_eq_getElem->SV,getElem?_eq_some_iff->SM,getElem?_map->To,getElem?_set->UI,getElem?_set_ne->T6,getElem?_set_self->W5,getElem?_take->Uc,getElem_mem->Wr,getLastD_eq_getLast?->Vf,length_append->SQ,length_drop->Uj,length_map->Tn,length_set->TF,map->U4,mapM_cons->T8,mapM_nil->Uz,map_append->TE,map_congr_left->Vy,map_cons->UU,map_drop->ae',map_flatMap->Vs,map_map->XW,map_singleton->Y6,map_take->VS,mem_append->SS,mem_append_left->Tg,mem_append_right->S5,mem_cons->SL,mem_flatMap->S7,mem_flatten->XI,mem_iff_getElem?->UP,mem_map->Tm,mem_of_getElem?->Te,mem_of_mem_take->Wq,mem_or_eq_of_mem_set->UK,mem_replicate->Xu,mem_singleton->S8,mem_toArray->TK,nil_append->UC,nodup_append->U3,not_mem_nil->S4,range->S0,range'->Ua,range'_append_1->Y4,range'_succ->VN,range_eq_range'->Vm,range_succ->Vh,replicate->TN,replicate_succ->Ws,set_append_left->Ww,set_append_right->UO,set_cons_succ->UA,set_cons_zero->TY,set_eq_take_append_cons_drop->XK,set_set->W4,take->T_,take_add_one->VE,take_append_drop->Ve,take_append_of_le_length->Tx,take_length->TJ,take_of_length_le->SW,take_set->Z0,take_succ->Wv,take_succ_cons->VQ,take_take->UZ,take_zero->ai'
open List.Perm renaming refl->aa'
open Nat renaming add_sub_cancel->VU,add_sub_cancel_left->U6,add_zero->UH,eq_zero_or_pos->UX,le_of_eq->WE,le_refl->SP,le_trans->UF,lt_of_lt_of_le->Td,lt_trans->Wl,reduceAdd->SX,strongRecOn->Yl,sub_self->Vb,sub_zero->ZU,zero_add->Wp
open Option renaming bind_eq_bind->TP,getD_some->S9,map_eq_some_iff->Tq,pure_def->Uh,toList_some->YL
open Option.some renaming inj->Wj,injEq->Tl
open Prod.mk renaming injEq->UY
namespace Go.Gg
open Go.Conc Go.Proofs Go.Gg.Tk
theorem I0{α:Type}(g:Nat->List α)(i:Nat):(S0 (i+1)).flatMap g=(S0 i).flatMap g++g i:=by
 rw[Vh,Vv];simp
theorem IZ{α:Type}(g:Nat->List α){i n:Nat}(h:i<n):(S0 n).flatMap g=(S0 i).flatMap g++(g i++(Ua (i+1) (n-(i+1))).flatMap g):=by
 have:S0 n=S0 i++(i::Ua (i+1) (n-(i+1))):=by
  rw[Vm,Vm,<- VN];have:=Y4 (s:=0) (m:=i) (n:=n-(i+1)+1);rw[Wp]at this;rw[this];congr 1;omega
 rw[this,Vv,Ui]
theorem MU{α:Type}{l:List α}{i:Nat}{v:α}(h:i<l.length):(l.set i v).take (i+1)=l.take i++[v]:=by
 rw[Wv,Z0,UI,if_pos rfl,if_pos h,List.set_eq_of_length_le (by simp;omega)];rfl
namespace Tk
def iU (h:List Int)(hour j:Nat)(n:Int):List Int:=h.take hour++TN j n++h.drop (hour+j)
theorem Ei{h:List Int}{hour j:Nat}{n:Int}(hj:hour+j<=h.length):(iU h hour j n).length=h.length:=by simp[iU];omega
theorem ah9(h:List Int)(hour:Nat)(n:Int):iU h hour 0 n=h:=by simp[iU]
theorem IR{h:List Int}{hour j:Nat}{n:Int}(hj:hour+j<h.length):(iU h hour j n).set (hour+j) n=iU h hour (j+1) n:=by
 unfold iU;have hl:(h.take hour++TN j n).length=hour+j:=by simp;omega
 rw[UO _ _ (by omega),hl,Vb,List.replicate_succ'];rw[TW hj,TY,SD,SD,SD];rfl
theorem ah8{h:List Int}{hour j:Nat}{n:Int}(hn:h[hour]?=some n)(hj:hour+j<=h.length):(iU h hour j n)[hour]?=some n:=by
 have hl:=eM hn;unfold iU;rw[SD,Tj (by simp;omega)];have:hour-(h.take hour).length=0:=by simp;omega
 rw[this];cases j with
 |zero=>simpa using hn
 |succ j=>simp[Ws]
theorem ah7{h pre:List Int}{hour:Nat}{n:Int}(h4:h.length=4)(hn:h[hour]?=some n)(hp:pre=h.take (hour+1)):iU h hour (4-hour) n=cH pre:=by
 have hl:=eM hn;have e:pre=h.take hour++[n]:=by rw[hp,Wv,hn];rfl
 unfold iU cH;rw[TS (by omega),SY,e];have h1:(h.take hour++[n]).length=hour+1:=by simp;omega
 rw[h1,show (h.take hour++[n]).getLastD 0=n by simp[Vf],SD];congr 1;rw[show 4-hour=(4-(hour+1))+1 by omega,Ws];rfl
theorem abh{h pre:List Int}{hour:Nat}{n:Int}(hn:h[hour]?=some n)(hp:pre=h.take (hour+1)):pre.length=hour+1/\pre.getLastD 0=n:=by
 have hl:=eM hn;have e:pre=h.take hour++[n]:=by rw[hp,Wv,hn];rfl
 subst e;exact⟨by simp;omega,by simp[Vf]⟩
end Tk
open Go.Conc Go.Proofs Go.Gg.Tk
section
variable {lv:Bool}
def pN (yv:AV)(N ir it:Nat)(h:List Int):List aa:=[.cells [yv] 130,.cells (h.map iv) 83,.cells [.fn (.func 87) [] [.op ir 0,.op (N+1) 0]] 68,.cells [.fn (.func 89) [] [.op (N+2) 0,.op ir 0,.op (N+1) 0,.op N 0,.op it 0,.op (N+3) 0]] 68]
theorem ahT{x:ai}{bf N ir it:Nat}{yv pv:AV}{S:Type}{f:S->List Int->dA S}{Gf:S->List aa}{I:S->Prop}{A:List Int->Prop}(hx:x.Ok)(hY:jI lv SC yv f Gf N I A pv)(hr:∀σ L,(Gf σ++L)[ir]?=some (.cells x.l 76))(ht:∀σ L,(Gf σ++L)[it]?=some (.cells [iv bf] 3))(lH:bf<=3):
  ∀(d hour:Nat)(h pre:List Int)(n0:Int)(σ:S)(M:List aa)(k kp:AV->List aa->Prop),d+hour=x.hours.toNat->h.length=4->h[hour]?=some n0->(0<=n0/\n0<=90+3* hour)->pre=h.take (hour+1)->I σ->(∀a∈mF x bf d pre,A a)->
   (∀h',h'.length=4->h'.take (hour+1)=pre->cU Gf pv k kp (pN yv N ir it h'++M) (bC f (mF x bf d pre) σ))->
   bc lv SC 89 (Gf σ++(pN yv N ir it h++M)) [iv hour,.op (N+2) 0,.op ir 0,.op (N+1) 0,.op N 0,.op it 0,.op (N+3) 0] k kp:=by
 intro d;induction d with
 |zero=>
  intro hour h pre n0 σ M k kp oP h4 oi hb hp hI hA hk;refine bF (rs:=[.tmp 8]) (nt:=61) ak_ λhH tR=> ?_;simp only[bk,SX];obtain⟨dl,ue⟩:=abh oi hp;have oR:hour<4:=by have:=eM oi;omega
  have JZ:=hx.hours;have bN:x.l=[iv x.first,iv x.hours,iv x.am,dN x.seen,aY x.pieces,aY x.aC]:=rfl;have g0:∀(σ:S)(L:List aa),(Gf σ++L)[N]?=L[0]?:=λσ L=>hY.get σ L 0;have g1:∀(σ:S)(L:List aa),(Gf σ++L)[N+1]?=L[1]?:=λσ L=>hY.get σ L 1;have g2:∀(σ:S)(L:List aa),(Gf σ++L)[N+2]?=L[2]?:=λσ L=>hY.get σ L 2;have s1:∀(σ:S)(L:List aa) x,(Gf σ++L).set (N+1) x=Gf σ++L.set 1 x:=λσ L x=>hY.set σ L 1 x;rw[mF,dl,ue,VU]at hA hk;refine ak ?_;refine aj ?_;simp only[seval,g2,pN];refine aJ ((Pk (x:=x) (h:=h) (n:=n0) hx h4 oi (hr _ _) (by rw[g1];rfl) ?_));(try simp only[seval]);refine aE ?_;refine⟨λhs=> ?_,λhs=> ?_⟩
  ·refine ak ?_;refine a_ ?_;have:=hk h h4 hp.symm;rw[hs]at this;simp only[TO,if_false,bC,cU]at this;exact bT this
  ·rw[if_pos hs]at hA hk;rw[MA]at hk;have QM:(hour:Int)=x.hours:=(by omega);refine aO ?_;refine aj ?_;simp only[seval,hr,bN];refine aE ?_;refine⟨λhc=> ?_,λhc=>by exfalso;simp at hc;omega⟩;refine ak ?_;refine cI ?_;refine gJ (4-hour) (λj:Nat=>[(9,iv ((hour+j:Nat):Int))]) (λj=>Gf σ++(pN yv N ir it (iU h hour j n0)++M)) (λj=>True) (λ_ _=>rfl) (by simp only[seval];simp[bA,Wk.refl]) (by rw[ah9];rfl) (λm _ _=>by simp[pN]) trivial (λce db j oS hj R hR=> ?_);refine ak ?_;refine aE ?_;refine⟨λhc=> ?_,λhc=> ?_⟩
   ·have e_:j<4-hour:=(by omega);have bb:(0<=(hour:Int)/\(hour:Int)<4)=True:=(by simp;omega);have bj:(0<=(hour:Int)+(j:Int)/\(hour:Int)+(j:Int)<4)=True:=(by simp;omega);have B6:((hour:Int)+(j:Int)).toNat=hour+j:=(by omega);have lY:(iU h hour j n0).length=4:=(by rw[Ei (by omega),h4]);have lZ:(U4 iv (iU h hour j n0)).length=4:=(by rw[Tn,lY]);have hw:SE.wrap ((hour:Int)+(j:Int)+1)=(hour:Int)+((j+1:Nat):Int):=(by rw[bG _ (by omega)];push_cast;omega);refine aO ?_;refine aj ?_;simp only[seval,g1,s1,pN,bb,bj,B6,lZ,kL (ah8 oi (show hour+j<=h.length by omega))];refine⟨by omega,?_⟩;rw[we (by omega),IR (by omega)];refine aj ?_;simp only[seval,hw];exact hR _ ⟨e_,trivial,dD⟩
   ·have:j=4-hour:=(by omega);subst this;have Fj:=ah7 h4 oi hp;rw[Fj];have Fi:(cH pre).length=4:=(by rw[<- Fj,Ei (by omega),h4]);have sK:((cH pre).map iv).length=4:=(by rw[Tn,Fi]);have ny:(cH pre).take (hour+1)=pre:=(by unfold cH;rw[Tx (by omega),SW (by omega)]);refine b_ ?_;refine aj ?_;simp only[seval,g0,g1,pN,sK];rw[SW (i:=4) (l:=(cH pre).map iv) (by rw[sK];exact SP _)];refine wP (hY.call σ (cH pre) (pN yv N ir it (cH pre)++M) _ _ hI (hA _ (by simp)) ?_);have aI:=hk (cH pre) Fi ny;cases hf:f σ (cH pre)with
    |go σ'=>
     rw[hf]at aI;simp only[cU]at aI⊢;(try simp only[seval]);refine a_ ?_;exact bT aI
    |stop σ'=>
     rw[hf]at aI;simp only[cU]at aI⊢;(try simp only[seval]);refine a_ ?_;exact bT aI
    |bad σ'=>
     rw[hf]at aI;simp only[cU]at aI⊢;exact bT aI
 |succ d ih=>
  intro hour h pre n0 σ M k kp oP h4 oi hb hp hI hA hk;refine bF (rs:=[.tmp 8]) (nt:=61) ak_ λhH tR=> ?_;simp only[bk,SX];obtain⟨dl,ue⟩:=abh oi hp;have JZ:=hx.hours;have hpr:=hx.am;have QL:hour<3:=by omega
  have bN:x.l=[iv x.first,iv x.hours,iv x.am,dN x.seen,aY x.pieces,aY x.aC]:=rfl;have g1:∀(σ:S)(L:List aa),(Gf σ++L)[N+1]?=L[1]?:=λσ L=>hY.get σ L 1;have g2:∀(σ:S)(L:List aa),(Gf σ++L)[N+2]?=L[2]?:=λσ L=>hY.get σ L 2;have g3:∀(σ:S)(L:List aa),(Gf σ++L)[N+3]?=L[3]?:=λσ L=>hY.get σ L 3;have s1:∀(σ:S)(L:List aa) x,(Gf σ++L).set (N+1) x=Gf σ++L.set 1 x:=λσ L x=>hY.set σ L 1 x;rw[mF,dl,ue,VU]at hA hk;refine ak ?_;refine aj ?_;simp only[seval,g2,pN];refine aJ ((Pk (x:=x) (h:=h) (n:=n0) hx h4 oi (hr _ _) (by rw[g1];rfl) ?_));(try simp only[seval]);refine aE ?_;refine⟨λhs=> ?_,λhs=> ?_⟩
  ·refine ak ?_;refine a_ ?_;have:=hk h h4 hp.symm;rw[hs]at this;simp only[TO,if_false,bC,cU]at this;exact bT this
  ·rw[if_pos hs]at hA hk;have QM:¬(hour:Int)=x.hours:=(by omega);refine aO ?_;refine aj ?_;simp only[seval,hr,bN];refine aE ?_;refine⟨λhc=>by exfalso;exact QM hc,λhc=> ?_⟩;refine aO ?_;refine aj ?_;simp only[seval,hr,bN,bG (x.am+1) (by omega)];generalize hg:(λn:Nat=>if hour+1=1/\n≠bf then[]else mF x bf d (pre++[n0+(n:Int)]))=g at hA hk;refine cI ?_;refine yu (measure λm:Nat×S×List Int=>(x.am.toNat+1)-m.1).wf (λm=>[(37,iv (m.1:Nat))]) (λm=>Gf m.2.1++(pN yv N ir it m.2.2++M)) (λm=>m.1<=x.am.toNat+1/\bC f ((S0 m.1).flatMap g) σ=.go m.2.1/\m.2.2.length=4/\m.2.2.take (hour+1)=pre) (0,σ,h) (λ_ _=>rfl) (by intro p hp;simp at hp;subst hp;exact⟨_,rfl,Wk.refl _⟩) rfl (λ_ _=>by simp[pN,hY.len]) ⟨by omega,rfl,h4,hp.symm⟩ (λce db m ay R hR=> ?_);obtain⟨i,τ,hq⟩:=m;obtain⟨hi,bH,zm,zn⟩:=ay;replace hi:i<=x.am.toNat+1:=hi;replace bH:bC f ((S0 i).flatMap g) σ=.go τ:=bH;replace zm:hq.length=4:=zm;replace zn:hq.take (hour+1)=pre:=zn;have Fs:hq[hour]?=some n0:=by
    have h1:(hq.take (hour+1))[hour]?=some n0:=(by rw[zn,hp,Uc,if_pos (by omega)];exact oi);rwa [Uc,if_pos (by omega)]at h1
   refine ak ?_;refine aE ?_;refine⟨λhc=> ?_,λhc=> ?_⟩
   ·have bx:i<x.am.toNat+1:=(by omega);have bP:SE.wrap ((i:Int)+1)=((i+1:Nat):Int):=(by rw[bG _ (by omega)];rfl);have re:=IZ g bx;have sO:=I0 g i;have Bv:I τ:=zZ (A:=A) hY.inv _ σ τ (λa ha=>hA a (by rw[re];exact Tg _ ha)) hI bH;refine aO ?_;refine ak ?_;have hqm:(U4 iv hq).length=4:=(by rw[Tn,zm]);have bb:(0<=(hour:Int)/\(hour:Int)<4)=True:=(by simp;omega);have bb1:(0<=(hour:Int)+1/\(hour:Int)+1<4)=True:=(by simp;omega);have oW:((hour:Int)+1).toNat=hour+1:=(by omega);have RZ:SE.wrap ((hour:Int)+1)=(hour:Int)+1:=bG _ (by omega);have KX:SE.wrap (n0+(i:Int))=n0+(i:Int):=bG _ (by omega);refine aj ?_;simp only[seval,ht];refine w7 (λh2=> ?ga) (λh2=> ?gb)
    case' ga=>
     (try simp only[seval,ht]);refine aE ?_;refine⟨λh3=> ?gc,λh3=> ?gd⟩
     case gc=>
      have aM:g i=[]:=(by rw[<- hg];exact if_pos ⟨by simp at h2;omega,by omega⟩);refine b_ ?_;refine aj ?_;simp only[seval,bP];exact hR _ ⟨(i+1,τ,hq),(by show x.am.toNat+1-(i+1)<x.am.toNat+1-i;omega),⟨by omega,by rw[sO,aM,SY];exact bH,zm,zn⟩,dD⟩
    case' gb=>
     (try simp only[seval]);refine aE ?_
    all_goals
     have aM:g i=mF x bf d (pre++[n0+(i:Int)]):=by
      rw[<- hg];refine if_neg ?_
      rintro⟨q1,q2⟩
      first|(simp at h3;omega)|(simp at h2;omega)
     refine aO ?_;refine aj ?_;simp only[seval,g1,s1,pN,bb,bb1,oW,RZ,KX,hqm,kL Fs];refine⟨by omega,?_⟩;rw[we (show hour+1<hq.length by omega)];refine aj ?_;simp only[seval,g3,RZ];have aks:(hq.set (hour+1) (n0+(i:Int))).length=4:=(by rw[TF,zm]);have hqt:pre++[n0+(i:Int)]=(hq.set (hour+1) (n0+(i:Int))).take (hour+1+1):=(by rw[MU (by omega),zn]);refine aJ ((ih (hour+1) (hq.set (hour+1) (n0+(i:Int))) (pre++[n0+(i:Int)]) (n0+(i:Int)) τ M _ _ (by omega) aks (by rw[UI,if_pos rfl,if_pos (by omega)]) (by omega) hqt Bv (λa ha=>hA a (by rw[re,aM];exact S5 _ (Tg _ ha))) (λh' qL akr=> ?_)));have KA:h'.take (hour+1)=pre:=by
      have e:h'.take (hour+1)=(h'.take (hour+1+1)).take (hour+1):=(by rw[UZ];congr 1;omega);rw[e,akr,Tx (WE dl.symm),SW (WE dl)]
     have zx:bC f ((S0 (x.am.toNat+1)).flatMap g) σ=match bC f (g i) τ with
       |.go s'=>bC f ((Ua (i+1) (x.am.toNat+1-(i+1))).flatMap g) s'
       |r=>r:=by
      rw[re,qg,bH];exact qg f (g i) _ τ
     rw[<- aM];cases hf:bC f (g i) τ with
     |go τ'=>
      simp only[cU];(try simp only[seval]);refine aE ?_;refine aO ?_;refine aj ?_;simp only[seval,bP];exact hR _ ⟨(i+1,τ',h'),(by show x.am.toNat+1-(i+1)<x.am.toNat+1-i;omega),⟨by omega,by rw[sO,qg,bH];exact hf,qL,KA⟩,dD⟩
     |stop τ'=>
      simp only[cU];(try simp only[seval]);refine aE ?_;refine ak ?_;refine a_ ?_;have aI:=hk h' qL KA;rw[zx,hf]at aI;exact bT aI
     |bad τ'=>
      simp only[cU];have aI:=hk h' qL KA;rw[zx,hf]at aI;exact bT aI
   ·have du:i=x.am.toNat+1:=(by omega);subst du;have aI:=hk hq zm zn;rw[bH]at aI;refine b_ ?_;refine ak ?_;refine a_ ?_;exact bT aI
theorem uG{P:SJ}{yv pv:AV}{S:Type}{f:S->List Int->dA S}{Gf:S->List aa}{N:Nat}{I:S->Prop}{A:List Int->Prop}{k:AV->List aa->Prop}(hY:jI lv P yv f Gf N I A pv){σ σ':S}{L:List aa}{a:AV}(hH:bM (Gf σ))(ha:∀n,Lt n a)(hk:k a (Gf σ')):cD (Gf σ).length (Gf σ'++L) a k:=by
 refine jN (H':=Gf σ') (Wk.refl _) rfl (by rw[hY.len,hY.len];exact SP _) ?_ (ha _) hk;have:=hY.ay (σ:=σ) (M:=[]) (by simpa using hH) σ';simpa using this
theorem IK{H:List aa}{k kp:AV->List aa->Prop}{x:ai}{n:Int}(hk:k (.fn (.func 86) [] [.op H.length 0,.op (H.length+1) 0]) (H++[.cells x.l 76,.cells [iv n] 3])):bc lv SC 64 H [x.av,iv n] k kp:=by
 refine bF (rs:=[.tmp 4]) (nt:=6) Tryz.f64 λhH hA=> ?_;simp only[bk,SX,ai.av];refine ak ?_;refine aj ?_;simp only[seval,T8,Uz,Uh,TP];refine a_ ?_;exact bT hk
theorem IN{x:ai}{bf N ir it:Nat}{yv pv:AV}{S:Type}{f:S->List Int->dA S}{Gf:S->List aa}{I:S->Prop}{A:List Int->Prop}{σ:S}{k kp:AV->List aa->Prop}(hx:x.Ok)(hY:jI lv SC yv f Gf N I A pv)(hr:∀σ L,(Gf σ++L)[ir]?=some (.cells x.l 76))(ht:∀σ L,(Gf σ++L)[it]?=some (.cells [iv bf] 3))(lH:bf<=3)
  (nz:∀n,Lt n pv) (hI:I σ) (hA:∀a∈kx x bf,A a) (hk:fV Gf pv k kp [] (bC f (kx x bf) σ)):bc lv SC 86 (Gf σ) [yv,.op ir 0,.op it 0] k kp:=by
 refine bF (rs:=[]) (nt:=15) Tryz.f86 λhH tR=> ?_;simp only[bk,SX];have hN:=hY.len σ;have bN:x.l=[iv x.first,iv x.hours,iv x.am,dN x.seen,aY x.pieces,aY x.aC]:=rfl;refine aj ?_;simp only[seval,hY.parts];refine ak ?_;refine aj ?_;simp only[seval,T8,Uz,Uh,TP];refine ak ?_;refine aj ?_;simp only[seval,T8,Uz,Uh,TP];refine aj ?_;simp only[seval,hr,bN];refine ak ?_;have h0:=hx.first;have hh:=hx.hours;have Kz:[x.first]=T_ (0+1) [x.first,0,0,0]:=rfl;refine aJ (?_);rw[hN];refine ahT (x:=x) (bf:=bf) hx hY hr ht lH x.hours.toNat 0 [x.first,0,0,0] [x.first] x.first σ [] _ _ rfl rfl rfl (by omega) Kz hI hA (λh' qL zk=> ?_);change cU Gf pv _ _ _ (bC f (kx x bf) σ);have ry:∀n,Lt n (.aK []):=λn=>by simp[jz]
 cases hf:bC f (kx x bf) σ with
 |go s=>
  rw[hf]at hk;simp only[cU,fV]at hk⊢;rw[SY]at hk;(try simp only[seval]);rw[<- hN];exact uG hY hH ry hk
 |stop s=>
  rw[hf]at hk;simp only[cU,fV]at hk⊢;rw[SY]at hk;(try simp only[seval]);rw[<- hN];exact uG hY hH ry hk
 |bad s=>
  rw[hf]at hk;simp only[cU,fV]at hk⊢;rw[SY]at hk;rw[<- hN];exact uG hY hH nz hk
end
theorem OT{α:Type}{l:List α}{i j:Nat}{v:α}(h:i<j):(l.set i v).drop j=l.drop j:=by
 apply Ym;intro k;rw[Uo,Uo,T6 (by omega)]
theorem yG{α:Type}{g:α->AV}{xs:List α}{i:Nat}{x:α}(h:xs[i]?=some x):(xs.map g).drop i=g x::(xs.drop (i+1)).map g:=by
 rw[<- ae',vg h,UU]
namespace Tk
def acA (k:Nat):List Int:=TN (4-k) (-1)++[-1, -1, -1]
structure oE (h:List Int)(k p:Nat)(t:List Nat)(tc:List Int):Prop where
 len:tc.length=11
 pre:tc.take (4+p)=h++t.map λn:Nat=>(n:Int)
 tl:tc.drop (4+k)=acA k
theorem oE.all{h:List Int}{k:Nat}{t:List Nat}{tc:List Int}(ht:t.length=k)(n:oE h k k t tc):tc=dS h t:=by
 have:=Ve (4+k) tc;rw[n.pre,n.tl]at this;rw[<- this];unfold dS lg acA;rw[ht];simp[SD]
theorem oE.back{h:List Int}{k p:Nat}{t:List Nat}{n:Nat}{tc:List Int}(h4:h.length=4)(ht:t.length=p)(q:oE h k (p+1) (t++[n]) tc):oE h k p t tc:=by
 refine⟨q.len,?_,q.tl⟩;have e:tc.take (4+p)=(tc.take (4+(p+1))).take (4+p):=by rw[UZ];congr 1;omega
 rw[e,q.pre,TE,<- SD,Tx (by simp[h4,ht]),SW (by simp[h4,ht])]
theorem oE.next{h:List Int}{k p:Nat}{t:List Nat}{n:Nat}{tc:List Int}(hp:p<k)(hk:k<=4)(q:oE h k p t tc):oE h k (p+1) (t++[n]) (tc.set (4+p) (n:Int)):=by
 refine⟨by rw[TF];exact q.len,?_,?_⟩
 ·rw[show 4+(p+1)=(4+p)+1 by omega,MU (by rw[q.len];omega),q.pre];simp
 ·rw[OT (by omega)];exact q.tl
theorem amT{h:List Int}{q:Nat}{qs:List Nat}{u:Nat}{t:List Nat}:(kD (q::qs) u t).map (dS h)=(S0 9).flatMap λn=>if u.testBit n|| !q.testBit n then[]else(kD qs (u|||2^n) (t++[n])).map (dS h):=by
 rw[kD,Vs];congr 1;funext n;split<;>rfl
end Tk
section
variable {lv:Bool}
def sX (yv:AV)(N ir:Nat)(ps:List Nat)(tc:List Int):List aa:=[.cells [yv] 132,.cells (tc.map iv) 86,.cells (ps.map λn=>wv n) 80,.cells [.fn (.func 107) [] [.op ir 0,.op N 0,.op (N+1) 0,.op (N+2) 0,.op (N+3) 0]] 157]
theorem ag9{x:ai}{h ps N ir:_}{yv pv:AV}{S:Type}{f:S->List Int->dA S}{Gf:S->List aa}{I:S->Prop}{A:List Int->Prop}(hx:x.Ok)(h4:h.length=4)(hY:jI lv SC yv f Gf N I A pv)(hr:∀σ L,(Gf σ++L)[ir]?=some (.cells x.l 76))(pY:ps=x.pieces.map (bW h)++TN (4-x.pieces.length) 0):
  ∀(d p u:Nat)(t:List Nat)(tc:List Int)(σ:S)(M:List aa)(k kp:AV->List aa->Prop),d+p=x.pieces.length->u<65536->t.length=p->oE h x.pieces.length p t tc->I σ->(∀a∈(kD ((x.pieces.map (bW h)).drop p) u t).map (dS h),A a)->
   (∀ee,oE h x.pieces.length p t ee->cU Gf pv k kp (sX yv N ir ps ee++M) (bC f ((kD ((x.pieces.map (bW h)).drop p) u t).map (dS h)) σ))->
   bc lv SC 107 (Gf σ++(sX yv N ir ps tc++M)) [iv p,wv u,.op ir 0,.op N 0,.op (N+1) 0,.op (N+2) 0,.op (N+3) 0] k kp:=by
 intro d;induction d with
 |zero=>
  intro p u t tc σ M k kp JF hu ht hT hI hA hk;refine bF (rs:=[.tmp 9]) (nt:=47) af' λhH tR=> ?_;simp only[bk,SX];have bN:x.l=[iv x.first,iv x.hours,iv x.am,dN x.seen,aY x.pieces,aY x.aC]:=rfl;have g0:∀(σ:S)(L:List aa),(Gf σ++L)[N]?=L[0]?:=λσ L=>hY.get σ L 0;have g1:∀(σ:S)(L:List aa),(Gf σ++L)[N+1]?=L[1]?:=λσ L=>hY.get σ L 1;have dl:p=x.pieces.length:=by omega
  have vC:(x.pieces.map (bW h)).drop p=[]:=TS (by simp;omega);rw[vC,kD]at hA hk;rw[Y6]at hA hk;rw[MA]at hk;have xE:tc=dS h t:=by subst dl;exact hT.all ht
  have jY:(tc.map iv).length=11:=by rw[Tn,hT.len]
  refine ak ?_;(repeat apply gT);refine NX ?_;refine aj ?_;simp only[seval,hr,bN,aY];refine aE ?_;refine⟨λhc=> ?_,λhc=>by exfalso;simp at hc;omega⟩;refine aj ?_;simp only[seval,g0,g1,sX,jY];rw[SW (i:=11) (l:=tc.map iv) (by rw[jY];exact SP _)];rw[<- xE]at hA hk;have aI:=hk tc hT;refine wP (hY.call σ tc (sX yv N ir ps tc++M) _ _ hI (hA _ (by simp)) ?_);cases hf:f σ tc with
  |go σ'=>
   rw[hf]at aI;simp only[cU]at aI⊢;(try simp only[seval]);refine a_ ?_;exact bT aI
  |stop σ'=>
   rw[hf]at aI;simp only[cU]at aI⊢;(try simp only[seval]);refine a_ ?_;exact bT aI
  |bad σ'=>
   rw[hf]at aI;simp only[cU]at aI⊢;exact bT aI
 |succ d ih=>
  intro p u t tc σ M k kp JF hu ht hT hI hA hk;refine bF (rs:=[.tmp 9]) (nt:=47) af' λhH tR=> ?_;simp only[bk,SX];have bN:x.l=[iv x.first,iv x.hours,iv x.am,dN x.seen,aY x.pieces,aY x.aC]:=rfl;have g1:∀(σ:S)(L:List aa),(Gf σ++L)[N+1]?=L[1]?:=λσ L=>hY.get σ L 1;have g2:∀(σ:S)(L:List aa),(Gf σ++L)[N+2]?=L[2]?:=λσ L=>hY.get σ L 2;have g3:∀(σ:S)(L:List aa),(Gf σ++L)[N+3]?=L[3]?:=λσ L=>hY.get σ L 3;have s1:∀(σ:S)(L:List aa) x,(Gf σ++L).set (N+1) x=Gf σ++L.set 1 x:=λσ L x=>hY.set σ L 1 x;have nw:=hx.c_;have Fi:p<4:=by omega
  obtain⟨y,hy⟩:=cy (xs:=x.pieces) (i:=p) (by omega);have uo:(x.pieces.map (bW h))[p]?=some (bW h y):=by rw[To,hy];rfl
  have io:ps[p]?=some (bW h y):=by rw[pY,SZ (by simp;omega)];exact uo
  have l6:bW h y<65536:=Wl (Pr h y) (by decide);have aG:¬(p:Int)=(x.pieces.length:Int):=by omega
  rw[vg uo,amT]at hA hk;generalize hg:(λn=>if u.testBit n|| !(bW h y).testBit n then[]else(kD ((x.pieces.map (bW h)).drop (p+1)) (u|||2^n) (t++[n])).map (dS h))=g at hA hk;refine ak ?_;(repeat apply gT);refine NX ?_;refine aj ?_;simp only[seval,hr,bN,aY];refine aE ?_;refine⟨λhc=>by exfalso;exact aG (by simpa using hc),λhc=> ?_⟩;refine aO ?_;(repeat apply gT);refine NS ?_;simp only[seval];refine ak ?_;refine cI ?_;refine yu (measure λm:Nat×S×List Int=>9-m.1).wf (λm=>[(20,iv (m.1:Nat))]) (λm=>Gf m.2.1++(sX yv N ir ps m.2.2++M)) (λm=>m.1<=9/\bC f ((S0 m.1).flatMap g) σ=.go m.2.1/\oE h x.pieces.length p t m.2.2) (0,σ,tc) (λ_ _=>rfl) (by intro p hp;simp at hp;subst hp;exact⟨_,rfl,Wk.refl _⟩) rfl (λ_ _=>by simp[sX,hY.len]) ⟨by omega,rfl,hT⟩ (λce db m ay R hR=> ?_);obtain⟨i,τ,tq⟩:=m;obtain⟨hi,bH,ly⟩:=ay;replace hi:i<=9:=hi;replace bH:bC f ((S0 i).flatMap g) σ=.go τ:=bH;replace ly:oE h x.pieces.length p t tq:=ly;refine ak ?_;refine aE ?_;refine⟨λhc=> ?_,λhc=> ?_⟩
  ·have bx:i<9:=(by omega);have bP:SE.wrap ((i:Int)+1)=((i+1:Nat):Int):=(by rw[bG _ (by omega)];rfl);have re:=IZ g bx;have sO:=I0 g i;have Bv:I τ:=zZ (A:=A) hY.inv _ σ τ (λa ha=>hA a (by rw[re];exact Tg _ ha)) hI bH;have b4:(0<=(p:Int)/\(p:Int)<4)=True:=(by simp;omega);have C5:(u.testBit i|| !(bW h y).testBit i)=true->g i=[]:=λe=>(by rw[<- hg];exact if_pos e);have I8:(u.testBit i|| !(bW h y).testBit i)=false->g i=(kD ((x.pieces.map (bW h)).drop (p+1)) (u|||2^i) (t++[i])).map (dS h):=λe=>(by rw[<- hg];exact if_neg (by rw[e];simp));refine aO ?_;refine ak ?_;refine aj ?_;simp only[seval,g2,sX,b4,yG io];refine aJ ((wY hu ?_));(try simp only[seval,g2,sX,b4,yG io]);refine w7 (λh2=> ?_) (λh2=> ?_)
   ·(try simp only[seval,g2,sX,b4,yG io]);refine aJ ((wY l6 ?_));(try simp only[seval]);refine aE ?_;refine⟨λh3=> ?_,λh3=> ?_⟩
    ·have aM:=C5 (by rw[h2];simpa using h3);refine b_ ?_;refine aj ?_;simp only[seval,bP];exact hR _ ⟨(i+1,τ,tq),(by show 9-(i+1)<9-i;omega),⟨by omega,by rw[sO,aM,SY];exact bH,ly⟩,dD⟩
    ·have aM:=I8 (by rw[h2];simpa using h3);have jY:(tq.map iv).length=11:=(by rw[Tn,ly.len]);have HW:4+p<tq.length:=(by rw[ly.len];omega);have FH:SE.wrap ((p:Int)+1)=((p+1:Nat):Int):=(by rw[bG _ (by omega)];rfl);refine aO ?_;refine aj ?_;simp only[seval,g1,s1,sX,b4];refine⟨by omega,?_⟩;rw[we HW];refine eI 6 ?_;simp only[seval,g3,FH];refine iy (wv (u|||2^i)) (cJ (tP hu (show i<16 by omega) ⟨rfl,rfl⟩)) ?_;rw[FH];have lI:u|||2^i<65536:=pj hu (wn (by omega));refine aJ ((ih (p+1) (u|||2^i) (t++[i]) (tq.set (4+p) (i:Int)) τ M _ _ (by omega) lI (by simp[ht]) (ly.next (by omega) nw) Bv (λa ha=>hA a (by rw[re,aM];exact S5 _ (Tg _ ha))) (λee sv=> ?_)));have By:=sv.back h4 ht;have zx:bC f ((S0 9).flatMap g) σ=match bC f (g i) τ with
       |.go s'=>bC f ((Ua (i+1) (9-(i+1))).flatMap g) s'
       |r=>r:=by
      rw[re,qg,bH];exact qg f (g i) _ τ
     rw[<- aM];have aI:=hk ee By;rw[zx]at aI;cases hf:bC f (g i) τ with
     |go τ'=>
      simp only[cU];(try simp only[seval]);refine aE ?_;refine aO ?_;refine aj ?_;simp only[seval,bP];exact hR _ ⟨(i+1,τ',ee),(by show 9-(i+1)<9-i;omega),⟨by omega,by rw[sO,qg,bH];exact hf,By⟩,dD⟩
     |stop τ'=>
      rw[hf]at aI;simp only[cU]at aI⊢;(try simp only[seval]);refine aE ?_;refine ak ?_;refine a_ ?_;exact bT aI
     |bad τ'=>
      rw[hf]at aI;simp only[cU]at aI⊢;exact bT aI
   ·(try simp only[seval]);refine aE ?_;have aM:=C5 (by rw[show u.testBit i=true by simpa using h2];rfl);refine b_ ?_;refine aj ?_;simp only[seval,bP];exact hR _ ⟨(i+1,τ,tq),(by show 9-(i+1)<9-i;omega),⟨by omega,by rw[sO,aM,SY];exact bH,ly⟩,dD⟩
  ·have du:i=9:=(by omega);subst du;have aI:=hk tq ly;rw[bH]at aI;refine b_ ?_;refine ak ?_;refine a_ ?_;exact bT aI
end
open Go.Conc Go.Proofs Go.Gg.Tk
theorem MH{α:Type}{g:α->AV}{xs:List α}{i:Nat}{y:α}(h:i<xs.length):(xs.map g).take i++[g y]++(xs.map g).drop (i+1)=(xs.set i y).map g:=by
 rw[List.map_set,XK,if_pos (by simpa using h)];simp
namespace Tk
def pB (l:List Nat)(i:Nat):List Nat:=l.take i++TN (4-i) 0
theorem afm{l:List Nat}{i q:Nat}(h:l[i]?=some q)(hl:l.length<=4):(pB l i).set i q=pB l (i+1):=by
 have hi:=eM h;unfold pB;rw[UO _ _ (by simp;omega),show i-(l.take i).length=0 by simp;omega,show 4-i=(4-(i+1))+1 by omega,Ws,TY,Wv,h];simp
theorem afl{l:List Nat}{i:Nat}(hi:i<=l.length)(hl:l.length<=4):(pB l i).length=4:=by simp[pB];omega
theorem afk{l:List Nat}:pB l l.length=l++TN (4-l.length) 0:=by simp[pB]
end Tk
theorem Rn{H L:List aa}{c c':aa}(h:bM (H++(L++[c])))(hc:∀n,eY n c'):bM (H++(L++[c'])):=λz hz=>by
 have hl:(H++(L++[c'])).length=(H++(L++[c])).length:=by simp
 rw[hl];rcases SS.1 hz with h'|h'
 ·exact h z (Tg _ h')
 ·rcases SS.1 h' with h'|h'
  ·exact h z (S5 _ (Tg _ h'))
  ·rw[S8.1 h'];exact hc _
theorem aa0(l:List Nat)(t n:Nat):eY n (.cells (l.map λn=>wv n) t):=by
 intro a ha;obtain⟨x,_,rfl⟩:=Tm.1 ha;exact .val _
theorem am7(l:List Int)(t n:Nat):eY n (.cells (l.map iv) t):=by
 intro a ha;obtain⟨x,_,rfl⟩:=Tm.1 ha;exact .val _
section
variable {lv:Bool}
theorem ahV{H:List aa}{k kp:AV->List aa->Prop}{x:ai}{h:List Int}(hk:k (.fn (.func 106) [] [.op (H.length+1) 0,.op H.length 0]) (H++[.cells x.l 76,.cells (h.map iv) 83])):bc lv SC 92 H [x.av,.agg (h.map iv)] k kp:=by
 refine bF (rs:=[.tmp 4]) (nt:=6) Tryz.f92 λhH hA=> ?_;simp only[bk,SX,ai.av];refine ak ?_;refine aj ?_;simp only[seval,T8,Uz,Uh,TP];refine a_ ?_;exact bT hk
theorem ag8{x:ai}{h:List Int}{N ir ih:Nat}{yv pv:AV}{S:Type}{f:S->List Int->dA S}{Gf:S->List aa}{I:S->Prop}{A:List Int->Prop}{σ:S}{k kp:AV->List aa->Prop}(hx:x.Ok)(hh:mo h)(hY:jI lv SC yv f Gf N I A pv)(hr:∀σ L,(Gf σ++L)[ir]?=some (.cells x.l 76))(hi:∀σ L,(Gf σ++L)[ih]?=some (.cells (h.map iv) 83))
  (nz:∀n,Lt n pv) (hI:I σ) (hA:∀a∈(fS x h).map (dS h),A a) (hk:fV Gf pv k kp [] (bC f ((fS x h).map (dS h)) σ)):bc lv SC 106 (Gf σ) [yv,.op ih 0,.op ir 0] k kp:=by
 refine bF (rs:=[]) (nt:=45) Tryz.f106 λhH tR=> ?_;simp only[bk,SX];have hN:=hY.len σ;have nw:=hx.c_;have bN:x.l=[iv x.first,iv x.hours,iv x.am,dN x.seen,aY x.pieces,aY x.aC]:=rfl;obtain⟨a,b,c,d,rfl,ha,hb,hc,hd,hs⟩:=hh.out;have okH:∀L:List aa,(∀z∈L,∀n,eY n z)->bM (Gf σ++L):=λL hL z hz=>by
  rcases SS.1 hz with h|h
  ·exact(hH z h).mono (by simp)
  ·exact hL z h _
 refine aj ?_;simp only[seval,hY.parts];refine aj ?_;simp only[seval,hi];refine ak ?_;refine cI ?_;refine gJ 4 (λi:Nat=>[(13,iv i)]) (λi=>Gf σ++[.cells [yv] 132,.cells ((iU [a,b,c,d,0,0,0,0,0,0,0] 4 i (-1)).map iv) 86]) (λi=>True) (λ_ _=>rfl) (by simp only[seval];simp[bA,Wk.refl]) rfl (λ_ _ _=>by simp) trivial (λce db i cN _ R hR=> ?_);refine ak ?_;refine aE ?_;refine⟨λhc=> ?_,λhc=> ?_⟩
 ·have bx:i<4:=by omega
  have b4:(0<=(i:Int)/\(i:Int)<4)=True:=by simp;omega
  have bP:SE.wrap ((i:Int)+1)=((i+1:Nat):Int):=by rw[bG _ (by omega)];rfl
  have lY:(iU [a,b,c,d,0,0,0,0,0,0,0] 4 i (-1)).length=11:=Ei (by show 4+i<=11;omega);have lZ:((iU [a,b,c,d,0,0,0,0,0,0,0] 4 i (-1)).map iv).length=11:=by rw[Tn,lY]
  refine aO ?_;refine ak ?_;refine aj ?_;simp only[seval,b4,lZ];refine⟨by omega,?_⟩;rw[we (show 4+i<(iU [a,b,c,d,0,0,0,0,0,0,0] 4 i (-1)).length by omega),IR (by show 4+i<11;omega)];refine aj ?_;simp only[seval,bP];exact hR _ ⟨bx,trivial,dD⟩
 have:i=4:=by omega
 subst this;clear hc cN;refine b_ ?_;refine ak ?_;rw[show iU [a,b,c,d,0,0,0,0,0,0,0] 4 4 (-1)=[a,b,c,d, -1, -1, -1, -1,0,0,0]from rfl];refine cI ?_;refine gJ 3 (λi:Nat=>[(20,iv i)]) (λi=>Gf σ++[.cells [yv] 132,.cells ((iU [a,b,c,d, -1, -1, -1, -1,0,0,0] 8 i (-1)).map iv) 86]) (λi=>True) (λ_ _=>rfl) (by simp only[seval];simp[bA,Wk.refl]) rfl (λ_ _ _=>by simp) trivial (λce db i cN _ R hR=> ?_);refine ak ?_;refine aE ?_;refine⟨λhc=> ?_,λhc=> ?_⟩
 ·have bx:i<3:=by omega
  have b4:(0<=(i:Int)/\(i:Int)<3)=True:=by simp;omega
  have bP:SE.wrap ((i:Int)+1)=((i+1:Nat):Int):=by rw[bG _ (by omega)];rfl
  have lY:(iU [a,b,c,d, -1, -1, -1, -1,0,0,0] 8 i (-1)).length=11:=Ei (by show 8+i<=11;omega);have lZ:((iU [a,b,c,d, -1, -1, -1, -1,0,0,0] 8 i (-1)).map iv).length=11:=by rw[Tn,lY]
  refine aO ?_;refine ak ?_;refine aj ?_;simp only[seval,b4,lZ];refine⟨by omega,?_⟩;rw[we (show 8+i<(iU [a,b,c,d, -1, -1, -1, -1,0,0,0] 8 i (-1)).length by omega),IR (by show 8+i<11;omega)];refine aj ?_;simp only[seval,bP];exact hR _ ⟨bx,trivial,dD⟩
 have:i=3:=by omega
 subst this;clear hc cN;refine b_ ?_;rw[show iU [a,b,c,d, -1, -1, -1, -1,0,0,0] 8 3 (-1)=[a,b,c,d, -1, -1, -1, -1, -1, -1, -1]from rfl];refine ak ?_;refine aj ?_;simp only[seval,hr,bN,aY];refine cI ?_;refine gJ x.pieces.length (λi:Nat=>[(31,iv i)]) (λi=>Gf σ++[.cells [yv] 132,.cells ([a,b,c,d, -1, -1, -1, -1, -1, -1, -1].map iv) 86,.cells ((pB (x.pieces.map (bW [a,b,c,d])) i).map λn=>wv n) 80]) (λi=>True) (λ_ _=>rfl) (by simp only[seval];simp[bA,Wk.refl]) rfl (λ_ _ _=>by simp) trivial (λce db i cN _ R hR=> ?_);refine ak ?_;refine aE ?_;refine⟨λhc=> ?_,λhc=> ?_⟩
 ·have bx:i<x.pieces.length:=by omega
  obtain⟨y,hy⟩:=cy bx;have uo:(x.pieces.map (bW [a,b,c,d]))[i]?=some (bW [a,b,c,d] y):=by rw[To,hy];rfl
  have b4:(0<=(i:Int)/\(i:Int)<4)=True:=by simp;omega
  have bP:SE.wrap ((i:Int)+1)=((i+1:Nat):Int):=by rw[bG _ (by omega)];rfl
  have cL:(pB (x.pieces.map (bW [a,b,c,d])) i).length=4:=afl (by simp;omega) (by simpa using nw);have vA:((pB (x.pieces.map (bW [a,b,c,d])) i).map λn=>wv n).length=4:=by rw[Tn,cL]
  refine aO ?_;refine aj ?_;simp only[seval,C3 hy,jl bx];refine aj ?_;simp only[seval,hi,b4];refine aJ ((Eh (h:=[a,b,c,d]) (y:=y) hh ?_));(try simp only[seval,b4,vA]);refine⟨by omega,?_⟩;rw[MH (g:=λn=>wv n) (show i<(pB (x.pieces.map (bW [a,b,c,d])) i).length by omega),afm uo (by simpa using nw)];refine aj ?_;simp only[seval,bP];exact hR _ ⟨bx,trivial,zY (o_ rfl rfl) (by simp only[seval];simp[bA,Wk.refl]) (Rn (L:=[_,_]) ce (aa0 _ _)) (by simp[eD])⟩
 have:i=x.pieces.length:=by omega
 subst this;clear hc cN;refine b_ ?_;refine ak ?_;refine aj ?_;simp only[seval,T8,Uz,Uh,TP];refine ak ?_;have pY:pB (x.pieces.map (bW [a,b,c,d])) x.pieces.length=x.pieces.map (bW [a,b,c,d])++TN (4-x.pieces.length) 0:=by
  have:=afk (l:=x.pieces.map (bW [a,b,c,d]));simpa using this
 refine aJ (?_);rw[hN];have ry:∀n,Lt n (.aK []):=λn=>by simp[jz]
 have hT0:∀ee,oE [a,b,c,d] x.pieces.length 0 [] ee->True:=λ_ _=>trivial;refine ag9 (x:=x) (h:=[a,b,c,d]) hx rfl hY hr pY x.pieces.length 0 0 [] [a,b,c,d, -1, -1, -1, -1, -1, -1, -1] σ [] _ _ rfl (by decide) rfl ⟨rfl,rfl,?_⟩ hI hA (λee sv=> ?_)
 ·have:x.pieces.length=0\/x.pieces.length=1\/x.pieces.length=2\/x.pieces.length=3\/x.pieces.length=4:=by omega
  rcases this with e|e|e|e|e<;>rw[e]<;>rfl
 change cU Gf pv _ _ _ (bC f ((fS x [a,b,c,d]).map (dS [a,b,c,d])) σ);cases hf:bC f ((fS x [a,b,c,d]).map (dS [a,b,c,d])) σ with
 |go s=>
  rw[hf]at hk;simp only[cU,fV]at hk⊢;rw[SY]at hk;(try simp only[seval]);rw[<- hN];exact uG hY hH ry hk
 |stop s=>
  rw[hf]at hk;simp only[cU,fV]at hk⊢;rw[SY]at hk;(try simp only[seval]);rw[<- hN];exact uG hY hH ry hk
 |bad s=>
  rw[hf]at hk;simp only[cU,fV]at hk⊢;rw[SY]at hk;rw[<- hN];exact uG hY hH nz hk
end
open Go.Conc Go.Proofs Go.Gg.Tk
namespace Tk
structure nO (h:List Int)(ns:List Nat)(k s:Nat)(o:List Nat)(tc:List Int):Prop where
 len:tc.length=11
 pre:tc.take (8+s)=h++lg 4 ns++o.map λn:Nat=>(n:Int)
 tl:tc.drop (8+k)=TN (3-k) (-1)
theorem nO.all{h:List Int}{ns:List Nat}{k:Nat}{o:List Nat}{tc:List Int}(ho:o.length=k)(n:nO h ns k k o tc):tc=dx h ns o:=by
 have:=Ve (8+k) tc;rw[n.pre,n.tl]at this;rw[<- this];unfold dx
 conv=>rhs;unfold lg
 rw[ho,SD];rfl
theorem zU{k:Nat}{l:List Nat}(h:l.length<=k):(lg k l).length=k:=by simp[lg];omega
theorem nO.back{h:List Int}{ns:List Nat}{k s:Nat}{o:List Nat}{n:Nat}{tc:List Int}(h4:h.length=4)(hn:ns.length<=4)(ho:o.length=s)(q:nO h ns k (s+1) (o++[n]) tc):nO h ns k s o tc:=by
 refine⟨q.len,?_,q.tl⟩;have e:tc.take (8+s)=(tc.take (8+(s+1))).take (8+s):=by rw[UZ];congr 1;omega
 have hp:=zU hn;rw[e,q.pre,TE,<- SD,Tx (by simp[h4,ho,hp];omega),SW (by simp[h4,ho,hp];omega)]
theorem nO.next{h:List Int}{ns:List Nat}{k s:Nat}{o:List Nat}{n:Nat}{tc:List Int}(hp:s<k)(hk:k<=3)(q:nO h ns k s o tc):nO h ns k (s+1) (o++[n]) (tc.set (8+s) (n:Int)):=by
 refine⟨by rw[TF];exact q.len,?_,?_⟩
 ·rw[show 8+(s+1)=(8+s)+1 by omega,MU (by rw[q.len];omega),q.pre];simp
 ·rw[OT (by omega)];exact q.tl
theorem nO.num{h:List Int}{ns:List Nat}{k s p:Nat}{o:List Nat}{tc:List Int}(h4:h.length=4)(hn:ns.length<=4)(hp:p<ns.length)(q:nO h ns k s o tc):tc[4+p]?=some ((ns.getD p 0:Nat):Int):=by
 have h1:(tc.take (8+s))[4+p]?=some ((ns.getD p 0:Nat):Int):=by
  rw[q.pre,SD,Tj (by omega),h4,show 4+p-4=p by omega,SZ (by rw[zU hn];omega)];unfold lg;rw[SZ (by simpa using hp),To,SF,SV hp];rfl
 rwa [Uc,if_pos (by omega)]at h1
theorem anl{h:List Int}{ns:List Nat}{k q:Nat}{qs:List Nat}{u:Nat}{o:List Nat}:(mf k ns (q::qs) u o).map (dx h ns)=(S0 k).flatMap λp=>if u.testBit p|| !q.testBit (ns.getD p 0)then[]else(mf k ns qs (u|||2^p) (o++[p])).map (dx h ns):=by
 rw[mf,Vs];congr 1;funext n;split<;>rfl
end Tk
open Go.Conc Go.Proofs Go.Gg.Tk
section
variable {lv:Bool}
def xU (yv:AV)(N ir it is:Nat):List aa:=[.cells [yv] 132,.cells [.fn (.func 109) [] [.op ir 0,.op N 0,.op it 0,.op is 0,.op (N+1) 0]] 157]
theorem ahb{x:ai}{h:List Int}{ns qs:List Nat}{N ir it is:Nat}{yv pv:AV}{S:Type}{f:S->List Int->dA S}{Gf:List Int->S->List aa}{I:S->Prop}{A:List Int->Prop}(hx:x.Ok)(h4:h.length=4)(iX:ns.length=x.pieces.length)(hY:∀tc,jI lv SC yv f (Gf tc) N I A pv)(hr:∀tc σ L,(Gf tc σ++L)[ir]?=some (.cells x.l 76))
  (ht:∀tc σ L,(Gf tc σ++L)[it]?=some (.cells (tc.map iv) 86)) (dQ:∀tc ee σ L,(Gf tc σ++L).set it (.cells (ee.map iv) 86)=Gf ee σ++L) (hs:∀tc σ L,(Gf tc σ++L)[is]?=some (.cells (qs.map λn=>wv n) 81)) (zo:∃r,qs=x.aC.map (bW h)++r) (xA:qs.length=3):
  ∀(d s u:Nat)(o:List Nat)(tc:List Int)(σ:S)(M:List aa)(k kp:AV->List aa->Prop),d+s=x.aC.length->u<65536->o.length=s->nO h ns x.aC.length s o tc->I σ->(∀a∈(mf x.pieces.length ns ((x.aC.map (bW h)).drop s) u o).map (dx h ns),A a)->
   (∀ee,nO h ns x.aC.length s o ee->cU (Gf ee) pv k kp (xU yv N ir it is++M) (bC f ((mf x.pieces.length ns ((x.aC.map (bW h)).drop s) u o).map (dx h ns)) σ))->
   bc lv SC 109 (Gf tc σ++(xU yv N ir it is++M)) [iv s,wv u,.op ir 0,.op N 0,.op it 0,.op is 0,.op (N+1) 0] k kp:=by
 intro d;induction d with
 |zero=>
  intro s u o tc σ M k kp oQ hu ho hT hI hA hk;refine bF (rs:=[.tmp 9]) (nt:=54) af_ λhH tR=> ?_;simp only[bk,SX];have bN:x.l=[iv x.first,iv x.hours,iv x.am,dN x.seen,aY x.pieces,aY x.aC]:=rfl;have g0:∀(tc:List Int)(σ:S)(L:List aa),(Gf tc σ++L)[N]?=L[0]?:=λtc σ L=>(hY tc).get σ L 0;have dl:s=x.aC.length:=by omega
  have vC:(x.aC.map (bW h)).drop s=[]:=TS (by simp;omega);rw[vC,mf]at hA hk;rw[Y6]at hA hk;rw[MA]at hk;have xE:tc=dx h ns o:=by subst dl;exact hT.all ho
  have jY:(tc.map iv).length=11:=by rw[Tn,hT.len]
  refine ak ?_;refine aj ?_;simp only[seval,hr,bN,aY];refine aE ?_;refine⟨λhc=> ?_,λhc=>by exfalso;simp at hc;omega⟩;refine aj ?_;simp only[seval,g0,ht,xU,jY];rw[SW (i:=11) (l:=tc.map iv) (by rw[jY];exact SP _)];rw[<- xE]at hA hk;have aI:=hk tc hT;refine wP ((hY tc).call σ tc (xU yv N ir it is++M) _ _ hI (hA _ (by simp)) ?_);cases hf:f σ tc with
  |go σ'=>
   rw[hf]at aI;simp only[cU]at aI⊢;(try simp only[seval]);refine a_ ?_;exact bT aI
  |stop σ'=>
   rw[hf]at aI;simp only[cU]at aI⊢;(try simp only[seval]);refine a_ ?_;exact bT aI
  |bad σ'=>
   rw[hf]at aI;simp only[cU]at aI⊢;exact bT aI
 |succ d ihd=>
  intro s u o tc σ M k kp oQ hu ho hT hI hA hk;refine bF (rs:=[.tmp 9]) (nt:=54) af_ λhH tR=> ?_;simp only[bk,SX];have bN:x.l=[iv x.first,iv x.hours,iv x.am,dN x.seen,aY x.pieces,aY x.aC]:=rfl;have g1:∀(tc:List Int)(σ:S)(L:List aa),(Gf tc σ++L)[N+1]?=L[1]?:=λtc σ L=>(hY tc).get σ L 1;have nw:=hx.c_;have xC:=hx.eF;obtain⟨y,hy⟩:=cy (xs:=x.aC) (i:=s) (by omega);have uo:(x.aC.map (bW h))[s]?=some (bW h y):=by rw[To,hy];rfl
  have io:qs[s]?=some (bW h y):=by obtain⟨r,e⟩:=zo;rw[e,SZ (by simp;omega)];exact uo
  have l6:bW h y<65536:=Wl (Pr h y) (by decide);have aG:¬(s:Int)=(x.aC.length:Int):=by omega
  rw[vg uo,anl]at hA hk;generalize hg:(λp=>if u.testBit p|| !(bW h y).testBit (ns.getD p 0)then[]else(mf x.pieces.length ns ((x.aC.map (bW h)).drop (s+1)) (u|||2^p) (o++[p])).map (dx h ns))=g at hA hk;refine ak ?_;refine aj ?_;simp only[seval,hr,bN,aY];refine aE ?_;refine⟨λhc=>by exfalso;exact aG (by simpa using hc),λhc=> ?_⟩;refine aO ?_;refine aj ?_;simp only[seval,hr,bN,aY];refine cI ?_;refine yu (measure λm:Nat×S×List Int=>x.pieces.length-m.1).wf (λm=>[(24,iv (m.1:Nat))]) (λm=>Gf m.2.2 m.2.1++(xU yv N ir it is++M)) (λm=>m.1<=x.pieces.length/\bC f ((S0 m.1).flatMap g) σ=.go m.2.1/\nO h ns x.aC.length s o m.2.2) (0,σ,tc) (λ_ _=>rfl) (by intro p hp;simp at hp;subst hp;exact⟨_,rfl,Wk.refl _⟩) rfl (λ_ _=>by simp[xU,(hY _).len]) ⟨by omega,rfl,hT⟩ (λce db m ay R hR=> ?_);obtain⟨i,τ,tq⟩:=m;obtain⟨hi,bH,ly⟩:=ay;replace hi:i<=x.pieces.length:=hi;replace bH:bC f ((S0 i).flatMap g) σ=.go τ:=bH;replace ly:nO h ns x.aC.length s o tq:=ly;refine ak ?_;refine aE ?_;refine⟨λhc=> ?_,λhc=> ?_⟩
  ·have bx:i<x.pieces.length:=(by omega);have bP:SE.wrap ((i:Int)+1)=((i+1:Nat):Int):=(by rw[bG _ (by omega)];rfl);have hws:SE.wrap ((s:Int)+1)=((s+1:Nat):Int):=(by rw[bG _ (by omega)];rfl);have re:=IZ g bx;have sO:=I0 g i;have Bv:I τ:=zZ (A:=A) (hY tc).inv _ σ τ (λa ha=>hA a (by rw[re];exact Tg _ ha)) hI bH;have b3:(0<=(s:Int)/\(s:Int)<3)=True:=(by simp;omega);have b4:(0<=(i:Int)/\(i:Int)<4)=True:=(by simp;omega);have C5:(u.testBit i|| !(bW h y).testBit (ns.getD i 0))=true->g i=[]:=λe=>(by rw[<- hg];exact if_pos e);have I8:(u.testBit i|| !(bW h y).testBit (ns.getD i 0))=false->g i=(mf x.pieces.length ns ((x.aC.map (bW h)).drop (s+1)) (u|||2^i) (o++[i])).map (dx h ns):=λe=>(by rw[<- hg];exact if_neg (by rw[e];simp));have Rk:=ly.num h4 (by omega) (show i<ns.length by omega);refine aO ?_;refine ak ?_;refine eI 14 ?_;simp only[seval,ht,hs,b3,b4,yG io,kL Rk];refine iy (bv (u.testBit i)) (cJ (wY hu ⟨rfl,rfl⟩)) ?_;(try simp only[seval]);refine w7 (λh2=> ?_) (λh2=> ?_)
   ·(try simp only[seval,ht,hs,b3,b4,yG io,kL Rk]);refine iy (bv ((bW h y).testBit (ns.getD i 0))) (cJ (wY l6 ⟨rfl,rfl⟩)) ?_;(try simp only[seval]);refine aE ?_;refine⟨λh3=> ?_,λh3=> ?_⟩
    ·have aM:=C5 (by rw[h2];simpa using h3);refine b_ ?_;refine aj ?_;simp only[seval,bP];exact hR _ ⟨(i+1,τ,tq),(by show x.pieces.length-(i+1)<x.pieces.length-i;omega),⟨by omega,by rw[sO,aM,SY];exact bH,ly⟩,dD⟩
    ·have aM:=I8 (by rw[h2];simpa using h3);have jY:(tq.map iv).length=11:=(by rw[Tn,ly.len]);have HW:8+s<tq.length:=(by rw[ly.len];omega);refine aO ?_;refine aj ?_;simp only[seval,ht,b3,jY];refine⟨by omega,?_⟩;rw[we HW,dQ];refine eI 6 ?_;simp only[seval,g1,xU];refine iy (wv (u|||2^i)) (cJ (tP hu (show i<16 by omega) ⟨rfl,rfl⟩)) ?_;rw[hws];have lI:u|||2^i<65536:=pj hu (wn (by omega));refine aJ ((ihd (s+1) (u|||2^i) (o++[i]) (tq.set (8+s) (i:Int)) τ M _ _ (by omega) lI (by simp[ho]) (ly.next (by omega) xC) Bv (λa ha=>hA a (by rw[re,aM];exact S5 _ (Tg _ ha))) (λee sv=> ?_)));have By:=sv.back h4 (by omega) ho;have zx:bC f ((S0 x.pieces.length).flatMap g) σ=match bC f (g i) τ with
       |.go s'=>bC f ((Ua (i+1) (x.pieces.length-(i+1))).flatMap g) s'
       |r=>r:=by
      rw[re,qg,bH];exact qg f (g i) _ τ
     rw[<- aM];have aI:=hk ee By;rw[zx]at aI;cases hf:bC f (g i) τ with
     |go τ'=>
      simp only[cU];(try simp only[seval]);refine aE ?_;refine aO ?_;refine aj ?_;simp only[seval,bP];exact hR _ ⟨(i+1,τ',ee),(by show x.pieces.length-(i+1)<x.pieces.length-i;omega),⟨by omega,by rw[sO,qg,bH];exact hf,By⟩,dD⟩
     |stop τ'=>
      rw[hf]at aI;simp only[cU]at aI⊢;(try simp only[seval]);refine aE ?_;refine ak ?_;refine a_ ?_;exact bT aI
     |bad τ'=>
      rw[hf]at aI;simp only[cU]at aI⊢;exact bT aI
   ·(try simp only[seval]);refine aE ?_;have aM:=C5 (by rw[show u.testBit i=true by simpa using h2];rfl);refine b_ ?_;refine aj ?_;simp only[seval,bP];exact hR _ ⟨(i+1,τ,tq),(by show x.pieces.length-(i+1)<x.pieces.length-i;omega),⟨by omega,by rw[sO,aM,SY];exact bH,ly⟩,dD⟩
  ·have du:i=x.pieces.length:=(by omega);subst du;have aI:=hk tq ly;rw[bH]at aI;refine b_ ?_;refine ak ?_;refine a_ ?_;exact bT aI
theorem ahW{H:List aa}{k kp:AV->List aa->Prop}{x:ai}{tc:List Int}{qs:List Nat}(hk:k (.fn (.func 108) [] [.op H.length 0,.op (H.length+1) 0,.op (H.length+2) 0]) (H++[.cells x.l 76,.cells (tc.map iv) 86,.cells (qs.map λn=>wv n) 81])):bc lv SC 93 H [x.av,.agg (tc.map iv),.agg (qs.map λn=>wv n)] k kp:=by
 refine bF (rs:=[.tmp 6]) (nt:=8) Tryz.f93 λhH hA=> ?_;simp only[bk,SX,ai.av];refine ak ?_;refine aj ?_;simp only[seval,T8,Uz,Uh,TP];refine a_ ?_;exact bT hk
theorem aha{x:ai}{h:List Int}{ns qs:List Nat}{N ir it is:Nat}{yv pv:AV}{S:Type}{f:S->List Int->dA S}{Gf:List Int->S->List aa}{I:S->Prop}{A:List Int->Prop}{tc:List Int}{σ:S}{k kp:AV->List aa->Prop}(hx:x.Ok)(h4:h.length=4)(iX:ns.length=x.pieces.length)(hY:∀tc,jI lv SC yv f (Gf tc) N I A pv)(hr:∀tc σ L,(Gf tc σ++L)[ir]?=some (.cells x.l 76))
  (ht:∀tc σ L,(Gf tc σ++L)[it]?=some (.cells (tc.map iv) 86)) (dQ:∀tc ee σ L,(Gf tc σ++L).set it (.cells (ee.map iv) 86)=Gf ee σ++L) (hs:∀tc σ L,(Gf tc σ++L)[is]?=some (.cells (qs.map λn=>wv n) 81)) (zo:∃r,qs=x.aC.map (bW h)++r) (xA:qs.length=3)
  (ay:∀m tc ee σ,(∀z∈Gf tc σ,eY m z)->∀z∈Gf ee σ,eY m z) (nz:∀n,Lt n pv) (xE:tc=dS h ns) (hI:I σ) (hA:∀a∈(hO x h ns).map (dx h ns),A a) (hk:∀ee,ee.length=11->fV (Gf ee) pv k kp [] (bC f ((hO x h ns).map (dx h ns)) σ)):bc lv SC 108 (Gf tc σ) [yv,.op ir 0,.op it 0,.op is 0] k kp:=by
 refine bF (rs:=[]) (nt:=9) Tryz.f108 λhH tR=> ?_;simp only[bk,SX];have hN:=(hY tc).len σ;have nw:=hx.c_;have xC:=hx.eF;refine aj ?_;simp only[seval,(hY tc).parts];refine ak ?_;refine aj ?_;simp only[seval,T8,Uz,Uh,TP];refine ak ?_;refine aJ (?_);rw[hN];have ry:∀n,Lt n (.aK []):=λn=>by simp[jz]
 have dl:=zU (k:=4) (l:=ns) (by omega);have cut:∀(ee:List Int)(σ':S)(L:List aa)(a:AV)(k:AV->List aa->Prop),(∀n,Lt n a)->k a (Gf ee σ')->cD (Gf tc σ).length (Gf ee σ'++L) a k:=λee σ' L a k ha aI=>by
  refine jN (H':=Gf ee σ') (Wk.refl _) rfl (by rw[(hY ee).len,(hY tc).len];exact SP _) ?_ (ha _) aI;intro z hz;have h1:∀z∈Gf ee σ,eY N z:=ay N tc ee σ (λw hw=>by have:=hH w hw;rwa [hN]at this);rw[(hY ee).len];exact(hY ee).ok N σ σ' h1 z hz
 refine ahb (x:=x) (h:=h) (ns:=ns) (qs:=qs) hx h4 iX hY hr ht dQ hs zo xA x.aC.length 0 0 [] tc σ [] _ _ rfl (by decide) rfl ⟨?_,?_,?_⟩ hI hA (λee sv=> ?_)
 ·rw[xE];simp[dS,h4,dl]
 ·rw[xE];unfold dS;rw[List.map_nil,SY,Tx (by simp[h4,dl]),SW (by simp[h4,dl])]
 ·rw[xE];unfold dS;rw[Vt,TS (by simp[h4,dl]),UC];have:(h++lg 4 ns).length=8:=by simp[h4,dl]
  rw[this];have:x.aC.length=0\/x.aC.length=1\/x.aC.length=2\/x.aC.length=3:=by omega
  rcases this with e|e|e|e<;>rw[e]<;>rfl
 have hk:=hk ee sv.len;change cU (Gf ee) pv _ _ _ (bC f ((hO x h ns).map (dx h ns)) σ);cases hf:bC f ((hO x h ns).map (dx h ns)) σ with
 |go s=>
  rw[hf]at hk;simp only[cU,fV]at hk⊢;rw[SY]at hk;(try simp only[seval]);rw[<- hN];exact cut _ _ _ _ _ ry hk
 |stop s=>
  rw[hf]at hk;simp only[cU,fV]at hk⊢;rw[SY]at hk;(try simp only[seval]);rw[<- hN];exact cut _ _ _ _ _ ry hk
 |bad s=>
  rw[hf]at hk;simp only[cU,fV]at hk⊢;rw[SY]at hk;rw[<- hN];exact cut _ _ _ _ _ nz hk
end
section
variable {lv:Bool}{P:SJ}{s:AS}{ms:List Nat}{bs:List UV}{nt:Nat}
theorem ae4{f:Ti}{ps:Array Tmp}{bJ body:T5}{fv:AV}{Φ:an->AS->List Nat->Prop}(hf:s.ev f=some fv)
  (h:∀(l fn:Nat)(T:List (Nat×AV))(ag bo:T5),T=s.T->ag=bJ->bo=body->iQ lv P fv (s.H++[.obj (.deferred (some [])),.loop l .ready none fn T nt ps ag bo s.H.length]) [.fn (.yield l) [] []]
   (λ_ H'=>∃st pe fw T' jb gq fW fg fX,H'[s.H.length+1]?=some (.loop l st pe fw T' jb gq fW fg fX)/\st≠ .busy/\rV Φ ⟨s.T,H'.set (s.H.length+1) .gone⟩ (s.H.length::ms) pe)
   (λpv H'=>Φ (.panic pv) ⟨s.T,H'⟩ (s.H.length::ms))):mm lv P nt (.rangeFunc f ps bJ body) s ms Φ:=ae3 hf λl fn=>h l fn _ _ _ rfl rfl rfl
theorem HU{f:Ti}{ps:Array Tmp}{bJ body:T5}{fv:AV}{Φ:an->AS->List Nat->Prop}(hf:s.ev f=some fv)
  (h:∀(l fn:Nat)(T:List (Nat×AV))(ag bo:T5),T=s.T->ag=bJ->bo=body->iQ lv P fv (s.H++[.obj (.deferred (some [])),.loop l .ready none fn T nt ps ag bo s.H.length]) [.fn (.yield l) [] []]
   (λ_ H'=>∃st pe fw T' jb gq fW fg fX,H'[s.H.length+1]?=some (.loop l st pe fw T' jb gq fW fg fX)/\st≠ .busy/\rV Φ ⟨s.T,H'.set (s.H.length+1) .gone⟩ (s.H.length::ms) pe)
   (λpv H'=>Φ (.panic pv) ⟨s.T,H'⟩ (s.H.length::ms))):kg lv P nt bs (.rangeFunc f ps bJ body) s ms Φ:=ae7 hf λl fn=>h l fn _ _ _ rfl rfl rfl
theorem D1{f:Ti}{ps:Array Tmp}{bJ body:T5}{fv:AV}{Φ:an->AS->Prop}{l0:Nat}(FM:Nat){I2 LV df:Nat}{MN:Z5}{L9:Option T5}{T0:List (Nat×AV)}{Mr:Array Tmp}{HM HZ:T5}(hf:s.ev f=some fv)(h0:s.H[FM]?=some (.loop l0 MN L9 I2 T0 LV Mr HM HZ df))
  (h:∀(l fn:Nat)(T:List (Nat×AV))(ag bo:T5),T=s.T->ag=bJ->bo=body->iQ lv P fv (s.H++[.loop l .ready none fn T nt ps ag bo df]) [.fn (.yield l) [] []]
   (λ_ H'=>∃st pe fw T' jb gq fW fg fX,H'[s.H.length]?=some (.loop l st pe fw T' jb gq fW fg fX)/\st≠ .busy/\tx Φ ⟨s.T,H'.set s.H.length .gone⟩ pe)
   (λpv H'=>Φ (.panic pv) ⟨s.T,H'⟩)):aU lv P (some l0) nt (.rangeFunc f ps bJ body) s Φ:=aeU hf h0 λl fn=>h l fn _ _ _ rfl rfl rfl
end
section
variable {P:SJ}
theorem Gt(Φ:an->AS->List Nat->Prop)(s:AS)(ms:List Nat):rV Φ s ms none=Φ .normal s ms:=by rw[rV]
theorem anK(Φ:an->AS->List Nat->Prop)(s:AS)(ms:List Nat):rV Φ s ms (some .ret)=Φ .ret s ms:=by rw[rV]
theorem Gu(Φ:an->AS->Prop)(s:AS):tx Φ s none=Φ .normal s:=by rw[tx]
theorem anM(Φ:an->AS->Prop)(s:AS):tx Φ s (some .ret)=Φ .ret s:=by rw[tx]
theorem anL(Φ:an->AS->Prop)(s:AS)(i:Nat):tx Φ s (some (.exit i))=Φ (.exit i) s:=by rw[tx]
theorem afs(id:Nat)(Φ:an->AS->List Nat->Prop)(s:AS)(ms:List Nat):an.pC id Φ .ret s ms=Φ .ret s ms:=by rw[an.pC];simp
theorem afr(id:Nat)(Φ:an->AS->List Nat->Prop)(pv:AV)(s:AS)(ms:List Nat):an.pC id Φ (.panic pv) s ms=Φ (.panic pv) s ms:=by rw[an.pC];simp
theorem ap6(Φ:an->AS->List Nat->Prop)(pv:AV)(s:AS)(ms:List Nat):an.uK Φ (.panic pv) s ms=Φ (.panic pv) s ms:=by rw[an.uK];simp
theorem aqK(K:AS->List Nat->Prop)(Φ:an->AS->List Nat->Prop)(pv:AV)(s:AS)(ms:List Nat):an.rI K Φ (.panic pv) s ms=Φ (.panic pv) s ms:=by rw[an.rI];simp
theorem aip(rs:List UM)(n:Nat)(k kp:AV->List aa->Prop)(s:AS)(ms:List Nat):rR P rs n k kp .normal s ms=ao (iC ms s.H) λH'=>ao (gO P ⟨s.T,H'⟩ rs) λl=>cD n H' (iN l) k:=by rw[rR]
theorem aiq(rs:List UM)(n:Nat)(k kp:AV->List aa->Prop)(pv:AV)(s:AS)(ms:List Nat):rR P rs n k kp (.panic pv) s ms=ao (iC ms s.H) λH'=>cD n H' pv kp:=by rw[rR]
attribute [seval] afs afr ap6 aqK aip aiq
end
inductive Lp where
 |ready
 |ret
 |exit (i:Nat)
 |busy
def Lp.st:Lp->Z5
 |.ready=> .ready
 |.ret=> .done
 |.exit _=> .done
 |.busy=> .busy
def Lp.pe:Lp->Option T5
 |.ready=>none
 |.ret=>some .ret
 |.exit i=>some (.exit i)
 |.busy=>none
namespace Tk
def dA.map {S T:Type}(g:S->T):dA S->dA T
 |.go s=> .go (g s)
 |.stop s=> .stop (g s)
 |.bad s=> .bad (g s)
def dA.fin {S:Type}:dA S->Bool×S
 |.go s=>(false,s)
 |.stop s=>(false,s)
 |.bad s=>(true,s)
end Tk
theorem Mx{S:Type}{Gf:S->List aa}{pv:AV}{k kp:AV->List aa->Prop}{M:List aa}{r r':dA S}(h:r.fin=r'.fin)(hk:fV Gf pv k kp M r):fV Gf pv k kp M r':=by
 cases r<;>cases r'<;>simp only[dA.fin,UY]at h<;>first
  |(obtain⟨_,rfl⟩:=h;exact hk)
  |(exact absurd h.1 (by decide))
end Go.Gg
namespace Go.Gg.Tk
open Go.Gg
def iO {S:Type}(f:S->List Int->dA S)(deep:Int)(m:S×Lp)(b:List Int):dA (S×Lp):=match f m.1 b with
 |.go σ=>if deep=0 then .stop (σ,.ret)else if deep=1 then .stop (σ,.exit 3)else .go (σ,.ready)
 |.stop σ=> .stop (σ,.ret)
 |.bad σ=> .bad (σ,.busy)
def kJ {S:Type}:dA (S×Lp)->dA (S×Lp)
 |.go m=> .go (m.1,.ready)
 |.stop (σ,.ret)=> .stop (σ,.ret)
 |.stop (σ,_)=> .go (σ,.ready)
 |.bad m=> .bad (m.1,.busy)
def po {S:Type}(f:S->List Int->dA S)(deep:Int)(L:List Int->List (List Int))(m:S×Lp)(a:List Int):dA (S×Lp):=kJ (bC (iO f deep) (L a) (m.1,.ready))
def rB (deep:Int)(ll:List (List (List Int))):List (List Int):=if deep=0 then ll.flatten.take 1 else if deep=1 then(ll.map (·.take 1)).flatten else ll.flatten
theorem aqX{S:Type}{f:S->List Int->dA S}{σ:S}{l:Lp}:∀(M:List (List Int)),bC (iO f 0) M (σ,l)=match M with
  |[]=> .go (σ,l)
  |b::_=>match f σ b with
   |.go τ=> .stop (τ,.ret)
   |.stop τ=> .stop (τ,.ret)
   |.bad τ=> .bad (τ,.busy)
 |[]=>rfl
 |b::M=>by
  simp only[bC,iO];cases f σ b<;>simp
theorem aqY{S:Type}{f:S->List Int->dA S}{σ:S}{l:Lp}:∀(M:List (List Int)),bC (iO f 1) M (σ,l)=match M with
  |[]=> .go (σ,l)
  |b::_=>match f σ b with
   |.go τ=> .stop (τ,.exit 3)
   |.stop τ=> .stop (τ,.ret)
   |.bad τ=> .bad (τ,.busy)
 |[]=>rfl
 |b::M=>by
  simp only[bC,iO];cases f σ b<;>simp
theorem acO{S:Type}{f:S->List Int->dA S}{deep:Int}(h0:deep≠0)(h1:deep≠1):∀(M:List (List Int))(σ:S),bC (iO f deep) M (σ,.ready)=match bC f M σ with
  |.go τ=> .go (τ,.ready)
  |.stop τ=> .stop (τ,.ret)
  |.bad τ=> .bad (τ,.busy)
 |[],σ=>rfl
 |b::M,σ=>by
  simp only[bC,iO,h0,h1,if_false];cases f σ b with
  |go τ=>exact acO h0 h1 M τ
  |stop τ=>rfl
  |bad τ=>rfl
theorem acP{S:Type}{f:S->List Int->dA S}{deep:Int}{L:List Int->List (List Int)}:∀(l:List (List Int))(σ:S),((bC (po f deep L) l (σ,.ready)).map Prod.fst).fin=(bC f (rB deep (l.map L)) σ).fin/\(∀m,bC (po f deep L) l (σ,.ready)=.go m->m.2=.ready)
 |[],σ=>by
  have:rB deep (([]:List (List Int)).map L)=[]:=by
   unfold rB;by_cases h0:deep=0
   ·rw[if_pos h0];rfl
   ·by_cases h1:deep=1
    ·rw[if_neg h0,if_pos h1];rfl
    ·rw[if_neg h0,if_neg h1];rfl
  rw[this];exact⟨rfl,λm h=>by cases h;rfl⟩
 |a::l,σ=>by
  have ih:=acP (f:=f) (deep:=deep) (L:=L) l;by_cases h0:deep=0
  ·subst h0;have hp:rB 0 ((a::l).map L)=(L a++(l.map L).flatten).take 1:=rfl;have kY:rB 0 (l.map L)=((l.map L).flatten).take 1:=rfl;rw[hp];simp only[bC,po,aqX];cases hL:L a with
   |nil=>
    simp only[kJ,UC];rw[<- kY];exact ih σ
   |cons b M=>
    simp only[VA,VQ,ai'];cases hf:f σ b with
    |go τ=>simp only[kJ,bC,hf];exact⟨rfl,λm h=>by cases h⟩
    |stop τ=>simp only[kJ,bC,hf];exact⟨rfl,λm h=>by cases h⟩
    |bad τ=>simp only[kJ,bC,hf];exact⟨rfl,λm h=>by cases h⟩
  by_cases h1:deep=1
  ·subst h1;have hp:rB 1 ((a::l).map L)=(L a).take 1++rB 1 (l.map L):=rfl;rw[hp,qg];simp only[bC,po,aqY];cases hL:L a with
   |nil=>
    simp only[kJ,List.take_nil,bC];exact ih σ
   |cons b M=>
    simp only[VQ,ai',bC];cases hf:f σ b with
    |go τ=>simp only[kJ];exact ih τ
    |stop τ=>simp only[kJ];exact⟨rfl,λm h=>by cases h⟩
    |bad τ=>simp only[kJ];exact⟨rfl,λm h=>by cases h⟩
  ·have hp:rB deep ((a::l).map L)=L a++rB deep (l.map L):=(by unfold rB;rw[if_neg h0,if_neg h1,if_neg h0,if_neg h1];rfl);rw[hp,qg];simp only[bC,po];rw[acO h0 h1];cases hf:bC f (L a) σ with
   |go τ=>simp only[kJ];exact ih τ
   |stop τ=>simp only[kJ];exact⟨rfl,λm h=>by cases h⟩
   |bad τ=>simp only[kJ];exact⟨rfl,λm h=>by cases h⟩
theorem MB{S α:Type}{F:S->α->dA S}:∀{l:List α}{s s':S},bC F l s=.stop s'->∃t a,F t a=.stop s'
 |[],s,s',h=>by cases h
 |a::l,s,s',h=>by
  simp only[bC]at h;cases hf:F s a with
  |go t=>rw[hf]at h;exact MB h
  |stop t=>rw[hf]at h;cases h;exact⟨s,a,hf⟩
  |bad t=>rw[hf]at h;cases h
theorem aqW{S:Type}{f:S->List Int->dA S}{deep:Int}{L:List Int->List (List Int)}{m m':S×Lp}{a:List Int}(h:po f deep L m a=.stop m'):m'.2=.ret:=by
 unfold po at h;generalize bC (iO f deep) (L a) (m.1,.ready)=r at h;cases r with
 |go q=>cases h
 |bad q=>cases h
 |stop q=>
  obtain⟨s,lp⟩:=q;cases lp<;>cases h;rfl
theorem aq0{S:Type}{f:S->List Int->dA S}{deep:Int}{m m':S×Lp}{a:List Int}(h:iO f deep m a=.stop m'):m'.2=.ret\/m'.2=.exit 3:=by
 unfold iO at h;cases hf:f m.1 a with
 |go q=>
  rw[hf]at h;dsimp only at h;by_cases h0:deep=0
  ·rw[if_pos h0]at h;cases h;exact .inl rfl
  ·rw[if_neg h0]at h;by_cases h1:deep=1
   ·rw[if_pos h1]at h;cases h;exact .inr rfl
   ·rw[if_neg h1]at h;cases h
 |stop q=>rw[hf]at h;cases h;exact .inl rfl
 |bad q=>rw[hf]at h;cases h
theorem aqZ{S:Type}{f:S->List Int->dA S}{deep:Int}{m m':S×Lp}{a:List Int}(h:iO f deep m a=.go m'):m'.2=.ready:=by
 unfold iO at h;cases hf:f m.1 a with
 |go q=>
  rw[hf]at h;dsimp only at h;by_cases h0:deep=0
  ·rw[if_pos h0]at h;cases h
  ·rw[if_neg h0]at h;by_cases h1:deep=1
   ·rw[if_pos h1]at h;cases h
   ·rw[if_neg h1]at h;cases h;rfl
 |stop q=>rw[hf]at h;cases h
 |bad q=>rw[hf]at h;cases h
theorem abz{S α:Type}{F:S->α->dA S}{J:S->Prop}{A:α->Prop}(hi:∀s a s',J s->A a->F s a=.go s'->J s'):∀{l:List α}{s s':S},(∀a∈l,A a)->J s->bC F l s=.stop s'->∃t a,J t/\A a/\F t a=.stop s'
 |[],s,s',_,_,h=>by cases h
 |a::l,s,s',ha,hs,h=>by
  simp only[bC]at h;cases hf:F s a with
  |go t=>rw[hf]at h;exact abz hi (λb hb=>ha b (by simp[hb])) (hi s a t hs (ha a (by simp)) hf) h
  |stop t=>rw[hf]at h;cases h;exact⟨s,a,hs,ha a (by simp),hf⟩
  |bad t=>rw[hf]at h;cases h
theorem Da{S:Type}{f:S->List Int->dA S}{deep:Int}{I:S->Prop}{A:List Int->Prop}(hi:∀s a s',I s->A a->f s a=.go s'->I s'){m m':S×Lp}{a:List Int}(hm:I m.1)(ha:A a)(h:iO f deep m a=.go m'\/iO f deep m a=.stop m'/\m'.2≠ .ret):I m'.1:=by
 unfold iO at h;cases hf:f m.1 a with
 |go q=>
  have hq:=hi _ _ _ hm ha hf;rw[hf]at h;dsimp only at h;by_cases h0:deep=0
  ·rw[if_pos h0]at h;rcases h with h|⟨h,h2⟩
   ·cases h
   ·cases h;exact hq
  ·rw[if_neg h0]at h;by_cases h1:deep=1
   ·rw[if_pos h1]at h;rcases h with h|⟨h,h2⟩
    ·cases h
    ·cases h;exact hq
   ·rw[if_neg h1]at h;rcases h with h|⟨h,h2⟩
    ·cases h;exact hq
    ·cases h
 |stop q=>
  rw[hf]at h;rcases h with h|⟨h,h2⟩
  ·cases h
  ·cases h;exact absurd rfl h2
 |bad q=>
  rw[hf]at h;rcases h with h|⟨h,h2⟩
  ·cases h
  ·cases h
theorem aed{S:Type}{f:S->List Int->dA S}{deep:Int}{I:S->Prop}{A:List Int->Prop}(hi:∀s a s',I s->A a->f s a=.go s'->I s'){l:List (List Int)}{σ:S}{m:S×Lp}(hl:∀a∈l,A a)(hs:I σ)(h:kJ (bC (iO f deep) l (σ,.ready))=.go m):I m.1/\m.2=.ready:=by
 cases hr:bC (iO f deep) l (σ,.ready)with
 |go q=>
  rw[hr]at h;cases h;exact⟨zZ (f:=iO f deep) (s':=q) (I:=λm:S×Lp=>I m.1) (A:=A) (λs a s' h1 h2 h3=>Da hi h1 h2 (.inl h3)) l _ hl hs hr,rfl⟩
 |stop q=>
  obtain⟨t,a,h1,h2,h3⟩:=abz (J:=λm:S×Lp=>I m.1) (A:=A) (λs a s' h1 h2 h3=>Da hi h1 h2 (.inl h3)) hl hs hr;rw[hr]at h;obtain⟨q1,q2⟩:=q;cases q2 with
  |ret=>cases h
  |ready=>cases h;exact⟨Da (m':=(q1,.ready)) hi h1 h2 (.inr ⟨h3,by simp⟩),rfl⟩
  |exit i=>cases h;exact⟨Da (m':=(q1,.exit i)) hi h1 h2 (.inr ⟨h3,by simp⟩),rfl⟩
  |busy=>cases h;exact⟨Da (m':=(q1,.busy)) hi h1 h2 (.inr ⟨h3,by simp⟩),rfl⟩
 |bad q=>rw[hr]at h;cases h
end Go.Gg.Tk
namespace Go.Gg
open Go.Conc Go.Proofs Go.Gg.Tk
namespace Tk
def mZ (l:List Nat)(i:Nat):List Nat:=l.take i++TN (3-i) 0
theorem afj{l:List Nat}{i q:Nat}(h:l[i]?=some q)(hl:l.length<=3):(mZ l i).set i q=mZ l (i+1):=by
 have hi:=eM h;unfold mZ;rw[UO _ _ (by simp;omega),show i-(l.take i).length=0 by simp;omega,show 3-i=(3-(i+1))+1 by omega,Ws,TY,Wv,h];simp
theorem N7{l:List Nat}{i:Nat}(hi:i<=l.length)(hl:l.length<=3):(mZ l i).length=3:=by simp[mZ];omega
theorem afi{l:List Nat}:mZ l l.length=l++TN (3-l.length) 0:=by simp[mZ]
theorem aaU:∀{qs:List Nat}{u:Nat}{t ns:List Nat},ns∈kD qs u t->ns.length=t.length+qs.length
 |[],u,t,ns,h=>by
  simp only[kD,S8]at h;subst h;rfl
 |q::qs,u,t,ns,h=>by
  simp only[kD,S7]at h;obtain⟨n,_,h⟩:=h;split at h
  ·cases h
  ·have:=aaU h;simp at this⊢;omega
theorem LW{x:ai}{h:List Int}{ns:List Nat}(hm:ns∈fS x h):ns.length=x.pieces.length:=by
 have:=aaU hm;simpa using this
def F' (k:Nat)(a:List Int):List Nat:=((a.drop 4).take k).map X7
theorem amR{h:List Int}{ns:List Nat}(h4:h.length=4):F' ns.length (dS h ns)=ns:=by
 unfold F' dS lg;rw[SD,Vt,TS (by omega),h4,UC,Vb,Xw,SD,Tx (by simp),SW (by simp),XW]
 conv=>rhs;rw[<- List.map_id ns]
 exact Vy λn _=>by simp
def ur (x:ai)(h:List Int)(a:List Int):List (List Int):=(hO x h (F' x.pieces.length a)).map (dx h (F' x.pieces.length a))
theorem K_{x:ai}{h:List Int}{ns:List Nat}(h4:h.length=4)(hn:ns.length=x.pieces.length):ur x h (dS h ns)=(hO x h ns).map (dx h ns):=by
 unfold ur;rw[<- hn,amR h4]
theorem aq5{x:ai}{h:List Int}{deep:Int}(h4:h.length=4):jf x deep h=rB deep (((fS x h).map (dS h)).map (ur x h)):=by
 rw[XW];have:(fS x h).map (ur x h∘dS h)=(fS x h).map λns=>(hO x h ns).map λos=>dx h ns os:=Vy λns hm=>K_ h4 (LW hm);rw[this];rfl
end Tk
section
variable {lv:Bool}
theorem IL{H:List aa}{k kp:AV->List aa->Prop}{x:ai}{h:List Int}{deep:Int}(hk:k (.fn (.func 91) [] [.op H.length 0,.op (H.length+1) 0,.op (H.length+2) 0]) (H++[.cells x.l 76,.cells (h.map iv) 83,.cells [iv deep] 3])):bc lv SC 66 H [x.av,.agg (h.map iv),iv deep] k kp:=by
 refine bF (rs:=[.tmp 6]) (nt:=8) Tryz.f66 λhH hA=> ?_;simp only[bk,SX,ai.av];refine ak ?_;refine aj ?_;simp only[seval,T8,Uz,Uh,TP];refine a_ ?_;exact bT hk
theorem IQ{x:ai}{h:List Int}{deep:Int}{N ir ih id:Nat}{yv pv:AV}{S:Type}{f:S->List Int->dA S}{Gf:S->List aa}{I:S->Prop}{A:List Int->Prop}{σ:S}{k kp:AV->List aa->Prop}(hx:x.Ok)(hh:mo h)(hY:jI lv SC yv f Gf N I A pv)(hr:∀σ L,(Gf σ++L)[ir]?=some (.cells x.l 76))(hi:∀σ L,(Gf σ++L)[ih]?=some (.cells (h.map iv) 83))(hd:∀σ L,(Gf σ++L)[id]?=some (.cells [iv deep] 3))
  (nz:∀n,Lt n pv) (hI:I σ) (pH:∀a,A a->a.length=11) (hA:∀ns∈fS x h,∀a∈(hO x h ns).map (dx h ns),A a) (hk:fV Gf pv k kp [] (bC f (jf x deep h) σ)):bc lv SC 91 (Gf σ) [yv,.op ir 0,.op ih 0,.op id 0] k kp:=by
 refine Pz (rs:=[]) (nt:=44) F.f91 rfl rfl rfl (by simp) λhH tR=> ?_;simp only[bk,SX];have hN:=hY.len σ;have xC:=hx.eF;have bN:x.l=[iv x.first,iv x.hours,iv x.am,dN x.seen,aY x.pieces,aY x.aC]:=rfl;have nf:(h.map iv).length=4:=by rw[Tn,hh.len]
 refine mY ?_;refine aj ?_;simp only[seval,hY.parts];refine ae5 ?_;refine mY ?_;refine ak ?_;refine HT ?_;refine mY ?_;refine aj ?_;simp only[seval,hr,bN,aY];refine HS ?_;refine cI ?_;refine gJ x.aC.length (λi:Nat=>[(14,iv i)]) (λi=>Gf σ++[.cells [yv] 132,.cells ((mZ (x.aC.map (bW h)) i).map λn=>wv n) 81]) (λi=>True) (λ_ _=>rfl) (by simp only[seval];simp[bA,Wk.refl]) rfl (λ_ _ _=>by simp) trivial (λce db i cN _ R hR=> ?_);refine ak ?_;refine aE ?_;refine⟨λhc=> ?_,λhc=> ?_⟩
 ·have bx:i<x.aC.length:=by omega
  obtain⟨y,hy⟩:=cy bx;have uo:(x.aC.map (bW h))[i]?=some (bW h y):=by rw[To,hy];rfl
  have b3:(0<=(i:Int)/\(i:Int)<3)=True:=by simp;omega
  have bP:SE.wrap ((i:Int)+1)=((i+1:Nat):Int):=by rw[bG _ (by omega)];rfl
  have cL:(mZ (x.aC.map (bW h)) i).length=3:=N7 (by simp;omega) (by simpa using xC);have vA:((mZ (x.aC.map (bW h)) i).map λn=>wv n).length=3:=by rw[Tn,cL]
  refine aO ?_;refine aj ?_;simp only[seval,C3 hy,jl bx];refine aj ?_;simp only[seval,hi,nf];rw[SW (i:=4) (l:=h.map iv) (by rw[nf];exact SP _)];refine aJ ((Eh (h:=h) (y:=y) hh ?_));(try simp only[seval,b3,vA]);refine⟨by omega,?_⟩;rw[MH (g:=λn=>wv n) (show i<(mZ (x.aC.map (bW h)) i).length by omega),afj uo (by simpa using xC)];refine aj ?_;simp only[seval,bP];exact hR _ ⟨bx,trivial,zY (o_ rfl rfl) (by simp only[seval];simp[bA,Wk.refl]) (Rn (L:=[_]) ce (aa0 _ _)) (by simp[eD])⟩
 have:i=x.aC.length:=by omega
 subst this;clear hc cN;refine b_ ?_;have zo:∃r,mZ (x.aC.map (bW h)) x.aC.length=x.aC.map (bW h)++r:=⟨_,by
  have:=afi (l:=x.aC.map (bW h));simpa using this⟩
 have xA:(mZ (x.aC.map (bW h)) x.aC.length).length=3:=N7 (by simp) (by simpa using xC);have KB:((mZ (x.aC.map (bW h)) x.aC.length).map λn=>wv n).length=3:=by rw[Tn,xA]
 generalize mZ (x.aC.map (bW h)) x.aC.length=qs at zo xA KB;refine mY ?_;(repeat apply gT);refine NS ?_;simp only[seval];refine mY ?_;refine aj ?_;simp only[seval,hr,bN,hi,nf];rw[SW (i:=4) (l:=h.map iv) (by rw[nf];exact SP _)];refine aJ ((ahV (x:=x) (h:=h) ?_));(try simp only[seval]);refine ae2 ?_;refine ae4 (by rfl) λl fn T ag bo hT xc pK=> ?_;(try simp only[seval]);rw[hN]at hT⊢;have h4:=hh.len;have ai2:jI lv SC (.fn (.yield l) [] []) (po f deep (ur x h)) (λm:S×Lp=>Gf m.1++[.cells [yv] 132,.cells (qs.map λn=>wv n) 81,.cells x.l 76,.cells (h.map iv) 83,.obj (.deferred (some [])),.loop l m.2.st m.2.pe fn T 44 #[28] ag bo (N+4)]) (N+6) (λm=>I m.1/\m.2=.ready) (λa=>∃ns∈fS x h,a=dS h ns) pv:=by
  have g3:∀(σ:S)(L:List aa),(Gf σ++L)[N+1]?=L[1]?:=λσ L=>hY.get σ L 1;have g5:∀(σ:S)(L:List aa),(Gf σ++L)[N+5]?=L[5]?:=λσ L=>hY.get σ L 5;have s5:∀(σ:S)(L:List aa) y,(Gf σ++L).set (N+5) y=Gf σ++L.set 5 y:=λσ L y=>hY.set σ L 5 y;refine⟨λm a M k kp hm ha dE=> ?_,λm a m' hm ha he=> ?_,λm=>by simp[hY.len],λq m m' hz z eW=> ?_,rfl,rfl,rfl⟩
  ·obtain⟨σ,lp⟩:=m;obtain⟨Jh,gk⟩:=hm;replace Jh:I σ:=Jh;replace gk:lp=.ready:=gk;subst gk;obtain⟨ns,iX,rfl⟩:=ha;have jQ:=LW iX;have p9:(dS h ns).length=11:=(by simp[dS,h4,zU (k:=4) (l:=ns) (by have:=hx.c_;omega)]);have zw:((dS h ns).map iv).length=11:=(by rw[Tn,p9]);obtain⟨Lo,kR⟩:∃Lo,Lo=aa.loop l .busy none fn T 44 #[28] ag bo (N+4):=⟨_,rfl⟩;obtain⟨P1,dq⟩:∃P1:S->List aa,∀σ,P1 σ=Gf σ++([.cells [yv] 132,.cells (qs.map λn=>wv n) 81,.cells x.l 76,.cells (h.map iv) 83,.obj (.deferred (some [])),Lo]++M):=⟨_,λ_=>rfl⟩;have ej:∀σ,(P1 σ).length=N+6+M.length:=λσ=>(by rw[dq];simp[hY.len];omega);have pg:∀(σ:S)(L:List aa)(i:Nat),i<6->(P1 σ++L)[N+i]?=[aa.cells [yv] 132,.cells (qs.map λn=>wv n) 81,.cells x.l 76,.cells (h.map iv) 83,.obj (.deferred (some [])),Lo][i]?:=λσ L i J4=>by
    rw[dq,SD,hY.get,SD,SZ (by simpa using J4)]
   have pr:∀(σ:S)(L:List aa),(P1 σ++L)[ir]?=some (.cells x.l 76):=λσ L=>(by rw[dq,SD];exact hr σ _);have pd:∀(σ:S)(L:List aa),(P1 σ++L)[id]?=some (.cells [iv deep] 3):=λσ L=>(by rw[dq,SD];exact hd σ _);have pb:∀(σ:S)(L:List aa)(i:Nat),(P1 σ++L)[N+6+M.length+i]?=L[i]?:=λσ L i=>(by rw[<- ej σ,aW]);have v_:∀(σ:S)(L:List aa),(P1 σ++L)[N+6+M.length]?=L[0]?:=λσ L=>pb σ L 0;have pg1:∀(σ:S)(L:List aa),(P1 σ++L)[N+1]?=some (.cells (qs.map λn=>wv n) 81):=λσ L=>pg σ L 1 (by omega);have pg0:∀(σ:S)(L:List aa),(P1 σ++L)[N]?=some (.cells [yv] 132):=λσ L=>pg σ L 0 (by omega);have Qx:∀(τ:S)(lp:Lp),bM (Gf σ++(([aa.cells [yv] 132,.cells (qs.map λn=>wv n) 81,.cells x.l 76,.cells (h.map iv) 83,.obj (.deferred (some [])),.loop l .ready none fn T 44 #[28] ag bo (N+4)]:List aa)++M))->bM (Gf τ++(([aa.cells [yv] 132,.cells (qs.map λn=>wv n) 81,.cells x.l 76,.cells (h.map iv) 83,.obj (.deferred (some [])),.loop l lp.st lp.pe fn T 44 #[28] ag bo (N+4)]:List aa)++M)):=λτ lp gV z hz=>by
    have hlen:(Gf τ++(([aa.cells [yv] 132,.cells (qs.map λn=>wv n) 81,.cells x.l 76,.cells (h.map iv) 83,.obj (.deferred (some [])),.loop l lp.st lp.pe fn T 44 #[28] ag bo (N+4)]:List aa)++M)).length=(Gf σ++(([aa.cells [yv] 132,.cells (qs.map λn=>wv n) 81,.cells x.l 76,.cells (h.map iv) 83,.obj (.deferred (some [])),.loop l .ready none fn T 44 #[28] ag bo (N+4)]:List aa)++M)).length:=(by simp[hY.len]);have hl:=gV (.loop l .ready none fn T 44 #[28] ag bo (N+4)) (by simp);rw[hlen];rcases SS.1 hz with h'|h'
    ·exact hY.ok _ σ τ (λw hw=>gV w (Tg _ hw)) z h'
    ·rcases SS.1 h' with h'|h'
     ·simp only[SL,S4,or_false]at h';rcases h' with rfl|rfl|rfl|rfl|rfl|rfl
      ·exact gV _ (by simp)
      ·exact gV _ (by simp)
      ·exact gV _ (by simp)
      ·exact gV _ (by simp)
      ·exact gV _ (by simp)
      ·exact hl
     ·exact gV z (S5 _ (S5 _ h'))
   have IS:bM (Gf σ++(([aa.cells [yv] 132,.cells (qs.map λn=>wv n) 81,.cells x.l 76,.cells (h.map iv) 83,.obj (.deferred (some [])),.loop l .ready none fn T 44 #[28] ag bo (N+4)]:List aa)++M))->∀(τ:S)(lp:Lp)(b':Bool)(TT:List (Nat×AV))(L:List aa),k (bv b') ((Gf τ++[.cells [yv] 132,.cells (qs.map λn=>wv n) 81,.cells x.l 76,.cells (h.map iv) 83,.obj (.deferred (some [])),.loop l lp.st lp.pe fn T 44 #[28] ag bo (N+4)])++M)->oF (N+5) (N+6+M.length) k lp.st lp.pe b' ⟨TT,P1 τ++L⟩:=λgV τ lp b' TT L dE=>by
    refine⟨l,.busy,none,fn,T,44,#[28],ag,bo,N+4,by show (P1 τ++L)[_]?=_;rw[pg τ _ 5 (by omega),kR];rfl,?_⟩;show cD (N+6+M.length) ((P1 τ++L).set _ _) _ k;rw[dq,SD,s5];rw[SD]at dE;exact jN (G:=L) (Wk.refl _) (by simp) (by simp[hY.len];omega) (Qx τ lp gV) (.val _) dE
   have aib:bM (Gf σ++(([aa.cells [yv] 132,.cells (qs.map λn=>wv n) 81,.cells x.l 76,.cells (h.map iv) 83,.obj (.deferred (some [])),.loop l .ready none fn T 44 #[28] ag bo (N+4)]:List aa)++M))->∀(τ:S)(L:List aa),kp pv ((Gf τ++[.cells [yv] 132,.cells (qs.map λn=>wv n) 81,.cells x.l 76,.cells (h.map iv) 83,.obj (.deferred (some [])),.loop l Lp.busy.st Lp.busy.pe fn T 44 #[28] ag bo (N+4)])++M)->cD (N+6+M.length) (P1 τ++L) pv kp:=λgV τ L dE=>by
    rw[SD]at dE;rw[dq,kR];exact jN (G:=L) (Wk.refl _) rfl (by simp[hY.len];omega) (Qx τ .busy gV) (nz _) dE
   subst hT xc pK;rw[SD];refine vc (id:=N+5) (by rw[g5];rfl) rfl (by kernel_rfl) λnX Jc=> ?_;simp only[rM];have vD:Ue 11 [iv 0,iv 0,iv 0,iv 0,iv 0,iv 0,iv 0,iv 0,iv 0,iv 0,iv 0]=[]:=rfl;refine aj ?_;simp only[seval,p9,vD];unfold tz;refine⟨none,fn,_,44,#[28],_,_,_,by rw[g5];rfl,?_⟩;dsimp only;rw[s5];simp only[UA,TY];rw[<- kR];have w9:(Gf σ).length+(M.length+1+1+1+1+1+1)=N+6+M.length:=(by rw[hY.len];omega);rw[w9];have xo:∀z:aa,Gf σ++aa.cells [yv] 132::aa.cells (U4 (λn=>wv n) qs) 81::aa.cells x.l 76::aa.cells (U4 iv h) 83::aa.obj (atm (some []))::Lo::(M++[z])=P1 σ++[z]:=λz=>(by rw[dq];simp);rw[xo];refine aj ?_;simp only[seval,pr,bN,v_,pg1,zw,p9,KB,xA];rw[SW (i:=11) (l:=(dS h ns).map iv) (by rw[zw];exact SP _),SW (i:=3) (l:=qs.map λn=>wv n) (by rw[KB];exact SP _)];refine aJ ((ahW (x:=x) (tc:=dS h ns) (qs:=qs) ?_));(try simp only[seval]);refine cI ?_;have pP:∀(σ:S)(a b c d:aa),(P1 σ++[a,b,c,d]).length=N+6+M.length+4:=λσ a b c d=>(by simp[ej]);refine D1 (N+5) (by rfl) (by show (P1 σ++_)[N+5]?=_;rw[pg σ _ 5 (by omega),kR];rfl) λl2 eK T2 gw gz nY xd xg=> ?_;simp only[seval];rw[ej]at nY⊢;have zL:∀(σ τ:S)(L L':List aa),L'.length=L.length->(∀q,(∀z∈L,eY q z)->∀z∈L',eY q z)->bM (P1 σ++L)->bM (P1 τ++L'):=λσ τ L L' hl hL hH z hz=>by
    have hlen:(P1 τ++L').length=(P1 σ++L).length:=(by simp[ej,hl]);rw[hlen];rcases SS.1 hz with h'|h'
    ·rw[dq]at h';rcases SS.1 h' with h'|h'
     ·exact hY.ok _ σ τ (λw hw=>hH w (Tg _ (by rw[dq];exact Tg _ hw))) z h'
     ·exact hH z (Tg _ (by rw[dq];exact S5 _ h'))
    ·exact hL _ (λw hw=>hH w (S5 _ hw)) z h'
   have xb:∀tc:List Int,jI lv SC (.fn (.yield l2) [] []) (iO f deep) (λm:S×Lp=>P1 m.1++[.cells ((dS h ns).map iv) 86,.cells x.l 76,.cells (tc.map iv) 86,.cells (qs.map λn=>wv n) 81,.loop l2 m.2.st m.2.pe eK T2 44 #[33] gw gz (N+4)]) (N+6+M.length+5) (λm=>I m.1/\m.2=.ready) A pv:=λtc=>by
    refine⟨λm b M2 k2 xM hm hb kX=> ?_,λm b m' hm hb he=> ?_,λm=>by simp[ej],λq m m' hz z eW=> ?_,rfl,rfl,rfl⟩
    ·obtain⟨σ',lp⟩:=m;obtain⟨Ji,gk⟩:=hm;replace Ji:I σ':=Ji;replace gk:lp=.ready:=gk;subst gk;have cL:b.length=11:=pH b hb;have vA:(b.map iv).length=11:=(by rw[Tn,cL]);obtain⟨pw,su⟩:∃Lo,Lo=aa.loop l2 .busy none eK T2 44 #[33] gw gz (N+4):=⟨_,rfl⟩;obtain⟨Q1,fZ⟩:∃Q1:S->List aa,∀σ,Q1 σ=P1 σ++([.cells ((dS h ns).map iv) 86,.cells x.l 76,.cells (tc.map iv) 86,.cells (qs.map λn=>wv n) 81,pw]++M2):=⟨_,λ_=>rfl⟩;obtain⟨C,hC⟩:∃C,C=N+6+M.length+5+M2.length:=⟨_,rfl⟩;have Jo:∀σ,(Q1 σ).length=C:=λσ=>(by rw[fZ,hC];simp[ej];omega);have lO:∀(σ:S)(L:List aa),(P1 σ++L)[N+6+M.length+4]?=L[4]?:=λσ L=>pb σ L 4;have pn:∀(σ:S)(L:List aa)(y:aa),(P1 σ++L).set (N+6+M.length+4) y=P1 σ++L.set 4 y:=λσ L y=>(by rw[<- ej σ,dR]);have qN:∀(σ:S)(L:List aa),(Q1 σ++L)[N]?=some (.cells [yv] 132):=λσ L=>(by rw[fZ,SD];exact pg0 σ _);have qd:∀(σ:S)(L:List aa),(Q1 σ++L)[id]?=some (.cells [iv deep] 3):=λσ L=>(by rw[fZ,SD];exact pd σ _);have q4:∀(σ:S)(L:List aa),(Q1 σ++L)[N+6+M.length+4]?=some pw:=λσ L=>(by rw[fZ,SD,lO];rfl);have qc:∀(σ:S)(L:List aa),(Q1 σ++L)[C]?=L[0]?:=λσ L=>(by rw[<- Jo σ];exact aW _ L 0);have Mu:∀(σ:S)(L:List aa)(y:aa),(Q1 σ++L).set (N+6+M.length+4) y=(P1 σ++([.cells ((dS h ns).map iv) 86,.cells x.l 76,.cells (tc.map iv) 86,.cells (qs.map λn=>wv n) 81,y]++M2))++L:=λσ L y=>(by rw[fZ,SD,pn];simp);obtain⟨Mz,Ez⟩:∃Mz:List aa,∀σ,Q1 σ++[.cells (b.map iv) 86]=Gf σ++Mz:=⟨_,λσ=>by rw[fZ,dq,SD,SD]⟩;have fz:∀(τ:S)(lp:Lp),bM (P1 σ'++([.cells ((dS h ns).map iv) 86,.cells x.l 76,.cells (tc.map iv) 86,.cells (qs.map λn=>wv n) 81,.loop l2 .ready none eK T2 44 #[33] gw gz (N+4)]++M2))->bM (P1 τ++([.cells ((dS h ns).map iv) 86,.cells x.l 76,.cells (tc.map iv) 86,.cells (qs.map λn=>wv n) 81,.loop l2 lp.st lp.pe eK T2 44 #[33] gw gz (N+4)]++M2)):=λτ lp gV=>zL σ' τ _ _ (by simp) (λq hz z eW=>by
      have hl:=hz (.loop l2 .ready none eK T2 44 #[33] gw gz (N+4)) (by simp);rcases SS.1 eW with h'|h'
      ·simp only[SL,S4,or_false]at h';rcases h' with rfl|rfl|rfl|rfl|rfl
       ·exact hz _ (by simp)
       ·exact hz _ (by simp)
       ·exact hz _ (by simp)
       ·exact hz _ (by simp)
       ·exact hl
      ·exact hz _ (S5 _ h')) gV
     have gn:cU (λm:S×Lp=>P1 m.1++[.cells ((dS h ns).map iv) 86,.cells x.l 76,.cells (tc.map iv) 86,.cells (qs.map λn=>wv n) 81,.loop l2 m.2.st m.2.pe eK T2 44 #[33] gw gz (N+4)]) pv k2 xM M2 (iO f deep (σ',.ready) b):=kX;have JN:∀z:aa,P1 σ'++(aa.cells (U4 iv (dS h ns)) 86::aa.cells x.l 76::aa.cells (U4 iv tc) 86::aa.cells (U4 (λn=>wv n) qs) 81::pw::(M2++[z]))=Q1 σ'++[z]:=λz=>(by rw[fZ];simp);have Ek:bM (P1 σ'++([.cells ((dS h ns).map iv) 86,.cells x.l 76,.cells (tc.map iv) 86,.cells (qs.map λn=>wv n) 81,.loop l2 .ready none eK T2 44 #[33] gw gz (N+4)]++M2))->∀(τ:S)(lp:Lp)(b':Bool)(TT:List (Nat×AV)),k2 (bv b') ((P1 τ++[.cells ((dS h ns).map iv) 86,.cells x.l 76,.cells (tc.map iv) 86,.cells (qs.map λn=>wv n) 81,.loop l2 lp.st lp.pe eK T2 44 #[33] gw gz (N+4)])++M2)->oF (N+6+M.length+4) C k2 lp.st lp.pe b' ⟨TT,Gf τ++Mz⟩:=λgV τ lp b' TT dE=>by
      refine⟨l2,.busy,none,eK,T2,44,#[33],gw,gz,N+4,by show (Gf τ++Mz)[_]?=_;rw[<- Ez,q4,su],?_⟩;show cD C ((Gf τ++Mz).set _ _) _ k2;rw[<- Ez,Mu];rw[SD]at dE;exact jN (G:=[.cells (b.map iv) 86]) (Wk.refl _) rfl (by rw[hC];simp[ej];omega) (fz τ lp gV) (.val _) dE
     have aia:bM (P1 σ'++([.cells ((dS h ns).map iv) 86,.cells x.l 76,.cells (tc.map iv) 86,.cells (qs.map λn=>wv n) 81,.loop l2 .ready none eK T2 44 #[33] gw gz (N+4)]++M2))->∀τ:S,xM pv ((P1 τ++[.cells ((dS h ns).map iv) 86,.cells x.l 76,.cells (tc.map iv) 86,.cells (qs.map λn=>wv n) 81,.loop l2 Lp.busy.st Lp.busy.pe eK T2 44 #[33] gw gz (N+4)])++M2)->cD C (Gf τ++Mz) pv xM:=λgV τ dE=>by
      rw[<- Ez,fZ,su];rw[SD]at dE;exact jN (G:=[.cells (b.map iv) 86]) (Wk.refl _) rfl (by rw[hC];simp[ej];omega) (fz τ .busy gV) (nz _) dE
     subst nY xd xg;rw[SD];refine vc (id:=N+6+M.length+4) (by rw[lO];rfl) rfl (by kernel_rfl) λqP Jd=> ?_;simp only[rM];refine aj ?_;simp only[seval,cL,vD];unfold tz;refine⟨none,eK,_,44,#[33],_,_,_,by rw[lO];rfl,?_⟩;dsimp only;rw[pn];simp only[UA,TY];rw[<- su];have Bp:(P1 σ').length+(M2.length+1+1+1+1+1)=C:=(by rw[ej,hC];omega);rw[Bp,JN];refine aj ?_;simp only[seval,qN,qc,cL,vA];rw[SW (i:=11) (l:=b.map iv) (by rw[vA];exact SP _),Ez];refine wP (hY.call σ' b Mz _ _ Ji hb ?_);unfold iO at gn;rw[show f (σ',Lp.ready).1 b=f σ' b from rfl]at gn;cases hf:f σ' b with
     |go τ=>
      rw[hf]at gn;dsimp only at gn;simp only[cU];(try simp only[seval,hd]);refine aE ?_;refine⟨λh0=> ?_,λh0=> ?_⟩
      ·replace h0:deep=0:=(by simpa using h0);rw[if_pos h0]at gn;simp only[cU]at gn;refine a_ ?_;exact Ek qP τ .ret false _ gn
      ·replace h0:¬deep=0:=(by simpa using h0);rw[if_neg h0]at gn;refine aO ?_;refine aj ?_;simp only[seval,hd];refine aE ?_;refine⟨λh1=> ?_,λh1=> ?_⟩
       ·replace h1:deep=1:=(by simpa using h1);rw[if_pos h1]at gn;simp only[cU]at gn;refine b_ ?_;exact Ek qP τ (.exit 3) false _ gn
       ·replace h1:¬deep=1:=(by simpa using h1);rw[if_neg h1]at gn;simp only[cU]at gn;refine aO ?_;exact Ek qP τ .ready true _ gn
     |stop τ=>
      rw[hf]at gn;dsimp only at gn;simp only[cU]at gn⊢;(try simp only[seval]);refine aE ?_;refine a_ ?_;exact Ek qP τ .ret false _ gn
     |bad τ=>
      rw[hf]at gn;dsimp only at gn;simp only[cU]at gn⊢;exact aia qP τ gn
    ·obtain⟨σ',lp⟩:=m;obtain⟨τ,CE⟩:=m';unfold iO at he;have hi:=(hY.inv σ' b τ hm.1 hb);cases hf:f σ' b with
     |go τ'=>
      rw[show f (σ',lp).1 b=f σ' b from rfl,hf]at he;dsimp only at he;by_cases h0:deep=0
      ·rw[if_pos h0]at he;cases he
      ·rw[if_neg h0]at he;by_cases h1:deep=1
       ·rw[if_pos h1]at he;cases he
       ·rw[if_neg h1]at he;cases he;exact⟨hi hf,rfl⟩
     |stop τ'=>rw[show f (σ',lp).1 b=f σ' b from rfl,hf]at he;cases he
     |bad τ'=>rw[show f (σ',lp).1 b=f σ' b from rfl,hf]at he;cases he
    ·rcases SS.1 eW with h'|h'
     ·rw[dq]at h';rcases SS.1 h' with h'|h'
      ·exact hY.ok q m.1 m'.1 (λw hw=>hz w (Tg _ (by rw[dq];exact Tg _ hw))) z h'
      ·exact hz z (Tg _ (by rw[dq];exact S5 _ h'))
     ·have hl:=hz _ (S5 _ (Te (i:=4) rfl));simp only[SL,S4,or_false]at h';rcases h' with rfl|rfl|rfl|rfl|rfl
      ·exact hz _ (S5 _ (by simp))
      ·exact hz _ (S5 _ (by simp))
      ·exact hz _ (S5 _ (by simp))
      ·exact hz _ (S5 _ (by simp))
      ·exact hl
   have e1:po f deep (ur x h) (σ,.ready) (dS h ns)=kJ (bC (iO f deep) ((hO x h ns).map (dx h ns)) (σ,.ready)):=(by unfold po;rw[K_ h4 jQ]);rw[e1]at dE;refine cJ (aha (x:=x) (h:=h) (ns:=ns) (qs:=qs) (N:=N+6+M.length+5) (ir:=N+6+M.length+1) (it:=N+6+M.length+2) (is:=N+6+M.length+3) (tc:=dS h ns) (σ:=(σ,Lp.ready)) hx h4 jQ xb (λtc m L=> ?_) (λtc m L=> ?_) (λtc ee m L=> ?_) (λtc m L=> ?_) zo xA (λq tc ee m hz z eW=> ?_) nz rfl ⟨Jh,rfl⟩ (hA ns iX) (λee asR=> ?_))
   ·rw[SD];exact pb _ _ 1
   ·rw[SD];exact pb _ _ 2
   ·rw[SD,<- ej m.1,dR,SD];rfl
   ·rw[SD];exact pb _ _ 3
   ·rcases SS.1 eW with h'|h'
    ·exact hz z (Tg _ h')
    ·simp only[SL,S4,or_false]at h';rcases h' with rfl|rfl|rfl|rfl|rfl
     ·exact hz _ (by simp)
     ·exact hz _ (by simp)
     ·exact am7 _ _ _
     ·exact hz _ (by simp)
     ·exact hz _ (by simp)
   have lO:∀(σ:S)(L:List aa),(P1 σ++L)[N+6+M.length+4]?=L[4]?:=λσ L=>pb σ L 4;have pn:∀(σ:S)(L:List aa)(y:aa),(P1 σ++L).set (N+6+M.length+4) y=P1 σ++L.set 4 y:=λσ L y=>(by rw[<- ej σ,dR]);cases cN:bC (iO f deep) ((hO x h ns).map (dx h ns)) (σ,.ready)with
   |go m=>
    obtain⟨τ,lp⟩:=m;have gk:lp=.ready:=zZ (I:=λm:S×Lp=>m.2=.ready) (A:=λ_=>True) (λs a s' _ _ e=>aqZ e) _ _ _ (λ_ _=>trivial) rfl cN;subst gk;rw[cN]at dE;simp only[kJ,cU]at dE;simp only[fV,SY];refine⟨.ready,none,_,_,_,_,_,_,_,by rw[lO];rfl,by decide,?_⟩;rw[pn,Gu];(try simp only[seval]);exact IS nX τ .ready true _ _ dE
   |stop m=>
    obtain⟨τ,lp⟩:=m;have gk:lp=.ret\/lp=.exit 3:=by
     obtain⟨_,_,q⟩:=MB cN;exact aq0 q
    rw[cN]at dE;rcases gk with rfl|rfl
    ·simp only[kJ,cU]at dE;simp only[fV,SY];refine⟨.done,some .ret,_,_,_,_,_,_,_,by rw[lO];rfl,by decide,?_⟩;rw[pn,anM];(try simp only[seval]);exact IS nX τ .ret false _ _ dE
    ·simp only[kJ,cU]at dE;simp only[fV,SY];refine⟨.done,some (.exit 3),_,_,_,_,_,_,_,by rw[lO];rfl,by decide,?_⟩;rw[pn,anL];(try simp only[seval]);exact IS nX τ .ready true _ _ dE
   |bad m=>
    obtain⟨τ,lp⟩:=m;rw[cN]at dE;simp only[kJ,cU]at dE;simp only[fV,SY];exact aib nX τ _ dE
  ·obtain⟨σ',lp⟩:=m;obtain⟨τ,CE⟩:=m';obtain⟨ns,iX,rfl⟩:=ha;have e1:po f deep (ur x h) (σ',lp) (dS h ns)=kJ (bC (iO f deep) ((hO x h ns).map (dx h ns)) (σ',.ready)):=(by unfold po;rw[K_ h4 (LW iX)]);rw[e1]at he;exact aed hY.inv (hA ns iX) hm.1 he
  ·rcases SS.1 eW with h'|h'
   ·exact hY.ok q m.1 m'.1 (λw hw=>hz w (Tg _ hw)) z h'
   ·have hl:=hz _ (S5 _ (Te (i:=5) rfl));simp only[SL,S4,or_false]at h';rcases h' with rfl|rfl|rfl|rfl|rfl|rfl
    ·exact hz _ (S5 _ (by simp))
    ·exact hz _ (S5 _ (by simp))
    ·exact hz _ (S5 _ (by simp))
    ·exact hz _ (S5 _ (by simp))
    ·exact hz _ (S5 _ (by simp))
    ·exact hl
 obtain⟨dY,uk⟩:=acP (f:=f) (deep:=deep) (L:=ur x h) ((fS x h).map (dS h)) σ;rw[<- aq5 h4]at dY;have g4:∀(σ:S)(L:List aa),(Gf σ++L)[N+4]?=L[4]?:=λσ L=>hY.get σ L 4;have g5:∀(σ:S)(L:List aa),(Gf σ++L)[N+4+1]?=L[5]?:=λσ L=>hY.get σ L 5;have s4:∀(σ:S)(L:List aa) y,(Gf σ++L).set (N+4) y=Gf σ++L.set 4 y:=λσ L y=>hY.set σ L 4 y;have s5:∀(σ:S)(L:List aa) y,(Gf σ++L).set (N+4+1) y=Gf σ++L.set 5 y:=λσ L y=>hY.set σ L 5 y;have ry:∀n,Lt n (.aK []):=λn=>by simp[jz]
 refine cJ (ag8 (x:=x) (h:=h) (N:=N+6) (ir:=N+2) (ih:=N+3) (σ:=(σ,Lp.ready)) hx hh ai2 (λm L=> ?_) (λm L=> ?_) nz ⟨hI,rfl⟩ (λa ha=> ?_) ?_)
 ·rw[SD,hY.get m.1 _ 2];rfl
 ·rw[SD,hY.get m.1 _ 3];rfl
 ·obtain⟨ns,h1,rfl⟩:=Tm.1 ha;exact⟨ns,h1,rfl⟩
 cases bH:bC (po f deep (ur x h)) ((fS x h).map (dS h)) (σ,.ready)with
 |go m=>
  obtain⟨σ',lp⟩:=m;have gk:lp=.ready:=uk _ bH;subst gk;rw[bH]at dY;have aI:=Mx (r':=.go σ') dY.symm hk;simp only[fV,SY]at aI⊢;refine⟨.ready,none,_,_,_,_,_,_,_,by rw[g5];rfl,by decide,?_⟩;rw[s5];simp only[UA,TY];rw[Gt];(try simp only[seval]);rw[yM (by rw[g4];rfl),yN,s4];(try simp only[seval]);rw[<- hN];exact uG hY hH ry aI
 |stop m=>
  obtain⟨σ',lp⟩:=m;have gk:lp=.ret:=by
   obtain⟨_,_,q⟩:=MB bH;exact aqW q
  subst gk;rw[bH]at dY;have aI:=Mx (r':=.stop σ') dY.symm hk;simp only[fV,SY]at aI⊢;refine⟨.done,some .ret,_,_,_,_,_,_,_,by rw[g5];rfl,by decide,?_⟩;rw[s5];simp only[UA,TY];rw[anK];(try simp only[seval]);rw[yM (by rw[g4];rfl),yN,s4];(try simp only[seval]);rw[<- hN];exact uG hY hH ry aI
 |bad m=>
  obtain⟨σ',lp⟩:=m;rw[bH]at dY;have aI:=Mx (r':=.bad σ') dY.symm hk;simp only[fV,SY]at aI⊢;rw[yM (by rw[g4];rfl),yN,s4];rw[v7,<- hN];exact uG hY hH nz aI
end
open Go.Conc Go.Proofs Go.Gg.Tk
namespace Tk
def mA (x y:Int):Int:=if x<y then -1 else if y<x then 1 else 0
def nT:List Int->List Int->Int
 |a::l,b::m=>if mA a b≠0 then mA a b else nT l m
 |[],[]=>0
 |[],_::_=> -1
 |_::_,[]=>1
def sd (a b:List Int):Bool:=if a.take 4=b.take 4 then(if nT ((a.drop 4).take 4) ((b.drop 4).take 4)≠0 then decide (nT ((a.drop 4).take 4) ((b.drop 4).take 4)<0)else decide (nT (a.drop 8) (b.drop 8)<0))else decide (nT (a.take 4) (b.take 4)<0)
end Tk
theorem Ef{ca pa ra:List AV}{xs:List Int}{o i:Nat}{x:Int}(hc:ca=pa++(xs.map iv++ra))(ho:pa.length=o)(h:xs[i]?=some x):ca.drop (o+i)=iv x::((xs.drop (i+1)).map iv++ra):=by
 subst hc ho;rw[Vt,TS (by omega),UC,show pa.length+i-pa.length=i by omega,Vt,kL h,show i-(xs.map iv).length=0 by have:=eM h;simp;omega,Xw];rfl
section
variable {lv:Bool}{H:List aa}{k kp:AV->List aa->Prop}
theorem O_{x:Int}(hk:k (bv false) H):bc lv SC 143 H [iv x] k kp:=by
 refine bF (rs:=[.tmp 2]) (nt:=6) Tryz.f143 λhH hA=> ?_;simp only[bk,SX];refine ak ?_;refine aj ?_;simp only[seval,bne_self_eq_false];refine a_ ?_;refine bT ?_;simpa using hk
theorem ahd{x y:Int}(hk:k (iv (mA x y)) H):bc lv SC 142 H [iv x,iv y] k kp:=by
 refine bF (rs:=[.tmp 4]) (nt:=20) Tryz.f142 λhH hA=> ?_;simp only[bk,SX];refine ak ?_;refine ak ?_;refine aJ ((O_ ?_));(try simp only[seval]);refine ak ?_;refine aJ ((O_ ?_));(try simp only[seval]);refine ak ?_;refine aE ?_;refine aO ?_;refine ak ?_;refine aE ?_;refine aO ?_;refine ak ?_;refine aE ?_;refine⟨λh=> ?_,λh=> ?_⟩
 ·refine ak ?_;refine a_ ?_;rw[mA,if_pos h]at hk;exact bT hk
 ·refine aO ?_;refine ak ?_;refine aE ?_;refine⟨λh2=> ?_,λh2=> ?_⟩
  ·refine ak ?_;refine a_ ?_;rw[mA,if_neg h,if_pos h2]at hk;exact bT hk
  ·refine aO ?_;refine ak ?_;refine a_ ?_;rw[mA,if_neg h,if_neg h2]at hk;exact bT hk
theorem IF{xs ys:List Int}{ia oa ib ob ta tb:Nat}{ca cb pa ra pb rb:List AV}(ha:H[ia]?=some (.cells ca ta))(hb:H[ib]?=some (.cells cb tb))(hca:ca=pa++(xs.map iv++ra))(Kv:pa.length=oa)(hcb:cb=pb++(ys.map iv++rb))(hpb:pb.length=ob)(hl:ys.length=xs.length)(h4:xs.length<=4)(hk:k (iv (nT xs ys)) H):
  bc lv SC 138 H [.bE ia oa xs.length xs.length,.bE ib ob ys.length ys.length] k kp:=by
 refine bF (rs:=[.tmp 4]) (nt:=36) Tryz.f138 λhH hA=> ?_;simp only[bk,SX];refine ak ?_;refine ak ?_;refine cI ?_;refine r6 xs.length (λi:Nat=>[(11,iv i)]) (λ_=>H) (λi=>nT xs ys=nT (xs.drop i) (ys.drop i)) rfl (λce db i cN hI R hR=> ?_);refine ak ?_;refine aE ?_;refine⟨λh=> ?_,λh=> ?_⟩
 ·have bx:i<xs.length:=by omega
  obtain⟨x,hx⟩:=cy bx;obtain⟨y,hy⟩:=cy (xs:=ys) (i:=i) (by omega);have bP:SE.wrap ((i:Int)+1)=((i+1:Nat):Int):=by rw[bG _ (by omega)];rfl
  have k_:nT xs ys=if mA x y≠0 then mA x y else nT (xs.drop (i+1)) (ys.drop (i+1)):=by rw[hI,vg hx,vg hy,nT]
  refine aO ?_;refine aj ?_;simp only[seval,ha,jl bx,Ef hca Kv hx];refine ak ?_;refine aE ?_;refine⟨λh2=>by exfalso;omega,λh2=> ?_⟩;refine aO ?_;refine aj ?_;simp only[seval,hb,jl (show i<ys.length by omega),Ef hcb hpb hy];refine ak ?_;refine aJ ((ahd ?_));(try simp only[seval]);refine ak ?_;refine aE ?_;refine⟨λh3=> ?_,λh3=> ?_⟩
  ·refine ak ?_;refine a_ ?_;rw[k_,if_pos (by simpa using h3)]at hk;exact bT hk
  ·refine aO ?_;refine aj ?_;simp only[seval,bP];refine hR _ ⟨bx,?_,dD⟩;rw[k_,if_neg (by simpa using h3)]
 ·have du:i=xs.length:=by omega
  subst du;refine b_ ?_;refine aj ?_;simp only[seval,hl];refine aE ?_;refine⟨λh2=>by exfalso;omega,λh2=> ?_⟩;refine aO ?_;refine ak ?_;refine a_ ?_;rw[hI,List.drop_length,TS (WE hl),nT]at hk;exact bT hk
theorem F.Df:SC.underlying 83=some (.array 4 3):=by kernel_rfl
theorem F.u3:SC.underlying 3=some (.int .i64):=by kernel_rfl
theorem adY{P:SJ}{t e:TypeId}{k0:TU}{n:Nat}{xs ys:List Int}(ht:P.underlying t=some (.array n e))(he:P.underlying e=some (.int k0))(hs:(P.info? e).map (·.size)=some 1)(hg:P.eqGuardType P.depth t=false)(hx:xs.length=n)(hy:ys.length=n)(k:AV->Prop):
  dp P .neq t (.agg (xs.map iv)) (.agg (ys.map iv)) k=k (bv (!(xs==ys))):=by
 obtain⟨i,hi,hs⟩:=Tq.1 hs;have vR:=acu ht he hi hs hx hy;have e:dp P .neq t (.agg (xs.map iv)) (.agg (ys.map iv)) k=((VT=.eql\/VT=.neq)/\ao (AV.raw (.agg (xs.map iv))) λX=>ao (AV.raw (.agg (ys.map iv))) λY=>wV X Y=true/\P.eqGuardType P.depth t=false/\∃e,cr P (Xe t X Y) e/\k (.val (.bool (if VT== .neq then !e else e)))):=rfl;rw[e,xY,xY,v7,v7];apply propext;constructor
 ·rintro⟨_,_,_,b,h1,h2⟩
  rw[vR.uniq h1];exact h2
 ·intro h;exact⟨.inr rfl,rfl,hg,_,vR,h⟩
theorem F.R9:(SC.info? 3).map (·.size)=some 1:=by kernel_rfl
theorem F.g83:SC.eqGuardType SC.depth 83=false:=by kernel_rfl
theorem ahc{a b:List Int}(ha:a.length=11)(hb:b.length=11)(hk:k (bv (sd a b)) H):bc lv SC 128 H [.agg (a.map iv),.agg (b.map iv)] k kp:=by
 refine bF (rs:=[.tmp 4]) (nt:=32) Tryz.f128 λhH hA=> ?_;simp only[bk,SX];have ham:(a.map iv).length=11:=by rw[Tn,ha]
 have vA:(b.map iv).length=11:=by rw[Tn,hb]
 have ea:a.map iv=(a.take 4).map iv++(((a.drop 4).take 4).map iv++(a.drop 8).map iv):=by
  rw[<- TE,<- TE];congr 1;have:(a.drop 4).take 4++a.drop 8=a.drop 4:=by
   conv=>rhs;rw[<- Ve 4 (a.drop 4)]
   rw[aj_]
  rw[this,Ve]
 have eb:b.map iv=(b.take 4).map iv++(((b.drop 4).take 4).map iv++(b.drop 8).map iv):=by
  rw[<- TE,<- TE];congr 1;have:(b.drop 4).take 4++b.drop 8=b.drop 4:=by
   conv=>rhs;rw[<- Ve 4 (b.drop 4)]
   rw[aj_]
  rw[this,Ve]
 refine ak ?_;refine aj ?_;simp only[seval,ham,vA,ha,hb];have FA:(a.take 4).length=4:=by simp[ha]
 have KQ:(b.take 4).length=4:=by simp[hb]
 have KO:((a.drop 4).take 4).length=4:=by simp[ha]
 have RN:((b.drop 4).take 4).length=4:=by simp[hb]
 have KP:(a.drop 8).length=3:=by simp[ha]
 have RO:(b.drop 8).length=3:=by simp[hb]
 rw[<- VS,<- VS,adY F.Df F.u3 F.R9 F.g83 FA KQ];refine aE ?_;refine⟨λh=> ?_,λh=> ?_⟩
 ·refine eI 4 ?_;simp only[seval];have c1:=λk kp=>IF (lv:=lv) (k:=k) (kp:=kp) (H:=H++[.cells (a.map iv) 86,.cells (b.map iv) 86]) (xs:=a.take 4) (ys:=b.take 4) (ia:=H.length) (ib:=H.length+1) (oa:=0) (ob:=0) (pa:=[]) (pb:=[]) (aW H _ 0) (aW H _ 1) ea rfl eb rfl (by rw[FA,KQ]) (by rw[FA];exact SP _);simp only[FA,KQ]at c1;refine aJ ((c1 _ _ ?_));(try simp only[seval]);refine a_ ?_;rw[sd,if_neg (by simpa using h)]at hk;exact lr hH hk
 ·have h:=(by simpa using h:a.take 4=b.take 4);rw[sd,if_pos h]at hk;refine aO ?_;refine eI 4 ?_;simp only[seval];have c2:=λk kp=>IF (lv:=lv) (k:=k) (kp:=kp) (H:=H++[.cells (a.map iv) 86,.cells (b.map iv) 86]) (xs:=(a.drop 4).take 4) (ys:=(b.drop 4).take 4) (ia:=H.length) (ib:=H.length+1) (oa:=4) (ob:=4) (pa:=(a.take 4).map iv) (pb:=(b.take 4).map iv) (aW H _ 0) (aW H _ 1) ea (by simp[ha]) eb (by simp[hb]) (by rw[KO,RN]) (by rw[KO];exact SP _);simp only[KO,RN]at c2;refine aJ ((c2 _ _ ?_));(try simp only[seval]);refine ak ?_;refine aE ?_;refine⟨λh2=> ?_,λh2=> ?_⟩
  ·refine ak ?_;refine a_ ?_;rw[if_pos (by simpa using h2)]at hk;exact lr hH hk
  ·refine aO ?_;rw[if_neg (by simpa using h2)]at hk;refine eI 4 ?_;simp only[seval];have c3:=λk kp=>IF (lv:=lv) (k:=k) (kp:=kp) (H:=H++[.cells (a.map iv) 86,.cells (b.map iv) 86]) (xs:=a.drop 8) (ys:=b.drop 8) (ia:=H.length) (ib:=H.length+1) (oa:=8) (ob:=8) (pa:=(a.take 4).map iv++((a.drop 4).take 4).map iv) (pb:=(b.take 4).map iv++((b.drop 4).take 4).map iv) (ra:=[]) (rb:=[]) (aW H _ 0) (aW H _ 1) (by rw[ea];simp) (by simp[ha]) (by rw[eb];simp) (by simp[hb]) (by rw[KP,RO]) (by rw[KP];omega);simp only[KP,RO]at c3;refine aJ ((c3 _ _ ?_));(try simp only[seval]);refine a_ ?_;exact lr hH hk
end
open Go.Conc Go.Proofs Go.Gg.Tk
theorem F8{α:Type}{g:α->AV}{ca pa ra:List AV}{xs:List α}{o i:Nat}{x:α}(hc:ca=pa++(xs.map g++ra))(ho:pa.length=o)(h:xs[i]?=some x):ca.drop (o+i)=g x::((xs.drop (i+1)).map g++ra):=by
 subst hc ho;rw[Vt,TS (by omega),UC,show pa.length+i-pa.length=i by omega,Vt,yG h,show i-(xs.map g).length=0 by have:=eM h;simp;omega,Xw];rfl
theorem F9{α:Type}{g:α->AV}{ca pa ra:List AV}{xs:List α}{o i:Nat}{y:α}(hc:ca=pa++(xs.map g++ra))(ho:pa.length=o)(h:i<xs.length):ca.take (o+i)++[g y]++ca.drop (o+i+1)=pa++((xs.set i y).map g++ra):=by
 subst hc ho;have h1:(pa++(xs.map g++ra)).take (pa.length+i)=pa++(xs.map g).take i:=by
  rw[List.take_append,SW (by omega),show pa.length+i-pa.length=i by omega,Tx (by simp;omega)]
 have h2:(pa++(xs.map g++ra)).drop (pa.length+i+1)=(xs.map g).drop (i+1)++ra:=by
  rw[Vt,TS (by omega),UC,show pa.length+i+1-pa.length=i+1 by omega,Wn (by simp;omega)]
 rw[h1,h2,<- MH h];simp[SD]
namespace Tk
def Kn.l (F:Kn)(mp:Nat):List AV:=bv F.has:: .mp mp::(F.aA.map (λn=>wv n)++(F.hours.map (λn=>wv n)++(F.less.map (λn=>wv n)++(F.aT.map (λn=>wv n)++F.first.map iv))))
structure bI (F:Kn):Prop where
 aA:F.aA.length=4
 hours:F.hours.length=4
 less:F.less.length=4
 aT:F.aT.length=3
 first:F.first.length=11
 me:∀n∈F.aA,n<65536
 mB:∀n∈F.hours,n<65536
 mK:∀n∈F.less,n<65536
 lM:∀n∈F.aT,n<65536
 h4:∀h∈F.aL,h.length=4
theorem Kn.len{F:Kn}(h:bI F)(mp:Nat):(F.l mp).length=28:=by simp[Kn.l,h.aA,h.hours,h.less,h.aT,h.first]
theorem Kn.Gb{F:Kn}{mp p n:Nat}(h:F.aA[p]?=some n):(F.l mp).drop (2+p)=wv n::((F.aA.drop (p+1)).map (λn=>wv n)++(F.hours.map (λn=>wv n)++(F.less.map (λn=>wv n)++(F.aT.map (λn=>wv n)++F.first.map iv)))):=F8 (pa:=[bv F.has,.mp mp]) rfl rfl h
theorem Kn.aaW{F:Kn}{mp p v:Nat}(h:p<F.aA.length):(F.l mp).take (2+p)++[wv v]++(F.l mp).drop (2+p+1)=({F with aA:=F.aA.set p v}:Kn).l mp:=F9 (g:=λn=>wv n) (pa:=[bv F.has,.mp mp]) rfl rfl h
theorem Kn.Kt{F:Kn}(k:bI F){mp p n:Nat}(h:F.hours[p]?=some n):(F.l mp).drop (6+p)=wv n::((F.hours.drop (p+1)).map (λn=>wv n)++(F.less.map (λn=>wv n)++(F.aT.map (λn=>wv n)++F.first.map iv))):=F8 (pa:=bv F.has:: .mp mp::F.aA.map (λn=>wv n)) rfl (by simp[k.aA]) h
theorem Kn.Rs{F:Kn}(k:bI F){mp p v:Nat}(h:p<F.hours.length):(F.l mp).take (6+p)++[wv v]++(F.l mp).drop (6+p+1)=({F with hours:=F.hours.set p v}:Kn).l mp:=F9 (g:=λn=>wv n) (pa:=bv F.has:: .mp mp::F.aA.map (λn=>wv n)) rfl (by simp[k.aA]) h
theorem Kn.LD{F:Kn}(k:bI F){mp p n:Nat}(h:F.less[p]?=some n):(F.l mp).drop (10+p)=wv n::((F.less.drop (p+1)).map (λn=>wv n)++(F.aT.map (λn=>wv n)++F.first.map iv)):=F8 (pa:=bv F.has:: .mp mp::(F.aA.map (λn=>wv n)++F.hours.map (λn=>wv n))) (by simp[Kn.l]) (by simp[k.aA,k.hours]) h
theorem Kn.aag{F:Kn}(k:bI F){mp p v:Nat}(h:p<F.less.length):(F.l mp).take (10+p)++[wv v]++(F.l mp).drop (10+p+1)=({F with less:=F.less.set p v}:Kn).l mp:=by
 have:=F9 (g:=λn=>wv n) (ca:=F.l mp) (y:=v) (pa:=bv F.has:: .mp mp::(F.aA.map (λn=>wv n)++F.hours.map (λn=>wv n))) (ra:=F.aT.map (λn=>wv n)++F.first.map iv) (by simp[Kn.l]) (show _=10 by simp[k.aA,k.hours]) h;rw[this];simp[Kn.l]
theorem Kn.CU{F:Kn}(k:bI F){mp p n:Nat}(h:F.aT[p]?=some n):(F.l mp).drop (14+p)=wv n::((F.aT.drop (p+1)).map (λn=>wv n)++F.first.map iv):=F8 (pa:=bv F.has:: .mp mp::(F.aA.map (λn=>wv n)++(F.hours.map (λn=>wv n)++F.less.map (λn=>wv n)))) (by simp[Kn.l]) (by simp[k.aA,k.hours,k.less]) h
theorem Kn.abe{F:Kn}(k:bI F){mp p v:Nat}(h:p<F.aT.length):(F.l mp).take (14+p)++[wv v]++(F.l mp).drop (14+p+1)=({F with aT:=F.aT.set p v}:Kn).l mp:=by
 have:=F9 (g:=λn=>wv n) (ca:=F.l mp) (y:=v) (pa:=bv F.has:: .mp mp::(F.aA.map (λn=>wv n)++(F.hours.map (λn=>wv n)++F.less.map (λn=>wv n)))) (ra:=F.first.map iv) (by simp[Kn.l]) (show _=14 by simp[k.aA,k.hours,k.less]) h;rw[this];simp[Kn.l]
theorem Kn.Bj{F:Kn}{mp:Nat}:(F.l mp)[0]?=some (bv F.has):=rfl
theorem Kn.ago{F:Kn}{mp:Nat}:(F.l mp).drop 1=.mp mp::(F.aA.map (λn=>wv n)++(F.hours.map (λn=>wv n)++(F.less.map (λn=>wv n)++(F.aT.map (λn=>wv n)++F.first.map iv)))):=rfl
theorem Kn.apA{F:Kn}{mp:Nat}:(F.l mp).take 0++[bv true]++(F.l mp).drop (0+1)=({F with has:=true}:Kn).l mp:=rfl
theorem Kn.abR{F:Kn}(k:bI F){mp:Nat}{t:List Int}(ht:t.length=11):(F.l mp).take 17++t.map iv++(F.l mp).drop (17+11)=({F with first:=t}:Kn).l mp:=by
 have e:F.l mp=(bv F.has:: .mp mp::(F.aA.map (λn=>wv n)++(F.hours.map (λn=>wv n)++(F.less.map (λn=>wv n)++F.aT.map (λn=>wv n)))))++F.first.map iv:=by simp[Kn.l]
 have hl:(bv F.has::AV.mp mp::(F.aA.map (λn=>wv n)++(F.hours.map (λn=>wv n)++(F.less.map (λn=>wv n)++F.aT.map (λn=>wv n))))).length=17:=by simp[k.aA,k.hours,k.less,k.aT]
 rw[TS (by rw[Kn.len k];omega),e,Tx (by omega),SW (by omega),SY];simp[Kn.l]
structure jj (x:ai)(t:List Int):Prop where
 len:t.length=11
 bz:mo (t.take 4)
 num:∀p,p<x.pieces.length->∃n:Nat,t[4+p]?=some (n:Int)/\n<9/\0<=je (t.take 4) (n+t.getD 0 0)
 own:∀s,s<x.aC.length->∃o:Nat,t[8+s]?=some (o:Int)/\o<4
end Tk
def setH (hs:List (List Int)):aa:=.obj (.map (hs.zipIdx.map eo).toArray hs.length)
theorem qi{H:List aa}{i:Nat}{x:aa}(h:H[i]?=some x):H.set i x=H:=by
 apply Ym;intro j;rw[UI];split
 ·rename_i e;subst e;rw[if_pos (eM h)];exact h.symm
 ·rfl
theorem uJ{H L:List aa}{i:Nat}{x:aa}(h:i<H.length):(H++L).set i x=H.set i x++L:=Ww _ _ h
section
variable {lv:Bool}{H:List aa}{k kp:AV->List aa->Prop}
theorem N5{F:Kn}{t:List Int}(h:bI F)(ht:t.length=11):bI (jJ F t):=by
 unfold jJ;split
 ·exact h
 ·exact⟨h.aA,h.hours,h.less,h.aT,ht,h.me,h.mB,h.mK,h.lM,h.h4⟩
theorem CF{l:List Nat}{i v:Nat}(h:∀n∈l,n<65536)(hv:v<65536):∀n∈l.set i v,n<65536:=λn hn=>by
 rcases UK hn with h'|rfl
 ·exact h n h'
 ·exact hv
theorem Tk.bI.C2{G:Kn}(h:bI G){i v:Nat}(hv:v<65536):bI {G with aT:=G.aT.set i v}:=⟨h.aA,h.hours,h.less,by simp[h.aT],h.first,h.me,h.mB,h.mK,CF h.lM hv,h.h4⟩
theorem Tk.bI.abW{G:Kn}(h:bI G){i v:Nat}(hv:v<65536):bI {G with aA:=G.aA.set i v}:=⟨by simp[h.aA],h.hours,h.less,h.aT,h.first,CF h.me hv,h.mB,h.mK,h.lM,h.h4⟩
theorem Tk.bI.abU{G:Kn}(h:bI G){i v:Nat}(hv:v<65536):bI {G with hours:=G.hours.set i v}:=⟨h.aA,by simp[h.hours],h.less,h.aT,h.first,h.me,CF h.mB hv,h.mK,h.lM,h.h4⟩
theorem Tk.bI.abV{G:Kn}(h:bI G){i v:Nat}(hv:v<65536):bI {G with less:=G.less.set i v}:=⟨h.aA,h.hours,by simp[h.less],h.aT,h.first,h.me,h.mB,CF h.mK hv,h.lM,h.h4⟩
theorem DT{l:List Nat}{i n v:Nat}(h:l[i]?=some n):oG l i v=l.set i (n|||2^v):=by
 unfold oG;rw[SF,h];rfl
theorem abT(hs:List (List Int)):setH hs=.obj (.map (hs.zipIdx.map eo).toArray hs.length):=rfl
theorem abS(hs:List (List Int))(h:List Int):setH (hs++[h])=.obj (.map ((hs.zipIdx++[(h,hs.length)]).map eo).toArray (hs.length+1)):=by
 rw[abT,List.zipIdx_append,SQ];simp
theorem Do{α:Type}{l:List α}{y:α×Nat}(h:y∈l.zipIdx):y.1∈l:=by
 obtain⟨a,b⟩:=y;have:=List.mem_zipIdx h;simp at this;rw[this.2];exact Wr _
theorem IT{x:List Int}{hs:List (List Int)}:(pF x hs.zipIdx 0=none/\x∉hs)\/(∃i b,pF x hs.zipIdx 0=some (i,.bool true)/\hs.zipIdx[i]?=some (x,b)/\x∈hs):=by
 cases h:pF x hs.zipIdx 0 with
 |none=>
  refine .inl ⟨rfl,λhm=> ?_⟩;obtain⟨i,hi⟩:=UP.1 hm;have:(x,i)∈hs.zipIdx:=UP.2 ⟨i,by rw[List.getElem?_zipIdx,hi];simp⟩;exact Pn h _ this rfl
 |some p=>
  obtain⟨i,v⟩:=p;obtain⟨b,_,h2,rfl⟩:=Po h;rw[ZU]at h2;exact .inr ⟨i,b,rfl,h2,Do (y:=(x,b)) (Te h2)⟩
theorem F.i3:∃i,SC.info? 3=some i/\i.size=1:=by
 obtain⟨i,h1,h2⟩:=Tq.1 F.R9;exact⟨i,h1,h2⟩
theorem uH{H L:List aa}{i:Nat}{z:aa}(h:i<H.length):(H.set i z++L)[i]?=some z:=by
 rw[SZ (by simpa using h),UI,if_pos rfl,if_pos h]
theorem uI{H L:List aa}{i:Nat}{z y:aa}(h:i<H.length):(H.set i z++L).set i y=H.set i y++L:=by
 rw[uJ (by simpa using h),W4]
theorem ah0{x:ai}{t:List Int}{deep:Int}{fp mp:Nat}{Q:Kn}(hx:x.Ok)(ht:jj x t)(hQ:bI Q)(lZ:fp≠mp)(hf:H[fp]?=some (.cells (Q.l mp) 88))(hm:H[mp]?=some (setH Q.aL))(hk:k (.aK []) ((H.set fp (.cells ((ey x deep Q t).l mp) 88)).set mp (setH (ey x deep Q t).aL))):bc lv SC 99 H [.op fp 0,x.av,.agg (t.map iv),iv deep] k kp:=by
 refine bF (rs:=[]) (nt:=135) Tryz.f99 λhH hA=> ?_;simp only[bk,SX,ai.av];have jY:=ht.len;have I_:(t.map iv).length=11:=by rw[Tn,jY]
 have lY:=eM hf;have B1:=eM hm;have Q0:=Kn.len hQ mp;have bN:x.l=[iv x.first,iv x.hours,iv x.am,dN x.seen,aY x.pieces,aY x.aC]:=rfl;have dt:∀(L:List aa) i,(H++L)[H.length+i]?=L[i]?:=λL i=>aW H L i;obtain⟨R1,pI⟩:∃R1,R1=jJ Q t:=⟨_,rfl⟩;have ng:bI R1:=by rw[pI];exact N5 hQ jY
 have Bx:R1.aL=Q.aL:=by rw[pI];unfold jJ;split<;>rfl
 obtain⟨H1,lx⟩:∃H1,H1=H.set fp (.cells (R1.l mp) 88):=⟨_,rfl⟩;have cR:H1.length=H.length:=by rw[lx,TF]
 have w8:H1[fp]?=some (.cells (R1.l mp) 88):=by rw[lx,UI,if_pos rfl,if_pos lY]
 have Et:H1[mp]?=some (setH R1.aL):=by rw[lx,T6 lZ,Bx];exact hm
 have akh:∀G:Kn,∀hs:List (List Int),bM ((H1.set fp (.cells (G.l mp) 88)).set mp (setH hs)):=λG hs=>by
  have hl:((H1.set fp (.cells (G.l mp) 88)).set mp (setH hs)).length=H.length:=by rw[TF,TF,cR]
  intro z hz;rw[hl];rcases UK hz with hz|rfl
  ·rcases UK hz with hz|rfl
   ·rw[lx]at hz;rcases UK hz with hz|rfl
    ·exact hH z hz
    ·intro a ha;simp only[Kn.l,SL,SS,Tm]at ha;rcases ha with rfl|rfl|⟨_,_,rfl⟩|⟨_,_,rfl⟩|⟨_,_,rfl⟩|⟨_,_,rfl⟩|⟨_,_,rfl⟩
     ·exact .val _
     ·exact .mp (by omega)
     all_goals exact .val _
   ·intro a ha;simp only[Kn.l,SL,SS,Tm]at ha;rcases ha with rfl|rfl|⟨_,_,rfl⟩|⟨_,_,rfl⟩|⟨_,_,rfl⟩|⟨_,_,rfl⟩|⟨_,_,rfl⟩
    ·exact .val _
    ·exact .mp (by omega)
    all_goals exact .val _
  ·trivial
 have ik:k (.aK []) ((H1.set fp (.cells ((ey x deep Q t).l mp) 88)).set mp (setH (ey x deep Q t).aL)):=by rw[lx,W4];exact hk
 have dY:∀(G:Kn)(hs:List (List Int))(L:List aa),ey x deep Q t=G->G.aL=hs->cD H1.length ((H1.set fp (.cells (G.l mp) 88)).set mp (setH hs)++L) (.aK []) k:=λG hs L hG iH=>by
  subst hG iH;exact jN (Wk.refl _) rfl (by rw[TF,TF,cR];exact SP _) (akh _ _) (by simp[jz]) ik
 have aF:ey x deep Q t=(if deep=2 then{R1 with aT:=mM t x.aC.length R1.aT}else if deep=0 then{R1 with aL:=jA R1.aL (t.take 4)}else{R1 with aA:=rz t x.pieces.length R1.aA,hours:=vQ t x.pieces.length R1.hours,less:=xP t x.pieces.length x.pieces.length R1.less}):=by rw[pI];rfl
 rw[aF]at dY;clear hk ik aF;refine ak ?_;refine aj ?_;simp only[seval,fI hf,Kn.Bj];refine aE ?_;refine⟨λhc=> ?ga,λhc=> ?gb⟩
 case' ga=>
  have e1:R1={Q with has:=true,first:=t}:=by rw[pI];unfold jJ;rw[hc];rfl
  have eH:∀L:List aa,(H++L).set fp (.cells (({Q with has:=true}:Kn).l mp) 88)=H.set fp (.cells (({Q with has:=true}:Kn).l mp) 88)++L:=λL=>uJ lY;have EB:bI {Q with has:=true}:=⟨hQ.aA,hQ.hours,hQ.less,hQ.aT,hQ.first,hQ.me,hQ.mB,hQ.mK,hQ.lM,hQ.h4⟩;have ajW:=Kn.len EB mp;have GD:=Kn.abR EB (mp:=mp) (t:=t) jY;have zv:T_ 11 (t.map iv)=t.map iv:=SW (by omega);have ajH:∀(z:aa)(L:List aa),(H.set fp z++L)[H.length+1]?=L[1]?:=λz L=>by have:=aW (H.set fp z) L 1;rwa [TF]at this
  refine qE [5,8] [0,1,2,3,4,5,6,7,8] [⟨0,false,[],[]⟩,⟨1,false,[],[([5],[5])]⟩,⟨2,false,[],[([5],[5])]⟩,⟨3,false,[],[]⟩,⟨4,false,[],[]⟩,⟨5,true,[5],[]⟩,⟨6,false,[5],[]⟩,⟨7,false,[5],[]⟩,⟨8,true,[5,8],[]⟩] (λD=>bif isDone 8 D then H1++[.cells x.l 76,.cells (t.map iv) 86]else bif isDone 5 D then H.set fp (.cells (({Q with has:=true}:Kn).l mp) 88)++[.cells x.l 76,.cells (t.map iv) 86]else H++[.cells x.l 76,.cells (t.map iv) 86]) ?_;simp only[seval,fI hf,uH lY,uI lY,uJ lY,Q0,ajW,jY,I_,zv,ajH];have eL:(AV.val (.bool true)::(T_ 16 (Ue 1 (Q.l mp))++t.map iv++Ue 27 (Ue 1 (Q.l mp))))=R1.l mp:=by rw[e1];exact GD
  refine⟨by rfl,by rw[Uj,Q0];omega,by rw[eL,lx],?_⟩;rw[eL,<- lx,<- cR]
 case' gb=>
  have e1:R1=Q:=by rw[pI];unfold jJ;rw[hc];rfl
  have Iv:H1=H:=by rw[lx,e1];exact qi hf
  refine aO ?_;rw[<- Iv]
 all_goals
  clear hc e1;have lB:fp<H1.length:=by omega
  have aQ:∀(L:List aa),(H1++L)[H1.length]?=L[0]?:=λL=>aW H1 L 0;have c9:∀(L:List aa),(H1++L)[H1.length+1]?=L[1]?:=λL=>aW H1 L 1;have dw:∀(z:aa)(L:List aa),(H1.set fp z++L)[H1.length]?=L[0]?:=λz L=>by have:=aW (H1.set fp z) L 0;rwa [TF]at this
  have dF:∀(z:aa)(L:List aa),(H1.set fp z++L)[H1.length+1]?=L[1]?:=λz L=>by have:=aW (H1.set fp z) L 1;rwa [TF]at this
  have Fu:∀G:Kn,G.aL=R1.aL->(H1.set fp (.cells (G.l mp) 88)).set mp (setH R1.aL)=H1.set fp (.cells (G.l mp) 88):=λG _=>qi (by rw[T6 lZ];exact Et);refine ak ?_;refine ak ?_;refine aE ?_;refine⟨λh2=> ?_,λh2=> ?_⟩
  ·
   replace h2:deep=2:=(by simpa using h2);have xC:=hx.eF;rw[if_pos h2]at dY;refine aj ?_;simp only[seval,aQ,bN,aY];refine cI ?_;refine gJ x.aC.length (λi:Nat=>[(30,iv i)]) (λi=>H1.set fp (.cells (({R1 with aT:=mM t i R1.aT}:Kn).l mp) 88)++[.cells x.l 76,.cells (t.map iv) 86]) (λi=>bI {R1 with aT:=mM t i R1.aT}) (λ_ _=>rfl) (by simp only[seval];simp[bA,Wk.refl]) (by rw[show ({R1 with aT:=mM t 0 R1.aT}:Kn)=R1 from rfl,qi w8];rfl) (λ_ _ _=>by simp) ng (λce db i cN ay R hR=> ?_);refine ak ?_;refine aE ?_;refine⟨λh3=> ?_,λh3=> ?_⟩
   ·have bx:i<x.aC.length:=(by omega);obtain⟨o,ho,ho4⟩:=ht.own i bx;have p_:rG t i=o:=(by unfold rG;rw[SF,ho];rfl);obtain⟨n,hn⟩:=cy (xs:=mM t i R1.aT) (i:=i) (by have:=ay.aT;simp only at this;omega);have B4:n<65536:=ay.lM n (Te hn);have b3:(0<=(i:Int)/\(i:Int)<3)=True:=(by simp;omega);have bP:SE.wrap ((i:Int)+1)=((i+1:Nat):Int):=(by rw[bG _ (by omega)];rfl);have zl:=Kn.CU ay (mp:=mp) (p:=i) (n:=n) hn;have pY:=Kn.abe ay (mp:=mp) (p:=i) (v:=n|||2^o) (eM hn);have dl:=Kn.len ay mp;refine aO ?_;refine ak ?_;refine eI 15 ?_;simp only[seval,dF,uH lB,uI lB,b3,zl,kL ho];refine iy (wv (n|||2^o)) (cJ (tP B4 (show o<16 by omega) ⟨rfl,rfl⟩)) ?_;(try simp only[seval,uH lB,uI lB,b3,dl]);refine⟨by omega,?_⟩;rw[pY];refine aj ?_;simp only[seval,bP];have cZ:mM t (i+1) R1.aT=(mM t i R1.aT).set i (n|||2^o):=(by rw[mM,p_,DT hn]);refine hR _ ⟨bx,?_,?_⟩
    ·rw[cZ];exact ay.C2 (pj B4 (wn (by omega)))
    ·rw[cZ];exact dD
   ·have du:i=x.aC.length:=(by omega);subst du;have:=dY _ R1.aL [.cells x.l 76,.cells (t.map iv) 86] rfl rfl;rw[Fu {R1 with aT:=mM t x.aC.length R1.aT} rfl]at this;refine b_ ?_;refine a_ ?_;exact this
  ·replace h2:¬deep=2:=(by simpa using h2);rw[if_neg h2]at dY;refine ak ?_;refine aE ?_;refine⟨λh3=> ?_,λh3=> ?_⟩
   ·
    replace h3:deep=0:=(by simpa using h3);rw[if_pos h3]at dY;have Ci:(t.take 4).length=4:=(by simp[jY]);have sH:∀L:List aa,(H1++L)[mp]?=some (.obj (.map (R1.aL.zipIdx.map eo).toArray R1.aL.length)):=λL=>fI Et;have hfp:∀L:List aa,(H1++L)[fp]?=some (.cells (R1.l mp) 88):=λL=>fI w8;have Re:mp<H1.length:=(by omega);obtain⟨i3,pM,o0⟩:=F.i3;have Ja:∀y∈R1.aL.zipIdx,y.1.length=4:=λy hy=>ng.h4 _ (Do hy);have ER:=acw (ts:=R1.aL.zipIdx) F.Df F.u3 pM o0 Ci Ja;have EM:=λb=>acr (b:=b) (k:=.i64) (d:=9998) F.Df F.u3 pM o0 Ci;refine eI 6 ?_;simp only[seval,hfp,c9,sH,Kn.ago,jY,I_];rw[<- VS];refine d_ (xY _) (d_ rfl ⟨EM _,_,ER,?_,?_⟩)
    ·intro i v xr;rcases IT (x:=t.take 4) (hs:=R1.aL)with⟨h,_⟩|⟨i',b,h,h2,_⟩
     ·rw[h]at xr;cases xr
     ·rw[h]at xr;cases xr;rw[To,h2];exact apf _
    ·rcases IT (x:=t.take 4) (hs:=R1.aL)with⟨h,hn⟩|⟨i',b,h,h2,hn⟩
     ·rw[h,abl,uJ Re];have:=dY _ _ [.cells x.l 76,.cells (t.map iv) 86] rfl rfl;rw[show jA R1.aL (t.take 4)=R1.aL++[t.take 4] by rw[jA,if_neg hn],abS]at this;rw[show H1.set fp (.cells (({R1 with aL:=R1.aL++[t.take 4]}:Kn).l mp) 88)=H1 from qi w8]at this;refine a_ ?_;exact this
     ·rw[h,anW h2,uJ Re];have:=dY _ _ [.cells x.l 76,.cells (t.map iv) 86] rfl rfl;rw[show jA R1.aL (t.take 4)=R1.aL by rw[jA,if_pos hn],abT]at this;rw[show H1.set fp (.cells (({R1 with aL:=R1.aL}:Kn).l mp) 88)=H1 from qi w8]at this;refine a_ ?_;exact this
   ·
    replace h3:¬deep=0:=(by simpa using h3);rw[if_neg h3]at dY;refine aO ?_;have nw:=hx.c_;obtain⟨P,hP⟩:∃P:Nat->Kn,∀p,P p={R1 with aA:=rz t p R1.aA,hours:=vQ t p R1.hours,less:=xP t x.pieces.length p R1.less}:=⟨_,λ_=>rfl⟩;obtain⟨P',EA⟩:∃P':Nat->Nat->Kn,∀p q,P' p q={R1 with aA:=rz t (p+1) R1.aA,hours:=vQ t (p+1) R1.hours,less:=vY t p q (xP t x.pieces.length p R1.less)}:=⟨_,λ_ _=>rfl⟩;have P8:P 0=R1:=(by rw[hP];rfl);have hPs:∀p,P' p x.pieces.length=P (p+1):=λp=>(by rw[hP,EA];rfl);refine aj ?_;simp only[seval,aQ,bN,aY];refine cI ?_;refine gJ x.pieces.length (λi:Nat=>[(62,iv i)]) (λi=>H1.set fp (.cells ((P i).l mp) 88)++[.cells x.l 76,.cells (t.map iv) 86]) (λi=>bI (P i)) (λ_ _=>rfl) (by simp only[seval];simp[bA,Wk.refl]) (by rw[P8,qi w8];rfl) (λ_ _ _=>by simp) (by rw[P8];exact ng) (λce db p cN ay R hR=> ?_);refine ak ?_;refine aE ?_;refine⟨λh=> ?_,λh=> ?_⟩
    ·have dl:p<x.pieces.length:=(by omega);obtain⟨o,ho,ho9,p_⟩:=ht.num p dl;obtain⟨n,hn⟩:=cy (xs:=(P p).aA) (i:=p) (by have:=ay.aA;omega);obtain⟨m,fO⟩:=cy (xs:=(P p).hours) (i:=p) (by have:=ay.hours;omega);have B4:n<65536:=ay.me n (Te hn);have Q8:m<65536:=ay.mB m (Te fO);have b4:(0<=(p:Int)/\(p:Int)<4)=True:=(by simp;omega);have bP:SE.wrap ((p:Int)+1)=((p+1:Nat):Int):=(by rw[bG _ (by omega)];rfl);have zl:=Kn.Gb (mp:=mp) hn;have pY:=Kn.aaW (mp:=mp) (p:=p) (v:=n|||2^o) (eM hn);have Kx:=Kn.len ay mp;have lH:mi t p=o:=(by unfold mi;rw[SF,ho];rfl);refine aO ?_;refine ak ?_;refine eI 15 ?_;simp only[seval,dF,uH lB,uI lB,b4,zl,kL ho];refine iy (wv (n|||2^o)) (cJ (tP B4 (show o<16 by omega) ⟨rfl,rfl⟩)) ?_;(try simp only[seval,uH lB,uI lB,b4,Kx]);refine⟨by omega,?_⟩;rw[pY];obtain⟨c0,xh⟩:=cy (xs:=t) (i:=0) (by omega);have EK:t.getD 0 0=c0:=(by rw[SF,xh];rfl);rw[EK]at p_;have Qs:c0∈t.take 4:=by
      match t,jY,xh with
      |a::t',_,xh=>cases xh;simp
     have oU:=ht.bz.lo c0 Qs;have EV:=ht.bz.hi c0 Qs;have gY:SE.wrap ((o:Int)+c0)=(o:Int)+c0:=bG _ (by omega);have ajf:(t.map iv)[0]?=some (iv c0):=(by rw[To,xh];rfl);obtain⟨u,hu⟩:=Int.eq_ofNat_of_zero_le p_;have hu4:u<4:=by
      have h5:je (t.take 4) ((o:Int)+c0)<0+(t.take 4).length:=acL;rw[ht.bz.len,hu]at h5;omega
     have hth:C9 t p=u:=by
      unfold C9;rw[SF,ho,EK];simp only[S9];rw[hu];rfl
     obtain⟨G1,Bs⟩:∃G1,G1=({P p with aA:=(P p).aA.set p (n|||2^o)}:Kn):=⟨_,rfl⟩;have Bt:bI G1:=(by rw[Bs];exact ay.abW (pj B4 (wn (by omega))));have Ke:G1.hours[p]?=some m:=(by rw[Bs];exact fO);rw[<- Bs];have Rz:=Kn.Kt Bt (mp:=mp) Ke;have RB:=Kn.Rs Bt (mp:=mp) (p:=p) (v:=m|||2^u) (eM Ke);have RA:=Kn.len Bt mp;refine eI 22 ?_;simp only[seval,dF,uH lB,uI lB,b4,Rz,kL ho,I_,jY,gY];rw[<- VS];refine d_ ajf ?_;(try simp only[seval,gY]);refine iy (iv u) (cJ (Pl (h:=t.take 4) (n:=(o:Int)+c0) ht.bz.len ⟨by rw[hu],rfl⟩)) ?_;refine iy (wv (m|||2^u)) (cJ (tP Q8 (show u<16 by omega) ⟨rfl,rfl⟩)) ?_;(try simp only[seval,uH lB,uI lB,b4,RA]);refine⟨by omega,?_⟩;rw[RB];have Jn:({G1 with hours:=G1.hours.set p (m|||2^u)}:Kn)=P' p 0:=by
      rw[Bs,EA];simp only[hP]at hn fO⊢;rw[rz,lH,DT hn,vQ,hth,DT fO];rfl
     have ai1:bI (P' p 0):=(by rw[<- Jn];exact Bt.abU (pj Q8 (wn (by omega))));rw[Jn];clear pY zl Kx Bt Ke Rz RB RA Jn Bs hn fO ay;refine aj ?_;simp only[seval,dw,bN,aY];refine cI ?_;refine gJ x.pieces.length (λi:Nat=>[(108,iv i)]) (λi=>H1.set fp (.cells ((P' p i).l mp) 88)++[.cells x.l 76,.cells (t.map iv) 86]) (λi=>bI (P' p i)) (λ_ _=>rfl) (by simp only[seval];simp[bA,Wk.refl]) rfl (λ_ _ _=>by simp) ai1 (λP3 asA q Fs oY R' P_=> ?_);refine ak ?_;refine aE ?_;refine⟨λh=> ?_,λh=> ?_⟩
     ·have l6:q<x.pieces.length:=(by omega);obtain⟨o2,Rl,asM,_⟩:=ht.num q l6;have b4q:(0<=(q:Int)/\(q:Int)<4)=True:=(by simp;omega);have vT:SE.wrap ((q:Int)+1)=((q+1:Nat):Int):=(by rw[bG _ (by omega)];rfl);have cZ:P' p (q+1)={P' p q with less:=if o<o2 then oG (P' p q).less p q else(P' p q).less}:=by
       rw[EA,EA,vY];simp only[SF,ho,Rl,S9];by_cases hlt:o<o2
       ·rw[if_pos (by omega),if_pos hlt]
       ·rw[if_neg (by omega),if_neg hlt]
      refine aO ?_;refine ak ?_;refine eI 8 ?_;simp only[seval,dF,b4,b4q,kL ho,kL Rl];refine aE ?_;refine⟨λh=> ?_,λh=> ?_⟩
      ·have hlt:o<o2:=(by simpa using h);rw[if_pos hlt]at cZ;obtain⟨v,hv⟩:=cy (xs:=(P' p q).less) (i:=p) (by have:=oY.less;omega);have FD:v<65536:=oY.mK v (Te hv);have akm:=Kn.LD oY (mp:=mp) hv;have akq:=Kn.aag oY (mp:=mp) (p:=p) (v:=v|||2^q) (eM hv);have akp:=Kn.len oY mp;rw[DT hv]at cZ;refine eI 12 ?_;simp only[seval,uH lB,uI lB,b4,akm];refine iy (wv (v|||2^q)) (cJ (tP FD (show q<16 by omega) ⟨rfl,rfl⟩)) ?_;(try simp only[seval,uH lB,uI lB,b4,akp]);refine⟨by omega,?_⟩;rw[akq,<- cZ];refine aj ?_;simp only[seval,vT];refine P_ _ ⟨l6,?_,?_⟩
       ·rw[cZ];exact oY.abV (pj FD (wn (by omega)))
       ·exact dD
      ·have hlt:¬o<o2:=(by simpa using h);rw[if_neg hlt]at cZ;refine aO ?_;refine aj ?_;simp only[seval,vT];rw[show ({P' p q with less:=(P' p q).less}:Kn)=P' p q from rfl]at cZ;refine P_ _ ⟨l6,?_,?_⟩
       ·rw[cZ];exact oY
       ·rw[cZ];exact dD
     ·have hqe:q=x.pieces.length:=(by omega);subst hqe;rw[hPs]at oY⊢;refine b_ ?_;refine aj ?_;simp only[seval,bP];exact hR _ ⟨dl,oY,dD⟩
    ·have ew:p=x.pieces.length:=(by omega);subst ew;have:=dY _ R1.aL [.cells x.l 76,.cells (t.map iv) 86] rfl rfl;rw[<- hP,Fu (P _) (by rw[hP])]at this;refine b_ ?_;exact this
end
open Go.Conc Go.Proofs Go.Gg.Tk
namespace Tk
def gM (F:Kn)(hs:List (List Int))(G:Kn):Kn:=if G.has then⟨true,hs.foldl jA F.aL,lL F.aA G.aA,lL F.hours G.hours,lL F.less G.less,lL F.aT G.aT,if F.has=false\/sd G.first F.first then G.first else F.first⟩else F
def nG (l m:List Nat):Nat->List Nat
 |0=>l
 |i+1=>(nG l m i).set i ((nG l m i).getD i 0|||m.getD i 0)
end Tk
theorem Gm{l m:List Nat}{i a b:Nat}(ha:(nG l m i)[i]?=some a)(hb:m[i]?=some b):nG l m (i+1)=(nG l m i).set i (a|||b):=by
 rw[nG,SF,SF,ha,hb];rfl
theorem ang{l m:List Nat}(h:l.length=m.length){i:Nat}(hi:i<=l.length):nG l m i=lL (l.take i) (m.take i)++l.drop i:=by
 induction i with
 |zero=>simp[nG,lL]
 |succ i ih=>
  have hl:i<l.length:=by omega
  have hm:i<m.length:=by omega
  have e1:(lL (l.take i) (m.take i)).length=i:=by simp[lL];omega
  have e2:(nG l m i).getD i 0=l[i]:=by
   rw[ih (by omega),SF,Tj (by omega),e1];simp[hl]
  rw[nG,e2,ih (by omega),UO _ _ (by omega),e1,Vb,SF,SV hm,S9,TW hl,TY,VE,VE,SV hl,SV hm,YL,YL];unfold lL;rw[List.zipWith_append (by simp;omega)];simp
theorem Gl{l m:List Nat}(h:l.length=m.length){n:Nat}(hn:l.length=n):nG l m n=lL l m:=by
 subst hn;rw[ang h (SP _),h,TJ,TS (by omega),SY,<- h,TJ]
theorem ag5{lv:Bool}{H:List aa}{k kp:AV->List aa->Prop}{fp mp mg:Nat}{Q G:Kn}(hQ:bI Q)(hG:bI G)(lZ:fp≠mp)(vH:mg≠mp)(hf:H[fp]?=some (.cells (Q.l mp) 88))(hm:H[mp]?=some (setH Q.aL))(hg:H[mg]?=some (setH G.aL))(vN:G.aL.Nodup)(hk:∀hs:List (List Int),hs.Perm G.aL->k (.aK []) ((H.set fp (.cells ((gM Q hs G).l mp) 88)).set mp (setH (gM Q hs G).aL))):bc lv SC 102 H [.op fp 0,.agg (G.l mg)] k kp:=by
 refine bF (rs:=[]) (nt:=121) Tryz.f102 λhH hA=> ?_;simp only[bk,SX];have lY:=eM hf;have B1:=eM hm;have od:=eM hg;have ES:=Kn.len hG mg;have Fq:=Kn.len hQ mp;have sD:(G.l mg).drop 17=G.first.map iv:=by
  have e:G.l mg=(bv G.has:: .mp mg::(G.aA.map (λn=>wv n)++(G.hours.map (λn=>wv n)++(G.less.map (λn=>wv n)++G.aT.map (λn=>wv n)))))++G.first.map iv:=by simp[Kn.l]
  rw[e,Wn (by simp[hG.aA,hG.hours,hG.less,hG.aT]),TS (by simp[hG.aA,hG.hours,hG.less,hG.aT])];rfl
 refine ak ?_;refine aj ?_;simp only[seval,Kn.Bj];refine aE ?_;refine⟨λh=> ?_,λh=> ?_⟩
 ·
  have JU:G.has=false:=by simpa using h
  have:=hk G.aL (aa' _);rw[gM,JU]at this;simp only[TO,if_false]at this;rw[qi hf,qi hm]at this;refine a_ ?_;exact jM hH (Wk.refl _) (by simp[jz]) this
 ·have JU:G.has=true:=by simpa using h
  refine aO ?_;obtain⟨R1,pI⟩:∃R1,R1=(if Q.has=false\/sd G.first Q.first=true then{Q with first:=G.first}else Q):=⟨_,rfl⟩;have ng:bI R1:=by
   rw[pI];split
   ·exact⟨hQ.aA,hQ.hours,hQ.less,hQ.aT,hG.first,hQ.me,hQ.mB,hQ.mK,hQ.lM,hQ.h4⟩
   ·exact hQ
  have Bx:R1.aL=Q.aL:=by rw[pI];split<;>rfl
  obtain⟨H1,lx⟩:∃H1,H1=H.set fp (.cells (R1.l mp) 88):=⟨_,rfl⟩;have aQ:∀(L:List aa),(H++L)[H.length]?=L[0]?:=λL=>aW H L 0;have dw:∀(z:aa)(L:List aa),(H.set fp z++L)[H.length]?=L[0]?:=λz L=>by have:=aW (H.set fp z) L 0;rwa [TF]at this
  have jY:=hG.first;have zv:T_ 11 (G.first.map iv)=G.first.map iv:=SW (by rw[Tn];omega);have GD:T_ 17 (Q.l mp)++G.first.map iv++Ue 28 (Q.l mp)=({Q with first:=G.first}:Kn).l mp:=Kn.abR hQ jY;have RD:(Q.l mp).drop 17=Q.first.map iv:=by
   have e:Q.l mp=(bv Q.has:: .mp mp::(Q.aA.map (λn=>wv n)++(Q.hours.map (λn=>wv n)++(Q.less.map (λn=>wv n)++Q.aT.map (λn=>wv n)))))++Q.first.map iv:=(by simp[Kn.l]);rw[e,Wn (by simp[hQ.aA,hQ.hours,hQ.less,hQ.aT]),TS (by simp[hQ.aA,hQ.hours,hQ.less,hQ.aT])];rfl
  have RQ:T_ 11 (Q.first.map iv)=Q.first.map iv:=SW (by rw[Tn,hQ.first];exact SP _);have cR:H1.length=H.length:=by rw[lx,TF]
  cases Fp:Q.has
  case' true=>
   refine eI 12 ?_;simp only[seval,fI hf,Kn.Bj,Fp,aQ,sD,RD,ES,Fq,zv,RQ];refine⟨by omega,by have:=hQ.first;omega,?_⟩;refine aJ ((ahc hG.first hQ.first ?_));(try simp only[seval]);refine aE ?_;refine⟨λhb=> ?tt,λhb=> ?tf⟩
  case' false=>
   refine eI 12 ?_;simp only[seval,fI hf,Kn.Bj,Fp,aQ,sD,RD,ES,Fq,zv,RQ];refine aE ?_
  case' tt=>
   have e1:R1={Q with first:=G.first}:=(by rw[pI,if_pos (.inr hb)]);refine aj ?_;simp only[seval,fI hf,aQ,sD,ES,Fq,zv,jY,uJ lY];rw[GD,<- e1,<- lx,<- cR]
  case' tf=>
   have e1:R1=Q:=(by rw[pI,if_neg (by rw[Fp,hb];simp)]);have Iv:H1=H:=(by rw[lx,e1];exact qi hf);refine aO ?_;rw[<- Iv]
  case' false=>
   have e1:R1={Q with first:=G.first}:=(by rw[pI,if_pos (.inl Fp)]);refine aj ?_;simp only[seval,fI hf,aQ,sD,ES,Fq,zv,jY,uJ lY];rw[GD,<- e1,<- lx,<- cR]
  all_goals
   clear e1;have lB:fp<H1.length:=(by omega);have w8:H1[fp]?=some (.cells (R1.l mp) 88):=(by rw[lx,UI,if_pos rfl,if_pos lY]);have Et:H1[mp]?=some (setH R1.aL):=(by rw[lx,T6 lZ,Bx];exact hm);have QI:fp≠mg:=λe=>(by subst e;rw[hf]at hg;cases hg);have h1g:H1[mg]?=some (setH G.aL):=(by rw[lx,T6 QI];exact hg);obtain⟨R2,tT⟩:∃R2,R2=({R1 with has:=true}:Kn):=⟨_,rfl⟩;have eL:AV.val (.bool true)::Ue 1 (R1.l mp)=R2.l mp:=(by rw[tT];rfl);have Jp:R2.aL=Q.aL:=(by rw[tT];exact Bx);have tU:bI R2:=(by rw[tT];exact⟨ng.aA,ng.hours,ng.less,ng.aT,ng.first,ng.me,ng.mB,ng.mK,ng.lM,ng.h4⟩);refine aj ?_;simp only[seval,fI w8,uJ lB,Kn.apA];refine⟨by have:=Kn.len ng mp;omega,?_⟩;rw[eL];obtain⟨B,hB⟩:∃B:Kn->List (List Int)->List aa,∀K hs,B K hs=(H1.set fp (.cells (K.l mp) 88)).set mp (setH hs):=⟨_,λ_ _=>rfl⟩;have fJ:∀K hs,(B K hs).length=H1.length:=λK hs=>(by rw[hB,TF,TF]);have PX:∀K hs (L:List aa),(B K hs++L)[mp]?=some (.obj (.map (hs.zipIdx.map eo).toArray hs.length)):=λK hs L=>by
    rw[SZ (by rw[fJ];omega),hB,UI,if_pos rfl,if_pos (by rw[TF];omega)];rfl
   have Ev:∀K hs (L:List aa),(B K hs++L)[mg]?=some (.obj (.map (G.aL.zipIdx.map eo).toArray G.aL.length)):=λK hs L=>by
    rw[SZ (by rw[fJ];omega),hB,T6 (λe=>vH e.symm),T6 QI,h1g];rfl
   have nW:∀K hs (L:List aa),(B K hs++L)[fp]?=some (.cells (K.l mp) 88):=λK hs L=>by
    rw[SZ (by rw[fJ];omega),hB,T6 (λe=>lZ e.symm),UI,if_pos rfl,if_pos (by omega)]
   have aiZ:∀K hs oZ (L:List aa),(B K hs++L).set mp (setH oZ)=B K oZ++L:=λK hs oZ L=>by
    rw[Ww _ _ (by rw[fJ];omega),hB,hB,W4]
   have Ew:∀K hs K' (L:List aa),(B K hs++L).set fp (.cells (K'.l mp) 88)=B K' hs++L:=λK hs K' L=>by
    rw[Ww _ _ (by rw[fJ];omega),hB,hB,List.set_comm _ _ (λe=>lZ e.symm),W4]
   have PY:H1.set fp (.cells (R2.l mp) 88)=B R2 R2.aL:=by
    rw[hB];symm;exact qi (by rw[T6 lZ,Et,Jp,Bx])
   have aQ:∀K hs (L:List aa),(B K hs++L)[H1.length]?=L[0]?:=λK hs L=>(by rw[<- fJ K hs];exact aW _ L 0);have c9:∀K hs (L:List aa),(B K hs++L)[H1.length+1]?=L[1]?:=λK hs L=>(by rw[<- fJ K hs];exact aW _ L 1);have kT:∀K hs (L:List aa),(B K hs++L)[H1.length+2]?=L[2]?:=λK hs L=>(by rw[<- fJ K hs];exact aW _ L 2);have JQ:(G.l mg).drop 1=.mp mg::((G.l mg).drop 2):=rfl;have P6:∀K:Kn,(K.l mp).drop 1=.mp mp::((K.l mp).drop 2):=λ_=>rfl;have cE:∀(K:Kn)(hs:List (List Int)),bM (B K hs):=λK hs=>by
    intro z hz;rw[fJ];rw[hB]at hz;rcases UK hz with hz|rfl
    ·rcases UK hz with hz|rfl
     ·rw[lx]at hz;rcases UK hz with hz|rfl
      ·exact cR▸hH z hz
      ·intro a ha;simp only[Kn.l,SL,SS,Tm]at ha;rcases ha with rfl|rfl|⟨_,_,rfl⟩|⟨_,_,rfl⟩|⟨_,_,rfl⟩|⟨_,_,rfl⟩|⟨_,_,rfl⟩
       ·exact .val _
       ·exact .mp (by omega)
       all_goals exact .val _
     ·intro a ha;simp only[Kn.l,SL,SS,Tm]at ha;rcases ha with rfl|rfl|⟨_,_,rfl⟩|⟨_,_,rfl⟩|⟨_,_,rfl⟩|⟨_,_,rfl⟩|⟨_,_,rfl⟩
      ·exact .val _
      ·exact .mp (by omega)
      all_goals exact .val _
    ·trivial
   have dY:∀(hs:List (List Int))(K:Kn)(L:List aa),hs.Perm G.aL->gM Q hs G=K->cD H1.length (B K K.aL++L) (.aK []) k:=λhs K L hp hK=>by
    have:=hk hs hp;rw[hK]at this;subst hK;refine jN (Wk.refl _) rfl (by rw[fJ];exact SP _) (cE _ _) (by simp[jz]) ?_;rw[hB,lx,W4];exact this
   rw[PY];clear hk PY;refine aj ?_;simp only[seval,aQ,JQ,Ev];rw[fJ];have Qp:∀K hs (L:List aa) z,(B K hs++L).set (H1.length+1) z=B K hs++L.set 1 z:=λK hs L z=>by
    rw[UO _ _ (by rw[fJ];omega),fJ,U6]
   have aje:∀K hs (L:List aa) z,(B K hs++L).set (H1.length+2) z=B K hs++L.set 2 z:=λK hs L z=>by
    rw[UO _ _ (by rw[fJ];omega),fJ,U6]
   obtain⟨ts,dQ⟩:∃ts,ts=G.aL.zipIdx:=⟨_,rfl⟩;obtain⟨ck,EN⟩:∃ck,ck=G.aL.length:=⟨_,rfl⟩;rw[<- dQ,<- EN]at Ev;rw[<- EN];have hb:∀y∈ts,y.2<ck:=λy hy=>(by rw[dQ]at hy;have:=List.snd_lt_add_of_mem_zipIdx hy;omega);have B5:(ts.map (·.2)).Nodup:=(by rw[dQ,show (λy:List Int×Nat=>y.2)=Prod.snd from rfl,List.zipIdx_map_snd];exact List.nodup_range');have h4:∀y∈ts,y.1.length=4:=λy hy=>(by rw[dQ]at hy;exact hG.h4 _ (Do hy));have fy:=Oc ts ck hb;have KT:ts.map (·.1)=G.aL:=(by rw[dQ,show (λy:List Int×Nat=>y.1)=Prod.fst from rfl,List.zipIdx_map_fst]);clear dQ;obtain⟨ac,EE⟩:∃ac:List (List Int×Nat)->List (List Int),∀vs,ac vs=vs.foldl (λa y=>jA a y.1) R2.aL:=⟨_,λ_=>rfl⟩;have Qi:ac []=R2.aL:=(by rw[EE];rfl);have Jq:∀vs y,ac (vs++[y])=jA (ac vs) y.1:=λvs y=>(by rw[EE,EE,ZK];rfl);obtain⟨i3,pM,o0⟩:=F.i3;refine cI ?_;refine yu (measure λvs:List (List Int×Nat)=>ts.length-vs.length).wf (λvs=>[]) (λvs=>B R2 (ac vs)++[.cells (G.l mg) 88,.iter mg ck (vs.map (·.2)).toArray ck]) (λvs=>(vs.map (·.2)).Nodup/\(∀y∈vs,y∈ts)/\∀h∈ac vs,h.length=4) [] (λ_ _=>rfl) (by simp) (by rw[Qi];rfl) (λ_ _=>by simp[fJ]) ⟨by simp,by simp,by rw[Qi,Jp];exact hQ.h4⟩ (λce db vs ay R hR=> ?_);refine aj ?_;simp only[seval,c9,Ev,Qp];refine⟨fy.elim .inl (λh=> .inr (.inl h)),λe he hn=> ?_,λhs=> ?_⟩
   ·obtain⟨y,hy,rfl⟩:∃y∈ts,eo y=e:=(by simpa using he);refine aE ?_;refine aO ?_;refine cI ?_;have sq:=h4 y hy;have Jx:(eo y).born=y.2:=rfl;have hlen:(y.1.map iv).length=4:=(by simp[sq]);have JG:Ue 4 [AV.val (SG SE 0),AV.val (SG SE 0),AV.val (SG SE 0),AV.val (SG SE 0)]=[]:=rfl;refine aj ?_;simp only[seval,c9,Ev,Qp,aje,kT,fJ,Array.back?_push,Jx,Pq B5 hy,aaY,sq,hlen,JG];refine eI 10 ?_;simp only[seval,nW,P6,PX,kT,hlen,sq];have RP:T_ 4 (y.1.map iv)=y.1.map iv:=SW (by omega);have Ja:∀z∈(ac vs).zipIdx,z.1.length=4:=λz hz=>ay.2.2 _ (Do hz);have ER:=acw (ts:=(ac vs).zipIdx) F.Df F.u3 pM o0 sq Ja;have EM:=λb=>acr (b:=b) (k:=.i64) (d:=9998) F.Df F.u3 pM o0 sq;have Fo:((vs.map (·.2)).toArray.push y.2)=((vs++[y]).map (·.2)).toArray:=(by simp);have K0:y.2∉vs.map (·.2):=(by simpa[eo]using hn);have sI:((vs++[y]).map (·.2)).Nodup/\(∀z∈vs++[y],z∈ts)/\∀h∈ac (vs++[y]),h.length=4:=by
     refine⟨?_,λz hz=> ?_,λh hh=> ?_⟩
     ·rw[TE,U3];refine⟨ay.1,by simp,λa ha b hb=> ?_⟩;simp at hb;subst hb;intro e;subst e;exact K0 ha
     ·rcases SS.1 hz with h|h
      ·exact ay.2.1 z h
      ·rw[S8.1 h];exact hy
     ·rw[Jq,jA]at hh;split at hh
      ·exact ay.2.2 _ hh
      ·rcases SS.1 hh with h'|h'
       ·exact ay.2.2 _ h'
       ·rw[S8.1 h'];exact sq
    have hlen:vs.length<ts.length:=by
     have h1:(vs++[y]).Nodup:=CK _ sI.1;have:=h1.length_le_of_subset sI.2.1;simp at this;omega
    have q_:ts.length-(vs++[y]).length<ts.length-vs.length:=(by simp;omega);have Fh:∀sn,bM (B R2 (ac (vs++[y]))++[aa.cells (G.l mg) 88,aa.iter mg ck sn ck]):=λsn z hz=>by
     rcases SS.1 hz with h|h
     ·exact(cE _ _ z h).mono (by simp)
     ·have Jg:∀a∈G.l mg,Lt H1.length a:=λa ha=>by
       simp only[Kn.l,SL,SS,Tm]at ha;rcases ha with rfl|rfl|⟨_,_,rfl⟩|⟨_,_,rfl⟩|⟨_,_,rfl⟩|⟨_,_,rfl⟩|⟨_,_,rfl⟩
       ·exact .val _
       ·exact .mp (by omega)
       all_goals exact .val _
      simp only[SL,S4,or_false]at h;rcases h with rfl|rfl
      ·intro a ha;exact(Jg a ha).mono (by simp[fJ])
      ·show mg<_;simp[fJ];omega
    rw[RP];refine d_ F.Ny (d_ (xY _) ⟨EM _,_,ER,?_⟩);rcases IT (x:=y.1) (hs:=ac vs)with⟨h,B7⟩|⟨i',b,h,h2,B7⟩
    ·rw[h];(try simp only[seval,AV.found]);refine ak ?_;refine aE ?_;refine eI 5 ?_;simp only[seval,nW,P6,PX,kT,hlen,sq];rw[RP];refine d_ (xY _) (d_ rfl ⟨EM _,_,ER,?_,?_⟩)
     ·intro i v xr;rw[h]at xr;cases xr
     ·rw[h,abl,<- abS,aiZ,show ac vs++[y.1]=ac (vs++[y]) by rw[Jq,jA,if_neg B7],Fo];refine hR _ ⟨vs++[y],q_,sI,?_⟩;exact zY (o_ rfl rfl) (by simp only[seval]<;>simp[bA,Wk.refl]) (Fh _) (by simp[eD])
    ·rw[h];(try simp only[seval,AV.found]);refine ak ?_;refine aE ?_;refine aO ?_;rw[show ac vs=ac (vs++[y]) by rw[Jq,jA,if_pos B7],Fo];refine hR _ ⟨vs++[y],q_,sI,?_⟩;exact zY (o_ rfl rfl) (by simp only[seval]<;>simp[bA,Wk.refl]) (Fh _) (by simp[eD])
   ·have hp:vs.Perm ts:=abG ay.1 B5 ay.2.1 λy hy=>by
     have:=hs (eo y) (by simp;exact⟨y.1,y.2,hy,rfl⟩) (hb y hy);simpa[eo]using this
    refine aE ?_;refine b_ ?_;obtain⟨K,hK⟩:∃K:Nat->Nat->Kn,∀i j,K i j={R2 with aA:=nG R2.aA G.aA i,hours:=nG R2.hours G.hours i,less:=nG R2.less G.less i,aT:=nG R2.aT G.aT j}:=⟨_,λ_ _=>rfl⟩;have P5:K 0 0=R2:=(by rw[hK];rfl);refine ak ?_;refine cI ?_;refine gJ 4 (λi:Nat=>[(57,iv i)]) (λi=>B (K i 0) (ac vs)++[.cells (G.l mg) 88,.iter mg ck (vs.map (·.2)).toArray ck]) (λi=>bI (K i 0)) (λ_ _=>rfl) (by simp only[seval];simp[bA,Wk.refl]) (by rw[P5]) (λ_ _ _=>by simp[fJ]) (by rw[P5];exact tU) (λP4 asB i cN ui R hR=> ?_);refine ak ?_;refine aE ?_;refine⟨λh=> ?_,λh=> ?_⟩
    ·have bx:i<4:=(by omega);obtain⟨a1,qQ⟩:=cy (xs:=(K i 0).aA) (i:=i) (by have:=ui.aA;omega);obtain⟨a2,Bz⟩:=cy (xs:=(K i 0).hours) (i:=i) (by have:=ui.hours;omega);obtain⟨a3,ED⟩:=cy (xs:=(K i 0).less) (i:=i) (by have:=ui.less;omega);obtain⟨c1,di⟩:=cy (xs:=G.aA) (i:=i) (by have:=hG.aA;omega);obtain⟨c2,cM⟩:=cy (xs:=G.hours) (i:=i) (by have:=hG.hours;omega);obtain⟨c3,dO⟩:=cy (xs:=G.less) (i:=i) (by have:=hG.less;omega);have Cy:=ui.me _ (Te qQ);have Sv:=ui.mB _ (Te Bz);have Sw:=ui.mK _ (Te ED);have CA:=hG.me _ (Te di);have SA:=hG.mB _ (Te cM);have lc3:=hG.mK _ (Te dO);have b4:(0<=(i:Int)/\(i:Int)<4)=True:=(by simp;omega);have bP:SE.wrap ((i:Int)+1)=((i+1:Nat):Int):=(by rw[bG _ (by omega)];rfl);refine aO ?_;refine ak ?_;obtain⟨Ka,Bw⟩:∃Ka,Ka=({K i 0 with aA:=(K i 0).aA.set i (a1|||c1)}:Kn):=⟨_,rfl⟩;have Gd:bI Ka:=(by rw[Bw];exact ui.abW (pj Cy CA));have sa:=Kn.aaW (F:=K i 0) (mp:=mp) (p:=i) (v:=a1|||c1) (eM qQ);rw[<- Bw]at sa;refine eI 13 ?_;simp only[seval,nW,aQ,b4,Kn.Gb qQ,Kn.Gb di,AP,Gn Cy CA,Kn.len ui mp];refine⟨by omega,?_⟩;rw[sa,Ew];obtain⟨Kb,Ey⟩:∃Kb,Kb=({Ka with hours:=Ka.hours.set i (a2|||c2)}:Kn):=⟨_,rfl⟩;have Ge:bI Kb:=(by rw[Ey];exact Gd.abU (pj Sv SA));have xe:Ka.hours[i]?=some a2:=(by rw[Bw];exact Bz);have sb:=Kn.Rs Gd (mp:=mp) (p:=i) (v:=a2|||c2) (eM xe);rw[<- Ey]at sb;refine eI 13 ?_;simp only[seval,nW,aQ,b4,Kn.Kt Gd xe,Kn.Kt hG cM,AP,Gn Sv SA,Kn.len Gd mp];refine⟨by omega,?_⟩;rw[sb,Ew];have EH:Kb.less[i]?=some a3:=(by rw[Ey,Bw];exact ED);have sc:=Kn.aag Ge (mp:=mp) (p:=i) (v:=a3|||c3) (eM EH);have w_:({Kb with less:=Kb.less.set i (a3|||c3)}:Kn)=K (i+1) 0:=by
      rw[Ey,Bw,hK (i+1)];simp only[hK]at qQ Bz ED⊢;rw[Gm qQ di,Gm Bz cM,Gm ED dO]
     have LZ:bI (K (i+1) 0):=(by rw[<- w_];exact Ge.abV (pj Sw lc3));rw[w_]at sc;refine eI 13 ?_;simp only[seval,nW,aQ,b4,Kn.LD Ge EH,Kn.LD hG dO,AP,Gn Sw lc3,Kn.len Ge mp];refine⟨by omega,?_⟩;rw[sc,Ew];refine aj ?_;simp only[seval,bP];exact hR _ ⟨bx,LZ,dD⟩
    ·have du:i=4:=(by omega);subst du;refine b_ ?_;refine ak ?_;refine cI ?_;refine gJ 3 (λi:Nat=>[(103,iv i)]) (λj=>B (K 4 j) (ac vs)++[.cells (G.l mg) 88,.iter mg ck (vs.map (·.2)).toArray ck]) (λj=>bI (K 4 j)) (λ_ _=>rfl) (by simp only[seval];simp[bA,Wk.refl]) rfl (λ_ _ _=>by simp[fJ]) ui (λasy asC j oS zi R hR=> ?_);refine ak ?_;refine aE ?_;refine⟨λh=> ?_,λh=> ?_⟩
     ·have e_:j<3:=(by omega);obtain⟨a1,qQ⟩:=cy (xs:=(K 4 j).aT) (i:=j) (by have:=zi.aT;omega);obtain⟨c1,di⟩:=cy (xs:=G.aT) (i:=j) (by have:=hG.aT;omega);have Cy:=zi.lM _ (Te qQ);have CA:=hG.lM _ (Te di);have b3:(0<=(j:Int)/\(j:Int)<3)=True:=(by simp;omega);have bP:SE.wrap ((j:Int)+1)=((j+1:Nat):Int):=(by rw[bG _ (by omega)];rfl);refine aO ?_;refine ak ?_;have sa:=Kn.abe zi (mp:=mp) (p:=j) (v:=a1|||c1) (eM qQ);have w_:({K 4 j with aT:=(K 4 j).aT.set j (a1|||c1)}:Kn)=K 4 (j+1):=by
       rw[hK 4 (j+1)];simp only[hK]at qQ⊢;rw[Gm qQ di]
      have LZ:bI (K 4 (j+1)):=(by rw[<- w_];exact zi.C2 (pj Cy CA));rw[w_]at sa;refine eI 13 ?_;simp only[seval,nW,aQ,b3,Kn.CU zi qQ,Kn.CU hG di,AP,Gn Cy CA,Kn.len zi mp];refine⟨by omega,?_⟩;rw[sa,Ew];refine aj ?_;simp only[seval,bP];exact hR _ ⟨e_,LZ,dD⟩
     ·have J9:j=3:=(by omega);subst J9;refine b_ ?_;have Ky:(vs.map (·.1)).Perm G.aL:=by
       have:=hp.map (·.1);rw[KT]at this;exact this
      have ai4:ac vs=(vs.map (·.1)).foldl jA Q.aL:=(by rw[EE,Jp,List.foldl_map]);have hJ:gM Q (vs.map (·.1)) G={K 4 3 with aL:=ac vs}:=by
       have e2:R2=⟨true,Q.aL,Q.aA,Q.hours,Q.less,Q.aT,if Q.has=false\/sd G.first Q.first=true then G.first else Q.first⟩:=by
        rw[tT,pI];split<;>rfl
       rw[gM,if_pos JU,hK,Gl (by rw[tU.aA,hG.aA]) tU.aA,Gl (by rw[tU.hours,hG.hours]) tU.hours,Gl (by rw[tU.less,hG.less]) tU.less,Gl (by rw[tU.aT,hG.aT]) tU.aT,ai4,e2]
      have:=dY (vs.map (·.1)) _ [.cells (G.l mg) 88,.iter mg ck (vs.map (·.2)).toArray ck] Ky hJ;rw[show B ({K 4 3 with aL:=ac vs}:Kn) (ac vs)=B (K 4 3) (ac vs) by rw[hB,hB];rfl]at this;exact this
open Go.Conc Go.Proofs Go.Gg.Tk
namespace Tk
theorem AW{l:List Nat}{i v:Nat}:(oG l i v).length=l.length:=by simp[oG]
theorem DU{l:List Nat}{i v:Nat}(h:∀n∈l,n<65536)(hv:v<16):∀n∈oG l i v,n<65536:=by
 refine CF h (pj ?_ (wn hv));rw[SF];cases hi:l[i]?with
 |none=>exact(by decide:0<65536)
 |some a=>exact h _ (Te hi)
theorem aqx{x:ai}{t:List Int}(ht:jj x t){p:Nat}(hp:p<x.pieces.length):mi t p<16:=by
 obtain⟨n,h1,h2,_⟩:=ht.num p hp;unfold mi;rw[SF,h1];show n<16;omega
theorem aqw{t:List Int}(h:t.length=11){p:Nat}:C9 t p<16:=by
 unfold C9;have h5:je (t.take 4) (t.getD (4+p) 0+t.getD 0 0)<0+(t.take 4).length:=acL;have:(t.take 4).length=4:=by simp[h]
 omega
theorem aqy{x:ai}{t:List Int}(ht:jj x t){s:Nat}(hs:s<x.aC.length):rG t s<16:=by
 obtain⟨n,h1,h2⟩:=ht.own s hs;unfold rG;rw[SF,h1];show n<16;omega
theorem abd{x:ai}{t:List Int}(ht:jj x t){l:List Nat}(hl:∀n∈l,n<65536):∀{s:Nat},s<=x.aC.length->(mM t s l).length=l.length/\∀n∈mM t s l,n<65536
 |0,_=>⟨rfl,hl⟩
 |s+1,h=>by
  obtain⟨h1,h2⟩:=abd ht hl (s:=s) (by omega);exact⟨AW.trans h1,DU h2 (aqy ht (by omega))⟩
theorem aaS{x:ai}{t:List Int}(ht:jj x t){l:List Nat}(hl:∀n∈l,n<65536):∀{s:Nat},s<=x.pieces.length->(rz t s l).length=l.length/\∀n∈rz t s l,n<65536
 |0,_=>⟨rfl,hl⟩
 |s+1,h=>by
  obtain⟨h1,h2⟩:=aaS ht hl (s:=s) (by omega);exact⟨AW.trans h1,DU h2 (aqx ht (by omega))⟩
theorem Rr{t:List Int}(ht:t.length=11){l:List Nat}(hl:∀n∈l,n<65536):∀{s:Nat},(vQ t s l).length=l.length/\∀n∈vQ t s l,n<65536
 |0=>⟨rfl,hl⟩
 |s+1=>by
  obtain⟨h1,h2⟩:=Rr ht hl (s:=s);exact⟨AW.trans h1,DU h2 (aqw ht)⟩
theorem aaf{t:List Int}{p:Nat}{l:List Nat}(hl:∀n∈l,n<65536):∀{q:Nat},q<=4->(vY t p q l).length=l.length/\∀n∈vY t p q l,n<65536
 |0,_=>⟨rfl,hl⟩
 |q+1,h=>by
  obtain⟨h1,h2⟩:=aaf hl (q:=q) (t:=t) (p:=p) (by omega);unfold vY;split
  ·exact⟨AW.trans h1,DU h2 (by omega)⟩
  ·exact⟨h1,h2⟩
theorem aae{t:List Int}{k:Nat}(hk:k<=4){l:List Nat}(hl:∀n∈l,n<65536):∀{p:Nat},(xP t k p l).length=l.length/\∀n∈xP t k p l,n<65536
 |0=>⟨rfl,hl⟩
 |p+1=>by
  obtain⟨h1,h2⟩:=aae hk hl (p:=p) (t:=t);obtain⟨h3,h4⟩:=aaf h2 (t:=t) (p:=p) hk;exact⟨h3.trans h1,h4⟩
theorem abi{hs:List (List Int)}{h:List Int}(h1:∀y∈hs,y.length=4)(h2:h.length=4):∀y∈jA hs h,y.length=4:=λy hy=>by
 unfold jA at hy;split at hy
 ·exact h1 y hy
 ·rcases SS.1 hy with h'|h'
  ·exact h1 y h'
  ·rw[S8.1 h'];exact h2
theorem MT{x:ai}{deep:Int}{Q:Kn}{t:List Int}(hx:x.Ok)(ht:jj x t)(hQ:bI Q):bI (ey x deep Q t):=by
 have hB:=N5 hQ ht.len;unfold ey;dsimp only;generalize jJ Q t=R at hB;split
 ·obtain⟨h1,h2⟩:=abd ht hB.lM (SP _);exact⟨hB.aA,hB.hours,hB.less,h1.trans hB.aT,hB.first,hB.me,hB.mB,hB.mK,h2,hB.h4⟩
 ·split
  ·exact⟨hB.aA,hB.hours,hB.less,hB.aT,hB.first,hB.me,hB.mB,hB.mK,hB.lM,abi hB.h4 (by simp[ht.len])⟩
  ·obtain⟨h1,h2⟩:=aaS ht hB.me (SP _);obtain⟨h3,h4⟩:=Rr ht.len hB.mB (s:=x.pieces.length);obtain⟨h5,h6⟩:=aae (t:=t) hx.c_ hB.mK (p:=x.pieces.length);exact⟨h1.trans hB.aA,h3.trans hB.hours,h5.trans hB.less,hB.aT,hB.first,h2,h4,h6,hB.lM,hB.h4⟩
theorem M1{x:ai}{deep:Int}{h t:List Int}(ht:t∈jf x deep h):∃ns∈fS x h,t∈(hO x h ns).map (dx h ns):=by
 have key:t∈((fS x h).map λns=>(hO x h ns).map λos=>dx h ns os).flatten:=by
  unfold jf at ht;dsimp only at ht;split at ht
  ·exact Wq ht
  ·split at ht
   ·obtain⟨l,h1,h2⟩:=XI.1 ht;obtain⟨m,h3,rfl⟩:=Tm.1 h1;exact XI.2 ⟨m,h3,Wq h2⟩
   ·exact ht
 obtain⟨l,h1,h2⟩:=XI.1 key;obtain⟨ns,h3,rfl⟩:=Tm.1 h1;exact⟨ns,h3,h2⟩
theorem Cx:bI Kn.zero:=by
 have h0:∀k:Nat,∀n∈TN k 0,n<65536:=λk n h=>by rw[(Xu.1 h).2];decide
 exact⟨rfl,rfl,rfl,rfl,rfl,h0 4,h0 4,h0 4,h0 3,λh hh=>by cases hh⟩
theorem I3{x:ai}{deep:Int}(hx:x.Ok):∀{ts:List (List Int)}{Q:Kn},(∀t∈ts,jj x t)->bI Q->bI (ts.foldl (ey x deep) Q)
 |[],Q,_,h=>h
 |t::ts,Q,ht,h=>by rw[UW];exact I3 hx (λu hu=>ht u (by simp[hu])) (MT hx (ht t (by simp)) h)
end Tk
theorem xL{K:Kn}{mp m:Nat}(h:mp<m):∀a∈K.l mp,Lt m a:=λa ha=>by
 simp only[Kn.l,SL,SS,Tm]at ha;rcases ha with rfl|rfl|⟨_,_,rfl⟩|⟨_,_,rfl⟩|⟨_,_,rfl⟩|⟨_,_,rfl⟩|⟨_,_,rfl⟩
 ·exact .val _
 ·exact .mp h
 all_goals exact .val _
theorem FT{K:Kn}{mp m:Nat}(h:∀a∈K.l mp,Lt m a):mp<m:=by
 cases h (.mp mp) (by simp[Kn.l]);assumption
def cs:T5->T5
 |.seq _ c=>c
 |_=> .skip
def cf:T5->T5
 |.seq c _=>c
 |_=> .skip
noncomputable def Sp:T5:=ar_.body.getD .skip
def ut (x:ai)(bf:Nat)(deep:Int)(c:Nat)(w:SO):List (Nat×AV):=[(12,.fn (.func 86) [] [.op 2 0,.op 3 0]),(5,.op 1 0),(0,.val w),(1,.rp x.l),(2,.rp [iv bf]),(3,.rp [iv deep]),(4,.rp [.val (.chan (some c))])]
def vV (x:ai)(bf:Nat)(K:Kn):List aa:=[setH K.aL,.cells (K.l 0) 88,.cells x.l 76,.cells [iv bf] 3]
theorem alj{lv:Bool}{x:ai}{bf c:Nat}{w:SO}{deep:Int}{bs:List UV}(hx:x.Ok)(lH:bf<=3)(hA:∀h∈kx x bf,mo h/\∀ns∈fS x h,∀a∈(hO x h ns).map (dx h ns),jj x a)(Φ:an->AS->List Nat->Prop)(hΦ:Φ .normal ⟨ut x bf deep c w,vV x bf (gF x deep bf)++[.obj (.deferred (some [])),.gone]⟩ [4]):
  kg lv SC 25 bs (cs (cf (cs (cs Sp)))) ⟨ut x bf deep c w,vV x bf Kn.zero⟩ [] Φ:=by
 unfold Sp ar_;dsimp only[S9,cs,cf];refine wN ?_;refine HU (by rfl) λl fn T ag bo hT xc pK=> ?_;(try simp only[seval,vV]);simp only[ut,iv]at hT;have bN:x.l=[iv x.first,iv x.hours,iv x.am,dN x.seen,aY x.pieces,aY x.aC]:=rfl;obtain⟨Gf,tS⟩:∃Gf:Kn->List aa,∀K,Gf K=[setH K.aL,.cells (K.l 0) 88,.cells x.l 76,.cells [iv bf] 3,.obj (.deferred (some [])),.loop l .ready none fn T 25 #[13] ag bo 4]:=⟨_,λ_=>rfl⟩;have Jg:∀K,(Gf K).length=6:=λK=>by rw[tS];rfl
 have ai0:∀m K K',(∀z∈Gf K,eY m z)->∀z∈Gf K',eY m z:=λm K K' hz z eW=>by
  rw[tS]at hz eW;have h1:=hz (.cells (K.l 0) 88) (by simp);simp only[SL,S4,or_false]at eW;rcases eW with rfl|rfl|rfl|rfl|rfl|rfl
  ·trivial
  ·exact xL (FT h1)
  ·exact hz _ (by simp)
  ·exact hz _ (by simp)
  ·exact hz _ (by simp)
  ·exact hz _ (by simp)
 have hY:jI lv SC (.fn (.yield l) [] []) (λK h=> .go ((jf x deep h).foldl (ey x deep) K)) Gf 6 bI (λh=>mo h/\∀ns∈fS x h,∀a∈(hO x h ns).map (dx h ns),jj x a) (.aK []):=by
  refine⟨λK h M k kp hK ha dE=> ?_,λK h K' hK ha he=> ?_,Jg,ai0,rfl,rfl,rfl⟩
  ·obtain⟨oR,Cj⟩:=ha;have h4:=oR.len;have nf:(h.map iv).length=4:=(by rw[Tn,h4]);obtain⟨Lo,kR⟩:∃Lo,Lo=aa.loop l .busy none fn T 25 #[13] ag bo 4:=⟨_,rfl⟩;obtain⟨P1,dq⟩:∃P1:Kn->List aa,∀K,P1 K=[setH K.aL,.cells (K.l 0) 88,.cells x.l 76,.cells [iv bf] 3,.obj (.deferred (some [])),Lo]++M:=⟨_,λ_=>rfl⟩;have ej:∀K,(P1 K).length=6+M.length:=λK=>(by rw[dq];simp;omega);have pg:∀(K:Kn)(L:List aa)(i:Nat),i<6->(P1 K++L)[i]?=[setH K.aL,aa.cells (K.l 0) 88,.cells x.l 76,.cells [iv bf] 3,.obj (.deferred (some [])),Lo][i]?:=λK L i J4=>by
    rw[dq,SD,SZ (by simpa using J4)]
   have pb:∀(K:Kn)(L:List aa)(i:Nat),(P1 K++L)[6+M.length+i]?=L[i]?:=λK L i=>(by rw[<- ej K,aW]);have v_:∀(K:Kn)(L:List aa),(P1 K++L)[6+M.length]?=L[0]?:=λK L=>pb K L 0;have pn:∀(K:Kn)(L:List aa)(y:aa),(P1 K++L).set (6+M.length+4) y=P1 K++L.set 4 y:=λK L y=>(by rw[<- ej K,dR]);have s5:∀(K:Kn)(L:List aa) y,(P1 K++L).set 5 y=[setH K.aL,.cells (K.l 0) 88,.cells x.l 76,.cells [iv bf] 3,.obj (.deferred (some [])),y]++M++L:=λK L y=>(by rw[dq];rfl);have zL:∀(K K':Kn)(L L':List aa),L'.length=L.length->(∀q,(∀z∈L,eY q z)->∀z∈L',eY q z)->bM (P1 K++L)->bM (P1 K'++L'):=λK K' L L' hl hL hH z hz=>by
    have hlen:(P1 K'++L').length=(P1 K++L).length:=(by simp[ej,hl]);rw[hlen];rcases SS.1 hz with h'|h'
    ·rw[dq]at h';rcases SS.1 h' with h'|h'
     ·have h1:=hH (.cells (K.l 0) 88) (by rw[dq];simp);have hq:∀w∈[setH K.aL,aa.cells (K.l 0) 88,.cells x.l 76,.cells [iv bf] 3,.obj (.deferred (some [])),Lo],eY (P1 K++L).length w:=λw hw=>hH w (by rw[dq,SD];exact Tg _ hw);simp only[SL,S4,or_false]at h';rcases h' with rfl|rfl|rfl|rfl|rfl|rfl
      ·trivial
      ·exact xL (FT h1)
      ·exact hq _ (by simp)
      ·exact hq _ (by simp)
      ·exact hq _ (by simp)
      ·exact hq _ (by simp)
     ·exact hH z (by rw[dq];simp[h'])
    ·exact hL _ (λw hw=>hH w (S5 _ hw)) z h'
   simp only[cU]at dE;rw[tS]at dE;rw[tS];subst hT xc pK;refine vc (id:=5) (by rfl) rfl (by kernel_rfl) λnX Jc=> ?_;simp only[rM];have vD:Ue 4 [iv 0,iv 0,iv 0,iv 0]=[]:=rfl;refine aj ?_;simp only[seval,ut,h4,vD];unfold tz;refine⟨none,fn,_,25,#[13],_,_,_,by rfl,?_⟩;dsimp only;simp only[UA,TY];rw[<- kR];have w9:M.length+1+1+1+1+1+1=6+M.length:=(by omega);rw[w9];have xo:∀z:aa,(setH K.aL::aa.cells (K.l 0) 88::aa.cells x.l 76::aa.cells [AV.val (SG SE ↑bf)] 3::aa.obj (atm (some []))::Lo::(M++[z]))=P1 K++[z]:=λz=>(by rw[dq];rfl);rw[xo];refine aj ?_;simp only[seval,bN,v_,h4,nf];rw[SW (i:=4) (l:=h.map iv) (by rw[nf];exact SP _)];refine aJ ((IL (x:=x) (h:=h) (deep:=deep) ?_));(try simp only[seval]);refine cI ?_;have pP:∀(K:Kn)(a b c d:aa),(P1 K++[a,b,c,d]).length=6+M.length+4:=λK a b c d=>(by simp[ej]);refine D1 5 (by rfl) (by show (P1 K++_)[5]?=_;rw[pg K _ 5 (by omega),kR];rfl) λl2 eK T2 gw gz nY xd xg=> ?_;simp only[seval];rw[ej]at nY⊢;have xb:jI lv SC (.fn (.yield l2) [] []) (λK t=> .go (ey x deep K t)) (λK=>P1 K++[.cells (h.map iv) 83,.cells x.l 76,.cells (h.map iv) 83,.cells [iv deep] 3,.loop l2 .ready none eK T2 25 #[18] gw gz 4]) (6+M.length+5) bI (jj x) (.aK []):=by
    refine⟨λK' t M2 k2 xM Jj ht kX=> ?_,λK' t Av Jj ht he=> ?_,λK'=>by simp[ej],λq K' Av hz z eW=> ?_,rfl,rfl,rfl⟩
    ·have p9:=ht.len;have zw:(t.map iv).length=11:=(by rw[Tn,p9]);obtain⟨pw,su⟩:∃Lo,Lo=aa.loop l2 .busy none eK T2 25 #[18] gw gz 4:=⟨_,rfl⟩;obtain⟨Q1,fZ⟩:∃Q1:Kn->List aa,∀K,Q1 K=P1 K++([.cells (h.map iv) 83,.cells x.l 76,.cells (h.map iv) 83,.cells [iv deep] 3,pw]++M2):=⟨_,λ_=>rfl⟩;obtain⟨C,hC⟩:∃C,C=6+M.length+5+M2.length:=⟨_,rfl⟩;have Jo:∀K,(Q1 K).length=C:=λK=>(by rw[fZ,hC];simp[ej];omega);have lO:∀(K:Kn)(L:List aa),(P1 K++L)[6+M.length+4]?=L[4]?:=λK L=>pb K L 4;have q0:∀(K:Kn)(L:List aa),(Q1 K++L)[0]?=some (setH K.aL):=λK L=>(by rw[fZ,SD];exact pg K _ 0 (by omega));have q1:∀(K:Kn)(L:List aa),(Q1 K++L)[1]?=some (.cells (K.l 0) 88):=λK L=>(by rw[fZ,SD];exact pg K _ 1 (by omega));have q4:∀(K:Kn)(L:List aa),(Q1 K++L)[6+M.length+4]?=some pw:=λK L=>(by rw[fZ,SD,lO];rfl);have qc:∀(K:Kn)(L:List aa),(Q1 K++L)[C]?=L[0]?:=λK L=>(by rw[<- Jo K];exact aW _ L 0);have Mu:∀(K:Kn)(L:List aa)(y:aa),(Q1 K++L).set (6+M.length+4) y=(P1 K++([.cells (h.map iv) 83,.cells x.l 76,.cells (h.map iv) 83,.cells [iv deep] 3,y]++M2))++L:=λK L y=>(by rw[fZ,SD,pn];simp);have aoy:∀(K K':Kn)(L:List aa),((Q1 K++L).set 1 (.cells (K'.l 0) 88)).set 0 (setH K'.aL)=Q1 K'++L:=λK K' L=>(by rw[fZ,fZ,dq,dq];rfl);have fz:∀(Av:Kn),bM (P1 K'++([.cells (h.map iv) 83,.cells x.l 76,.cells (h.map iv) 83,.cells [iv deep] 3,.loop l2 .ready none eK T2 25 #[18] gw gz 4]++M2))->bM (P1 Av++([.cells (h.map iv) 83,.cells x.l 76,.cells (h.map iv) 83,.cells [iv deep] 3,.loop l2 .ready none eK T2 25 #[18] gw gz 4]++M2)):=λAv gV=>zL K' Av _ _ rfl (λq hz=>hz) gV;simp only[cU]at kX;have JN:∀z:aa,P1 K'++(aa.cells (U4 iv h) 83::aa.cells x.l 76::aa.cells (U4 iv h) 83::aa.cells [AV.val (SG SE deep)] 3::pw::(M2++[z]))=Q1 K'++[z]:=λz=>(by rw[fZ];simp[iv]);subst nY xd xg;rw[SD];refine vc (id:=6+M.length+4) (by rw[lO];rfl) rfl (by kernel_rfl) λqP Jd=> ?_;simp only[rM];have BM:Ue 11 [iv 0,iv 0,iv 0,iv 0,iv 0,iv 0,iv 0,iv 0,iv 0,iv 0,iv 0]=[]:=rfl;refine aj ?_;simp only[seval,p9,BM];unfold tz;refine⟨none,eK,_,25,#[18],_,_,_,by rw[lO];rfl,?_⟩;dsimp only;rw[pn];simp only[UA,TY];rw[<- su];have Bp:(P1 K').length+(M2.length+1+1+1+1+1)=C:=(by rw[ej,hC];omega);rw[Bp];have iG:∀z:aa,(P1 K'++aa.cells (U4 iv h) 83::aa.cells x.l 76::aa.cells (U4 iv h) 83::aa.cells [AV.val (SG SE deep)] 3::pw::(M2++[z]))=Q1 K'++[z]:=JN;rw[iG];refine aj ?_;simp only[seval,bN,qc,p9,zw];rw[SW (i:=11) (l:=t.map iv) (by rw[zw];exact SP _)];refine aJ ((ah0 (x:=x) (t:=t) (deep:=deep) (fp:=1) (mp:=0) (Q:=K') hx ht Jj (by decide) (q1 K' _) (q0 K' _) ?_));rw[aoy];(try simp only[seval]);show oF _ _ _ _ _ _ _;refine⟨l2,.busy,none,eK,_,25,#[18],_,_,4,by show (Q1 _++_)[_]?=_;rw[q4,su],?_⟩;show cD C ((Q1 _++_).set _ _) _ k2;rw[Mu];rw[SD]at kX;exact jN (G:=[.cells (t.map iv) 86]) (Wk.refl _) rfl (by rw[hC];simp[ej];omega) (fz _ qP) (.val _) kX
    ·cases he;exact MT hx ht Jj
    ·rcases SS.1 eW with h'|h'
     ·have h1:=hz (.cells (K'.l 0) 88) (by rw[dq];simp);rw[dq]at h';rcases SS.1 h' with h'|h'
      ·simp only[SL,S4,or_false]at h';rcases h' with rfl|rfl|rfl|rfl|rfl|rfl
       ·trivial
       ·exact xL (FT h1)
       all_goals exact hz _ (by rw[dq];simp)
      ·exact hz z (by rw[dq];simp[h'])
     ·exact hz z (S5 _ h')
   refine cJ (IQ (x:=x) (h:=h) (deep:=deep) (ir:=6+M.length+1) (ih:=6+M.length+1+1) (id:=6+M.length+1+2) (σ:=K) hx oR xb (λK L=> ?_) (λK L=> ?_) (λK L=> ?_) (λn=>by simp[jz]) hK (λa ha=>ha.len) Cj ?_)
   ·rw[SD];exact pb _ _ 1
   ·rw[SD];exact pb _ _ 2
   ·rw[SD];exact pb _ _ 3
   rw[CW (g:=ey x deep) (λ_ _=>rfl)];simp only[fV,SY];have lO:∀(K:Kn)(L:List aa),(P1 K++L)[6+M.length+4]?=L[4]?:=λK L=>pb K L 4;refine⟨.ready,none,_,_,_,_,_,_,_,by rw[lO];rfl,by decide,?_⟩;rw[pn,Gu];(try simp only[seval]);show oF _ _ _ _ _ _ _;have asz:=kR;refine⟨l,.busy,none,fn,_,25,#[13],_,_,4,by show (P1 _++_)[_]?=_;rw[pg _ _ 5 (by omega),kR];rfl,?_⟩;show cD (6+M.length) ((P1 _++_).set _ _) _ k;rw[s5];refine jN (G:=[.cells (h.map iv) 83,.cells x.l 76,.cells (h.map iv) 83,.cells [iv deep] 3,.gone]) (Wk.refl _) rfl (by simp;omega) ?_ (.val _) dE;intro z hz;have h1:=nX (.cells (K.l 0) 88) (by simp);have hlen:∀(y:aa),([setH (aa_ (ey x deep) K (jf x deep h)).aL,aa.cells ((aa_ (ey x deep) K (jf x deep h)).l 0) 88,.cells x.l 76,.cells [iv bf] 3,.obj (.deferred (some [])),y]++M).length=(setH K.aL::aa.cells (K.l 0) 88::aa.cells x.l 76:: .cells [iv bf] 3:: .obj (.deferred (some []))::y::M).length:=λy=>rfl;rcases SS.1 hz with h'|h'
   ·simp only[SL,S4,or_false]at h';rcases h' with rfl|rfl|rfl|rfl|rfl|rfl
    ·trivial
    ·exact xL (FT h1)
    all_goals exact nX _ (by simp)
   ·exact nX z (by simp[h'])
  ·cases he;exact I3 hx (λt ht=>by obtain⟨ns,h1,h2⟩:=M1 ht;exact ha.2 ns h1 t h2) hK
 have hgo:bC (λK h=>dA.go ((jf x deep h).foldl (ey x deep) K)) (kx x bf) Kn.zero=.go (gF x deep bf):=by
  rw[CW (g:=λK h=>(jf x deep h).foldl (ey x deep) K) (λ_ _=>rfl),gF,List.foldl_flatMap]
 refine H2 (by kernel_rfl) ?_;have e0:=tS Kn.zero;simp only[iv]at e0;rw[<- e0];refine IN (lv:=lv) (x:=x) (bf:=bf) (N:=6) (ir:=2) (it:=3) (σ:=Kn.zero) hx hY (λK L=>by rw[tS];rfl) (λK L=>by rw[tS];rfl) lH (λn=>by simp[jz]) Cx hA ?_;rw[hgo];simp only[fV,SY];refine⟨.ready,none,_,_,_,_,_,_,_,by rw[tS];rfl,by decide,?_⟩;rw[tS,Gt];exact hΦ
open Go.Conc
inductive Ht where
 |z
 |s (f:Tp->Ht)
inductive Ar:Ht->Ht->Prop where
 |mk (f:Tp->Ht) (w:Tp):Ar (f w) (.s f)
theorem akU:WellFounded Ar:=by
 refine⟨λh=> ?_⟩;induction h with
 |z=>exact⟨_,λy hy=>by cases hy⟩
 |s f ih=>exact⟨_,λy hy=>by cases hy with|mk _ w=>exact ih w⟩
inductive lq (P:SJ):Ht->View->SH->Prop where
 |step {f:Tp->Ht} {V V₁:View} {g:SH} (G':Tp->SH) (W':Tp->Tp) (E':Tp->Array Uq) (V':Tp->View) (hs:g.status=.running) (hg:dT V V₁)
   (h1:∀w,Sat V₁ w->stepG P false g w=.go (G' w) (W' w) (E' w)) (h2:∀w,Sat V₁ w->da V₁ w (V' w) (W' w) (E' w)) (h3:∀w,Sat V₁ w->lq P (f w) (V' w) (G' w)):lq P (.s f) V g
 |send {h:Ht} {V V₁:View} {g:SH} (c Wg:Nat) (sp:Spec) (S:List Spec) (v z:SO) (B:Nat->Bool) (hs:g.status=.running) (hg:dT V V₁) (hr:V₁.role=.work c Wg (sp::S)) (hd:V₁.deaf=0) (ho:g.offers=none)
   (h1:∀w,Sat V₁ w->stepG P false g w=.comm g #[scase c v z] true .send w #[]) (h2:sp v V₁.ab (λb=>if B b then V₁.own b else none))
   (h3:lq P h {V₁ with own:=λb=>if B b then none else V₁.own b,role:=.work c Wg S} (T4 g undef)):lq P (.s λ_=>h) V g
 |done {V V₁:View} {g:SH} (c Wg:Nat) (hg:dT V V₁) (hr:V₁.role=.work c Wg []) (hd:V₁.deaf=0) (h1:Dz P Wg g):lq P (.s λ_=> .z) V g
 |slip {h:Ht} {V V₁:View} {g g':SH} (c Wg:Nat) (hs:g.status=.running) (hg:dT V V₁) (hr:V₁.role=.work c Wg []) (h1:∀w st,Sat V₁ w->WgAt P Wg w st 0->stepG P false g w=.go g' w #[]) (h3:lq P h V₁ g'):lq P (.s λ_=>h) V g
theorem lq.running{P:SJ}{h:Ht}{V:View}{g:SH}(k:lq P h V g):g.status=.running:=by
 cases k with
 |step _ _ _ _ hs=>exact hs
 |send _ _ _ _ _ _ _ hs=>exact hs
 |done _ _ _ _ _ h1=>exact h1.1
 |slip _ _ hs=>exact hs
open Classical in
theorem arq(P:SJ):yd P false (λV g=>∃h,lq P h V g)where
 step V g hs h:=by
  have hc:∀w,∃h' g' w' es V',Sat V w->stepG P false g w=.go g' w' es/\da V w V' w' es/\lq P h' V' g':=by
   intro w;by_cases hw:Sat V w
   ·obtain⟨g',w',es,V',h1,h2,h',h3⟩:=h w hw;exact⟨h',g',w',es,V',λ_=>⟨h1,h2,h3⟩⟩
   ·exact⟨.z,g,w,#[],V,λx=>absurd x hw⟩
  have oN:=λw=>(hc w).choose_spec.choose_spec.choose_spec.choose_spec.choose_spec;exact⟨.s λw=>(hc w).choose,.step (λw=>(hc w).choose_spec.choose) (λw=>(hc w).choose_spec.choose_spec.choose) (λw=>(hc w).choose_spec.choose_spec.choose_spec.choose)
   (λw=>(hc w).choose_spec.choose_spec.choose_spec.choose_spec.choose) hs (dT.refl V) (λw hw=>(oN w hw).1) (λw hw=>(oN w hw).2.1) (λw hw=>(oN w hw).2.2)⟩
 ghost V V' g hg h:=by
  obtain⟨h,hk⟩:=h;cases hk with
  |step a b c d e f x y z=>exact⟨_,.step a b c d e (hg.trans f) x y z⟩
  |send a b c d e f m n o p q r s t u=>exact⟨_,.send a b c d e f m n (hg.trans o) p q r s t u⟩
  |done a b o p q r=>exact⟨_,.done a b (hg.trans o) p q r⟩
  |slip a b f o p q r=>exact⟨_,.slip a b f (hg.trans o) p q r⟩
 send V g c Wg sp S v z B h1 h2 h3 h4 h5 h6 h7:=by
  obtain⟨h,hk⟩:=h7;exact⟨_,.send c Wg sp S v z B h3 (dT.refl V) h1 h2 h4 h5 h6 hk⟩
 done V g c Wg h1 h2 h3:=⟨_,.done c Wg (dT.refl V) h1 h2 h3⟩
 slip V g g' c Wg h1 h2 h3 h4:=by
  obtain⟨h,hk⟩:=h4;exact⟨_,.slip c Wg h2 (dT.refl V) h1 h3 hk⟩
structure yo where
 a:Nat
 h:Ht
 n:Nat
def qz:yo->yo->Prop:=λx y=>x.a<y.a\/(x.a=y.a/\(Ar x.h y.h\/(x.h=y.h/\x.n<y.n)))
theorem aoD:WellFounded qz:=by
 refine⟨λ⟨a,h,n⟩=> ?_⟩;induction a using Yl generalizing h n with
 |_ a iha=>
  induction h using akU.induction generalizing n with
  |_ h ihh=>
   induction n using Yl with
   |_ n K8=>
    refine⟨_,λ⟨a',h',n'⟩ hlt=> ?_⟩;rcases hlt with x|⟨rfl,x|⟨rfl,x⟩⟩
    ·exact iha a' x h' n'
    ·exact ihh h' x n'
    ·exact K8 n' x
def AE (N:Nat)(f' f:Nat->yo):Prop:=∃i,i<N/\qz (f' i) (f i)/\∀j,j≠i->f' j=f j
theorem apL(N:Nat):WellFounded (AE N):=by
 refine⟨?_⟩;induction N with
 |zero=>intro f;exact⟨_,λf' ⟨i,hi,_⟩=>by omega⟩
 |succ N ih=>
  have key:∀x:yo,∀f,f N=x->Acc (AE (N+1)) f:=by
   intro x;induction x using aoD.induction with
   |_ x ihx=>
    intro f hf;have inner:∀f,Acc (AE N) f->f N=x->Acc (AE (N+1)) f:=by
     intro f ha;induction ha with
     |intro f _ K7=>
      intro hf;refine⟨_,λf' ⟨i,hi,hlt,ho⟩=> ?_⟩;by_cases fj:i=N
      ·subst fj;exact ihx (f' i) (hf▸hlt) f' rfl
      ·exact K7 f' ⟨i,by omega,hlt,ho⟩ ((ho N (Ne.symm fj)).trans hf)
    exact inner f (ih f) hf
  exactλf=>key (f N) f rfl
def AA (N:Nat)(x y:(Nat->yo)×Nat):Prop:=AE N x.1 y.1\/(x.1=y.1/\x.2<y.2)
theorem aaC(N:Nat):WellFounded (AA N):=by
 refine⟨λ⟨f,n⟩=> ?_⟩;induction f using(apL N).induction generalizing n with
 |_ f K7=>
  induction n using Yl with
  |_ n K8=>
   refine⟨_,λ⟨f',n'⟩ hlt=> ?_⟩;rcases hlt with x|⟨x,y⟩
   ·exact K7 f' x n'
   ·have x':f'=f:=x;subst x';exact K8 n' y
open Go.ConcN
structure TI (t:Um)(B N:Nat)(rd wr:Nat->Loc->Prop)(Sh:Loc->Prop)(act:Nat->Prop)(ic:Nat):Prop where
 nr:∀said,¬Race said t
 low:∀op∈t,op.act.low B
 gs:∀op∈t,op.g<N
 norel:∀op∈t,∀a,op.act≠ .mark (.release a)
 kr:∀i,i<N->∀l,rd i l->PermW t i l
 kw:∀i,i<N->∀l,wr i l->Perm t i l
 sp:∀idx a,touchAt t idx=some a->Sh a.loc->(a.kind=.plain->∀i,act i->Wi t i idx)/\(a.kind=.said->Wi t ic idx)
def Fit (B:Nat)(rd wr:Nat->Loc->Prop)(Sh:Loc->Prop)(act:Nat->Prop)(ic i:Nat)(x:YH):Prop:=
 (Sh x.loc/\x.kind=.atomic/\act i)\/(Sh x.loc/\x.kind=.said/\i=ic/\act i)\/(¬Sh x.loc/\(wr i x.loc\/(rd i x.loc/\x.write=false)\/¬x.loc.low B))
theorem aml{B:Nat}{m:MemAct}(h:m.low B){x:YH}(hx:m.touch?=some x):x.loc.low B:=by
 cases m with
 |access e=>simp only[Wa,Tl]at hx;subst hx;exact h
 |mark m=>cases m<;>simp[Wa]at hx<;>(subst hx;exact h)
 |_=>simp[Wa]at hx
theorem M0{t:Um}{B:Nat}(h:∀op∈t,op.act.low B){idx:Nat}{a:YH}(ha:touchAt t idx=some a):a.loc.low B:=by
 obtain⟨x,hx,FI⟩:=US ha;exact aml (h x (XQ hx)) FI
theorem Af{t u:Um}{idx:Nat}{a:YH}(h:touchAt (t++u) idx=some a):touchAt t idx=some a\/(t.size<=idx/\∃op∈u,(t++u)[idx]?=some op/\op.act.touch?=some a):=by
 obtain⟨x,hx,FI⟩:=US h;rcases Xi hx with⟨_,jy⟩|⟨hi,hu⟩
 ·exact .inl (by rw[touchAt_of jy];exact FI)
 ·exact .inr ⟨hi,x,hu,hx,FI⟩
theorem TI.app{t:Um}{B N B':Nat}{rd wr rd' wr':Nat->Loc->Prop}{Sh:Loc->Prop}{act:Nat->Prop}{ic:Nat}(h:TI t B N rd wr Sh act ic){u:Um}{i:Nat}(hi:i<N)(hu:∀op∈u,op.g=i)
  (hf:∀op∈u,∀x,op.act.touch?=some x->Fit B rd wr Sh act ic i x) (hl:∀op∈u,op.act.low B') (hB:B<=B') (hn:∀op∈u,∀a,op.act≠ .mark (.release a))
  (sN:∀j l,j≠i->rd' j l->rd j l) (rk:∀j l,j≠i->wr' j l->wr j l) (hri:∀l,rd' i l->l.low B->rd i l\/wr i l) (xI:∀l,wr' i l->l.low B->wr i l)
  (ex:∀l j,j≠i->(wr i l->¬rd j l/\¬wr j l)/\(rd i l->¬wr j l)) (GJ:∀l j,Sh l->¬rd j l/\¬wr j l) (aan:∀j l,rd j l\/wr j l->l.low B):
  TI (t++u) B' N rd' wr' Sh act ic where
 nr said:=by
  refine noRace_append (h.nr said) hu λidx a ha op au b hb hc=> ?_;have bh:=hc;obtain⟨cR,_,Kc,pP⟩:=hc;rcases hf op au b hb with⟨h1,h2,h3⟩|⟨h1,h2,h3,h4⟩|⟨_,h2|⟨h2,h3⟩|h2⟩
  ·rw[h2]at pP;rcases pP with x|x|⟨_,_,x⟩
   ·exact(h.sp idx a ha (cR▸h1)).1 x i h3
   ·cases x
   ·cases x
  ·rw[h2]at pP;rcases pP with x|x|⟨_,x,_⟩
   ·exact(h.sp idx a ha (cR▸h1)).1 x i h4
   ·cases x
   ·rw[h3];exact(h.sp idx a ha (cR▸h1)).2 x
  ·exact h.kw i hi _ h2 idx a ha cR
  ·exact h.kr i hi _ h2 idx a ha cR (by rw[h3]at Kc;simpa using Kc)
  ·exact absurd (cR▸M0 h.low ha) h2
 low op au:=(Ut.1 au).elim (λx=>Zg hB (h.low op x)) (hl op)
 gs op au:=(Ut.1 au).elim (h.gs op) (λx=>by rw[hu op x];exact hi)
 norel op au:=(Ut.1 au).elim (h.norel op) (hn op)
 kr j hj l ul:=by
  by_cases cg:j=i
  ·subst cg;intro idx a ha gB hw;rcases Af ha with f_|⟨_,op,au,cW,hx⟩
   ·have gW:l.low B:=gB▸M0 h.low f_;rcases hri l ul gW with x|x
    ·exact(h.kr j hj l x idx a f_ gB hw).app u
    ·exact(h.kw j hj l x idx a f_ gB).app u
   ·have:=Y' cW;rwa [hu op au]at this
  ·have Cd:=sN j l cg ul;refine(h.kr j hj l Cd).app λop au b hb cL hw=> ?_;exfalso;rcases hf op au b hb with⟨h1,_⟩|⟨h1,_⟩|⟨_,h2|⟨_,h3⟩|h2⟩
   ·exact(GJ l j (cL▸h1)).1 Cd
   ·exact(GJ l j (cL▸h1)).1 Cd
   ·exact((ex l j cg).1 (cL▸h2)).1 Cd
   ·rw[h3]at hw;cases hw
   ·exact h2 (cL▸aan j l (.inl Cd))
 kw j hj l rj:=by
  by_cases cg:j=i
  ·subst cg;intro idx a ha gB;rcases Af ha with f_|⟨_,op,au,cW,hx⟩
   ·exact(h.kw j hj l (xI l rj (gB▸M0 h.low f_)) idx a f_ gB).app u
   ·have:=Y' cW;rwa [hu op au]at this
  ·have o4:=rk j l cg rj;refine(h.kw j hj l o4).app λop au b hb cL=> ?_;exfalso;rcases hf op au b hb with⟨h1,_⟩|⟨h1,_⟩|⟨_,h2|⟨h2,_⟩|h2⟩
   ·exact(GJ l j (cL▸h1)).2 o4
   ·exact(GJ l j (cL▸h1)).2 o4
   ·exact((ex l j cg).1 (cL▸h2)).2 o4
   ·exact(ex l j cg).2 (cL▸h2) o4
   ·exact h2 (cL▸aan j l (.inr o4))
 sp idx a ha dG:=by
  rcases Af ha with f_|⟨_,op,au,cW,hx⟩
  ·exact⟨λhp j hj=>((h.sp idx a f_ dG).1 hp j hj).app u,λhp=>((h.sp idx a f_ dG).2 hp).app u⟩
  ·rcases hf op au a hx with⟨_,h2,_⟩|⟨_,h2,h3,_⟩|⟨h1,_⟩
   ·exact⟨λhp=>absurd (h2.symm.trans hp) (by simp),λhp=>absurd (h2.symm.trans hp) (by simp)⟩
   ·refine⟨λhp=>absurd (h2.symm.trans hp) (by simp),λ_=> ?_⟩;have:=Y' cW;rw[hu op au,h3]at this;exact this
   ·exact absurd dG h1
theorem TI.weaken{t:Um}{B N B':Nat}{rd wr rd' wr':Nat->Loc->Prop}{Sh Nv:Loc->Prop}{act act':Nat->Prop}{ic kA:Nat}(h:TI t B N rd wr Sh act ic)(hB:B<=B')
  (sN:∀i l,i<N->rd' i l->rd i l\/wr i l) (rk:∀i l,i<N->wr' i l->wr i l)
  (xD:∀idx a,touchAt t idx=some a->Nv a.loc->(a.kind=.plain->∀i,act' i->Wi t i idx)/\(a.kind=.said->Wi t kA idx)):TI t B' N rd' wr' Nv act' kA:=
 ⟨h.nr,λop au=>Zg hB (h.low op au),h.gs,h.norel,λi hi l x=>(sN i l hi x).elim (h.kr i hi l) (λy=>PermW.of (h.kw i hi l y)),λi hi l x=>h.kw i hi l (rk i l hi x),xD⟩
theorem amQ{t u:Um}(h:∀said,¬Race said t)(hn:∀op∈u,op.act.touch?=none):∀said,¬Race said (t++u):=by
 intro said
 rintro⟨i,j,j6,⟨a,b,ha,hb,hc⟩,n1,n2⟩
 have old:∀{k:Nat}{x:YH},((t++u).act? k).bind (·.touch?)=some x->k<t.size/\(t.act? k).bind (·.touch?)=some x:=by
  intro k x hx;obtain⟨y,hy,K1⟩:=US hx;rcases Xi hy with⟨hk,o5⟩|⟨_,hyu⟩
  ·exact⟨hk,by simp[Trace.act?,o5,K1]⟩
  ·rw[hn y hyu]at K1;cases K1
 exact h said ⟨i,j,j6,⟨a,b,(old ha).2,(old hb).2,hc⟩,λe=>n1 (hb_app u e),λe=>n2 (hb_app u e)⟩
theorem Ag{t u:Um}(hn:∀op∈u,op.act.touch?=none){idx:Nat}{a:YH}(h:touchAt (t++u) idx=some a):touchAt t idx=some a:=by
 rcases Af h with h|⟨_,op,au,_,hx⟩
 ·exact h
 ·rw[hn op au]at hx;cases hx
theorem TI.mute{t:Um}{B N N':Nat}{rd wr rd' wr':Nat->Loc->Prop}{Sh:Loc->Prop}{act act':Nat->Prop}{ic kA:Nat}(h:TI t B N rd wr Sh act ic){u:Um}(hn:∀op∈u,op.act.touch?=none)(hl:∀op∈u,op.act.low B)(hg:∀op∈u,op.g<N')(hN:N<=N')
  (qZ:∀op∈u,∀a,op.act≠ .mark (.release a))
  (kr:∀i,i<N'->∀l,rd' i l->∀idx a,touchAt t idx=some a->a.loc=l->a.write=true->Wi (t++u) i idx) (kw:∀i,i<N'->∀l,wr' i l->∀idx a,touchAt t idx=some a->a.loc=l->Wi (t++u) i idx)
  (sp:∀idx a,touchAt t idx=some a->Sh a.loc->(a.kind=.plain->∀i,act' i->Wi (t++u) i idx)/\(a.kind=.said->Wi (t++u) kA idx)):TI (t++u) B N' rd' wr' Sh act' kA:=
 ⟨amQ h.nr hn,λop au=>(Ut.1 au).elim (h.low op) (hl op),λop au=>(Ut.1 au).elim (λx=>Td (h.gs op x) hN) (hg op),λop au=>(Ut.1 au).elim (h.norel op) (qZ op),
  λi hi l x idx a ha=>kr i hi l x idx a (Ag hn ha),λi hi l x idx a ha=>kw i hi l x idx a (Ag hn ha),λidx a ha=>sp idx a (Ag hn ha)⟩
theorem qK{t u:Um}{k:Nat}{x:V_}(h:u[k]?=some x):(t++u)[t.size+k]?=some x:=by
 rw[X5 (by omega)];simpa using h
theorem heard_new{t u:Um}{k g:Nat}{x:V_}(h:u[k]?=some x)(hx:x.g=g)(hd:(t++u).deaf g (t.size+k)=0):(t++u).heard (t.size+k):=⟨g,by simp[Wx,qK h,hx],hd⟩
def still (m:MemAct):Prop:=m≠ .mark .disable/\m≠ .mark .enable
theorem Ie{g d:Nat}{y:V_}(h:still y.act):deafStep g d y=d:=by
 unfold deafStep;obtain⟨_,_,_,act⟩:=y;cases act with
 |mark m=>cases m<;>first|rfl|exact absurd rfl h.1|exact absurd rfl h.2
 |_=>rfl
theorem tL{t u:Um}{g:Nat}(hs:∀op∈u,still op.act):∀{k:Nat},k<=u.size->(t++u).deaf g (t.size+k)=UR t g:=by
 intro k;induction k with
 |zero=>intro _;exact deaf_old (SP _)
 |succ k ih=>
  intro hk;have hlt:k<u.size:=by omega
  have hy:u[k]?=some u[k]:=SK hlt;have e:=Z9 (g:=g) (qK (t:=t) hy);rw[show t.size+(k+1)=t.size+k+1 from rfl,e,ih (by omega),Ie (hs _ (XS hlt))]
theorem Deaf_still{t u:Um}{g:Nat}(hs:∀op∈u,still op.act):UR (t++u) g=UR t g:=by
 have:=tL (t:=t) (g:=g) hs (SP u.size);unfold UR;rw[Xz];exact this
theorem amx{t u:Um}{k c s:Nat}{x0 x1 x2 x3:V_}(hu:u=#[x0,x1,x2,x3]) (h0:x0.g=k/\x0.act=.send c s) (h1:still x1.act) (h2:still x2.act) (h3:x3.g=0/\x3.act=.recvDone c s) (dk:UR t k=0) (d0:UR t 0=0) {idx:Nat} (h:Wi t k idx):Wi (t++u) 0 idx:=by
 have hs:∀op∈u,still op.act:=by
  subst hu;intro op au;simp only[TK,SL,S4,or_false]at au;rcases au with rfl|rfl|rfl|rfl
  ·rw[h0.2];exact⟨by simp,by simp⟩
  ·exact h1
  ·exact h2
  ·rw[h3.2];exact⟨by simp,by simp⟩
 have e0:u[0]?=some x0:=by subst hu;rfl
 have e3:u[3]?=some x3:=by subst hu;rfl
 have aV:u.size=4:=by subst hu;rfl
 have g0:=qK (t:=t) e0;have g3:=qK (t:=t) e3;have hh0:(t++u).heard (t.size+0):=heard_new e0 h0.1 (by rw[tL hs (by omega)];exact dk);have QL:(t++u).heard (t.size+3):=heard_new e3 h3.1 (by rw[tL hs (by omega)];exact d0);have hb:HappensBefore (t++u) idx (t.size+0):=h.hb_new (by omega) g0 h0.1;exact⟨_,x3,g3,h3.1,.inr (hb.trans (.single (.inr ⟨.handOver (c:=c) (k:=s) (by rw[ad' g0,h0.2]) (by rw[ad' g3,h3.2]),hh0,QL⟩)))⟩
theorem ad7{t:Um}{a:U1}{r q i:Nat}{y:V_}(hr:t.act? r=some (.mark (.releaseMerge a)))(hh:t.heard r)(hn:∀op∈t,∀a,op.act≠ .mark (.release a))(hy:y.g=q/\y.act=.mark (.acquire a))(hd:UR t q=0)(hb:Before t i r):Wi (t++#[y]) q i:=by
 have e:(#[y]:Um)[0]?=some y:=rfl;have g:=qK (t:=t) e;have ul:=VY hr;have aP:∀op∈(#[y]:Um),still op.act:=by
  intro op au;simp only[TK,SL,S4,or_false]at au;subst au;rw[hy.2];exact⟨by simp,by simp⟩
 have J3:(t++#[y]).heard (t.size+0):=heard_new e hy.1 (by rw[tL aP (by simp)];exact hd);refine⟨_,y,g,hy.1,.inr ((hb.app #[y]).hb (.single (.inr ⟨.marked (a:=a) (by omega) (.inr (by rw[X4 ul];exact hr)) (by rw[ad' g,hy.2]) (λk ik cE e'=> ?_),(Wo ul).2 hh,J3⟩)))⟩;obtain⟨op,ho,hoa⟩:=Tq.1 e';rcases Xi ho with⟨_,ba⟩|⟨hk,_⟩
 ·exact hn op (XQ ba) a hoa
 ·omega
theorem afR{t:Um}{c p q i:Nat}{y:V_}(hp:t.act? p=some (.close c))(hh:t.heard p)(hy:y.g=q/\y.act=.recvClosed c)(hd:UR t q=0)(hb:Before t i p):Wi (t++#[y]) q i:=by
 have e:(#[y]:Um)[0]?=some y:=rfl;have g:=qK (t:=t) e;have dl:=VY hp;have aP:∀op∈(#[y]:Um),still op.act:=by
  intro op au;simp only[TK,SL,S4,or_false]at au;subst au;rw[hy.2];exact⟨by simp,by simp⟩
 have J3:(t++#[y]).heard (t.size+0):=heard_new e hy.1 (by rw[tL aP (by simp)];exact hd);exact⟨_,y,g,hy.1,.inr ((hb.app #[y]).hb (.single (.inr ⟨.closed (c:=c) (by rw[X4 dl];exact hp) (by rw[ad' g,hy.2]),(Wo dl).2 hh,J3⟩)))⟩
def jG (U V:View):Prop:=∀b,U.own b≠none->V.own b=none/\∀o,V.ab b o≠none->U.ab b o≠none
def gH (V:View):Loc->Prop
 |.cell a=>V.own a.block≠none\/V.ab a.block a.off≠none
 |.obj r=>V.own r≠none
 |_=>False
def jH (V:View):Loc->Prop
 |.cell a=>V.own a.block≠none/\V.ab a.block a.off=none
 |.obj r=>V.own r≠none
 |_=>False
theorem jH.rd{V:View}:∀{l:Loc},jH V l->gH V l
 |.cell _,h=> .inl h.1
 |.obj _,h=>h
theorem da.others{V V' U:View}{w w':Tp}{es:Array Uq}(s:da V w V' w' es)(hV:Sat V w)(h:Sat U w)(d:jG V U):Sat U w':=by
 refine⟨λb o v e=> ?_,λb x e=> ?_⟩
 ·have hc:=h.ab b o v e;have hb:=h.Ct e;cases ho:V.own b with
  |none=>
   have:=s.frame b hb ho;simp only[Ux,this]at hc⊢;exact hc
  |some x=>
   have hp:=(d b (by rw[ho];simp)).2 o (by rw[e];simp);cases hi:V.ab b o with
   |none=>exact absurd hi hp
   |some v'=>
    have e1:=hV.ab b o v' hi;rw[hc]at e1;cases e1;exact s.sat.ab b o v (s.ab b o v hi)
 ·have hb:=h.lt e;have ho:V.own b=none:=by
   cases ho:V.own b with
   |none=>rfl
   |some y=>rw[(d b (by rw[ho];simp)).1]at e;cases e
  rw[s.frame b hb ho];exact h.own b x e
theorem da.vf{V V' U:View}{w w':Tp}{es:Array Uq}(s:da V w V' w' es)(h:Sat U w)(d:jG V U)(d':jG U V):jG V' U/\jG U V':=by
 have key:∀b,V'.own b≠none->V.own b≠none\/w.heap.size<=b:=by
  intro b hb;by_cases hlt:b<w.heap.size
  ·exact .inl λe=>hb (s.own b hlt e)
  ·exact .inr (by omega)
 refine⟨λb hb=> ?_,λb hb=> ?_⟩
 ·rcases key b hb with x|x
  ·refine⟨(d b x).1,λo ho=> ?_⟩;have:=(d b x).2 o ho;cases e:V.ab b o with
   |none=>exact absurd e this
   |some v=>rw[s.ab b o v e];simp
  ·have:=h.fresh x;exact⟨this.1,λo ho=>absurd (this.2 o) ho⟩
 ·have hlt:b<w.heap.size:=by
   cases e:U.own b with
   |none=>exact absurd e hb
   |some x=>exact h.lt e
  refine⟨?_,λo ho=> ?_⟩
  ·exact s.own b hlt (d' b hb).1
  ·cases e:V'.ab b o with
   |none=>exact absurd e ho
   |some v=>
    rcases s.kB b o v e with x|x|x
    ·exact(d' b hb).2 o (by rw[x];simp)
    ·exact absurd (d' b hb).1 x
    ·omega
theorem dT.vf{V V' U:View}(g:dT V V')(d:jG V U)(d':jG U V):jG V' U/\jG U V':=by
 refine⟨λb hb=> ?_,λb hb=>⟨g.own b (d' b hb).1,λo ho=> ?_⟩⟩
 ·have x:V.own b≠none:=λe=>hb (g.own b e);refine⟨(d b x).1,λo ho=> ?_⟩;cases e:V.ab b o with
  |none=>exact absurd e ((d b x).2 o ho)
  |some v=>rw[g.ab b o v e];simp
 ·cases e:V'.ab b o with
  |none=>exact absurd e ho
  |some v=>
   rcases g.kB b o v e with x|x
   ·exact(d' b hb).2 o (by rw[x];simp)
   ·exact absurd (d' b hb).1 x
theorem dT.rd{V V':View}(g:dT V V'):∀{l:Loc},gH V' l->gH V l
 |.cell a,h=>by
  rcases h with h|h
  ·exact .inl λe=>h (g.own _ e)
  ·cases e:V'.ab a.block a.off with
   |none=>exact absurd e h
   |some v=>exact(g.kB _ _ _ e).elim (λx=> .inr (by rw[x];simp)) .inl
 |.obj _,h=>λe=>h (g.own _ e)
theorem dT.wr{V V':View}(g:dT V V'):∀{l:Loc},jH V' l->jH V l
 |.cell a,h=>⟨λe=>h.1 (g.own _ e),by
  cases e:V.ab a.block a.off with
  |none=>rfl
  |some v=>exact absurd (g.ab _ _ _ e) (by rw[h.2];simp)⟩
 |.obj _,h=>λe=>h (g.own _ e)
theorem gH.low{V:View}{w:Tp}(h:Sat V w):∀{l:Loc},gH V l->l.low w.heap.size
 |.cell a,x=>by
  rcases x with x|x
  ·cases e:V.own a.block with
   |none=>exact absurd e x
   |some y=>exact h.lt e
  ·cases e:V.ab a.block a.off with
   |none=>exact absurd e x
   |some y=>exact h.Ct e
 |.obj r,x=>by
  cases e:V.own r with
  |none=>exact absurd e x
  |some y=>exact h.lt e
theorem da.rd{V V':View}{w w':Tp}{es:Array Uq}(s:da V w V' w' es):∀{l:Loc},gH V' l->l.low w.heap.size->gH V l
 |.cell a,h,hl=>by
  have eB:a.block<w.heap.size:=hl;rcases h with h|h
  ·exact .inl λe=>h (s.own _ eB e)
  ·cases e:V'.ab a.block a.off with
   |none=>exact absurd e h
   |some v=>
    rcases s.kB _ _ _ e with x|x|x
    ·exact .inr (by rw[x];simp)
    ·exact .inl x
    ·omega
 |.obj r,h,hl=>λe=>h (s.own _ hl e)
theorem da.wr{V V':View}{w w':Tp}{es:Array Uq}(s:da V w V' w' es):∀{l:Loc},jH V' l->l.low w.heap.size->jH V l
 |.cell a,h,hl=>⟨λe=>h.1 (s.own _ hl e),by
  cases e:V.ab a.block a.off with
  |none=>rfl
  |some v=>exact absurd (s.ab _ _ _ e) (by rw[h.2];simp)⟩
 |.obj r,h,hl=>λe=>h (s.own _ hl e)
theorem agd{U V:View}(d:jG U V)(d':jG V U)(l:Loc):(jH U l->¬gH V l/\¬jH V l)/\(gH U l->¬jH V l):=by
 cases l with
 |cell a=>
  refine⟨λh=> ?_,λh=> ?_⟩
  ·have:=d _ h.1;refine⟨λx=> ?_,λx=>x.1 this.1⟩;rcases x with x|x
   ·exact x this.1
   ·exact this.2 _ x h.2
  ·intro x;have:=d' _ x.1;rcases h with h|h
   ·exact h this.1
   ·exact this.2 _ h x.2
 |obj r=>exact⟨λh=>⟨λx=>x (d r h).1,λx=>x (d r h).1⟩,λh x=>h (d' r x).1⟩
 |_=>exact⟨λh=>h.elim,λh=>h.elim⟩
def qA (c Wg:Nat):Loc->Prop
 |.cell a=>a.block=Wg
 |.obj r=>r=c
 |_=>False
structure Core (VV:Nat->View)(N:Nat)(w:Tp)(t:Um)(Sh:Loc->Prop)(act:Nat->Prop)(ic n0:Nat)(W0:Tp):Prop where
 sat:∀i,i<N->Sat (VV i) w
 dK:∀i j,i<N->j<N->i≠j->jG (VV i) (VV j)
 ti:TI t w.heap.size N (λi l=>i<N/\gH (VV i) l/\¬Sh l) (λi l=>i<N/\jH (VV i) l/\¬Sh l) Sh act ic
 tape:w.tape=W0.tape
 os:w.os=W0.os
 out:w.output=W0.output
 old:∀b,b<n0->w.heap[b]?=W0.heap[b]?
 jc:∀i,i<N->∀b,b<n0->(VV i).own b=none
 n0:n0<=w.heap.size
def upd {α:Type}(f:Nat->α)(i:Nat)(x:α):Nat->α:=λj=>if j=i then x else f j
theorem bu{α:Type}(f:Nat->α)(i:Nat)(x:α):upd f i x i=x:=by simp[upd]
theorem aZ{α:Type}(f:Nat->α){i j:Nat}(x:α)(h:j≠i):upd f i x j=f j:=by simp[upd,h]
section
variable {VV:Nat->View}{N:Nat}{w w':Tp}{t:Um}{Sh:Loc->Prop}{act:Nat->Prop}{ic n0 i:Nat}{W0:Tp}
theorem Core.draw(h:Core VV N w t Sh act ic n0 W0)(d:Nat):Core VV N (w.at d) t Sh act ic n0 W0:=
 ⟨λi hi=>⟨(h.sat i hi).ab,(h.sat i hi).own⟩,h.dK,h.ti,h.tape,h.os,h.out,h.old,h.jc,h.n0⟩
theorem IB{V:View}{B:Nat}{e:Uq}(he:mP V B e){x:YH}(hx:(Ts e).touch?=some x):(jH V x.loc\/(gH V x.loc/\x.write=false)\/¬x.loc.low B)/\
  (∀c,V.role.chan=some c->x.loc≠ .obj c)/\(∀Wg a,V.role.group=some Wg->x.loc=.cell a->a.block=Wg->x.kind≠ .plain):=by
 obtain⟨l,wr,s⟩:=e;cases l with
 |cell a=>
  simp only[al',Wa,Tl]at hx;subst hx;cases wr with
  |false=>
   refine⟨?_,λc _=>by simp,λWg a' hr ha hb=> ?_⟩
   ·rcases he.1 with h|h|h
    ·exact .inr (.inr (by show ¬a.block<B;omega))
    ·exact .inr (.inl ⟨.inl h,rfl⟩)
    ·exact .inr (.inl ⟨.inr h,rfl⟩)
   ·cases ha;rcases he.2 with h|h
    ·subst h;simp
    ·subst hb;exact absurd hr h
  |true=>
   refine⟨?_,λc _=>by simp,λWg a' hr ha hb=> ?_⟩
   ·rcases he.1 with h|h
    ·exact .inr (.inr (by show ¬a.block<B;omega))
    ·exact .inl h
   ·cases ha;rcases he.2 with h|h
    ·subst h;simp
    ·subst hb;exact absurd hr h
 |obj r=>
  obtain⟨⟨rfl,h2⟩,h3⟩:=he;have e1:Ts ⟨.obj r,wr,false⟩=.access ⟨.obj r,wr,false⟩:=by cases wr<;>rfl
  rw[e1]at hx;simp only[Wa,Tl]at hx;subst hx;refine⟨?_,λc hc e=> ?_,λWg a _ ha=>by cases ha⟩
  ·rcases h2 with h|h
   ·exact .inr (.inr (by show ¬r<B;omega))
   ·exact .inl h
  ·cases e;exact h3 hc
 |mark m=>
  have e1:Ts ⟨.mark m,wr,s⟩=.mark m:=by cases wr<;>cases s<;>rfl
  rw[e1]at hx;cases m<;>simp only[Wa,Tl,reduceCtorEq]at hx
  all_goals
   subst hx;refine⟨?_,λc _=>by simp,λWg a' _ _ _=>by simp⟩;have j4:mr V B _:=he;rcases j4 with h|h
   ·exact .inr (.inr (by simp only[Loc.low];omega))
   ·exact .inl h
 |_=>exact he.elim
theorem Core.O7(h:Core VV N w t Sh act ic n0 W0)(l:Loc){i j:Nat}(hi:i<N)(hj:j≠i):
  ((i<N/\jH (VV i) l/\¬Sh l)->¬(j<N/\gH (VV j) l/\¬Sh l)/\¬(j<N/\jH (VV j) l/\¬Sh l))/\((i<N/\gH (VV i) l/\¬Sh l)->¬(j<N/\jH (VV j) l/\¬Sh l)):=by
 by_cases BV:j<N
 ·have:=agd (h.dK i j hi BV (Ne.symm hj)) (h.dK j i BV hi hj) l;exact⟨λ⟨_,x,_⟩=>⟨λ⟨_,y,_⟩=>(this.1 x).1 y,λ⟨_,y,_⟩=>(this.1 x).2 y⟩,λ⟨_,x,_⟩ ⟨_,y,_⟩=>this.2 x y⟩
 ·exact⟨λ_=>⟨λ⟨y,_⟩=>BV y,λ⟨y,_⟩=>BV y⟩,λ_ ⟨y,_⟩=>BV y⟩
theorem Core.step(h:Core VV N w t Sh act ic n0 W0)(hi:i<N){V':View}{es:Array Uq}(s:da (VV i) w V' w' es)
  (dG:∀e∈es,∀x,(Ts e).touch?=some x->Sh x.loc->(x.kind=.atomic/\act i)\/(x.kind=.said/\i=ic/\act i)) (fn:TQ) (pos:String):
  Core (upd VV i V') N w' (t++Ta i fn pos es) Sh act ic n0 W0 where
 sat j hj:=by
  by_cases cg:j=i
  ·subst cg;rw[bu];exact s.sat
  ·rw[aZ _ _ cg];exact s.others (h.sat i hi) (h.sat j hj) (h.dK i j hi hj (Ne.symm cg))
 dK a b ha hb fK:=by
  by_cases nh:a=i
  ·subst nh;have vw:b≠a:=Ne.symm fK;rw[bu,aZ _ _ vw];exact(s.vf (h.sat b hb) (h.dK a b ha hb fK) (h.dK b a hb ha vw)).1
  ·by_cases iE:b=i
   ·subst iE;rw[bu,aZ _ _ nh];exact(s.vf (h.sat a ha) (h.dK b a hb ha (Ne.symm fK)) (h.dK a b ha hb fK)).2
   ·rw[aZ _ _ nh,aZ _ _ iE];exact h.dK a b ha hb fK
 ti:=by
  refine h.ti.app hi (λop au=>by obtain⟨e,_,rfl⟩:=TM au;rfl) (λop au x hx=> ?_) (λop au=>by obtain⟨e,he,rfl⟩:=TM au;exact s.low e he) s.size (λop au a=> ?_)
   (λj l hj ⟨x,y⟩=>by rw[aZ _ _ hj]at y;exact⟨x,y⟩) (λj l hj ⟨x,y⟩=>by rw[aZ _ _ hj]at y;exact⟨x,y⟩)
   (λl ⟨x,y,z⟩ hl=>by rw[bu]at y;exact .inl ⟨x,s.rd y hl,z⟩) (λl ⟨x,y,z⟩ hl=>by rw[bu]at y;exact⟨x,s.wr y hl,z⟩)
   (λl j hj=>h.O7 l hi hj) (λl j hs=>⟨λx=>x.2.2 hs,λx=>x.2.2 hs⟩) (λj l x=>x.elim (λy=>gH.low (h.sat j y.1) y.2.1) (λy=>gH.low (h.sat j y.1) y.2.1.rd))
  ·obtain⟨e,he,rfl⟩:=TM au;by_cases hs:Sh x.loc
   ·rcases dG e he x hx hs with⟨a,b⟩|⟨a,b,c⟩
    ·exact .inl ⟨hs,a,b⟩
    ·exact .inr (.inl ⟨hs,a,b,c⟩)
   ·refine .inr (.inr ⟨hs,?_⟩);rcases(IB (s.e9 e he) hx).1 with x'|⟨x',y⟩|x'
    ·exact .inl ⟨hi,x',hs⟩
    ·exact .inr (.inl ⟨⟨hi,x',hs⟩,y⟩)
    ·exact .inr (.inr x')
  ·obtain⟨e,he,rfl⟩:=TM au;intro e';have hk:=s.e9 e he;obtain⟨l,wr,sy⟩:=e;cases l with
   |mark m=>
    have e1:Ts ⟨.mark m,wr,sy⟩=.mark m:=(by cases wr<;>cases sy<;>rfl);simp only[e1,ag_]at e';subst e';exact hk
   |cell a'=>simp[al']at e'
   |obj r=>cases wr<;>cases sy<;>simp[Ts]at e'
   |_=>exact hk
 tape:=s.tape.trans h.tape
 os:=s.os.trans h.os
 out:=s.output.trans h.out
 old b hb:=(s.frame b (Td hb h.n0) (h.jc i hi b hb)).trans (h.old b hb)
 jc j hj b hb:=by
  by_cases cg:j=i
  ·subst cg;rw[bu];exact s.own b (Td hb h.n0) (h.jc j hj b hb)
  ·rw[aZ _ _ cg];exact h.jc j hj b hb
 n0:=UF h.n0 s.size
theorem Core.ghost(h:Core VV N w t Sh act ic n0 W0)(hi:i<N){V':View}(g:dT (VV i) V'):Core (upd VV i V') N w t Sh act ic n0 W0 where
 sat j hj:=by
  by_cases cg:j=i
  ·subst cg;rw[bu];exact g.sat _ (h.sat j hj)
  ·rw[aZ _ _ cg];exact h.sat j hj
 dK a b ha hb fK:=by
  by_cases nh:a=i
  ·subst nh;have vw:b≠a:=Ne.symm fK;rw[bu,aZ _ _ vw];exact(g.vf (h.dK a b ha hb fK) (h.dK b a hb ha vw)).1
  ·by_cases iE:b=i
   ·subst iE;rw[bu,aZ _ _ nh];exact(g.vf (h.dK b a hb ha (Ne.symm fK)) (h.dK a b ha hb fK)).2
   ·rw[aZ _ _ nh,aZ _ _ iE];exact h.dK a b ha hb fK
 ti:=h.ti.weaken (SP _) (λj l _ ⟨x,y,z⟩=>by
   by_cases cg:j=i
   ·subst cg;rw[bu]at y;exact .inl ⟨x,g.rd y,z⟩
   ·rw[aZ _ _ cg]at y;exact .inl ⟨x,y,z⟩) (λj l _ ⟨x,y,z⟩=>by
   by_cases cg:j=i
   ·subst cg;rw[bu]at y;exact⟨x,g.wr y,z⟩
   ·rw[aZ _ _ cg]at y;exact⟨x,y,z⟩) h.ti.sp
 tape:=h.tape
 os:=h.os
 out:=h.out
 old:=h.old
 jc j hj b hb:=by
  by_cases cg:j=i
  ·subst cg;rw[bu];exact g.own b (h.jc j hj b hb)
  ·rw[aZ _ _ cg];exact h.jc j hj b hb
 n0:=h.n0
def mq (V' V:View):Prop:=(∀b,V'.own b=none\/V'.own b=V.own b)/\(∀b o,V'.ab b o=none\/V'.ab b o=V.ab b o)/\(∀b,V'.own b≠none->∀o,V'.ab b o=V.ab b o)
theorem mq.sat{V V':View}(l:mq V' V){w:Tp}(h:Sat V w):Sat V' w:=
 ⟨λb o v e=>h.ab b o v (by rcases l.2.1 b o with x|x<;>rw[x]at e;cases e;exact e),λb x e=>h.own b x (by rcases l.1 b with y|y<;>rw[y]at e;cases e;exact e)⟩
theorem mq.rd{V V':View}(k:mq V' V):∀{l:Loc},gH V' l->gH V l
 |.cell a,h=>h.imp (λx y=>by rcases k.1 a.block with z|z;exact x z;exact x (z.trans y)) (λx y=>by rcases k.2.1 a.block a.off with z|z;exact x z;exact x (z.trans y))
 |.obj r,h=>λy=>by rcases k.1 r with z|z;exact h z;exact h (z.trans y)
theorem mq.wr{V V':View}(k:mq V' V):∀{l:Loc},jH V' l->jH V l
 |.cell a,h=>⟨λy=>by rcases k.1 a.block with z|z;exact h.1 z;exact h.1 (z.trans y),by rw[<- k.2.2 _ h.1];exact h.2⟩
 |.obj r,h=>λy=>by rcases k.1 r with z|z;exact h z;exact h (z.trans y)
theorem mq.vf{V V' U:View}(k:mq V' V)(d:jG V U)(d':jG U V):jG V' U/\jG U V':=by
 refine⟨λb hb=> ?_,λb hb=>⟨?_,λo ho=> ?_⟩⟩
 ·have x:V.own b≠none:=λy=>by rcases k.1 b with z|z;exact hb z;exact hb (z.trans y)
  exact⟨(d b x).1,λo ho=>by rw[k.2.2 b hb];exact(d b x).2 o ho⟩
 ·rcases k.1 b with z|z;exact z;exact z.trans (d' b hb).1
 ·exact(d' b hb).2 o λy=>by rcases k.2.1 b o with z|z;exact ho z;exact ho (z.trans y)
theorem Core.less(h:Core VV N w t Sh act ic n0 W0)(hi:i<N){V':View}(k:mq V' (VV i)):Core (upd VV i V') N w t Sh act ic n0 W0 where
 sat j hj:=by
  by_cases cg:j=i
  ·subst cg;rw[bu];exact k.sat (h.sat j hj)
  ·rw[aZ _ _ cg];exact h.sat j hj
 dK a b ha hb fK:=by
  by_cases nh:a=i
  ·subst nh;have vw:b≠a:=Ne.symm fK;rw[bu,aZ _ _ vw];exact(k.vf (h.dK a b ha hb fK) (h.dK b a hb ha vw)).1
  ·by_cases iE:b=i
   ·subst iE;rw[bu,aZ _ _ nh];exact(k.vf (h.dK b a hb ha (Ne.symm fK)) (h.dK a b ha hb fK)).2
   ·rw[aZ _ _ nh,aZ _ _ iE];exact h.dK a b ha hb fK
 ti:=h.ti.weaken (SP _) (λj l _ ⟨x,y,z⟩=>by
   by_cases cg:j=i
   ·subst cg;rw[bu]at y;exact .inl ⟨x,k.rd y,z⟩
   ·rw[aZ _ _ cg]at y;exact .inl ⟨x,y,z⟩) (λj l _ ⟨x,y,z⟩=>by
   by_cases cg:j=i
   ·subst cg;rw[bu]at y;exact⟨x,k.wr y,z⟩
   ·rw[aZ _ _ cg]at y;exact⟨x,y,z⟩) h.ti.sp
 tape:=h.tape
 os:=h.os
 out:=h.out
 old:=h.old
 jc j hj b hb:=by
  by_cases cg:j=i
  ·subst cg;rw[bu];rcases k.1 b with z|z;exact z;exact z.trans (h.jc j hj b hb)
  ·rw[aZ _ _ cg];exact h.jc j hj b hb
 n0:=h.n0
theorem Core.s9(h:Core VV N w t Sh act ic n0 W0)(hi:i<N){es:Array Uq}(cm:∀e∈es,∀x,(Ts e).touch?=some x->Fit w.heap.size (λi l=>i<N/\gH (VV i) l/\¬Sh l) (λi l=>i<N/\jH (VV i) l/\¬Sh l) Sh act ic i x)
  (gW:∀e∈es,(Ts e).low w.heap.size) (qZ:∀e∈es,∀a,Ts e≠ .mark (.release a)) (SB:Nat->Prop) (KG:∀b,SB b->n0<=b/\∀j,j<N->(VV j).own b=none/\∀o,(VV j).ab b o=none)
  (aV:w'.heap.size=w.heap.size) (ju:∀b,¬SB b->w'.heap[b]?=w.heap[b]?) (ht:w'.tape=w.tape) (ho:w'.os=w.os) (hu:w'.output=w.output) (fn:TQ) (pos:String):
  Core VV N w' (t++Ta i fn pos es) Sh act ic n0 W0 where
 sat j hj:=by
  have hs:=h.sat j hj;refine⟨λb o v e=> ?_,λb x e=> ?_⟩
  ·have hb:¬SB b:=λx=>(by rw[((KG b x).2 j hj).2 o]at e;cases e);have:=hs.ab b o v e;simp only[Ux,ju b hb];exact this
  ·have hb:¬SB b:=λy=>(by rw[((KG b y).2 j hj).1]at e;cases e);rw[ju b hb];exact hs.own b x e
 dK:=h.dK
 ti:=by
  rw[aV];refine h.ti.app hi (λop au=>by obtain⟨e,_,rfl⟩:=TM au;rfl) (λop au x hx=>by obtain⟨e,he,rfl⟩:=TM au;exact cm e he x hx) (λop au=>by obtain⟨e,he,rfl⟩:=TM au;exact gW e he) (SP _) (λop au a=>by obtain⟨e,he,rfl⟩:=TM au;exact qZ e he a)
   (λj l _ x=>x) (λj l _ x=>x) (λl x _=> .inl x) (λl x _=>x) (λl j hj=>h.O7 l hi hj) (λl j hs=>⟨λx=>x.2.2 hs,λx=>x.2.2 hs⟩) (λj l x=>x.elim (λy=>gH.low (h.sat j y.1) y.2.1) (λy=>gH.low (h.sat j y.1) y.2.1.rd))
 tape:=ht.trans h.tape
 os:=ho.trans h.os
 out:=hu.trans h.out
 old b hb:=(ju b (λx=>by have:=(KG b x).1;omega)).trans (h.old b hb)
 jc:=h.jc
 n0:=by rw[aV];exact h.n0
theorem Core.quiet(h:Core VV N w t Sh act ic n0 W0)(hi:i<N){es:Array Uq}(JL:∀e∈es,(Ts e).touch?=none/\(Ts e).low w.heap.size/\∀a,Ts e≠ .mark (.release a))(fn:TQ)(pos:String):
  Core VV N w (t++Ta i fn pos es) Sh act ic n0 W0:=
 h.s9 hi (λe he x hx=>by rw[(JL e he).1]at hx;cases hx) (λe he=>(JL e he).2.1) (λe he=>(JL e he).2.2) (λ_=>False) (λb x=>x.elim) rfl (λ_ _=>rfl) rfl rfl rfl fn pos
theorem Core.role(h:Core VV N w t Sh act ic n0 W0)(hi:i<N){V':View}(h1:V'.ab=(VV i).ab)(h2:V'.own=(VV i).own):Core (upd VV i V') N w t Sh act ic n0 W0:=
 h.less hi ⟨λb=> .inr (by rw[h2]),λb o=> .inr (by rw[h1]),λb _ o=>by rw[h1]⟩
end
inductive GS where
 |gone (q:Nat)
 |work (j:Nat) (h:Ht) (V:View)
 |nI (j:Nat) (h:Ht) (V V':View) (g0:SH) (v z:SO)
 |add (n:Nat)
 |load (n:Nat)
 |store (n:Nat)
 |mh (n:Nat)
 |head (k n:Nat)
 |lW (v n:Nat)
 |said (n:Nat)
 |gU (n:Nat)
 |last (n:Nat)
 |acq (n:Nat)
 |look (n:Nat)
 |close (n:Nat)
def noView:View:={ab:=λ_ _=>none,own:=λ_=>none,deaf:=0,role:=.plain}
def GS.view (Im:cq):GS->View
 |.work _ _ V=>V
 |.nI _ _ V _ _ _ _=>V
 |.head .. |.lW .. |.said _|.gU _|.last _|.acq _|.look _=>{noView with ab:=Im}
 |_=>noView
def GS.cnt:GS->Nat
 |.work .. |.nI .. |.add _=>1
 |_=>0
def GS.late:GS->Nat
 |.load _|.store _|.mh _=>1
 |_=>0
def GS.idx:GS->Option Nat
 |.work j _ _=>some j
 |.nI j _ _ _ _ _ _=>some j
 |_=>none
def GS.shape:GS->GS
 |.gone _=> .gone 0
 |.work j _ _=> .work j .z noView
 |.nI j _ _ _ _ _ _=> .work j .z noView
 |.add _=> .add 0
 |.load _=> .load 0
 |.store _=> .store 0
 |.mh _=> .mh 0
 |.head k _=> .head k 0
 |.lW v _=> .lW v 0
 |.said _=> .said 0
 |.gU _=> .gU 0
 |.last _=> .last 0
 |.acq _=> .acq 0
 |.look _=> .look 0
 |.close _=> .close 0
theorem GS.m_:∀K:GS,K.shape.cnt=K.cnt:=by intro K;cases K<;>rfl
theorem GS.mc:∀K:GS,K.shape.late=K.late:=by intro K;cases K<;>rfl
theorem GS.FN:∀K:GS,K.shape.idx=K.idx:=by intro K;cases K<;>rfl
def GS.m9:GS->Bool
 |.head .. |.lW .. |.said _|.gU _|.last _|.acq _|.look _|.close _=>true
 |_=>false
theorem GS.Oo:∀K:GS,K.shape.m9=K.m9:=by intro K;cases K<;>rfl
def GS.cY:GS->yo
 |.gone q=>⟨0,.z,q⟩
 |.work _ h V=>⟨11+2* (match V.role with|.work _ _ S=>S.length|_=>0),h,0⟩
 |.nI _ h V _ _ _ _=>⟨10+2* (match V.role with|.work _ _ S=>S.length|_=>0),h,0⟩
 |.add n=>⟨8,.z,n⟩
 |.load n=>⟨7,.z,n⟩
 |.store n=>⟨6,.z,n⟩
 |.mh n=>⟨5,.z,n⟩
 |.head k n=>⟨100+3* k,.z,n⟩
 |.lW v n=>⟨102+3* v,.z,n⟩
 |.said n=>⟨60,.z,n⟩
 |.gU n=>⟨50,.z,n⟩
 |.last n=>⟨40,.z,n⟩
 |.acq n=>⟨30,.z,n⟩
 |.look n=>⟨20,.z,n⟩
 |.close n=>⟨15,.z,n⟩
section
variable (P:SJ)(c Wg:Nat)(Im:cq)(Ss:List (List Spec))
def Dp (v d:Nat)(g:SH):Prop:=d=1/\g.status=.running/\
 (∃g',(∀w,WgAt P Wg w ((v:Int)* KK) 0->stepG P false g w=.go g' (w.setCell (dV Wg) (.int .u64 ((v:Int)* KK+1))) #[iT (dV Wg),kP (dV Wg)])/\∃n,gR P Wg (Dq P Im c Wg) n 1 g')/\
 (∀u:Nat,u<v->∃g',(∀w,WgAt P Wg w ((u:Int)* KK) 0->stepG P false g w=.go g' w #[iT (dV Wg)])/\∃n,cP P (ez P Im c Wg v) n 1 g')
theorem ez.succ{k d:Nat}{g:SH}(h:ez P Im c Wg (k+1) d g):d=1/\g.status=.running/\∀v:Nat,v<=k->v<=4->∃g',(∀w,WgAt P Wg w ((v:Int)* KK) 0->stepG P false g w=.go g' w #[iT (dV Wg)])/\
  (v=0->∃n,gR P Wg (tj P Im c Wg) n 1 g')/\(v≠0->∃n,cP P (Dp P c Wg Im v) n 1 g'):=by
 rw[ez]at h;exact h
theorem ez.zero{d:Nat}{g:SH}(h:ez P Im c Wg 0 d g):False:=by
 rw[ez]at h;exact h
def GS.is:GS->Nat->SH->Prop
 |.gone q,d,g=>Y2 P q d g
 |.work j h V,d,g=>d=V.deaf/\lq P h V g/\∃S,Ss[j]?=some S/\V.role=.work c Wg S
 |.nI j h V V' g0 v z,d,g=>d=0/\V.deaf=0/\g=parked g0 #[scase c v z] .send/\lq P h V' (T4 g0 undef)/\∃sp S,∃B:Nat->Bool,Ss[j]?=some (sp::S)/\V.role=.work c Wg (sp::S)/\
   sp v V.ab (λb=>if B b then V.own b else none)/\V'={V with own:=λb=>if B b then none else V.own b,role:=.work c Wg S}
 |.add n,d,g=>cP P (Ap P Wg) n d g
 |.load n,d,g=>cP P (Ds P Wg) n d g
 |.store n,d,g=>cP P (Du P Wg) n d g
 |.mh n,d,g=>cP P (Dt P Wg) n d g
 |.head k n,d,g=>cP P (ez P Im c Wg k) n d g
 |.lW v n,d,g=>cP P (Dp P c Wg Im v) n d g
 |.said n,d,g=>gR P Wg (Dq P Im c Wg) n d g
 |.gU n,d,g=>cP P (Dr P Im c Wg) n d g\/(n=0/\∃g1,g={g1 with status:=.blocked}/\Dr P Im c Wg d g1)
 |.last n,d,g=>cP P (Hm P Im c Wg) n d g
 |.acq n,d,g=>gR P Wg (tj P Im c Wg) n d g
 |.look n,d,g=>cP P (Ho P Im c) n d g
 |.close n,d,g=>cP P (Hl P c) n d g
end
theorem cP.running{P:SJ}{Stop:Nat->SH->Prop}(hs:∀d g,Stop d g->g.status=.running):∀{n d:Nat}{g:SH},cP P Stop n d g->g.status=.running
 |0,_,_,h=>hs _ _ h
 |_+1,_,_,h=>h.elim (hs _ _) (λx=>x.1)
theorem gR.running{P:SJ}{Wg:Nat}{Stop:Nat->SH->Prop}(hs:∀d g,Stop d g->g.status=.running):∀{n d:Nat}{g:SH},gR P Wg Stop n d g->g.status=.running
 |0,_,_,h=>hs _ _ h
 |_+1,_,_,h=>h.elim (hs _ _) (λx=>x.1)
theorem QE{P:SJ}{Im:cq}{c Wg:Nat}:∀{k d:Nat}{g:SH},ez P Im c Wg k d g->g.status=.running
 |0,_,_,h=>(ez.zero P c Wg Im h).elim
 |_+1,_,_,h=>(ez.succ P c Wg Im h).2.1
theorem GS.runs{P:SJ}{c Wg:Nat}{Im:cq}{Ss:List (List Spec)}{K:GS}{d:Nat}{g:SH}(h:K.is P c Wg Im Ss d g):
  g.status=.running\/g.status=.finished/\(∃q,K=.gone q)\/(∃j h V V' g0 v z,K=.nI j h V V' g0 v z)\/((∃n,K=.gU n)/\g.status=.blocked/\g.offers=none):=by
 cases K with
 |gone q=>exact(ZC h).elim .inl (λx=> .inr (.inl ⟨x,q,rfl⟩))
 |work j h' V=>exact .inl h.2.1.running
 |nI j h' V V' g0 v z=>exact .inr (.inr (.inl ⟨j,h',V,V',g0,v,z,rfl⟩))
 |add n=>exact .inl (cP.running (λd g x=>x.2.1) h)
 |load n=>exact .inl (cP.running (λd g x=>x.2.1) h)
 |store n=>exact .inl (cP.running (λd g x=>x.2.1) h)
 |mh n=>exact .inl (cP.running (λd g x=>x.2.1) h)
 |head k n=>exact .inl (cP.running (λd g x=>QE x) h)
 |lW v n=>exact .inl (cP.running (λd g x=>x.2.1) h)
 |said n=>exact .inl (gR.running (λd g x=>x.2.1) h)
 |gU n=>
  rcases h with h|⟨_,g1,rfl,h⟩
  ·exact .inl (cP.running (λd g x=>x.2.1) h)
  ·exact .inr (.inr (.inr ⟨⟨n,rfl⟩,rfl,h.2.2.1⟩))
 |last n=>exact .inl (cP.running (λd g x=>x.2.1) h)
 |acq n=>exact .inl (gR.running (λd g x=>x.2.1) h)
 |look n=>exact .inl (cP.running (λd g x=>x.2.1) h)
 |close n=>exact .inl (cP.running (λd g x=>x.2.1) h)
structure Rel (Wg:Nat)(t:Um)(i r:Nat):Prop where
 act:t.act? r=some (.mark (.releaseMerge (dV Wg)))
 g:t.g? r=some i
 heard:t.heard r
theorem Rel.app{Wg:Nat}{t u:Um}{i r:Nat}(h:Rel Wg t i r):Rel Wg (t++u) i r:=
 have hr:=VY h.act
 ⟨by rw[X4 hr];exact h.act,by rw[g?_old hr];exact h.g,(Wo hr).2 h.heard⟩
inductive eg where
 |early
 |got
 |shut (p:Nat)
 deriving DecidableEq
def wy (Wg:Nat)(t:Um)(K:Nat->GS)(ic:Nat):eg->Nat->Prop
 |.early,idx=>∃i,t.g? idx=some i/\0<i/\(((K i).idx.isSome=true)\/(i=ic)\/∃r,Rel Wg t i r/\idx<=r)
 |.got,idx=>Wi t ic idx
 |.shut p,idx=>Before t idx p
def Rest (Wg:Nat)(t:Um)(K:Nat->GS)(ic:Nat)(st:Option eg):Prop:=
 ∀idx a,touchAt t idx=some a->a.loc.isMemory=true->Wi t 0 idx\/(a.kind=.atomic/\¬t.heard idx)\/∃s,st=some s/\wy Wg t K ic s idx
def Mode (P:SJ)(c Wg N:Nat)(w:Tp)(gs:Array SH)(t:Um)(K:Nat->GS)(ic:Nat)(s:eg):Prop:=
 let cn:Nat:=sumTo N λi=>(K i).cnt;let la:Nat:=sumTo N λi=>(K i).late;let opn:=∃n,w.heap[c]?=some (.chan 0 #[] false n n false)
 (opn/\s=.early/\la=0/\cn<=4/\WgAt P Wg w ((cn:Int)* KK) 0/\((∃k,(K ic).shape=.head k 0/\cn<k)\/(∃v,(K ic).shape=.lW v 0/\cn<=v/\0<v)))\/
 (opn/\s=.early/\la=0/\1<=cn/\cn<=4/\WgAt P Wg w ((cn:Int)* KK+1) 0/\((K ic).shape=.said 0\/(K ic).shape=.gU 0))\/
 (opn/\s=.early/\la=1/\cn=0/\((K ic).shape=.said 0\/(K ic).shape=.gU 0)/\(∀i,i<N->((K i).shape=.load 0\/(K i).shape=.store 0)->WgAt P Wg w 1 0)/\(∀i,i<N->(K i).shape=.mh 0->WgAt P Wg w 0 0))\/
 (opn/\s=.early/\la=0/\cn=0/\WgAt P Wg w 0 1/\(∀g,gs[ic]?=some g->g.status=.running)/\((K ic).shape=.said 0\/(K ic).shape=.gU 0))\/
 (opn/\s=.early/\la=0/\cn=0/\WgAt P Wg w 0 0/\((K ic).shape=.last 0\/(K ic).shape=.acq 0))\/
 (opn/\s=.got/\la=0/\cn=0/\((K ic).shape=.look 0\/(K ic).shape=.close 0))\/
 ((∃p n,s=.shut p/\t.act? p=some (.close c)/\t.heard p/\w.heap[c]?=some (.chan 0 #[] true n n false))/\la=0/\cn=0/\(K ic).shape=.gone 0)
def kj (gs:Array SH)(g:SH):Prop:=∃g0,gs[0]?=some g0/\g0.status=.running/\g0.frame=g.frame/\g0.callers=g.callers/\g0.dying=g.dying
def nN (gs:Array SH)(g:SH)(c:Nat):Prop:=∃g0 z,gs[0]?=some (parked g0 #[rcase c z] (.recv true))/\g0.frame=g.frame/\g0.callers=g.callers/\g0.dying=g.dying
structure Phase where
 c:Nat
 Wg:Nat
 Ss:List (List Spec)
 recv:Bool
def bD (V:View)(Im:cq)(K:Nat->GS):Nat->View:=λi=>if i=0 then V else(K i).view Im
structure Inv (P:SJ)(n0:Nat)(W0:Tp)(V:View)(gs:Array SH)(w:Tp)(t:Um)(K:Nat->GS)(Im:cq)(ic:Nat)(ph:Option Phase)(st:Option eg):Prop where
 pos:0<gs.size
 k0:K 0=.gone 0
 d0:UR t 0=V.deaf
 «is» : ∀ i g, 0 < i -> gs[i]? = some g -> match ph with
  |some p=>(K i).is P p.c p.Wg Im p.Ss (UR t i) g
  |none=>∃q,K i=.gone q/\Y2 P q (UR t i) g
 core:Core (bD V Im K) gs.size w t (match ph with|some p=>qA p.c p.Wg|none=>λ_=>False)
  (λi=>match ph with|some p=>if p.recv then 0<i/\i<gs.size/\((K i).idx.isSome=true\/i=ic\/(K i).cnt=1\/(K i).late=1)else i=0\/(i<gs.size/\(K i).idx.isSome=true)|none=>False) ic n0 W0
 rest:Rest (match ph with|some p=>p.Wg|none=>0) t K ic st
 phase:match ph with
  |none=>st=none
  |some p=>n0<=p.c/\n0<=p.Wg/\p.c≠p.Wg/\p.c<w.heap.size/\p.Wg<w.heap.size/\p.Ss.length<=4/\
   (∀i,0<i->((K i).view Im).own p.c=none/\(∀o,((K i).view Im).ab p.c o=none)/\((K i).view Im).own p.Wg=none/\(∀o,((K i).view Im).ab p.Wg o=none)/\((K i).m9=true->i=ic))/\
   (∀i i' j,0<i->i<gs.size->0<i'->i'<gs.size->(K i).idx=some j->(K i').idx=some j->i=i')/\
   (∀j S,p.Ss[j]?=some S->S≠[]->∃i,0<i/\i<gs.size/\(K i).idx=some j)/\
   (if p.recv then(V.own p.c=none/\(∀o,V.ab p.c o=none)/\V.own p.Wg=none/\(∀o,V.ab p.Wg o=none))/\0<ic/\ic<gs.size/\(∃s,st=some s/\Mode P p.c p.Wg gs.size w gs t K ic s)
    else V.own p.c=some (.chan 0 #[] false 0 0 false)/\ic=0/\st=some .early/\(∀i,0<i->i<gs.size->(K i).idx.isSome=true\/∃q,K i=.gone q)/\(∀S∈p.Ss,S≠[])/\(sumTo gs.size λi=>(K i).cnt)=p.Ss.length)
theorem Ad(K:Nat->GS)(k:GS)(φ:GS->Nat){i N:Nat}(hi:i<N):sumTo N (λa=>φ (upd K i k a))+φ (K i)=sumTo N (λa=>φ (K a))+φ k:=sumTo_upd K k φ hi
theorem lh(K:Nat->GS)(k:GS)(φ:GS->Nat){i N:Nat}(h:φ k=φ (K i)):sumTo N (λa=>φ (upd K i k a))=sumTo N (λa=>φ (K a)):=
 Vj λa _=>by by_cases ha:a=i;subst ha;rw[bu,h];rw[aZ _ _ ha]
theorem Core.AU{VV:Nat->View}{N:Nat}{w:Tp}{t:Um}{Sh:Loc->Prop}{act act':Nat->Prop}{ic n0:Nat}{W0:Tp}(h:Core VV N w t Sh act ic n0 W0)(ha:∀i,act' i->act i):Core VV N w t Sh act' ic n0 W0:=
 ⟨h.sat,h.dK,h.ti.weaken (SP _) (λ_ _ _ x=> .inl x) (λ_ _ _ x=>x) (λidx a x y=>⟨λhp i hi=>(h.ti.sp idx a x y).1 hp i (ha i hi),(h.ti.sp idx a x y).2⟩),h.tape,h.os,h.out,h.old,h.jc,h.n0⟩
theorem Core.congr{VV DM:Nat->View}{N:Nat}{w:Tp}{t:Um}{Sh:Loc->Prop}{act:Nat->Prop}{ic n0:Nat}{W0:Tp}(h:Core VV N w t Sh act ic n0 W0)(e:∀i,i<N->DM i=VV i):Core DM N w t Sh act ic n0 W0:=
 ⟨λi hi=>by rw[e i hi];exact h.sat i hi,λi j hi hj j6=>by rw[e i hi,e j hj];exact h.dK i j hi hj j6,
  h.ti.weaken (SP _) (λi l hi ⟨x,y,z⟩=> .inl ⟨x,by rw[<- e i hi];exact y,z⟩) (λi l hi ⟨x,y,z⟩=>⟨x,by rw[<- e i hi];exact y,z⟩) h.ti.sp,h.tape,h.os,h.out,h.old,λi hi b hb=>by rw[e i hi];exact h.jc i hi b hb,h.n0⟩
theorem M4(V:View)(Im:cq)(K:Nat->GS){i:Nat}(hi:0<i)(k:GS):bD V Im (upd K i k)=upd (bD V Im K) i (k.view Im):=by
 funext j;by_cases hj:j=i
 ·subst hj;rw[bu];simp[bD,bu];omega
 ·rw[aZ _ _ hj];simp[bD,aZ _ _ hj]
theorem Si{P:SJ}{c Wg:Nat}{Im:cq}{Ss:List (List Spec)}{k:GS}{d:Nat}{x g g':SH}{w':Tp}(ho:(∃n,w'.heap[c]?=some (.chan 0 #[] false n n false))\/k.idx=none) (h:k.is P c Wg Im Ss d x):
  k.is P c Wg Im Ss d (woken P g g' w' x):=by
 rcases GS.runs h with hr|⟨hf,q,rfl⟩|⟨j,h',V,V',g0,v,z,rfl⟩|⟨⟨n,rfl⟩,hb,hof⟩
 ·rw[Yj hr];exact h
 ·rw[woken_quitsD h];exact h
 ·rcases ho with⟨n,ho⟩|ho
  ·obtain⟨h1,h2,rfl,h4⟩:=h;rw[woken_send_open _ _ ho];exact⟨h1,h2,rfl,h4⟩
  ·cases ho
 ·rcases h with h|⟨hn,g1,rfl,h⟩
  ·rw[cP.running (λd g x=>x.2.1) h]at hb;cases hb
  ·unfold woken;split
   ·subst hn;refine .inl ?_;have e:({g1 with status:=atc}:SH).again w'=g1:=by
     obtain⟨f,cs,s,dy,o⟩:=g1;have h2:=h.2.1;have h3:=h.2.2.1;simp only at h2 h3;subst h2 h3;rfl
    rw[e];exact h
   ·exact .inr ⟨hn,g1,rfl,h⟩
theorem LP{P:SJ}{gs:Array SH}{g:SH}{w':Tp}{i:Nat}{gi bB:SH}(hi:0<i)(h:kj gs g):kj ((gs.map (woken P gi bB w')).setIfInBounds i bB) g:=by
 obtain⟨g0,h0,h1,h2⟩:=h;exact⟨g0,by rw[SU (by omega),WA,h0];simp[Yj h1],h1,h2⟩
theorem L8{P:SJ}{gs:Array SH}{g:SH}{w':Tp}{i c:Nat}{gi bB:SH}(hi:0<i)(h:nN gs g c)(ho:∃n,w'.heap[c]?=some (.chan 0 #[] false n n false)):nN ((gs.map (woken P gi bB w')).setIfInBounds i bB) g c:=by
 obtain⟨g0,z,h0,h2⟩:=h;obtain⟨n,ho⟩:=ho;exact⟨g0,z,by rw[SU (by omega),WA,h0];simp[woken_recv_open _ _ ho],h2⟩
theorem anr{P:SJ}{gs:Array SH}{g:SH}{w':Tp}{i c:Nat}{gi bB:SH}(hi:0<i)(h:nN gs g c)(hw:mayWake P gi=true)(hs:bB.status=.running\/bB.status=.finished)(ho:∃n,w'.heap[c]?=some (.chan 0 #[] true n n false)):
  kj ((gs.map (woken P gi bB w')).setIfInBounds i bB) g:=by
 obtain⟨g0,z,h0,h2⟩:=h;obtain⟨n,ho⟩:=ho;refine⟨{parked g0 #[rcase c z] (.recv true)with status:=.running},?_,rfl,h2⟩;rw[SU (by omega),WA,h0];have:woken P gi bB w' (parked g0 #[rcase c z] (.recv true))={parked g0 #[rcase c z] (.recv true)with status:=.running}:=by
  unfold woken;have hc:(mayWake P gi&&bB.status != .blocked&&bB.status != .waiting)=true:=by rcases hs with hs|hs<;>simp[hw,hs]
  rw[if_pos hc,again_recv_closed ho]
 simp[this]
def ym (w:Tp)(c:Nat):Prop:=∃n,w.heap[c]?=some (.chan 0 #[] false n n false)
def HA (gs gs':Array SH)(w w':Tp)(g:SH)(c:Nat):Prop:=(kj gs g->kj gs' g)/\(nN gs g c->ym w c->kj gs' g\/(nN gs' g c/\ym w' c))
def Calm (gs:Array SH):Prop:=∀i x,0<i->gs[i]?=some x->x.status=.blocked->x.offers=none
def flag (gs:Array SH)(ic:Nat):Nat:=if(gs[ic]?).any (·.status== .running)then 1 else 0
def iR (p:Phase)(N ic:Nat)(K:Nat->GS)(i:Nat):Prop:=if p.recv then 0<i/\i<N/\((K i).idx.isSome=true\/i=ic\/(K i).cnt=1\/(K i).late=1)else i=0\/(i<N/\(K i).idx.isSome=true)
section
variable {P:SJ}{n0:Nat}{W0:Tp}{V:View}{gs:Array SH}{w:Tp}{t:Um}{K:Nat->GS}{Im:cq}{ic:Nat}{ph:Option Phase}{st:Option eg}
structure gr (P:SJ)(n0:Nat)(W0:Tp)(V:View)(gs:Array SH)(w:Tp)(sl:Option (Nat×Nat))(t:Um)(K:Nat->GS)(Im:cq)(ic:Nat)(ph:Option Phase)(st:Option eg)(i:Nat):Prop where
 intro::
 atb:∃gs' w' ops K' st',runT P (crowd gs w sl) i=(.next (crowd gs' w' sl),ops)/\gs'.size=gs.size/\Inv P n0 W0 V gs' w' (t++ops) K' Im ic ph st'/\(∀g c,(∀p,ph=some p->p.c=c)->HA gs gs' w w' g c)/\(∀g c,nN gs g c->Calm gs->Calm gs')/\
  AA gs.size ((λj=>(K' j).cY),flag gs' ic) ((λj=>(K j).cY),flag gs ic)
theorem getElem?_next{gi bB:SH}{w':Tp}{i j:Nat}{x:SH}(hlt:i<gs.size)(h:((gs.map (woken P gi bB w')).setIfInBounds i bB)[j]?=some x):(j=i/\x=bB)\/(j≠i/\∃y,gs[j]?=some y/\x=woken P gi bB w' y):=by
 by_cases cg:j=i
 ·subst cg;rw[S_ (by simpa using hlt)]at h;exact .inl ⟨rfl,(Wj h).symm⟩
 ·rw[SU (Ne.symm cg),WA]at h;obtain⟨y,hy,rfl⟩:=Tq.1 h;exact .inr ⟨cg,y,hy,rfl⟩
theorem Rest.app{Wg:Nat}{t u:Um}{K K':Nat->GS}{ic:Nat}{s s':eg}(h:Rest Wg t K ic (some s))(hold:∀idx a,touchAt t idx=some a->wy Wg t K ic s idx->Wi (t++u) 0 idx\/wy Wg (t++u) K' ic s' idx)
  (vO:∀idx a,t.size<=idx->(∃op∈u,(t++u)[idx]?=some op/\op.act.touch?=some a)->a.loc.isMemory=true->Wi (t++u) 0 idx\/(a.kind=.atomic/\¬(t++u).heard idx)\/wy Wg (t++u) K' ic s' idx):Rest Wg (t++u) K' ic (some s'):=by
 intro idx a ha hm;rcases Af ha with f_|⟨hi,hx⟩
 ·obtain⟨op,au,_⟩:=US f_;rcases h idx a f_ hm with x|⟨x,y⟩|⟨s1,dF,x⟩
  ·exact .inl (x.app u)
  ·exact .inr (.inl ⟨x,λz=>y ((Wo (TH au)).1 z)⟩)
  ·cases dF;exact(hold idx a f_ x).imp id λy=> .inr ⟨s',rfl,y⟩
 ·exact(vO idx a hi hx hm).imp id (λy=>y.imp id λz=>⟨s',rfl,z⟩)
theorem wy.app{Wg:Nat}{t u:Um}{K K':Nat->GS}{ic idx:Nat}{s:eg}(cW:idx<t.size)(h:wy Wg t K ic s idx)(hK:∀i,t.g? idx=some i->0<i->(K i).idx.isSome=true->(K' i).idx.isSome=true\/∃r,Rel Wg (t++u) i r/\idx<=r):wy Wg (t++u) K' ic s idx:=by
 cases s with
 |early=>
  obtain⟨i,hg,h0,hx⟩:=h;refine⟨i,by rw[g?_old cW];exact hg,h0,?_⟩;rcases hx with x|x|⟨r,x,y⟩
  ·exact(hK i hg h0 x).imp id .inr
  ·exact .inr (.inl x)
  ·exact .inr (.inr ⟨r,x.app,y⟩)
 |got=>exact Knows.app u h
 |shut p=>exact Before.app u h
end
def rF (ph:Option Phase):Loc->Prop:=match ph with|some p=>qA p.c p.Wg|none=>λ_=>False
def mW (ph:Option Phase)(N ic:Nat)(K:Nat->GS):Nat->Prop:=λi=>match ph with|some p=>iR p N ic K i|none=>False
def Ai (ph:Option Phase):Nat:=match ph with|some p=>p.Wg|none=>0
section
variable {P:SJ}{n0:Nat}{W0:Tp}{V:View}{gs:Array SH}{w w':Tp}{sl:Option (Nat×Nat)}{t:Um}{K:Nat->GS}{Im:cq}{ic:Nat}{ph:Option Phase}{st st':Option eg}
def yn (P:SJ)(n0:Nat)(V:View)(gs:Array SH)(w:Tp)(t:Um)(K:Nat->GS)(Im:cq)(ic:Nat)(ph:Option Phase)(st:Option eg):Prop:=match ph with
  |none=>st=none
  |some p=>n0<=p.c/\n0<=p.Wg/\p.c≠p.Wg/\p.c<w.heap.size/\p.Wg<w.heap.size/\p.Ss.length<=4/\
   (∀i,0<i->((K i).view Im).own p.c=none/\(∀o,((K i).view Im).ab p.c o=none)/\((K i).view Im).own p.Wg=none/\(∀o,((K i).view Im).ab p.Wg o=none)/\((K i).m9=true->i=ic))/\
   (∀i i' j,0<i->i<gs.size->0<i'->i'<gs.size->(K i).idx=some j->(K i').idx=some j->i=i')/\
   (∀j S,p.Ss[j]?=some S->S≠[]->∃i,0<i/\i<gs.size/\(K i).idx=some j)/\
   (if p.recv then(V.own p.c=none/\(∀o,V.ab p.c o=none)/\V.own p.Wg=none/\(∀o,V.ab p.Wg o=none))/\0<ic/\ic<gs.size/\(∃s,st=some s/\Mode P p.c p.Wg gs.size w gs t K ic s)
    else V.own p.c=some (.chan 0 #[] false 0 0 false)/\ic=0/\st=some .early/\(∀i,0<i->i<gs.size->(K i).idx.isSome=true\/∃q,K i=.gone q)/\(∀S∈p.Ss,S≠[])/\(sumTo gs.size λi=>(K i).cnt)=p.Ss.length)
def As (P:SJ)(Im:cq)(ph:Option Phase)(k:GS)(d:Nat)(g:SH):Prop:=match ph with
  |some p=>k.is P p.c p.Wg Im p.Ss d g
  |none=>∃q,k=.gone q/\Y2 P q d g
theorem Inv.mk'(pos:0<gs.size)(k0:K 0=.gone 0)(d0:UR t 0=V.deaf)(de:∀i g,0<i->gs[i]?=some g->As P Im ph (K i) (UR t i) g)
  (hc:Core (bD V Im K) gs.size w t (rF ph) (mW ph gs.size ic K) ic n0 W0) (hr:Rest (Ai ph) t K ic st) (hp:yn P n0 V gs w t K Im ic ph st):Inv P n0 W0 V gs w t K Im ic ph st:=by
 cases ph with
 |none=>exact⟨pos,k0,d0,de,hc,hr,hp⟩
 |some p=>exact⟨pos,k0,d0,de,hc,hr,hp⟩
theorem Inv.out(h:Inv P n0 W0 V gs w t K Im ic ph st):(∀i g,0<i->gs[i]?=some g->As P Im ph (K i) (UR t i) g)/\Core (bD V Im K) gs.size w t (rF ph) (mW ph gs.size ic K) ic n0 W0/\Rest (Ai ph) t K ic st/\yn P n0 V gs w t K Im ic ph st:=by
 cases ph with
 |none=>exact⟨h.is,h.core,h.rest,h.phase⟩
 |some p=>exact⟨h.is,h.core,h.rest,h.phase⟩
theorem afJ{y:SH}(hy:y.status=.blocked->y.offers=none):(y.again w').status=.blocked->(y.again w').offers=none:=by
 obtain⟨f,cs,s,d,o⟩:=y;unfold YR;cases s<;>cases o<;>simp_all
theorem afK{g g' y:SH}(hy:y.status=.blocked->y.offers=none)(hb:(woken P g g' w' y).status=.blocked):(woken P g g' w' y).offers=none:=by
 unfold woken at hb⊢;split
 ·rename_i hh;rw[if_pos hh]at hb;exact afJ hy hb
 ·rename_i hh;rw[if_neg hh]at hb;exact hy hb
theorem Inv.aaE(h:Inv P n0 W0 V gs w t K Im ic ph st){i:Nat}{gi bB:SH}{es:Array Uq}{k':GS}(hi:0<i)(aM:gs[i]?=some gi)(aP:stepG P false gi w=.go bB w' es)
  (hk:As P Im ph k' (deafBehind (UR t i) es) bB) (sA:bB.status=.blocked->bB.offers=none) (gC:∀p,ph=some p->(∃n,w'.heap[p.c]?=some (.chan 0 #[] false n n false))\/(∀j,0<j->j<gs.size->j≠i->(K j).idx=none))
  (xk:Core (bD V Im (upd K i k')) gs.size w' (t++Ta i gi.frame.fn gi.frame.place es) (rF ph) (mW ph gs.size ic (upd K i k')) ic n0 W0)
  (lD:Rest (Ai ph) (t++Ta i gi.frame.fn gi.frame.place es) (upd K i k') ic st')
  (B9:yn P n0 V ((gs.map (woken P gi bB w')).setIfInBounds i bB) w' (t++Ta i gi.frame.fn gi.frame.place es) (upd K i k') Im ic ph st')
  (jw:AA gs.size ((λj=>(upd K i k' j).cY),flag ((gs.map (woken P gi bB w')).setIfInBounds i bB) ic) ((λj=>(K j).cY),flag gs ic))
  (oV:∀g c,(∀p,ph=some p->p.c=c)->HA gs ((gs.map (woken P gi bB w')).setIfInBounds i bB) w w' g c):gr P n0 W0 V gs w sl t K Im ic ph st i:=by
 have hlt:i<gs.size:=(SR.1 aM).1;have eO:(i==0)=false:=by simp;omega
 have aV:((gs.map (woken P gi bB w')).setIfInBounds i bB).size=gs.size:=by simp
 have Cg:∀op∈Ta i gi.frame.fn gi.frame.place es,op.g=i:=λop au=>by obtain⟨e,_,rfl⟩:=TM au;rfl
 refine⟨_,w',_,upd K i k',st',runT_crowd_go (P:=P) (sl:=sl) aM (by rw[eO];exact aP),aV,?_,oV,?_,jw⟩
 rotate_left
 ·intro g c _ hc j x hj hx hb;rcases getElem?_next hlt hx with⟨_,rfl⟩|⟨_,y,hy,rfl⟩
  ·exact sA hb
  ·exact afK (hc j y hj hy) hb
 refine Inv.mk' (by rw[aV];exact h.pos) (by rw[aZ _ _ (by omega)];exact h.k0) ?_ (λj x hj hx=> ?_) (by rw[aV];exact xk) lD B9
 ·rw[ate t (g:=0) (g':=i) (by omega) _ Cg];exact h.d0
 ·rcases getElem?_next hlt hx with⟨rfl,rfl⟩|⟨cg,y,hy,rfl⟩
  ·rw[bu,Deaf_own];exact hk
  ·rw[aZ _ _ cg,ate t (g:=j) (g':=i) (Ne.symm cg) _ Cg];have Cn:=h.out.1 j y hj hy;have J_:j<gs.size:=(SR.1 hy).1;cases ph with
   |none=>
    obtain⟨q,hq,o5⟩:=Cn;exact⟨q,hq,by rw[woken_quitsD o5];exact o5⟩
   |some p=>
    refine Si ?_ Cn;rcases gC p rfl with x|x
    ·exact .inl x
    ·exact .inr (x j hj J_ cg)
theorem Inv.next(h:Inv P n0 W0 V gs w t K Im ic ph st){i:Nat}{gi bB:SH}{es:Array Uq}{k':GS}(hi:0<i)(aM:gs[i]?=some gi)(aP:stepG P false gi w=.go bB w' es)
  (hk:As P Im ph k' (deafBehind (UR t i) es) bB) (sA:bB.status=.blocked->bB.offers=none) (gC:∀p,ph=some p->(∃n,w'.heap[p.c]?=some (.chan 0 #[] false n n false))\/(∀j,0<j->j<gs.size->j≠i->(K j).idx=none))
  (xk:Core (bD V Im (upd K i k')) gs.size w' (t++Ta i gi.frame.fn gi.frame.place es) (rF ph) (mW ph gs.size ic (upd K i k')) ic n0 W0)
  (lD:Rest (Ai ph) (t++Ta i gi.frame.fn gi.frame.place es) (upd K i k') ic st')
  (B9:yn P n0 V ((gs.map (woken P gi bB w')).setIfInBounds i bB) w' (t++Ta i gi.frame.fn gi.frame.place es) (upd K i k') Im ic ph st')
  (uj:qz k'.cY (K i).cY)
  (oV:∀g c,(∀p,ph=some p->p.c=c)->HA gs ((gs.map (woken P gi bB w')).setIfInBounds i bB) w w' g c):gr P n0 W0 V gs w sl t K Im ic ph st i:=
 h.aaE hi aM aP hk sA gC xk lD B9 (.inl ⟨i,(SR.1 aM).1,by simpa only[bu]using uj,λj hj=>by show (upd K i k' j).cY=(K j).cY;rw[aZ _ _ hj]⟩) oV
theorem amG{B:Nat}{e:Uq}(h:e.mute=true):(Ts e).touch?=none/\(Ts e).low B/\∀a,Ts e≠ .mark (.release a):=by
 refine⟨ZR h,low_mute h B,λa=> ?_⟩;obtain⟨l,wr,sy⟩:=e;cases l with
 |mark m=>cases m<;>cases wr<;>cases sy<;>simp_all[Ts,WC]
 |_=>simp[WC]at h
theorem Mode.keep{c Wg N:Nat}{gs':Array SH}{u:Um}{K':Nat->GS}{s:eg}(h:Mode P c Wg N w gs t K ic s)(hs:∀j,(K' j).shape=(K j).shape)(hc:w'.heap[c]?=w.heap[c]?)(hW:w'.heap[Wg]?=w.heap[Wg]?)
  (hr:(∀g,gs[ic]?=some g->g.status=.running)->∀g,gs'[ic]?=some g->g.status=.running):Mode P c Wg N w' gs' (t++u) K' ic s:=by
 have e1:sumTo N (λi=>(K' i).cnt)=sumTo N λi=>(K i).cnt:=Vj λi _=>by rw[<- GS.m_,hs i,GS.m_]
 have e2:sumTo N (λi=>(K' i).late)=sumTo N λi=>(K i).late:=Vj λi _=>by rw[<- GS.mc,hs i,GS.mc]
 have e3:∀st sm,WgAt P Wg w' st sm=WgAt P Wg w st sm:=λst sm=>by unfold WgAt;rw[hW]
 unfold Mode at h⊢;simp only[e1,e2,e3,hs,hc];rcases h with h|h|h|h|h|h|h
 ·exact .inl h
 ·exact .inr (.inl h)
 ·exact .inr (.inr (.inl h))
 ·exact .inr (.inr (.inr (.inl ⟨h.1,h.2.1,h.2.2.1,h.2.2.2.1,h.2.2.2.2.1,hr h.2.2.2.2.2.1,h.2.2.2.2.2.2⟩)))
 ·exact .inr (.inr (.inr (.inr (.inl h))))
 ·exact .inr (.inr (.inr (.inr (.inr (.inl h)))))
 ·obtain⟨⟨p,n,a,b,c',d⟩,e⟩:=h;exact .inr (.inr (.inr (.inr (.inr (.inr ⟨⟨p,n,a,by rw[X4 (VY b)];exact b,(Wo (VY b)).2 c',d⟩,e⟩)))))
theorem abA{i:Nat}{gi bB:SH}(hlt:i<gs.size)(hg:bB.status=.running)(h:∀g,gs[ic]?=some g->g.status=.running):∀g,((gs.map (woken P gi bB w')).setIfInBounds i bB)[ic]?=some g->g.status=.running:=by
 intro g JP;rcases getElem?_next hlt JP with⟨_,rfl⟩|⟨_,y,hy,rfl⟩
 ·exact hg
 ·rw[Yj (h y hy)];exact h y hy
theorem GS.Sa{k:GS}(h:k.cnt=0):k.idx=none:=by
 cases k<;>first|rfl|(simp[GS.cnt]at h)
theorem Inv.opens(h:Inv P n0 W0 V gs w t K Im ic ph st){p:Phase}(hp:ph=some p):(∃n,w.heap[p.c]?=some (.chan 0 #[] false n n false))\/((∀j,0<j->j<gs.size->(K j).idx=none)/\(∃n,w.heap[p.c]?=some (.chan 0 #[] true n n false))/\p.recv=true):=by
 subst hp;obtain⟨_,hc,_,gD⟩:=h.out;obtain⟨_,_,_,_,_,_,_,_,_,hx⟩:=gD;by_cases hr:p.recv=true
 ·rw[if_pos hr]at hx;obtain⟨_,_,_,s,_,hm⟩:=hx;rcases hm with h|h|h|h|h|h|h
  ·exact .inl h.1
  ·exact .inl h.1
  ·exact .inl h.1
  ·exact .inl h.1
  ·exact .inl h.1
  ·exact .inl h.1
  ·obtain⟨⟨_,n,_,_,_,hn⟩,_,gK,_⟩:=h;refine .inr ⟨λj hj ij=> ?_,⟨n,hn⟩,hr⟩;have hle:(K j).cnt<=sumTo gs.size λi=>(K i).cnt:=Wz (f:=λi=>(K i).cnt) ij;exact GS.Sa (by omega)
 ·rw[if_neg hr]at hx;have:=(hc.sat 0 h.pos).own p.c _ (by simp only[bD,if_true];exact hx.1);exact .inl ⟨0,this⟩
theorem Inv.slip(h:Inv P n0 W0 V gs w t K Im ic ph st){i:Nat}{gi bB:SH}{es:Array Uq}{k':GS}(hi:0<i)(aM:gs[i]?=some gi)(aP:stepG P false gi w=.go bB w es)(jw:∀e∈es,e.mute=true)
  (hk:As P Im ph k' (deafBehind (UR t i) es) bB) (sA:bB.status=.blocked->bB.offers=none) (dG:k'.shape=(K i).shape) (l8:k'.view Im=(K i).view Im) (bH:(K i).shape=.gU 0\/(K i).shape=.said 0->bB.status=.running) (uj:qz k'.cY (K i).cY):gr P n0 W0 V gs w sl t K Im ic ph st i:=by
 have hlt:i<gs.size:=(SR.1 aM).1;obtain⟨_,hc,hr,hp⟩:=h.out;have cW:∀j,((upd K i k') j).idx=(K j).idx:=λj=>by
  by_cases hj:j=i
  ·subst hj;rw[bu,<- GS.FN,dG,GS.FN]
  ·rw[aZ _ _ hj]
 have lE:∀j,((upd K i k') j).shape=(K j).shape:=λj=>by
  by_cases hj:j=i
  ·subst hj;rw[bu,dG]
  ·rw[aZ _ _ hj]
 have RY:∀j,((upd K i k') j).view Im=(K j).view Im:=λj=>by
  by_cases hj:j=i
  ·subst hj;rw[bu,l8]
  ·rw[aZ _ _ hj]
 have oM:∀j,((upd K i k') j).cnt=(K j).cnt:=λj=>by rw[<- GS.m_,lE,GS.m_]
 have vL:∀j,((upd K i k') j).late=(K j).late:=λj=>by rw[<- GS.mc,lE,GS.mc]
 refine h.next (st':=st) hi aM aP hk sA (λp zk=>(h.opens zk).imp id λx j a b _=>x.1 j a b) ?_ ?_ ?_ uj ?_
 ·refine((hc.quiet hlt (λe he=>amG (jw e he)) gi.frame.fn gi.frame.place).congr λj hj=> ?_).AU λj hj=> ?_
  ·simp only[bD,RY]
  ·cases ph with
   |none=>exact hj
   |some p=>simpa only[mW,iR,cW,oM,vL]using hj
 ·cases st with
  |none=>
   intro idx a ha hm;have f_:=Ag (λop au=>by obtain⟨e,he,rfl⟩:=TM au;exact ZR (jw e he)) ha;obtain⟨op,au,_⟩:=US f_;rcases hr idx a f_ hm with x|⟨x,y⟩|⟨_,z,_⟩
   ·exact .inl (x.app _)
   ·exact .inr (.inl ⟨x,λz=>y ((Wo (TH au)).1 z)⟩)
   ·cases z
  |some s=>
   refine hr.app (λidx a ha hx=> .inr (hx.app (by obtain⟨op,au,_⟩:=US ha;exact TH au) λj _ _ hj=> .inl (by rw[cW];exact hj))) (λidx a _ ⟨op,au,_,hx⟩ _=> ?_);obtain⟨e,he,rfl⟩:=TM au;rw[ZR (jw e he)]at hx;cases hx
 ·cases ph with
  |none=>exact hp
  |some p=>
   obtain⟨a1,a2,a3,a4,a5,a6,a7,a8,a9,bQ⟩:=hp;refine⟨a1,a2,a3,a4,a5,a6,λj hj=>by rw[RY,<- GS.Oo,lE,GS.Oo];exact a7 j hj,λj j' m b1 b2 b3 b4 b5 b6=>a8 j j' m b1 (by simpa using b2) b3 (by simpa using b4) (by rw[<- cW];exact b5) (by rw[<- cW];exact b6),λj S b1 b2=> ?_,?_⟩
   ·obtain⟨m,c1,c2,c3⟩:=a9 j S b1 b2;exact⟨m,c1,by simpa using c2,by rw[cW];exact c3⟩
   ·split
    ·rename_i aH;rw[if_pos aH]at bQ;obtain⟨c1,c2,c3,s,c4,c5⟩:=bQ;refine⟨c1,c2,by simpa using c3,s,c4,?_⟩;have aV:((gs.map (woken P gi bB w)).setIfInBounds i bB).size=gs.size:=(by simp);rw[aV];by_cases fM:i=ic/\bB.status≠ .running
     ·
      obtain⟨rfl,qZ⟩:=fM;unfold Mode at c5⊢;have e1:sumTo gs.size (λj=>((upd K i k') j).cnt)=sumTo gs.size λj=>(K j).cnt:=Vj λj _=>oM j;have e2:sumTo gs.size (λj=>((upd K i k') j).late)=sumTo gs.size λj=>(K j).late:=Vj λj _=>vL j;simp only[e1,e2,lE];rcases c5 with h|h|h|h|h|h|h
      ·exact .inl h
      ·exact .inr (.inl h)
      ·exact .inr (.inr (.inl h))
      ·exact absurd (bH h.2.2.2.2.2.2.symm) qZ
      ·exact .inr (.inr (.inr (.inr (.inl h))))
      ·exact .inr (.inr (.inr (.inr (.inr (.inl h)))))
      ·obtain⟨⟨p,n,a,b,c',d⟩,e⟩:=h;exact .inr (.inr (.inr (.inr (.inr (.inr ⟨⟨p,n,a,by rw[X4 (VY b)];exact b,(Wo (VY b)).2 c',d⟩,e⟩)))))
     ·refine c5.keep lE rfl rfl λrc g hg=> ?_;rcases getElem?_next hlt hg with⟨rfl,rfl⟩|⟨_,y,hy,rfl⟩
      ·exact Tu λx=>fM ⟨rfl,x⟩
      ·rw[Yj (rc y hy)];exact rc y hy
    ·rename_i aH;rw[if_neg aH]at bQ;refine⟨bQ.1,bQ.2.1,bQ.2.2.1,λj b1 b2=> ?_,bQ.2.2.2.2.1,?_⟩
     rotate_left
     ·rw[show ((gs.map (woken P gi bB w)).setIfInBounds i bB).size=gs.size by simp,Vj λj _=>oM j];exact bQ.2.2.2.2.2
     rcases bQ.2.2.2.1 j b1 (by simpa using b2)with x|⟨q,x⟩
     ·exact .inl (by rw[cW];exact x)
     ·by_cases hj:j=i
      ·subst hj;rw[bu];rw[x]at dG;cases k'<;>simp[GS.shape]at dG;exact .inr ⟨_,rfl⟩
      ·rw[aZ _ _ hj];exact .inr ⟨q,x⟩
 ·intro g c _;exact⟨LP hi,λiY ho=> .inr ⟨L8 hi iY ho,ho⟩⟩
end
section
variable {P:SJ}{n0:Nat}{W0:Tp}{V:View}{gs:Array SH}{w w':Tp}{sl:Option (Nat×Nat)}{t:Um}{K:Nat->GS}{Im:cq}{ic:Nat}{p:Phase}{st st':Option eg}
def jh (p:Phase)(U:View):Prop:=U.own p.c=none/\(∀o,U.ab p.c o=none)/\U.own p.Wg=none/\(∀o,U.ab p.Wg o=none)
theorem jh.step{U U':View}{es:Array Uq}(b:jh p U)(s:da U w U' w' es)(hc:p.c<w.heap.size)(hW:p.Wg<w.heap.size):jh p U':=by
 have key:∀b,b<w.heap.size->U.own b=none->(∀o,U.ab b o=none)->U'.own b=none/\∀o,U'.ab b o=none:=by
  intro b hb ho hi;refine⟨s.own b hb ho,λo=> ?_⟩;cases e:U'.ab b o with
  |none=>rfl
  |some v=>
   rcases s.kB b o v e with x|x|x
   ·rw[hi o]at x;cases x
   ·exact absurd ho x
   ·omega
 have k1:=key p.c hc b.1 b.2.1;have k2:=key p.Wg hW b.2.2.1 b.2.2.2;exact⟨k1.1,k1.2,k2.1,k2.2⟩
theorem jh.zJ{U:View}(b:jh p U){l:Loc}(h:gH U l):¬qA p.c p.Wg l:=by
 intro hs;cases l with
 |cell a=>
  have e:a.block=p.Wg:=hs;rcases h with h|h
  ·exact h (by rw[e];exact b.2.2.1)
  ·exact h (by rw[e];exact b.2.2.2 _)
 |obj r=>have e:r=p.c:=hs;exact h (by rw[e];exact b.1)
 |_=>exact hs
theorem jh.ghost{U U':View}(b:jh p U)(g:dT U U'):jh p U':=by
 have key:∀b,U.own b=none->(∀o,U.ab b o=none)->U'.own b=none/\∀o,U'.ab b o=none:=by
  intro b ho hi;refine⟨g.own b ho,λo=> ?_⟩;cases e:U'.ab b o with
  |none=>rfl
  |some v=>
   rcases g.kB b o v e with x|x
   ·rw[hi o]at x;cases x
   ·exact absurd ho x
 have k1:=key p.c b.1 b.2.1;have k2:=key p.Wg b.2.2.1 b.2.2.2;exact⟨k1.1,k1.2,k2.1,k2.2⟩
theorem afp:jh p noView:=⟨rfl,λ_=>rfl,rfl,λ_=>rfl⟩
theorem Inv.blind(h:Inv P n0 W0 V gs w t K Im ic (some p) st){i:Nat}(hi:0<i):jh p ((K i).view Im):=let x:=h.phase.2.2.2.2.2.2.1 i hi;⟨x.1,x.2.1,x.2.2.1,x.2.2.2.1⟩
theorem Inv.rH(h:Inv P n0 W0 V gs w t K Im ic (some p) st){i:Nat}(hi:0<i)(hc:(K i).m9=true):i=ic:=(h.phase.2.2.2.2.2.2.1 i hi).2.2.2.2 hc
theorem Inv.low(h:Inv P n0 W0 V gs w t K Im ic (some p) st):p.c<w.heap.size/\p.Wg<w.heap.size:=⟨h.phase.2.2.2.1,h.phase.2.2.2.2.1⟩
theorem abZ(hc:p.c<w.heap.size)(hW:p.Wg<w.heap.size){l:Loc}(h:qA p.c p.Wg l):l.low w.heap.size:=by
 cases l with
 |cell a=>show a.block<_;rw[show a.block=p.Wg from h];exact hW
 |obj r=>show r<_;rw[show r=p.c from h];exact hc
 |_=>exact h.elim
theorem Inv.afX(h:Inv P n0 W0 V gs w t K Im ic (some p) st)(hr:p.recv=true){i:Nat}(hlt:i<gs.size)(hk:(K i).cnt=1):∃s,WgAt P p.Wg w s 0:=by
 obtain⟨_,_,_,_,_,_,_,_,_,hx⟩:=h.phase;rw[if_pos hr]at hx;obtain⟨_,_,_,s,hs,hm⟩:=hx;have hle:(K i).cnt<=sumTo gs.size λi=>(K i).cnt:=Wz (f:=λi=>(K i).cnt) hlt;rcases hm with h|h|h|h|h|h|h
 ·exact⟨_,h.2.2.2.2.1⟩
 ·exact⟨_,h.2.2.2.2.2.1⟩
 ·have:=h.2.2.2.1;omega
 ·have:=h.2.2.2.1;omega
 ·have:=h.2.2.2.1;omega
 ·have:=h.2.2.2.1;omega
 ·have:=h.2.2.1;omega
theorem Inv.NC(h:Inv P n0 W0 V gs w t K Im ic (some p) st)(hr:p.recv=true){n:Nat}(hk:K ic=.acq n\/K ic=.said n):∃x y,WgAt P p.Wg w x y:=by
 obtain⟨_,_,_,_,_,_,_,_,_,hx⟩:=h.phase;rw[if_pos hr]at hx;obtain⟨_,_,_,s,hs,hm⟩:=hx;unfold Mode at hm;rcases hm with h|h|h|h|h|h|h
 ·exact⟨_,_,h.2.2.2.2.1⟩
 ·exact⟨_,_,h.2.2.2.2.2.1⟩
 ·have key:∀N,0<(sumTo N λi=>(K i).late)->∃i,i<N/\(K i).late≠0:=by
   intro N;induction N with
   |zero=>intro h;exact absurd h (by simp[sumTo])
   |succ N ih=>
    intro h;by_cases h0:(K N).late=0
    ·simp only[sumTo,h0]at h;obtain⟨i,hi,hl⟩:=ih (by omega);exact⟨i,by omega,hl⟩
    ·exact⟨N,by omega,h0⟩
  have:=key gs.size (by have:=h.2.2.1;omega);obtain⟨i,hi,hl⟩:=this;cases kQ:K i<;>rw[kQ]at hl<;>first
   |exact⟨_,_,h.2.2.2.2.2.1 i hi (by rw[kQ];exact .inl rfl)⟩
   |exact⟨_,_,h.2.2.2.2.2.1 i hi (by rw[kQ];exact .inr rfl)⟩
   |exact⟨_,_,h.2.2.2.2.2.2 i hi (by rw[kQ];rfl)⟩
   |exact absurd rfl hl
 ·exact⟨_,_,h.2.2.2.2.1⟩
 ·exact⟨_,_,h.2.2.2.2.1⟩
 ·exfalso;rcases hk with hk|hk<;>rw[hk]at h<;>rcases h.2.2.2.2 with h|h<;>cases h
 ·exfalso;rcases hk with hk|hk<;>rw[hk]at h<;>cases h.2.2.2
theorem Inv.counted(h:Inv P n0 W0 V gs w t K Im ic (some p) st){i:Nat}(_hi:0<i)(hlt:i<gs.size)(hk:(K i).cnt=1):(∃n,w.heap[p.c]?=some (.chan 0 #[] false n n false))/\st=some .early:=by
 have gD:=h.phase;obtain⟨_,_,_,_,_,_,_,_,_,hx⟩:=gD;by_cases hr:p.recv=true
 ·rw[if_pos hr]at hx;obtain⟨_,_,_,s,hs,hm⟩:=hx;have hle:(K i).cnt<=sumTo gs.size λi=>(K i).cnt:=Wz (f:=λi=>(K i).cnt) hlt;rcases hm with h|h|h|h|h|h|h
  ·exact⟨h.1,by rw[hs,h.2.1]⟩
  ·exact⟨h.1,by rw[hs,h.2.1]⟩
  ·exact⟨h.1,by rw[hs,h.2.1]⟩
  ·exact⟨h.1,by rw[hs,h.2.1]⟩
  ·exact⟨h.1,by rw[hs,h.2.1]⟩
  ·have:=h.2.2.2.1;omega
  ·have:=h.2.2.1;omega
 ·rw[if_neg hr]at hx;have:=(h.core.sat 0 h.pos).own p.c _ (by simp only[bD,if_true];exact hx.1);exact⟨⟨0,this⟩,hx.2.2.1⟩
theorem Inv.L_(h:Inv P n0 W0 V gs w t K Im ic (some p) st){i:Nat}{k':GS}{gs':Array SH}{t':Um}(aV:gs'.size=gs.size)(iH:w.heap.size<=w'.heap.size)(hb:jh p (k'.view Im))(xi:k'.m9=true->i=ic)
  (cW:k'.idx=(K i).idx\/(k'.idx=none/\∀j,(K i).idx=some j->p.Ss[j]?=some []))
  (dY:if p.recv then∃s,st'=some s/\Mode P p.c p.Wg gs.size w' gs' t' (upd K i k') ic s
    else st'=some .early/\k'.idx.isSome=true/\k'.cnt=(K i).cnt):yn P n0 V gs' w' t' (upd K i k') Im ic (some p) st':=by
 obtain⟨a1,a2,a3,a4,a5,a6,a7,a8,a9,bQ⟩:=h.phase;have pO:∀j m,((upd K i k') j).idx=some m->(K j).idx=some m:=by
  intro j m hj;by_cases cg:j=i
  ·subst cg;rw[bu]at hj;rcases cW with x|⟨x,_⟩
   ·rw[<- x];exact hj
   ·rw[x]at hj;cases hj
  ·rw[aZ _ _ cg]at hj;exact hj
 refine⟨a1,a2,a3,Td a4 iH,Td a5 iH,a6,λj hj=> ?_,λj j' m b1 b2 b3 b4 b5 b6=>a8 j j' m b1 (aV▸b2) b3 (aV▸b4) (pO _ _ b5) (pO _ _ b6),λj S b1 b2=> ?_,?_⟩
 ·by_cases cg:j=i
  ·subst cg;rw[bu];exact⟨hb.1,hb.2.1,hb.2.2.1,hb.2.2.2,xi⟩
  ·rw[aZ _ _ cg];exact a7 j hj
 ·obtain⟨m,c1,c2,c3⟩:=a9 j S b1 b2;refine⟨m,c1,by rw[aV];exact c2,?_⟩;by_cases cS:m=i
  ·subst cS;rw[bu];rcases cW with x|⟨_,x⟩
   ·rw[x];exact c3
   ·have:=x j c3;rw[this]at b1;cases b1;exact absurd rfl b2
  ·rw[aZ _ _ cS];exact c3
 ·split
  ·rename_i aH;rw[if_pos aH]at bQ dY;obtain⟨c1,c2,c3,_⟩:=bQ;exact⟨c1,c2,by rw[aV];exact c3,by rw[aV];exact dY⟩
  ·rename_i aH;rw[if_neg aH]at bQ dY;obtain⟨c1,c2,_,c4,c5⟩:=bQ;refine⟨c1,c2,dY.1,λj b1 b2=> ?_,c5.1,by rw[aV,lh K k' GS.cnt dY.2.2];exact c5.2⟩;by_cases cg:j=i
   ·subst cg;rw[bu];exact .inl dY.2.1
   ·rw[aZ _ _ cg];exact c4 j b1 (aV▸b2)
theorem Inv.ac1(h:Inv P n0 W0 V gs w t K Im ic (some p) st){i j:Nat}{gi bB:SH}{es:Array Uq}{hh h':Ht}{Vi V':View}(hi:0<i)(aM:gs[i]?=some gi)(hK:K i=.work j hh Vi)(aP:stepG P false gi w=.go bB w' es)
  (s:da Vi w V' w' es) (hk:lq P h' V' bB) (l5:Ar h' hh):gr P n0 W0 V gs w sl t K Im ic (some p) st i:=by
 have hlt:i<gs.size:=(SR.1 aM).1;have de:=h.is i gi hi aM;simp only[hK,GS.is]at de;obtain⟨hd,_,S,hS,iZ⟩:=de;have gK:(K i).cnt=1:=by rw[hK];rfl
 obtain⟨⟨n,gC⟩,kZ⟩:=h.counted hi hlt gK;have gW:=h.low;have cL:jh p Vi:=by have:=h.blind hi;rw[hK]at this;exact this
 have ajc:=cL.step s gW.1 gW.2;have l8:bD V Im K i=Vi:=by simp[bD,hK,GS.view];omega
 have eS:w'.heap[p.c]?=w.heap[p.c]?:=s.frame p.c gW.1 cL.1;have hWh:w'.heap[p.Wg]?=w.heap[p.Wg]?:=s.frame p.Wg gW.2 cL.2.2.1;have lE:∀m,((upd K i (.work j h' V')) m).shape=(K m).shape:=λm=>by
  by_cases hm:m=i
  ·subst hm;rw[bu,hK];rfl
  ·rw[aZ _ _ hm]
 have cW:∀m,((upd K i (.work j h' V')) m).idx=(K m).idx:=λm=>by rw[<- GS.FN,lE,GS.FN]
 have oM:∀m,((upd K i (.work j h' V')) m).cnt=(K m).cnt:=λm=>by rw[<- GS.m_,lE,GS.m_]
 have vL:∀m,((upd K i (.work j h' V')) m).late=(K m).late:=λm=>by rw[<- GS.mc,lE,GS.mc]
 have bX:V'.role=Vi.role:=s.role;refine h.next (k':=.work j h' V') (st':=st) hi aM aP ⟨by rw[hd,s.deaf],hk,S,hS,bX.trans iZ⟩ (λx=>by rw[hk.running]at x;cases x) (λq hq=>by cases hq;exact .inl ⟨n,by rw[eS];exact gC⟩) ?_ ?_ ?_ ?_ ?_
 ·rw[M4 V Im K hi];refine(Core.step (V':=V') h.core hlt (by rw[l8];exact s) (λe he x hx hs=> ?_) gi.frame.fn gi.frame.place).AU λm hm=> ?_
  ·exfalso;rcases(IB (s.e9 e he) hx).1 with y|⟨y,_⟩|y
   ·exact cL.zJ y.rd hs
   ·exact cL.zJ y hs
   ·exact y (abZ gW.1 gW.2 hs)
  ·simpa only[mW,iR,cW,oM,vL]using hm
 ·rw[kZ];have hr:Rest (Ai (some p)) t K ic st:=h.out.2.2.1;rw[kZ]at hr;refine hr.app (λidx a ha hx=> .inr (hx.app (by obtain⟨op,au,_⟩:=US ha;exact TH au) λm _ _ hm=> .inl (by rw[cW];exact hm))) (λidx a _ ⟨op,au,xp,_⟩ _=> .inr (.inr ⟨i,?_,hi,.inl ?_⟩))
  ·obtain⟨e,_,rfl⟩:=TM au;simp[Wx,xp]
  ·rw[bu];rfl
 ·refine h.L_ (by simp) s.size ajc (λx=>by cases x) (.inl (by rw[hK];rfl)) ?_;have hx:=h.phase.2.2.2.2.2.2.2.2.2;split
  ·rename_i aH;rw[if_pos aH]at hx;obtain⟨_,_,_,s',oZ,hm⟩:=hx;exact⟨s',oZ,hm.keep lE eS hWh λrc=>abA hlt hk.running rc⟩
  ·exact⟨kZ,rfl,by rw[hK];rfl⟩
 ·rw[hK];refine .inr ⟨by simp[GS.cY,bX],.inl l5⟩
 ·intro g c JD;have ho:ym w' c:=⟨n,by rw[<- JD p rfl,eS];exact gC⟩;exact⟨LP hi,λiY _=> .inr ⟨L8 hi iY ho,ho⟩⟩
end
def nD (V:View)(I':cq)(O':AC)(r:mS):View:=
 {V with ab:=λb o=>match V.ab b o with|some x=>some x|none=>I' b o,own:=λb=>match V.own b with|some x=>some x|none=>O' b,role:=r}
def lN (B:Nat->Bool)(U:View):AC:=λb=>if B b then U.own b else none
def lK (B:Nat->Bool)(U:View)(r:mS):View:={U with own:=λb=>if B b then none else U.own b,role:=r}
section
variable {P:SJ}{n0:Nat}{W0:Tp}{V:View}{gs gs':Array SH}{w w':Tp}{sl:Option (Nat×Nat)}{t:Um}{K:Nat->GS}{Im:cq}{ic:Nat}{p:Phase}{st:Option eg}
theorem aaZ{k:GS}{d:Nat}{x:SH}(h:k.is P p.c p.Wg Im p.Ss d x)(r:Nat):offersAt x r false=[]:=by
 rcases GS.runs h with hr|⟨hf,_⟩|⟨j,h',V,V',g0,v,z,rfl⟩|⟨_,hb,ho⟩
 ·exact UT (by rw[hr];simp) r false
 ·exact UT (by rw[hf];simp) r false
 ·obtain⟨_,_,rfl,_⟩:=h;exact offersAt_parked_send' _ _ _ _ _ _
 ·unfold offersAt;simp[hb,ho]
theorem amq{g:SH}(h:kj gs g){x:SH}(hx:gs[0]?=some x)(r:Nat)(s:Bool):offersAt x r s=[]:=by
 obtain⟨g0,h0,h1,_⟩:=h;rw[h0]at hx;cases hx;exact UT (by rw[h1];simp) r s
theorem Inv.arw(h:Inv P n0 W0 V gs w t K Im ic (some p) st){g:SH}(hm:kj gs g){i j:Nat}{gi:SH}{hh h':Ht}{Vi V₁:View}{sp:Spec}{S:List Spec}{v z:SO}{B:Nat->Bool}(hi:0<i)(aM:gs[i]?=some gi)
  (hK:K i=.work j hh Vi) (hg:dT Vi V₁) (hr:V₁.role=.work p.c p.Wg (sp::S)) (hd:V₁.deaf=0) (aP:stepG P false gi w=.comm gi #[scase p.c v z] true .send w #[])
  (xD:sp v V₁.ab (lN B V₁)) (hk:lq P h' (lK B V₁ (.work p.c p.Wg S)) (T4 gi undef)):gr P n0 W0 V gs w sl t K Im ic (some p) st i:=by
 have hlt:i<gs.size:=(SR.1 aM).1;have de:=h.is i gi hi aM;simp only[hK,GS.is]at de;obtain⟨bw,_,S',hS,iZ⟩:=de;have gK:(K i).cnt=1:=by rw[hK];rfl
 obtain⟨⟨n,gC⟩,kZ⟩:=h.counted hi hlt gK;have eO:(i==0)=false:=by simp;omega
 have er:mS.work p.c p.Wg S'=.work p.c p.Wg (sp::S):=by rw[<- iZ,<- hg.role,hr]
 cases er;let k':GS:=.nI j h' V₁ (lK B V₁ (.work p.c p.Wg S)) gi v z;have hw:=crowd_waits (P:=P) (sl:=sl) (i:=i) aM (by rw[eO];exact aP) (λcc iV=>by
  simp only[TK,SL,S4,or_false]at iV;subst iV;refine ways_send_none gC (by simp) (partners_nil λm x hx=> ?_);rcases X8 gs i m x hx with⟨_,rfl⟩|⟨_,jy⟩
  ·exact Zj _ _
  ·rcases UX m with rfl|iJ
   ·exact amq hm jy _ _
   ·exact aaZ (h.is m x iJ jy) _)
 have l8:bD V Im K i=Vi:=by simp[bD,hK,GS.view];omega
 have cL:jh p Vi:=by have:=h.blind hi;rw[hK]at this;exact this
 have cW:∀m,((upd K i k') m).idx=(K m).idx:=λm=>by
  by_cases hm:m=i
  ·subst hm;rw[bu,hK];rfl
  ·rw[aZ _ _ hm]
 have lE:∀m,((upd K i k') m).shape=(K m).shape:=λm=>by
  by_cases hm:m=i
  ·subst hm;rw[bu,hK];rfl
  ·rw[aZ _ _ hm]
 have oM:∀m,((upd K i k') m).cnt=(K m).cnt:=λm=>by rw[<- GS.m_,lE,GS.m_]
 have vL:∀m,((upd K i k') m).late=(K m).late:=λm=>by rw[<- GS.mc,lE,GS.mc]
 have e0:t++Ta i gi.frame.fn gi.frame.place #[]=t:=by simp[Ta]
 have aV:(gs.setIfInBounds i (parked gi #[scase p.c v z] .send)).size=gs.size:=by simp
 refine⟨_,w,_,upd K i k',st,hw,aV,?_,λg' c _=>⟨λ⟨g0,a,b⟩=>⟨g0,by rw[SU (by omega)];exact a,b⟩,λ⟨g0,z',a,b⟩ ho=> .inr ⟨⟨g0,z',by rw[SU (by omega)];exact a,b⟩,ho⟩⟩,λg' c ⟨g1,z',a,_⟩ _=>(by obtain⟨g0,h0,h1,_⟩:=hm;rw[a]at h0;cases h0;cases h1),
  .inl ⟨i,hlt,?_,λm hm=>by show (upd K i k' m).cY=(K m).cY;rw[aZ _ _ hm]⟩⟩
 ·rw[e0];refine Inv.mk' (by rw[aV];exact h.pos) (by rw[aZ _ _ (by omega)];exact h.k0) h.d0 (λm x hm hx=> ?_) ?_ ?_ ?_
  ·by_cases cS:m=i
   ·subst cS;rw[S_ hlt]at hx;cases hx;rw[bu];exact⟨by rw[bw,<- hg.deaf,hd],hd,rfl,hk,sp,S,B,hS,hr,xD,rfl⟩
   ·rw[SU (Ne.symm cS)]at hx;rw[aZ _ _ cS];exact h.is m x hm hx
  ·rw[aV,M4 V Im K hi];exact(Core.ghost (V':=V₁) h.core hlt (by rw[l8];exact hg)).AU λm hm=>by simpa only[mW,iR,cW,oM,vL]using hm
  ·have hr:Rest (Ai (some p)) t K ic st:=h.out.2.2.1;rw[kZ]at hr⊢;have:=hr.app (u:=#[]) (K':=upd K i k') (s':=.early) (λidx a ha hx=> .inr (hx.app (by obtain⟨op,au,_⟩:=US ha;exact TH au) λm _ _ hm=> .inl (by rw[cW];exact hm))) (λidx a _ ⟨op,au,_⟩ _=>by simp at au);simpa using this
  ·refine h.L_ aV (SP _) (cL.ghost hg) (λx=>by cases x) (.inl (by rw[hK];rfl)) ?_;have hx:=h.phase.2.2.2.2.2.2.2.2.2;split
   ·rename_i aH;rw[if_pos aH]at hx;obtain⟨_,gg,_,s',oZ,fO⟩:=hx;refine⟨s',oZ,?_⟩;have:=fO.keep (w':=w) (gs':=gs.setIfInBounds i (parked gi #[scase p.c v z] .send)) (u:=#[]) lE rfl rfl λrc x hx=>by
     by_cases fM:ic=i
     ·subst fM;exfalso;unfold Mode at fO;have aG:∀s:GS,(K ic).shape=s->s=.work j .z noView:=λs e=>(by rw[<- e,hK];rfl);rcases fO with h|h|h|h|h|h|h
      ·rcases h.2.2.2.2.2 with⟨_,e,_⟩|⟨_,e,_⟩<;>cases aG _ e
      ·rcases h.2.2.2.2.2.2 with e|e<;>cases aG _ e
      ·rcases h.2.2.2.2.1 with e|e<;>cases aG _ e
      ·rcases h.2.2.2.2.2.2 with e|e<;>cases aG _ e
      ·rcases h.2.2.2.2.2 with e|e<;>cases aG _ e
      ·rcases h.2.2.2.2 with e|e<;>cases aG _ e
      ·cases aG _ h.2.2.2
     ·rw[SU (Ne.symm fM)]at hx;exact rc x hx
    simpa using this
   ·exact⟨kZ,rfl,by rw[hK];rfl⟩
 ·show qz (upd K i k' i).cY (K i).cY;rw[hK];refine .inl ?_;simp only[bu,k',GS.cY,hr,iZ];omega
theorem Mode.als{c Wg N:Nat}{u:Um}{K':Nat->GS}{s:eg}(h:Mode P c Wg N w gs t K ic s)(gK:1<=sumTo N λi=>(K i).cnt)(hs:∀j,(K' j).shape=(K j).shape)(ho:∃n,w'.heap[c]?=some (.chan 0 #[] false n n false)) (hW:w'.heap[Wg]?=w.heap[Wg]?):Mode P c Wg N w' gs' (t++u) K' ic s:=by
 have e1:sumTo N (λi=>(K' i).cnt)=sumTo N λi=>(K i).cnt:=Vj λi _=>by rw[<- GS.m_,hs i,GS.m_]
 have e2:sumTo N (λi=>(K' i).late)=sumTo N λi=>(K i).late:=Vj λi _=>by rw[<- GS.mc,hs i,GS.mc]
 have e3:∀st sm,WgAt P Wg w' st sm=WgAt P Wg w st sm:=λst sm=>by unfold WgAt;rw[hW]
 unfold Mode at h⊢;simp only[e1,e2,e3,hs];rcases h with h|h|h|h|h|h|h
 ·exact .inl ⟨ho,h.2⟩
 ·exact .inr (.inl ⟨ho,h.2⟩)
 ·have:=h.2.2.2.1;omega
 ·have:=h.2.2.2.1;omega
 ·have:=h.2.2.2.1;omega
 ·have:=h.2.2.2.1;omega
 ·have:=h.2.2.1;omega
theorem Inv.met(h:Inv P n0 W0 V gs w t K Im ic (some p) st)(aH:p.recv=true)(iD:V.deaf=0){i j:Nat}{h':Ht}{V₁:View}{gi:SH}{sp:Spec}{S:List Spec}{B:Nat->Bool}(hi:0<i)(hlt:i<gs.size)
  (xq:(K i).idx=some j) (hg:dT ((K i).view Im) V₁) (hr:V₁.role=.work p.c p.Wg (sp::S)) (hd:V₁.deaf=0) (n_:UR t i=0) (hS:p.Ss[j]?=some (sp::S))
  (hk:lq P h' (lK B V₁ (.work p.c p.Wg S)) (T4 gi undef)) (aV:gs'.size=gs.size) (aM:gs'[i]?=some (T4 gi undef)) (hgo:∀m,m≠i->0<m->gs'[m]?=gs[m]?)
  {u:Um} {x0 x1 x2 x3:V_} (hu:u=#[x0,x1,x2,x3]) {s:Nat} (h0:x0.g=i/\x0.act=.send p.c s) (h1:x1.g=0/\x1.act=.recv p.c s 0) (h2:x2.g=i/\x2.act=.sendDone p.c s) (h3:x3.g=0/\x3.act=.recvDone p.c s)
  (bP:w'.heap.size=w.heap.size) (gY:∀b,b≠p.c->w'.heap[b]?=w.heap[b]?) (vT:∃n,w'.heap[p.c]?=some (.chan 0 #[] false n n false)) (FF:w'.tape=w.tape) (hw5:w'.os=w.os) (hw6:w'.output=w.output):
  (∀b,V.own b≠none->lN B V₁ b=none)/\(∀b o,V.own b≠none->V₁.ab b o≠none->V.ab b o≠none)/\
  Inv P n0 W0 (nD V V₁.ab (lN B V₁) (.recv p.c p.Wg (p.Ss.set j S))) gs' w' (t++u) (upd K i (.work j h' (lK B V₁ (.work p.c p.Wg S)))) Im ic (some {p with Ss:=p.Ss.set j S}) st:=by
 obtain⟨de,hc,lD,gD⟩:=h.out;obtain⟨a1,a2,a3,a4,a5,a6,a7,a8,a9,bQ⟩:=gD;rw[if_pos aH]at bQ;obtain⟨⟨c1,c2,c3,c4⟩,c5,c6,s',c7,c8⟩:=bQ;have BD:jh p V:=⟨c1,c2,c3,c4⟩;have vv:=(h.blind hi).ghost hg;have l8:bD V Im K i=(K i).view Im:=by simp[bD];omega
 have cT:bD V Im K 0=V:=by simp[bD]
 have di:Core (upd (bD V Im K) i V₁) gs.size w t (rF (some p)) (mW (some p) gs.size ic K) ic n0 W0:=hc.ghost hlt (by rw[l8];exact hg);have dF:Sat V₁ w:=by have:=di.sat i hlt;rwa [bu]at this
 have dw:Sat V w:=by have:=di.sat 0 h.pos;rwa [aZ _ _ (by omega),cT]at this
 have D_:jG V V₁:=by have:=di.dK 0 i h.pos hlt (by omega);rwa [aZ _ _ (show 0≠i by omega),bu,cT]at this
 have ON:jG V₁ V:=by have:=di.dK i 0 hlt h.pos (by omega);rwa [bu,aZ _ _ (show 0≠i by omega),cT]at this
 have ajE:∀b,V.own b≠none->lN B V₁ b=none:=λb hb=>by
  unfold lN;split
  ·exact(D_ b hb).1
  ·rfl
 refine⟨ajE,λb o hb=>(D_ b hb).2 o,?_⟩;have jw:∀op∈u,op.act.touch?=none/\still op.act/\(op.g=0\/op.g=i)/\op.act.low w.heap.size/\∀a,op.act≠ .mark (.release a):=by
  intro op au;rw[hu]at au;simp only[TK,SL,S4,or_false]at au;rcases au with rfl|rfl|rfl|rfl
  ·rw[h0.2,h0.1];exact⟨rfl,⟨by simp,by simp⟩,.inr rfl,a4,by simp⟩
  ·rw[h1.2,h1.1];exact⟨rfl,⟨by simp,by simp⟩,.inl rfl,a4,by simp⟩
  ·rw[h2.2,h2.1];exact⟨rfl,⟨by simp,by simp⟩,.inr rfl,a4,by simp⟩
  ·rw[h3.2,h3.1];exact⟨rfl,⟨by simp,by simp⟩,.inl rfl,a4,by simp⟩
 have nA:∀op∈u,still op.act:=λop au=>(jw op au).2.1;have t_:∀m,UR (t++u) m=UR t m:=λm=>Deaf_still nA;have d00:UR t 0=0:=by rw[h.d0,iD]
 have bZ:∀idx,Wi t i idx->Wi (t++u) 0 idx:=λidx hx=>amx hu h0 (jw x1 (by rw[hu];simp)).2.1 (jw x2 (by rw[hu];simp)).2.1 h3 n_ d00 hx;let k':GS:=.work j h' (lK B V₁ (.work p.c p.Wg S));let V':View:=nD V V₁.ab (lN B V₁) (.recv p.c p.Wg (p.Ss.set j S));have cW:∀m,((upd K i k') m).idx=(K m).idx:=λm=>by
  by_cases hm:m=i
  ·subst hm;rw[bu,xq];rfl
  ·rw[aZ _ _ hm]
 have dG:(K i).shape=.work j .z noView:=by
  cases kQ:K i<;>rw[kQ]at xq<;>simp[GS.idx]at xq
  ·subst xq;rfl
  ·subst xq;rfl
 have lE:∀m,((upd K i k') m).shape=(K m).shape:=λm=>by
  by_cases hm:m=i
  ·subst hm;rw[bu,dG];rfl
  ·rw[aZ _ _ hm]
 have oM:∀m,((upd K i k') m).cnt=(K m).cnt:=λm=>by rw[<- GS.m_,lE,GS.m_]
 have vL:∀m,((upd K i k') m).late=(K m).late:=λm=>by rw[<- GS.mc,lE,GS.mc]
 have gK:(K i).cnt=1:=by rw[<- GS.m_,dG];rfl
 have kZ:=(h.counted hi hlt gK).2;have rL:bD V' Im (upd K i k') 0=V':=by simp[bD]
 have wq:bD V' Im (upd K i k') i=lK B V₁ (.work p.c p.Wg S):=by simp[bD,bu,k',GS.view];omega
 have ws:∀m,m≠0->m≠i->bD V' Im (upd K i k') m=upd (bD V Im K) i V₁ m:=λm h1 h2=>by simp[bD,aZ _ _ h2,h1]
 have CP:upd (bD V Im K) i V₁ 0=V:=by rw[aZ _ _ (by omega),cT]
 have v6:upd (bD V Im K) i V₁ i=V₁:=bu _ _ _;have ku:∀{U:View},jh p U->Sat U w->Sat U w':=λ{U} hb hs=>⟨λb o v e=>by
   have aG:b≠p.c:=λx=>(by rw[x,hb.2.1 o]at e;cases e);have:=hs.ab b o v e;simp only[Ux,gY b aG]at this⊢;exact this,λb x e=>by
   have aG:b≠p.c:=λy=>(by rw[y,hb.1]at e;cases e);rw[gY b aG];exact hs.own b x e⟩
 have akN:Sat V' w:=⟨λb o v e=>by
   simp only[V',nD]at e;split at e
   ·rename_i x hx;cases e;exact dw.ab b o _ hx
   ·exact dF.ab b o v e,λb x e=>by
   simp only[V',nD]at e;split at e
   ·rename_i y hy;cases e;exact dw.own b _ hy
   ·unfold lN at e;split at e
    ·exact dF.own b x e
    ·cases e⟩
 have BF:jh p V':=⟨by simp[V',nD,c1,lN,vv.1],λo=>by simp[V',nD,c2,vv.2.1],by simp[V',nD,c3,lN,vv.2.2.1],λo=>by simp[V',nD,c4,vv.2.2.2]⟩;have hsK:Sat (lK B V₁ (.work p.c p.Wg S)) w:=⟨dF.ab,λb x e=>by
   simp only[lK]at e;split at e
   ·cases e
   ·exact dF.own b x e⟩
 have BC:jh p (lK B V₁ (.work p.c p.Wg S)):=⟨by simp[lK,vv.1],vv.2.1,by simp[lK,vv.2.2.1],vv.2.2.2⟩;have zO:∀b,V'.own b≠none->V.own b≠none\/(B b=true/\V₁.own b≠none):=λb hb=>by
  simp only[V',nD]at hb;split at hb
  ·rename_i y hy;exact .inl (by rw[hy];simp)
  ·unfold lN at hb;split at hb
   ·rename_i hB;exact .inr ⟨hB,hb⟩
   ·exact absurd rfl hb
 have uq:∀b o,V'.ab b o≠none<->(V.ab b o≠none\/V₁.ab b o≠none):=λb o=>by
  simp only[V',nD];cases e:V.ab b o with
  |some x=>simp
  |none=>simp
 have zP:∀b,(lK B V₁ (.work p.c p.Wg S)).own b≠none->B b=false/\V₁.own b≠none:=λb hb=>by
  simp only[lK]at hb;split at hb
  ·exact absurd rfl hb
  ·rename_i hB;exact⟨by simpa using hB,hb⟩
 have xk:Core (bD V' Im (upd K i k')) gs.size w' (t++u) (rF (some p)) (mW (some p) gs.size ic K) ic n0 W0:=by
  refine⟨λm hm=> ?_,λa b ha hb fK=> ?_,?_,FF.trans hc.tape,hw5.trans hc.os,hw6.trans hc.out,λb hb=>(gY b (by omega)).trans (hc.old b hb),λm hm b hb=> ?_,by rw[bP];exact hc.n0⟩
  ·by_cases iJ:m=0
   ·subst iJ;rw[rL];exact ku BF akN
   ·by_cases cS:m=i
    ·subst cS;rw[wq];exact ku BC hsK
    ·rw[ws m iJ cS,aZ _ _ cS];have:=hc.sat m hm;refine ku ?_ this;have e:bD V Im K m=(K m).view Im:=(by simp[bD,iJ]);rw[e];exact h.blind (by omega)
  ·
   have dm:∀m,m<gs.size->m≠0->m≠i->jG (upd (bD V Im K) i V₁ m) V/\jG V (upd (bD V Im K) i V₁ m)/\jG (upd (bD V Im K) i V₁ m) V₁/\jG V₁ (upd (bD V Im K) i V₁ m):=λm hm h1 h2=>
    ⟨by have:=di.dK m 0 hm h.pos h1;rwa [CP]at this,by have:=di.dK 0 m h.pos hm (Ne.symm h1);rwa [CP]at this,by have:=di.dK m i hm hlt h2;rwa [v6]at this,by have:=di.dK i m hlt hm (Ne.symm h2);rwa [v6]at this⟩
   by_cases yT:a=0
   ·subst yT;by_cases iE:b=i
    ·subst iE;rw[rL,wq];intro q hq;rcases zO q hq with x|⟨hB,x⟩
     ·refine⟨?_,λo ho=>(uq q o).2 (.inl ((D_ q x).2 o ho))⟩;simp only[lK];split
      ·rfl
      ·exact(D_ q x).1
     ·refine⟨by simp only[lK,hB,if_true],λo ho=>(uq q o).2 (.inr ho)⟩
    ·have sx:b≠0:=Ne.symm fK;rw[rL,ws b sx iE];obtain⟨_,e2,_,e4⟩:=dm b hb sx iE;intro q hq;rcases zO q hq with x|⟨_,x⟩
     ·exact⟨(e2 q x).1,λo ho=>(uq q o).2 (.inl ((e2 q x).2 o ho))⟩
     ·exact⟨(e4 q x).1,λo ho=>(uq q o).2 (.inr ((e4 q x).2 o ho))⟩
   ·by_cases nh:a=i
    ·subst nh;by_cases sx:b=0
     ·subst sx;rw[rL,wq];intro q hq;obtain⟨hB,x⟩:=zP q hq;refine⟨?_,λo ho=> ?_⟩
      ·simp only[V',nD,(ON q x).1,lN,hB];rfl
      ·rcases(uq q o).1 ho with y|y
       ·exact(ON q x).2 o y
       ·exact y
     ·rw[wq,ws b sx (Ne.symm fK)];obtain⟨_,_,_,e4⟩:=dm b hb sx (Ne.symm fK);intro q hq;exact e4 q (zP q hq).2
    ·rw[ws a yT nh];obtain⟨e1,e2,e3,e4⟩:=dm a ha yT nh;by_cases sx:b=0
     ·subst sx;rw[rL];intro q hq;refine⟨?_,λo ho=>((uq q o).1 ho).elim ((e1 q hq).2 o) ((e3 q hq).2 o)⟩;simp only[V',nD,(e1 q hq).1,lN,(e3 q hq).1,ite_self]
     ·by_cases iE:b=i
      ·subst iE;rw[wq];intro q hq;refine⟨?_,(e3 q hq).2⟩;simp only[lK,(e3 q hq).1,ite_self]
      ·rw[ws b sx iE];exact di.dK a b ha hb fK
  ·rw[bP];refine di.ti.mute (λop au=>(jw op au).1) (λop au=>(jw op au).2.2.2.1) (λop au=>((jw op au).2.2.1).elim (λx=>by rw[x];exact h.pos) (λx=>by rw[x];exact hlt)) (SP _) (λop au=>(jw op au).2.2.2.2) (λm hm l hl idx a ha gB rk=> ?_) (λm hm l hl idx a ha gB=> ?_) (λidx a ha dG=>⟨λhp m hm=>((di.ti.sp idx a ha dG).1 hp m hm).app u,λhp=>((di.ti.sp idx a ha dG).2 hp).app u⟩)
   ·obtain⟨_,cR,nm⟩:=hl;by_cases iJ:m=0
    ·subst iJ;rw[rL]at cR;have:gH V l\/gH V₁ l:=by
      cases l with
      |cell a'=>
       rcases cR with x|x
       ·exact(zO _ x).imp .inl (λy=> .inl y.2)
       ·exact((uq _ _).1 x).imp .inr .inr
      |obj r=>exact(zO _ cR).imp id (λy=>y.2)
      |_=>exact cR.elim
     rcases this with x|x
     ·exact(di.ti.kr 0 h.pos l ⟨h.pos,by rw[CP];exact x,nm⟩ idx a ha gB rk).app u
     ·exact bZ idx (di.ti.kr i hlt l ⟨hlt,by rw[v6];exact x,nm⟩ idx a ha gB rk)
    ·by_cases cS:m=i
     ·subst cS;rw[wq]at cR;have:gH V₁ l:=by
       cases l with
       |cell a'=>exact cR.imp (λx=>(zP _ x).2) id
       |obj r=>exact(zP _ cR).2
       |_=>exact cR.elim
      exact(di.ti.kr m hm l ⟨hm,by rw[v6];exact this,nm⟩ idx a ha gB rk).app u
     ·rw[ws m iJ cS]at cR;exact(di.ti.kr m hm l ⟨hm,cR,nm⟩ idx a ha gB rk).app u
   ·obtain⟨_,cR,nm⟩:=hl;by_cases iJ:m=0
    ·subst iJ;rw[rL]at cR;have:jH V l\/jH V₁ l:=by
      cases l with
      |cell a'=>
       have fL:V.ab a'.block a'.off=none:=by
        cases e:V.ab a'.block a'.off with
        |none=>rfl
        |some x=>exact absurd cR.2 ((uq _ _).2 (.inl (by rw[e];simp)))
       have uc:V₁.ab a'.block a'.off=none:=by
        cases e:V₁.ab a'.block a'.off with
        |none=>rfl
        |some x=>exact absurd cR.2 ((uq _ _).2 (.inr (by rw[e];simp)))
       exact(zO _ cR.1).imp (λx=>⟨x,fL⟩) (λx=>⟨x.2,uc⟩)
      |obj r=>exact(zO _ cR).imp id (λy=>y.2)
      |_=>exact cR.elim
     rcases this with x|x
     ·exact(di.ti.kw 0 h.pos l ⟨h.pos,by rw[CP];exact x,nm⟩ idx a ha gB).app u
     ·exact bZ idx (di.ti.kw i hlt l ⟨hlt,by rw[v6];exact x,nm⟩ idx a ha gB)
    ·by_cases cS:m=i
     ·subst cS;rw[wq]at cR;have:jH V₁ l:=by
       cases l with
       |cell a'=>exact⟨(zP _ cR.1).2,cR.2⟩
       |obj r=>exact(zP _ cR).2
       |_=>exact cR.elim
      exact(di.ti.kw m hm l ⟨hm,by rw[v6];exact this,nm⟩ idx a ha gB).app u
     ·rw[ws m iJ cS]at cR;exact(di.ti.kw m hm l ⟨hm,cR,nm⟩ idx a ha gB).app u
  ·by_cases iJ:m=0
   ·subst iJ;rw[rL];have e1:=di.jc 0 h.pos b hb;have e2:=di.jc i hlt b hb;rw[CP]at e1;rw[v6]at e2;simp[V',nD,e1,lN,e2]
   ·by_cases cS:m=i
    ·subst cS;rw[wq];have e2:=di.jc m hm b hb;rw[v6]at e2;simp[lK,e2]
    ·rw[ws m iJ cS];exact di.jc m hm b hb
 refine Inv.mk' (by rw[aV];exact h.pos) (by rw[aZ _ _ (by omega)];exact h.k0) (by rw[t_];exact h.d0) (λm x hm hx=> ?_) ?_ ?_ ?_
 ·show (upd K i k' m).is P p.c p.Wg Im (p.Ss.set j S) (UR (t++u) m) x;rw[t_];by_cases cS:m=i
  ·subst cS;rw[aM]at hx;cases hx;rw[bu];have e_:j<p.Ss.length:=(SM.1 hS).1;exact⟨by rw[n_];exact hd.symm,hk,S,by simp[W5 e_],rfl⟩
  ·rw[hgo m cS hm]at hx;rw[aZ _ _ cS];have zA:=de m x hm hx;have B1:m<gs.size:=(SR.1 hx).1;have aG:(K m).idx≠some j:=λe=>cS (a8 m i j hm B1 hi hlt e xq);cases Jk:K m with
   |work j2 h2 V2=>
    rw[Jk]at zA aG;obtain⟨b1,b2,S2,b3,b4⟩:=zA;exact⟨b1,b2,S2,by rw[T6 (λe=>aG (by rw[e];rfl))];exact b3,b4⟩
   |nI j2 h2 V2 V3 g2 v2 z2=>
    rw[Jk]at zA aG;obtain⟨b1,b2,b3,b4,sp2,S2,B2,b5,b6⟩:=zA;exact⟨b1,b2,b3,b4,sp2,S2,B2,by rw[T6 (λe=>aG (by rw[e];rfl))];exact b5,b6⟩
   |_=>rw[Jk]at zA;exact zA
 ·rw[aV];refine xk.AU λm hm=> ?_;have fO:iR p gs.size ic (upd K i k') m:=hm;show iR p gs.size ic K m;unfold iR at fO⊢;rw[cW,oM,vL]at fO;exact fO
 ·show Rest p.Wg (t++u) (upd K i k') ic st;have xB:Rest p.Wg t K ic st:=lD;rw[kZ]at xB⊢;exact xB.app (λidx a ha hx=> .inr (hx.app (by obtain⟨op,au,_⟩:=US ha;exact TH au) λm _ _ hm=> .inl (by rw[cW];exact hm))) (λidx a _ ⟨op,au,_,hx⟩ _=>by rw[(jw op au).1]at hx;cases hx)
 ·refine⟨a1,a2,a3,by rw[bP];exact a4,by rw[bP];exact a5,by simpa using a6,λm hm=> ?_,λm m' q b1 b2 b3 b4 b5 b6=>a8 m m' q b1 (aV▸b2) b3 (aV▸b4) (by rw[<- cW];exact b5) (by rw[<- cW];exact b6),λq S2 b1 b2=> ?_,?_⟩
  ·by_cases cS:m=i
   ·subst cS;rw[bu];exact⟨BC.1,BC.2.1,BC.2.2.1,BC.2.2.2,λx=>by cases x⟩
   ·rw[aZ _ _ cS];exact a7 m hm
  ·rw[aV];by_cases hq:q=j
   ·subst hq;exact⟨i,hi,hlt,by rw[cW];exact xq⟩
   ·have HV:p.Ss[q]?=some S2:=by
     have:=b1;rwa [show ({p with Ss:=p.Ss.set j S}:Phase).Ss=p.Ss.set j S from rfl,T6 (Ne.symm hq)]at this
    obtain⟨m,e1,e2,e3⟩:=a9 q S2 HV b2;exact⟨m,e1,e2,by rw[cW];exact e3⟩
  ·show if p.recv=true then _ else _;rw[if_pos aH];refine⟨⟨BF.1,BF.2.1,BF.2.2.1,BF.2.2.2⟩,c5,by rw[aV];exact c6,s',c7,?_⟩;have hle:(K i).cnt<=sumTo gs.size λi=>(K i).cnt:=Wz (f:=λi=>(K i).cnt) hlt;rw[aV];exact c8.als (by omega) lE vT (gY _ (Ne.symm a3))
end
section
variable {P:SJ}{n0:Nat}{W0:Tp}{V:View}{gs gs':Array SH}{w w':Tp}{sl:Option (Nat×Nat)}{t:Um}{K:Nat->GS}{Im:cq}{ic:Nat}{p:Phase}{st st':Option eg}
theorem Inv.s9(h:Inv P n0 W0 V gs w t K Im ic (some p) st)(aH:p.recv=true){i:Nat}{gi bB:SH}{es:Array Uq}{k':GS}{s':eg}(hi:0<i)(aM:gs[i]?=some gi)(aP:stepG P false gi w=.go bB w' es)
  (hk:k'.is P p.c p.Wg Im p.Ss (deafBehind (UR t i) es) bB) (pS:mq (k'.view Im) ((K i).view Im))
  (xi:k'.m9=true->i=ic) (cW:k'.idx=none) (xp:∀j,(K i).idx=some j->p.Ss[j]?=some []/\∃r,Rel p.Wg (t++Ta i gi.frame.fn gi.frame.place es) i r/\t.size<=r)
  (jZ:i=ic\/(K i).idx.isSome=true\/(K i).cnt=1\/(K i).late=1)
  (cm:∀e∈es,∀x,(Ts e).touch?=some x->(qA p.c p.Wg x.loc/\x.kind=.atomic)\/(qA p.c p.Wg x.loc/\x.kind=.said/\i=ic)\/(¬qA p.c p.Wg x.loc/\gH ((K i).view Im) x.loc/\x.write=false))
  (gW:∀e∈es,(Ts e).low w.heap.size) (qZ:∀e∈es,∀a,Ts e≠ .mark (.release a))
  (aV:w'.heap.size=w.heap.size) (ju:∀b,b≠p.c->b≠p.Wg->w'.heap[b]?=w.heap[b]?) (ht:w'.tape=w.tape) (ho:w'.os=w.os) (hu:w'.output=w.output)
  (xx:Mode P p.c p.Wg gs.size w' ((gs.map (woken P gi bB w')).setIfInBounds i bB) (t++Ta i gi.frame.fn gi.frame.place es) (upd K i k') ic s')
  (gC:(∃n,w'.heap[p.c]?=some (.chan 0 #[] false n n false))\/((∀j,0<j->j<gs.size->j≠i->(K j).idx=none)/\∀g,nN gs g p.c->kj ((gs.map (woken P gi bB w')).setIfInBounds i bB) g))
  (lD:Rest p.Wg (t++Ta i gi.frame.fn gi.frame.place es) (upd K i k') ic (some s'))
  (jw:AA gs.size ((λj=>(upd K i k' j).cY),flag ((gs.map (woken P gi bB w')).setIfInBounds i bB) ic) ((λj=>(K j).cY),flag gs ic)):gr P n0 W0 V gs w sl t K Im ic (some p) st i:=by
 have hlt:i<gs.size:=(SR.1 aM).1;obtain⟨_,hc,_,hp⟩:=h.out;obtain⟨a1,a2,a3,a4,a5,a6,a7,a8,a9,bQ⟩:=hp;rw[if_pos aH]at bQ;obtain⟨c1,c2,c3,_⟩:=bQ;have qa:bD V Im K i=(K i).view Im:=by simp[bD];omega
 have BD:∀j,j<gs.size->jh p (bD V Im K j):=λj _=>by
  by_cases hj:j=0
  ·subst hj;rw[show bD V Im K 0=V by simp[bD]];exact⟨c1.1,c1.2.1,c1.2.2.1,c1.2.2.2⟩
  ·simp only[bD,hj,if_false];exact h.blind (by omega)
 have Qj:mW (some p) gs.size ic K i:=by
  show iR p gs.size ic K i;unfold iR;rw[if_pos aH];exact⟨hi,hlt,by rcases jZ with x|x|x|x;exact .inr (.inl x);exact .inl x;exact .inr (.inr (.inl x));exact .inr (.inr (.inr x))⟩
 refine h.aaE (st':=some s') hi aM aP hk (λhb=> ?_) (λq hq=>by cases hq;exact gC.imp id And.left) ?_ lD ?_ jw ?_
 ·rcases GS.runs hk with x|⟨x,_⟩|⟨_,_,_,_,_,_,_,e⟩|⟨_,_,x⟩
  ·rw[x]at hb;cases hb
  ·rw[x]at hb;cases hb
  ·rw[e]at cW;cases cW
  ·exact x
 ·rw[M4 V Im K hi];have dG:=hc.s9 hlt (es:=es) (w':=w') (λe he x hx=>by
    rcases cm e he x hx with⟨x1,x2⟩|⟨x1,x2,x3⟩|⟨x1,x2,x3⟩
    ·exact .inl ⟨x1,x2,Qj⟩
    ·exact .inr (.inl ⟨x1,x2,x3,Qj⟩)
    ·exact .inr (.inr ⟨x1,.inr (.inl ⟨⟨hlt,by rw[qa];exact x2,x1⟩,x3⟩)⟩)) gW qZ (λb=>b=p.c\/b=p.Wg)
   (λb hb=>by
    rcases hb with rfl|rfl
    ·exact⟨a1,λj hj=>⟨(BD j hj).1,(BD j hj).2.1⟩⟩
    ·exact⟨a2,λj hj=>⟨(BD j hj).2.2.1,(BD j hj).2.2.2⟩⟩) aV (λb hb=>ju b (λx=>hb (.inl x)) (λx=>hb (.inr x))) ht ho hu gi.frame.fn gi.frame.place
  refine(dG.less (V':=k'.view Im) hlt (by rw[qa];exact pS)).AU λm hm=> ?_;have fO:iR p gs.size ic (upd K i k') m:=hm;show iR p gs.size ic K m;unfold iR at fO⊢;rw[if_pos aH]at fO⊢;by_cases cS:m=i
  ·subst cS;exact⟨hi,hlt,by rcases jZ with x|x|x|x;exact .inr (.inl x);exact .inl x;exact .inr (.inr (.inl x));exact .inr (.inr (.inr x))⟩
  ·rw[aZ _ _ cS]at fO;exact fO
 ·refine h.L_ (by simp) (by omega) ?_ xi (.inr ⟨cW,λj hj=>(xp j hj).1⟩) ?_
  ·have hb:=h.blind hi;exact⟨(pS.1 _).elim id (λx=>x.trans hb.1),λo=>(pS.2.1 _ o).elim id (λx=>x.trans (hb.2.1 o)),(pS.1 _).elim id (λx=>x.trans hb.2.2.1),λo=>(pS.2.1 _ o).elim id (λx=>x.trans (hb.2.2.2 o))⟩
  ·rw[if_pos aH];exact⟨s',rfl,xx⟩
 ·intro g c JD;refine⟨LP hi,λiY _=> ?_⟩;rw[<- JD p rfl]at iY⊢;rcases gC with x|⟨_,x⟩
  ·exact .inr ⟨L8 hi iY x,x⟩
  ·exact .inl (x g iY)
theorem Mode.alr{c Wg N:Nat}{u:Um}{K':Nat->GS}{s:eg}(h:Mode P c Wg N w gs t K ic s)(e1:sumTo N (λi=>(K' i).cnt)=sumTo N λi=>(K i).cnt)(e2:sumTo N (λi=>(K' i).late)=sumTo N λi=>(K i).late)
  (e4:(K' ic).shape=(K ic).shape) (e5:∀i,i<N->((K' i).shape=.load 0\/(K' i).shape=.store 0)->((K i).shape=.load 0\/(K i).shape=.store 0)) (e6:∀i,i<N->(K' i).shape=.mh 0->(K i).shape=.mh 0) (hc:w'.heap[c]?=w.heap[c]?) (hW:w'.heap[Wg]?=w.heap[Wg]?)
  (hr:(∀g,gs[ic]?=some g->g.status=.running)->∀g,gs'[ic]?=some g->g.status=.running):Mode P c Wg N w' gs' (t++u) K' ic s:=by
 have e3:∀st sm,WgAt P Wg w' st sm=WgAt P Wg w st sm:=λst sm=>by unfold WgAt;rw[hW]
 unfold Mode at h⊢;simp only[e1,e2,e3,e4,hc];rcases h with h|h|h|h|h|h|h
 ·exact .inl h
 ·exact .inr (.inl h)
 ·exact .inr (.inr (.inl ⟨h.1,h.2.1,h.2.2.1,h.2.2.2.1,h.2.2.2.2.1,λi hi x=>h.2.2.2.2.2.1 i hi (e5 i hi x),λi hi x=>h.2.2.2.2.2.2 i hi (e6 i hi x)⟩))
 ·exact .inr (.inr (.inr (.inl ⟨h.1,h.2.1,h.2.2.1,h.2.2.2.1,h.2.2.2.2.1,hr h.2.2.2.2.2.1,h.2.2.2.2.2.2⟩)))
 ·exact .inr (.inr (.inr (.inr (.inl h))))
 ·exact .inr (.inr (.inr (.inr (.inr (.inl h)))))
 ·obtain⟨⟨p,n,a,b,c',d⟩,e⟩:=h;exact .inr (.inr (.inr (.inr (.inr (.inr ⟨⟨p,n,a,by rw[X4 (VY b)];exact b,(Wo (VY b)).2 c',d⟩,e⟩)))))
theorem Mode.waits{c Wg N:Nat}{s:eg}(h:Mode P c Wg N w gs t K ic s):(K ic).cnt=0/\(K ic).late=0:=by
 rw[<- GS.m_,<- GS.mc];rcases h with h|h|h|h|h|h|h
 ·rcases h.2.2.2.2.2 with⟨_,e,_⟩|⟨_,e,_⟩<;>rw[e]<;>exact⟨rfl,rfl⟩
 ·rcases h.2.2.2.2.2.2 with e|e<;>rw[e]<;>exact⟨rfl,rfl⟩
 ·rcases h.2.2.2.2.1 with e|e<;>rw[e]<;>exact⟨rfl,rfl⟩
 ·rcases h.2.2.2.2.2.2 with e|e<;>rw[e]<;>exact⟨rfl,rfl⟩
 ·rcases h.2.2.2.2.2 with e|e<;>rw[e]<;>exact⟨rfl,rfl⟩
 ·rcases h.2.2.2.2 with e|e<;>rw[e]<;>exact⟨rfl,rfl⟩
 ·rw[h.2.2.2];exact⟨rfl,rfl⟩
theorem xS{i:Nat}{k':GS}{a b:Nat}(hlt:i<gs.size)(hr:qz k'.cY (K i).cY):AA gs.size ((λj=>(upd K i k' j).cY),a) ((λj=>(K j).cY),b):=
 .inl ⟨i,hlt,by simpa only[bu]using hr,λj hj=>by show (upd K i k' j).cY=(K j).cY;rw[aZ _ _ hj]⟩
theorem Inv.mode(h:Inv P n0 W0 V gs w t K Im ic (some p) st)(aH:p.recv=true):∃s,st=some s/\0<ic/\ic<gs.size/\Mode P p.c p.Wg gs.size w gs t K ic s:=by
 have hx:=h.phase.2.2.2.2.2.2.2.2.2;rw[if_pos aH]at hx;obtain⟨_,h1,h2,s,h3,h4⟩:=hx;exact⟨s,h3,h1,h2,h4⟩
theorem ofEvents_one{i:Nat}{fn:TQ}{pos:String}{e:Uq}:Ta i fn pos #[e]=#[{g:=i,fn,pos,act:=.ofEvent e}]:=by simp[Ta]
theorem Oy{t u:Um}{g:Nat}:(t++u).deaf g t.size=UR t g:=deaf_old (SP _)
theorem FZ(U:View):mq noView U:=⟨λ_=> .inl rfl,λ_ _=> .inl rfl,λb hb=>absurd rfl hb⟩
theorem Inv.release(h:Inv P n0 W0 V gs w t K Im ic (some p) st)(aH:p.recv=true){i j:Nat}{gi:SH}{hh:Ht}{Vi V₁:View}{c Wg:Nat}(hi:0<i)(aM:gs[i]?=some gi)(hK:K i=.work j hh Vi)(hg:dT Vi V₁)
  (hr:V₁.role=.work c Wg []) (hd:V₁.deaf=0) (hf:Dz P Wg gi):gr P n0 W0 V gs w sl t K Im ic (some p) st i:=by
 have hlt:i<gs.size:=(SR.1 aM).1;have de:=h.is i gi hi aM;simp only[hK,GS.is]at de;obtain⟨bw,_,S,hS,iZ⟩:=de;rw[hg.role,iZ]at hr;cases hr;have gK:(K i).cnt=1:=by rw[hK];rfl
 obtain⟨⟨n,gC⟩,kZ⟩:=h.counted hi hlt gK;obtain⟨s,hs,gg,iI,hm⟩:=h.mode aH;rw[kZ]at hs;cases hs;obtain⟨bH,g',k_,m,dL⟩:=hf;have aG:i≠ic:=λe=>by have:=(Mode.waits hm).1;rw[<- e,gK]at this;cases this
 have aQ:UR t i=0:=by rw[bw,<- hg.deaf,hd]
 have q_:Rel p.Wg (t++Ta i gi.frame.fn gi.frame.place #[jW (.releaseMerge (dV p.Wg))]) i t.size:=by
  rw[ofEvents_one];have e:(#[({g:=i,fn:=gi.frame.fn,pos:=gi.frame.place,act:=.ofEvent (jW (.releaseMerge (dV p.Wg)))}:V_)]:Um)[0]?=some _:=rfl;have g0:=qK (t:=t) e;exact⟨ad' g0,by simp[Wx,g0],heard_new e rfl (by rw[show t.size+0=t.size from rfl,Oy];exact aQ)⟩
 have nv:∀e∈#[jW (.releaseMerge (dV p.Wg))],e=jW (.releaseMerge (dV p.Wg)):=λe he=>by simpa using he
 refine h.s9 aH (k':=.add m) (s':=.early) hi aM (k_ w) ?_ (by rw[hK];exact FZ _) (λx=>by cases x) rfl (λj' ii=> ?_) (.inr (.inr (.inl gK))) (λe he x hx=> ?_) (λe he=> ?_) (λe he a=> ?_) rfl (λ_ _ _=>rfl) rfl rfl rfl ?_ (.inl ⟨n,gC⟩) ?_ (xS hlt ?_)
 ·show cP P (Ap P p.Wg) m _ g';rw[aQ];exact dL
 ·rw[hK]at ii;cases ii;exact⟨hS,t.size,q_,SP _⟩
 ·rw[nv e he]at hx;cases hx
 ·rw[nv e he];exact h.low.2
 ·rw[nv e he];simp[jW,Ts]
 ·refine hm.alr (lh K _ GS.cnt (by rw[gK];rfl)) (lh K _ GS.late (by rw[hK];rfl)) (by rw[aZ _ _ (Ne.symm aG)]) (λm hm=> ?_) (λm hm=> ?_) rfl rfl (abA hlt ?_)
  ·by_cases cS:m=i
   ·subst cS;rw[bu];intro x;rcases x with x|x<;>cases x
   ·rw[aZ _ _ cS];exact id
  ·by_cases cS:m=i
   ·subst cS;rw[bu];intro x;cases x
   ·rw[aZ _ _ cS];exact id
  ·exact cP.running (λd g x=>x.2.1) dL
 ·have hr:Rest p.Wg t K ic st:=h.out.2.2.1;rw[kZ]at hr;refine hr.app (λidx a ha hx=> .inr (hx.app (by obtain⟨op,au,_⟩:=US ha;exact TH au) λm vH _ hm=> ?_)) (λidx a _ ⟨op,au,_,hx⟩ _=> ?_)
  ·by_cases cS:m=i
   ·subst cS;exact .inr ⟨t.size,q_,by obtain⟨op,au,_⟩:=US ha;exact Nat.le_of_lt (TH au)⟩
   ·rw[aZ _ _ cS];exact .inl hm
  ·rw[ofEvents_one]at au;simp only[TK,SL,S4,or_false]at au;subst au;cases hx
 ·rw[hK];refine .inl ?_;simp only[GS.cY,iZ];omega
def Atom (a:U1)(es:Array Uq):Prop:=es=#[iT a]\/es=#[kP a]\/es=#[iT a,kP a]\/es=z8 a
theorem Atom.mem{a:U1}{es:Array Uq}(h:Atom a es){e:Uq}(he:e∈es):e=iT a\/e=kP a\/e=jW .disable\/e=jW .enable:=by
 rcases h with rfl|rfl|rfl|rfl<;>simp only[z8,TK,SL,S4,or_false]at he
 ·exact .inl he
 ·exact .inr (.inl he)
 ·exact he.imp id .inl
 ·rcases he with x|x|x|x
  ·exact .inr (.inr (.inl x))
  ·exact .inl x
  ·exact .inr (.inl x)
  ·exact .inr (.inr (.inr x))
theorem Atom.behind{a:U1}{es:Array Uq}(h:Atom a es):deafBehind 1 es=1:=by
 rcases h with rfl|rfl|rfl|rfl<;>rfl
theorem Atom.touch{a:U1}{es:Array Uq}(h:Atom a es){e:Uq}(he:e∈es){x:YH}(hx:(Ts e).touch?=some x):x.loc=.cell a/\x.kind=.atomic:=by
 rcases h.mem he with rfl|rfl|rfl|rfl
 ·cases hx;exact⟨rfl,rfl⟩
 ·cases hx;exact⟨rfl,rfl⟩
 ·cases hx
 ·cases hx
theorem Atom.low{a:U1}{es:Array Uq}(h:Atom a es){n:Nat}(ha:a.block<n){e:Uq}(he:e∈es):(Ts e).low n:=by
 rcases h.mem he with rfl|rfl|rfl|rfl
 ·exact ha
 ·exact ha
 ·trivial
 ·trivial
theorem Atom.norel{a:U1}{es:Array Uq}(h:Atom a es){e:Uq}(he:e∈es)(b:U1):Ts e≠ .mark (.release b):=by
 rcases h.mem he with rfl|rfl|rfl|rfl<;>simp[iT,kP,jW,Ts]
theorem Atom.ari{a:U1}{es:Array Uq}(h:Atom a es){i:Nat}{fn:TQ}{pos:String}(hd:UR t i=1){idx:Nat}{op:V_}{x:YH}(cW:t.size<=idx)(au:(t++Ta i fn pos es)[idx]?=some op)(hx:op.act.touch?=some x):
  ¬(t++Ta i fn pos es).heard idx:=by
 obtain⟨k,rfl⟩:∃k,idx=t.size+k:=⟨idx-t.size,by omega⟩;have sJ:(Ta i fn pos es)[k]?=some op:=by rw[X5 (by omega)]at au;simpa using au
 have aM:op.g=i:=by obtain⟨e,_,rfl⟩:=TM (XQ sJ);rfl
 rintro⟨g,hg,hz⟩
 have:g=i:=by simp[Wx,au,aM]at hg;exact hg.symm
 subst this;have Ac:∀y:V_,y.act=Ts (iT a)\/y.act=Ts (kP a)->still y.act:=λy hy=>by rcases hy with e|e<;>rw[e]<;>exact⟨by simp[iT,kP,Ts],by simp[iT,kP,Ts]⟩
 rcases h with rfl|rfl|rfl|rfl
 ·have:=tL (t:=t) (u:=Ta g fn pos #[iT a]) (g:=g) (λop au=>by obtain⟨e,he,rfl⟩:=TM au;simp only[TK,SL,S4,or_false]at he;subst he;exact Ac _ (.inl rfl)) (k:=k) (by have:=TH sJ;omega);omega
 ·have:=tL (t:=t) (u:=Ta g fn pos #[kP a]) (g:=g) (λop au=>by obtain⟨e,he,rfl⟩:=TM au;simp only[TK,SL,S4,or_false]at he;subst he;exact Ac _ (.inr rfl)) (k:=k) (by have:=TH sJ;omega);omega
 ·have:=tL (t:=t) (u:=Ta g fn pos #[iT a,kP a]) (g:=g) (λop au=>by obtain⟨e,he,rfl⟩:=TM au;simp only[TK,SL,S4,or_false]at he;rcases he with rfl|rfl;exact Ac _ (.inl rfl);exact Ac _ (.inr rfl)) (k:=k) (by have:=TH sJ;omega);omega
 ·
  have eu:Ta g fn pos (z8 a)=#[{g,fn,pos,act:=.mark .disable},{g,fn,pos,act:=.ofEvent (iT a)},{g,fn,pos,act:=.ofEvent (kP a)},{g,fn,pos,act:=.mark .enable}]:=by simp[Ta,z8,jW,Ts]
  rw[eu]at sJ hz;have d0:(t++#[({g,fn,pos,act:=.mark .disable}:V_),{g,fn,pos,act:=.ofEvent (iT a)},{g,fn,pos,act:=.ofEvent (kP a)},{g,fn,pos,act:=.mark .enable}]).deaf g t.size=1:=by rw[Oy];exact hd
  have d1:=Z9 (g:=g) (qK (t:=t) (show (#[({g,fn,pos,act:=.mark .disable}:V_),{g,fn,pos,act:=.ofEvent (iT a)},{g,fn,pos,act:=.ofEvent (kP a)},{g,fn,pos,act:=.mark .enable}]:Um)[0]?=some _ from rfl));have d2:=Z9 (g:=g) (qK (t:=t) (show (#[({g,fn,pos,act:=.mark .disable}:V_),{g,fn,pos,act:=.ofEvent (iT a)},{g,fn,pos,act:=.ofEvent (kP a)},{g,fn,pos,act:=.mark .enable}]:Um)[1]?=some _ from rfl));have d3:=Z9 (g:=g) (qK (t:=t) (show (#[({g,fn,pos,act:=.mark .disable}:V_),{g,fn,pos,act:=.ofEvent (iT a)},{g,fn,pos,act:=.ofEvent (kP a)},{g,fn,pos,act:=.mark .enable}]:Um)[2]?=some _ from rfl));rw[Ie (Ac _ (.inl rfl))]at d2;rw[Ie (Ac _ (.inr rfl))]at d3;simp only[UH]at d1;rw[d0]at d1;have d1:=d1.trans (show deafStep g 1 {g,fn,pos,act:=.mark .disable}=2 by simp[deafStep]);have hk:k<4:=by have:=TH sJ;simpa using this
  match k,hk with
  |0,_=>simp at sJ;subst sJ;cases hx
  |1,_=>rw[d1]at hz;omega
  |2,_=>rw[show t.size+2=t.size+1+1 from rfl,d2,d1]at hz;omega
  |3,_=>simp at sJ;subst sJ;cases hx
theorem Rest.atom{Wg:Nat}{s:eg}(hr:Rest Wg t K ic (some s)){a:U1}{es:Array Uq}(h:Atom a es){i:Nat}{fn:TQ}{pos:String}(hd:UR t i=1){K':Nat->GS}(cW:∀m,(K' m).idx=(K m).idx):Rest Wg (t++Ta i fn pos es) K' ic (some s):=by
 refine hr.app (λidx a ha hx=> .inr (hx.app (by obtain⟨op,au,_⟩:=US ha;exact TH au) λm _ _ hm=> .inl (by rw[cW];exact hm))) (λidx x hi ⟨op,au,xp,hx⟩ _=> .inr (.inl ⟨?_,h.ari hd hi xp hx⟩));obtain⟨e,he,rfl⟩:=TM au;exact(h.touch he hx).2
theorem WgAt.GI{Wg:Nat}{a b:Int}(h:WgAt P Wg w a b)(v:Int):WgAt P Wg (w.setCell (dV Wg) (.int .u64 v)) v b:=by
 unfold WgAt at h⊢;unfold Xh;rw[Wd];simp[dV,h,wgBlock]
theorem WgAt.abY{Wg:Nat}{a b:Int}(h:WgAt P Wg w a b)(v:Int):WgAt P Wg (w.setCell (ow Wg) (.int .u32 v)) a v:=by
 unfold WgAt at h⊢;unfold Xh;rw[Wd];simp[ow,h,wgBlock]
theorem WgAt.inj{Wg:Nat}{a b a' b':Int}(h:WgAt P Wg w a b)(k:WgAt P Wg w a' b'):a=a'/\b=b':=by
 unfold WgAt at h k;rw[h]at k;simp[wgBlock]at k;exact k
theorem Inv.DZ(h:Inv P n0 W0 V gs w t K Im ic (some p) st)(aH:p.recv=true){i:Nat}{gi bB:SH}{es:Array Uq}{k':GS}{s:eg}{a:U1}(hs:st=some s)(hi:0<i)(aM:gs[i]?=some gi)(aP:stepG P false gi w=.go bB w' es)(hd:UR t i=1)
  (ha:Atom a es) (yU:a=dV p.Wg\/a=ow p.Wg) (nC:w'=w\/∃x,w'=w.setCell a x) (hk:k'.is P p.c p.Wg Im p.Ss 1 bB) (pS:mq (k'.view Im) ((K i).view Im)) (xi:k'.m9=true->i=ic) (cW:k'.idx=none) (ud:(K i).idx=none)
  (jZ:i=ic\/(K i).cnt=1\/(K i).late=1) (gC:∃n,w.heap[p.c]?=some (.chan 0 #[] false n n false))
  (xx:Mode P p.c p.Wg gs.size w' ((gs.map (woken P gi bB w')).setIfInBounds i bB) (t++Ta i gi.frame.fn gi.frame.place es) (upd K i k') ic s) (uj:qz k'.cY (K i).cY):gr P n0 W0 V gs w sl t K Im ic (some p) st i:=by
 have hlt:i<gs.size:=(SR.1 aM).1;have vz:a.block=p.Wg:=by rcases yU with rfl|rfl<;>rfl
 have qS:p.c≠p.Wg:=h.phase.2.2.1;have ju:∀b,b≠p.Wg->w'.heap[b]?=w.heap[b]?:=λb hb=>by
  rcases nC with rfl|⟨x,rfl⟩
  ·rfl
  ·exact vE _ _ _ (by rw[vz];exact Ne.symm hb)
 have aV:w'.heap.size=w.heap.size:=by rcases nC with rfl|⟨x,rfl⟩;rfl;exact C4 _ _ _
 refine h.s9 aH hi aM aP (by rw[hd,ha.behind];exact hk) pS xi cW (λj hj=>by rw[ud]at hj;cases hj) (jZ.imp id .inr) (λe he x hx=> .inl ?_) (λe he=>ha.low (by rw[vz];exact h.low.2) he) (λe he b=>ha.norel he b) aV (λb _ hb=>ju b hb)
  (by rcases nC with rfl|⟨x,rfl⟩<;>rfl) (by rcases nC with rfl|⟨x,rfl⟩<;>rfl) (by rcases nC with rfl|⟨x,rfl⟩<;>rfl) xx (.inl (by rw[ju _ qS];exact gC)) ?_ (xS hlt uj)
 ·have:=ha.touch he hx;exact⟨by rw[this.1];exact vz,this.2⟩
 ·have hr:Rest p.Wg t K ic st:=h.out.2.2.1;rw[hs]at hr;exact hr.atom ha hd λm=>by
   by_cases hm:m=i
   ·subst hm;rw[bu,cW,ud]
   ·rw[aZ _ _ hm]
theorem Inv.aeb(h:Inv P n0 W0 V gs w t K Im ic (some p) st)(aH:p.recv=true){i n:Nat}{gi:SH}(hi:0<i)(aM:gs[i]?=some gi)(hK:K i=.add n)(jx:Ap P p.Wg (UR t i) gi):gr P n0 W0 V gs w sl t K Im ic (some p) st i:=by
 have hlt:i<gs.size:=(SR.1 aM).1;obtain⟨s,hs,gg,iI,hm⟩:=h.mode aH;have gK:(K i).cnt=1:=by rw[hK];rfl
 have fb:(K i).late=0:=by rw[hK];rfl
 have ud:(K i).idx=none:=by rw[hK];rfl
 have gC:=(h.counted hi hlt gK).1;have aG:ic≠i:=λe=>by have:=(Mode.waits hm).1;rw[e,gK]at this;cases this
 obtain⟨hd,bH,Fx⟩:=jx;have hle:(K i).cnt<=sumTo gs.size λi=>(K i).cnt:=Wz (f:=λi=>(K i).cnt) hlt;have qS:p.c≠p.Wg:=h.phase.2.2.1;have hq:∀(k':GS),sumTo gs.size (λa=>(upd K i k' a).cnt)+(K i).cnt=sumTo gs.size (λa=>(K a).cnt)+k'.cnt:=λk'=>Ad K k' GS.cnt hlt;have sM:∀(k':GS),sumTo gs.size (λa=>(upd K i k' a).late)+(K i).late=sumTo gs.size (λa=>(K a).late)+k'.late:=λk'=>Ad K k' GS.late hlt;have pS:∀k':GS,k'.view Im=noView->mq (k'.view Im) ((K i).view Im):=λk' e=>by rw[e];exact FZ _
 have leave:∀(wt v:Nat),wt<=1->v+1=(sumTo gs.size λi=>(K i).cnt)->v<4->¬(v=0/\wt=1)->s=.early->(sumTo gs.size λi=>(K i).late)=0->WgAt P p.Wg w (((v+1:Nat):Int)* KK+wt) 0->
   ((wt=0/\((∃k,(K ic).shape=.head k 0/\v<k)\/(∃u,(K ic).shape=.lW u 0/\v<=u/\0<u)))\/(wt=1/\((K ic).shape=.said 0\/(K ic).shape=.gU 0)))->gr P n0 W0 V gs w sl t K Im ic (some p) st i:=by
  intro wt v un hv FD fl RH asH hW aX;obtain⟨g',aP,_,l6⟩:=Fx v wt un FD;obtain⟨q,l6⟩:=l6 fl;have Cb:=hq (.gone q);have Ca:=sM (.gone q);simp only[gK,fb]at Cb Ca;rw[show (GS.gone q).cnt=0 from rfl]at Cb;rw[show (GS.gone q).late=0 from rfl]at Ca;refine h.DZ aH (k':=.gone q) (a:=dV p.Wg) hs hi aM (aP w hW) hd (.inr (.inr (.inl rfl))) (.inl rfl) (.inr ⟨_,rfl⟩) l6 (pS _ rfl) (λx=>by cases x) rfl ud (.inr (.inl gK)) gC ?_ (by rw[hK];exact .inl (by simp[GS.cY]));have vq:=hW.GI ((v:Int)* KK+wt);unfold Mode;simp only[aZ _ _ aG];have Iw:sumTo gs.size (λa=>(upd K i (.gone q) a).cnt)=v:=by omega
  have Iz:sumTo gs.size (λa=>(upd K i (.gone q) a).late)=0:=by omega
  simp only[Iw,Iz];have ho:∃n,(w.setCell (dV p.Wg) (.int .u64 ((v:Int)* KK+wt))).heap[p.c]?=some (.chan 0 #[] false n n false):=by
   obtain⟨n,hn⟩:=gC;exact⟨n,by rw[vE _ _ _ (Ne.symm qS)];exact hn⟩
  rcases aX with⟨rfl,aX⟩|⟨rfl,aX⟩
  ·exact .inl ⟨ho,RH,trivial,by omega,by simpa using vq,aX⟩
  ·exact .inr (.inl ⟨ho,RH,trivial,by omega,by omega,by simpa using vq,aX⟩)
 unfold Mode at hm;rcases hm with m|m|m|m|m|m|m
 ·obtain⟨m1,m2,m3,m4,m5,m6⟩:=m;refine leave 0 ((sumTo gs.size λi=>(K i).cnt)-1) (by omega) (by omega) (by omega) (by omega) m2 m3 ?_ (.inl ⟨rfl,?_⟩)
  ·rw[show (sumTo gs.size λi=>(K i).cnt)-1+1=(sumTo gs.size λi=>(K i).cnt) by omega];simpa using m5
  ·rcases m6 with⟨k,e1,e2⟩|⟨u,e1,e2,e3⟩
   ·exact .inl ⟨k,e1,by omega⟩
   ·exact .inr ⟨u,e1,by omega,e3⟩
 ·obtain⟨m1,m2,m3,m4,m5,m6,m7⟩:=m;by_cases hv:(sumTo gs.size λi=>(K i).cnt)=1
  ·
   obtain⟨g',aP,im,_⟩:=Fx 0 1 (by omega) (by omega);obtain⟨n',im⟩:=im ⟨rfl,rfl⟩;have Cb:=hq (.load n');have Ca:=sM (.load n');simp only[gK,fb]at Cb Ca;rw[show (GS.load n').cnt=0 from rfl]at Cb;rw[show (GS.load n').late=1 from rfl]at Ca;rw[hv]at m6;have hW:WgAt P p.Wg w (((0+1:Nat):Int)* KK+(1:Nat)) 0:=(by simpa using m6);refine h.DZ aH (k':=.load n') (a:=dV p.Wg) hs hi aM (aP w hW) hd (.inr (.inr (.inl rfl))) (.inl rfl) (.inr ⟨_,rfl⟩) im (pS _ rfl) (λx=>by cases x) rfl ud (.inr (.inl gK)) gC ?_ (by rw[hK];exact .inl (by simp[GS.cY]));have vq:=hW.GI (((0:Nat):Int)* KK+(1:Nat));unfold Mode;simp only[aZ _ _ aG];have Iw:sumTo gs.size (λa=>(upd K i (.load n') a).cnt)=0:=(by omega);have Iz:sumTo gs.size (λa=>(upd K i (.load n') a).late)=1:=(by omega);simp only[Iw,Iz];have ho:∃n,(w.setCell (dV p.Wg) (.int .u64 (((0:Nat):Int)* KK+(1:Nat)))).heap[p.c]?=some (.chan 0 #[] false n n false):=by
    obtain⟨n,hn⟩:=gC;exact⟨n,by rw[vE _ _ _ (Ne.symm qS)];exact hn⟩
   refine .inr (.inr (.inl ⟨ho,m2,trivial,trivial,m7,λ_ _ _=>by simpa using vq,λm hm p7=> ?_⟩));exfalso;have cS:m≠i:=λe=>(by subst e;rw[bu]at p7;cases p7);rw[aZ _ _ cS]at p7;have Q4:(K m).late<=sumTo gs.size λi=>(K i).late:=Wz (f:=λi=>(K i).late) hm;rw[m3,<- GS.mc,p7]at Q4;simp[GS.late]at Q4
  ·refine leave 1 ((sumTo gs.size λi=>(K i).cnt)-1) (by omega) (by omega) (by omega) (by omega) m2 m3 ?_ (.inr ⟨rfl,m7⟩);rw[show (sumTo gs.size λi=>(K i).cnt)-1+1=(sumTo gs.size λi=>(K i).cnt) by omega];simpa using m6
 ·have:=m.2.2.2.1;omega
 ·have:=m.2.2.2.1;omega
 ·have:=m.2.2.2.1;omega
 ·have:=m.2.2.2.1;omega
 ·have:=m.2.2.1;omega
theorem Mode.Cz{c Wg N:Nat}{s:eg}(hm:Mode P c Wg N w gs t K ic s){i:Nat}(hlt:i<N)(fb:(K i).late=1):
  (∃n,w.heap[c]?=some (.chan 0 #[] false n n false))/\s=.early/\(sumTo N λi=>(K i).late)=1/\(sumTo N λi=>(K i).cnt)=0/\((K ic).shape=.said 0\/(K ic).shape=.gU 0)/\
  (((K i).shape=.load 0\/(K i).shape=.store 0)->WgAt P Wg w 1 0)/\((K i).shape=.mh 0->WgAt P Wg w 0 0):=by
 have hle:(K i).late<=sumTo N λi=>(K i).late:=Wz (f:=λi=>(K i).late) hlt;unfold Mode at hm;rcases hm with m|m|m|m|m|m|m
 ·have:=m.2.2.1;omega
 ·have:=m.2.2.1;omega
 ·exact⟨m.1,m.2.1,m.2.2.1,m.2.2.2.1,m.2.2.2.2.1,m.2.2.2.2.2.1 i hlt,m.2.2.2.2.2.2 i hlt⟩
 ·have:=m.2.2.1;omega
 ·have:=m.2.2.1;omega
 ·have:=m.2.2.1;omega
 ·have:=m.2.1;omega
theorem aa1{N:Nat}(h:(sumTo N λi=>(K i).late)=1){i m:Nat}(hi:i<N)(hm:m<N)(aG:m≠i)(fb:(K i).late=1):(K m).late=0:=by
 have:=Ad K (.gone 0) GS.late hi;have h2:((upd K i (.gone 0)) m).late<=sumTo N λa=>(upd K i (.gone 0) a).late:=Wz (f:=λa=>(upd K i (.gone 0) a).late) hm;rw[aZ _ _ aG]at h2;simp only[fb,h,show (GS.gone 0).late=0 from rfl]at this;omega
theorem Inv.LA(h:Inv P n0 W0 V gs w t K Im ic (some p) st)(aH:p.recv=true){i:Nat}{gi bB:SH}{es:Array Uq}{k':GS}{a:U1}(hi:0<i)(aM:gs[i]?=some gi)(aP:stepG P false gi w=.go bB w' es)(hd:UR t i=1)
  (ha:Atom a es) (yU:a=dV p.Wg\/a=ow p.Wg) (nC:w'=w\/∃x,w'=w.setCell a x) (hk:k'.is P p.c p.Wg Im p.Ss 1 bB) (hv:k'.view Im=noView) (cW:k'.idx=none) (ud:(K i).idx=none) (oM:(K i).cnt=0) (ajq:k'.cnt=0) (xi:k'.m9=false) (fb:(K i).late=1)
  (vF:(k'.late=1/\((k'.shape=.load 0\/k'.shape=.store 0)->WgAt P p.Wg w' 1 0)/\(k'.shape=.mh 0->WgAt P p.Wg w' 0 0))\/
   (k'.late=0/\WgAt P p.Wg w' 0 1/\∀g,((gs.map (woken P gi bB w')).setIfInBounds i bB)[ic]?=some g->g.status=.running)) (uj:qz k'.cY (K i).cY):gr P n0 W0 V gs w sl t K Im ic (some p) st i:=by
 have hlt:i<gs.size:=(SR.1 aM).1;obtain⟨s,hs,gg,iI,hm⟩:=h.mode aH;obtain⟨m1,m2,m3,m4,m5,m6,m7⟩:=hm.Cz hlt fb;have aG:ic≠i:=λe=>by have:=(Mode.waits hm).2;rw[e,fb]at this;cases this
 have qS:p.c≠p.Wg:=h.phase.2.2.1;have vz:a.block=p.Wg:=by rcases yU with rfl|rfl<;>rfl
 have ju:∀b,b≠p.Wg->w'.heap[b]?=w.heap[b]?:=λb hb=>by
  rcases nC with rfl|⟨x,rfl⟩
  ·rfl
  ·exact vE _ _ _ (by rw[vz];exact Ne.symm hb)
 refine h.DZ aH hs hi aM aP hd ha yU nC hk (by rw[hv];exact FZ _) (λx=>by rw[xi]at x;cases x) cW ud (.inr (.inr fb)) m1 ?_ uj;have e1:sumTo gs.size (λa=>(upd K i k' a).cnt)=0:=by have:=Ad K k' GS.cnt hlt;simp only[oM,ajq,m4]at this;omega
 unfold Mode;simp only[aZ _ _ aG,e1,ju _ qS];rcases vF with⟨x1,x2,x3⟩|⟨x1,x2,x3⟩
 ·have e2:sumTo gs.size (λa=>(upd K i k' a).late)=1:=by have:=Ad K k' GS.late hlt;simp only[fb,x1,m3]at this;omega
  refine .inr (.inr (.inl ⟨m1,m2,e2,trivial,m5,λm hm dG=> ?_,λm hm dG=> ?_⟩))
  ·by_cases cS:m=i
   ·subst cS;rw[bu]at dG;exact x2 dG
   ·rw[aZ _ _ cS]at dG;have:=aa1 m3 hlt hm cS fb;rw[<- GS.mc]at this;rcases dG with e|e<;>rw[e]at this<;>cases this
  ·by_cases cS:m=i
   ·subst cS;rw[bu]at dG;exact x3 dG
   ·rw[aZ _ _ cS]at dG;have:=aa1 m3 hlt hm cS fb;rw[<- GS.mc,dG]at this;cases this
 ·have e2:sumTo gs.size (λa=>(upd K i k' a).late)=0:=by have:=Ad K k' GS.late hlt;simp only[fb,x1,m3]at this;omega
  exact .inr (.inr (.inr (.inl ⟨m1,m2,e2,trivial,x2,x3,m5⟩)))
theorem Inv.ame(h:Inv P n0 W0 V gs w t K Im ic (some p) st)(aH:p.recv=true){i n:Nat}{gi:SH}(hi:0<i)(aM:gs[i]?=some gi)(hK:K i=.load n)(jx:Ds P p.Wg (UR t i) gi):gr P n0 W0 V gs w sl t K Im ic (some p) st i:=by
 have hlt:i<gs.size:=(SR.1 aM).1;obtain⟨s,hs,gg,iI,hm⟩:=h.mode aH;have fb:(K i).late=1:=by rw[hK];rfl
 obtain⟨m1,m2,m3,m4,m5,m6,m7⟩:=hm.Cz hlt fb;obtain⟨hd,bH,g',aP,n',dL⟩:=jx;have hW:=m6 (by rw[hK];exact .inl rfl);exact h.LA aH (k':=.store n') (a:=dV p.Wg) hi aM (aP w hW) hd (.inl rfl) (.inl rfl) (.inl rfl) dL rfl rfl (by rw[hK];rfl) (by rw[hK];rfl) rfl rfl fb (.inl ⟨rfl,λ_=>hW,λx=>by cases x⟩) (by rw[hK];exact .inl (by simp[GS.cY]))
theorem Inv.aqm(h:Inv P n0 W0 V gs w t K Im ic (some p) st)(aH:p.recv=true){i n:Nat}{gi:SH}(hi:0<i)(aM:gs[i]?=some gi)(hK:K i=.store n)(jx:Du P p.Wg (UR t i) gi):gr P n0 W0 V gs w sl t K Im ic (some p) st i:=by
 have hlt:i<gs.size:=(SR.1 aM).1;obtain⟨s,hs,gg,iI,hm⟩:=h.mode aH;have fb:(K i).late=1:=by rw[hK];rfl
 obtain⟨m1,m2,m3,m4,m5,m6,m7⟩:=hm.Cz hlt fb;obtain⟨hd,bH,g',aP,n',dL⟩:=jx;have hW:=m6 (by rw[hK];exact .inr rfl);exact h.LA aH (k':=.mh n') (a:=dV p.Wg) hi aM (aP w hW) hd (.inr (.inl rfl)) (.inl rfl) (.inr ⟨_,rfl⟩) dL rfl rfl (by rw[hK];rfl) (by rw[hK];rfl) rfl rfl fb (.inl ⟨rfl,λx=>(x.elim (λy=>by cases y) (λy=>by cases y)),λ_=>hW.GI 0⟩) (by rw[hK];exact .inl (by simp[GS.cY]))
theorem Inv.apy(h:Inv P n0 W0 V gs w t K Im ic (some p) st)(aH:p.recv=true){i n:Nat}{gi:SH}(hi:0<i)(aM:gs[i]?=some gi)(hK:K i=.mh n)(jx:Dt P p.Wg (UR t i) gi):gr P n0 W0 V gs w sl t K Im ic (some p) st i:=by
 have hlt:i<gs.size:=(SR.1 aM).1;obtain⟨s,hs,gg,iI,hm⟩:=h.mode aH;have fb:(K i).late=1:=by rw[hK];rfl
 obtain⟨m1,m2,m3,m4,m5,m6,m7⟩:=hm.Cz hlt fb;obtain⟨hd,bH,Kh,g',aP,q,l6⟩:=jx;have hW:=m7 (by rw[hK];rfl);have aG:ic≠i:=λe=>by have:=(Mode.waits hm).2;rw[e,fb]at this;cases this
 refine h.LA aH (k':=.gone q) (a:=ow p.Wg) hi aM (aP w hW) hd (.inr (.inr (.inr rfl))) (.inr rfl) (.inr ⟨_,rfl⟩) l6 rfl rfl (by rw[hK];rfl) (by rw[hK];rfl) rfl rfl fb (.inr ⟨rfl,hW.abY 1,λg hg=> ?_⟩) (by rw[hK];exact .inl (by simp[GS.cY]));rcases getElem?_next hlt hg with⟨e,_⟩|⟨_,y,hy,rfl⟩
 ·exact absurd e aG
 ·have xu:=h.is ic y gg hy;simp only at xu;have dG:(∃n,K ic=.said n)\/∃n,K ic=.gU n:=by
   cases w_:K ic<;>rw[w_]at m5<;>simp[GS.shape]at m5
   ·exact .inl ⟨_,rfl⟩
   ·exact .inr ⟨_,rfl⟩
  rcases dG with⟨n1,e⟩|⟨n1,e⟩
  ·rw[e]at xu;have hr:y.status=.running:=gR.running (λd g x=>x.2.1) xu;rw[Yj hr];exact hr
  ·rw[e]at xu;rcases xu with xu|⟨_,g1,rfl,JQ⟩
   ·have hr:y.status=.running:=cP.running (λd g x=>x.2.1) xu;rw[Yj hr];exact hr
   ·have JX:g'.status=.running\/g'.status=.finished:=ZC l6;unfold woken;have ajp:(mayWake P gi&&g'.status != .blocked&&g'.status != .waiting)=true:=(by rcases JX with hs|hs<;>simp[Kh,hs]);rw[if_pos ajp];unfold YR;have:=JQ.2.2.1;simp[this]
theorem Mode.aeJ{c Wg N k:Nat}{s:eg}(hm:Mode P c Wg N w gs t K ic s)(e:(K ic).shape=.head k 0):
  (∃n,w.heap[c]?=some (.chan 0 #[] false n n false))/\s=.early/\(sumTo N λi=>(K i).late)=0/\(sumTo N λi=>(K i).cnt)<=4/\WgAt P Wg w (((sumTo N λi=>(K i).cnt:Nat):Int)* KK) 0/\(sumTo N λi=>(K i).cnt)<k:=by
 unfold Mode at hm;simp only[e]at hm;rcases hm with m|m|m|m|m|m|m
 ·obtain⟨a,b,c,d,f,x⟩:=m;refine⟨a,b,c,d,f,?_⟩;rcases x with⟨k',x,y⟩|⟨v,x,_⟩
  ·cases x;exact y
  ·cases x
 ·rcases m.2.2.2.2.2.2 with x|x<;>cases x
 ·rcases m.2.2.2.2.1 with x|x<;>cases x
 ·rcases m.2.2.2.2.2.2 with x|x<;>cases x
 ·rcases m.2.2.2.2.2 with x|x<;>cases x
 ·rcases m.2.2.2.2 with x|x<;>cases x
 ·cases m.2.2.2
theorem Mode.aeI{c Wg N v:Nat}{s:eg}(hm:Mode P c Wg N w gs t K ic s)(e:(K ic).shape=.lW v 0):
  (∃n,w.heap[c]?=some (.chan 0 #[] false n n false))/\s=.early/\(sumTo N λi=>(K i).late)=0/\(sumTo N λi=>(K i).cnt)<=4/\WgAt P Wg w (((sumTo N λi=>(K i).cnt:Nat):Int)* KK) 0/\(sumTo N λi=>(K i).cnt)<=v/\0<v:=by
 unfold Mode at hm;simp only[e]at hm;rcases hm with m|m|m|m|m|m|m
 ·obtain⟨a,b,c,d,f,x⟩:=m;refine⟨a,b,c,d,f,?_⟩;rcases x with⟨k',x,y⟩|⟨v,x,y⟩
  ·cases x
  ·cases x;exact y
 ·rcases m.2.2.2.2.2.2 with x|x<;>cases x
 ·rcases m.2.2.2.2.1 with x|x<;>cases x
 ·rcases m.2.2.2.2.2.2 with x|x<;>cases x
 ·rcases m.2.2.2.2.2 with x|x<;>cases x
 ·rcases m.2.2.2.2 with x|x<;>cases x
 ·cases m.2.2.2
theorem Mode.NK{c Wg N:Nat}{s:eg}(hm:Mode P c Wg N w gs t K ic s)(e:(K ic).shape=.last 0\/(K ic).shape=.acq 0):
  (∃n,w.heap[c]?=some (.chan 0 #[] false n n false))/\s=.early/\(sumTo N λi=>(K i).late)=0/\(sumTo N λi=>(K i).cnt)=0/\WgAt P Wg w 0 0:=by
 unfold Mode at hm;rcases hm with m|m|m|m|m|m|m
 ·rcases m.2.2.2.2.2 with⟨_,x,_⟩|⟨_,x,_⟩<;>rcases e with e|e<;>rw[e]at x<;>cases x
 ·rcases m.2.2.2.2.2.2 with x|x<;>rcases e with e|e<;>rw[e]at x<;>cases x
 ·rcases m.2.2.2.2.1 with x|x<;>rcases e with e|e<;>rw[e]at x<;>cases x
 ·rcases m.2.2.2.2.2.2 with x|x<;>rcases e with e|e<;>rw[e]at x<;>cases x
 ·exact⟨m.1,m.2.1,m.2.2.1,m.2.2.2.1,m.2.2.2.2.1⟩
 ·rcases m.2.2.2.2 with x|x<;>rcases e with e|e<;>rw[e]at x<;>cases x
 ·have x:=m.2.2.2;rcases e with e|e<;>rw[e]at x<;>cases x
theorem Mode.NL{c Wg N:Nat}{s:eg}(hm:Mode P c Wg N w gs t K ic s)(e:(K ic).shape=.look 0\/(K ic).shape=.close 0):
  (∃n,w.heap[c]?=some (.chan 0 #[] false n n false))/\s=.got/\(sumTo N λi=>(K i).late)=0/\(sumTo N λi=>(K i).cnt)=0:=by
 unfold Mode at hm;rcases hm with m|m|m|m|m|m|m
 ·rcases m.2.2.2.2.2 with⟨_,x,_⟩|⟨_,x,_⟩<;>rcases e with e|e<;>rw[e]at x<;>cases x
 ·rcases m.2.2.2.2.2.2 with x|x<;>rcases e with e|e<;>rw[e]at x<;>cases x
 ·rcases m.2.2.2.2.1 with x|x<;>rcases e with e|e<;>rw[e]at x<;>cases x
 ·rcases m.2.2.2.2.2.2 with x|x<;>rcases e with e|e<;>rw[e]at x<;>cases x
 ·rcases m.2.2.2.2.2 with x|x<;>rcases e with e|e<;>rw[e]at x<;>cases x
 ·exact⟨m.1,m.2.1,m.2.2.1,m.2.2.2.1⟩
 ·have x:=m.2.2.2;rcases e with e|e<;>rw[e]at x<;>cases x
theorem Mode.NM{c Wg N:Nat}{s:eg}(hm:Mode P c Wg N w gs t K ic s)(e:(K ic).shape=.said 0\/(K ic).shape=.gU 0):
  (∃n,w.heap[c]?=some (.chan 0 #[] false n n false))/\s=.early/\((∃st,WgAt P Wg w st 0)\/((sumTo N λi=>(K i).late)=0/\(sumTo N λi=>(K i).cnt)=0/\WgAt P Wg w 0 1))/\
  ∀{w':Tp}{gs':Array SH}{u:Um}{k':GS},(k'.shape=.said 0\/k'.shape=.gU 0)->w'.heap[c]?=w.heap[c]?->w'.heap[Wg]?=w.heap[Wg]?->(WgAt P Wg w 0 1->∀g,gs'[ic]?=some g->g.status=.running)->ic<N->Mode P c Wg N w' gs' (t++u) (upd K ic k') ic s:=by
 have wait:∀{k:GS},(k.shape=.said 0\/k.shape=.gU 0)->k.cnt=0/\k.late=0:=λ{k} h=>by rw[<- GS.m_,<- GS.mc];rcases h with h|h<;>rw[h]<;>exact⟨rfl,rfl⟩
 have tail:∀(w':Tp)(gs':Array SH)(u:Um)(k':GS),(k'.shape=.said 0\/k'.shape=.gU 0)->w'.heap[c]?=w.heap[c]?->w'.heap[Wg]?=w.heap[Wg]?->(WgAt P Wg w 0 1->∀g,gs'[ic]?=some g->g.status=.running)->ic<N->Mode P c Wg N w' gs' (t++u) (upd K ic k') ic s:=by
  intro w' gs' u k' hk hc hW hr fM;have e1:sumTo N (λi=>(upd K ic k' i).cnt)=sumTo N λi=>(K i).cnt:=lh K k' GS.cnt (by rw[(wait hk).1,(wait e).1]);have e2:sumTo N (λi=>(upd K ic k' i).late)=sumTo N λi=>(K i).late:=lh K k' GS.late (by rw[(wait hk).2,(wait e).2]);have e3:∀st sm,WgAt P Wg w' st sm=WgAt P Wg w st sm:=λst sm=>by unfold WgAt;rw[hW]
  have e5:∀i (q:GS),(q=.load 0\/q=.store 0\/q=.mh 0)->(upd K ic k' i).shape=q->(K i).shape=q:=λi q hq hs=>by
   by_cases hi:i=ic
   ·subst hi;rw[bu]at hs;rcases hk with x|x<;>rw[x]at hs<;>subst hs<;>rcases hq with y|y|y<;>cases y
   ·rw[aZ _ _ hi]at hs;exact hs
  unfold Mode at hm⊢;simp only[e1,e2,e3,hc,bu];rcases hm with m|m|m|m|m|m|m
  ·rcases m.2.2.2.2.2 with⟨_,x,_⟩|⟨_,x,_⟩<;>rcases e with e|e<;>rw[e]at x<;>cases x
  ·exact .inr (.inl ⟨m.1,m.2.1,m.2.2.1,m.2.2.2.1,m.2.2.2.2.1,m.2.2.2.2.2.1,hk⟩)
  ·exact .inr (.inr (.inl ⟨m.1,m.2.1,m.2.2.1,m.2.2.2.1,hk,λi hi x=>m.2.2.2.2.2.1 i hi (x.imp (e5 i _ (.inl rfl)) (e5 i _ (.inr (.inl rfl)))),λi hi x=>m.2.2.2.2.2.2 i hi (e5 i _ (.inr (.inr rfl)) x)⟩))
  ·exact .inr (.inr (.inr (.inl ⟨m.1,m.2.1,m.2.2.1,m.2.2.2.1,m.2.2.2.2.1,hr m.2.2.2.2.1,hk⟩)))
  ·rcases m.2.2.2.2.2 with x|x<;>rcases e with e|e<;>rw[e]at x<;>cases x
  ·rcases m.2.2.2.2 with x|x<;>rcases e with e|e<;>rw[e]at x<;>cases x
  ·have x:=m.2.2.2;rcases e with e|e<;>rw[e]at x<;>cases x
 have iJ:=hm;unfold Mode at hm;rcases hm with m|m|m|m|m|m|m
 ·rcases m.2.2.2.2.2 with⟨_,x,_⟩|⟨_,x,_⟩<;>rcases e with e|e<;>rw[e]at x<;>cases x
 ·exact⟨m.1,m.2.1,.inl ⟨_,m.2.2.2.2.2.1⟩,λ{w'} {gs'} {u} {k'}=>tail w' gs' u k'⟩
 ·refine⟨m.1,m.2.1,.inl ?_,λ{w'} {gs'} {u} {k'}=>tail w' gs' u k'⟩;have:∃i,i<N/\(K i).late=1:=by
   apply Tu;intro fl;have hz:sumTo N (λi=>(K i).late)=sumTo N λ_=>0:=Vj λi hi=>by
    have aG:¬(K i).late=1:=λx=>fl ⟨i,hi,x⟩;cases kQ:K i<;>rw[kQ]at aG<;>first|rfl|exact absurd rfl aG
   have h0:sumTo N (λ_=>0)=0:=by
    have:∀N,sumTo N (λ_=>0)=0:=λN=>(by induction N with|zero=>rfl|succ N ih=>simp[sumTo,ih]);exact this N
   have:=m.2.2.1;omega
  obtain⟨i,hi,fb⟩:=this;obtain⟨_,_,_,_,_,m6,m7⟩:=iJ.Cz hi fb;cases kQ:K i<;>rw[kQ]at fb m6 m7<;>simp[GS.late]at fb
  ·exact⟨1,m6 (.inl rfl)⟩
  ·exact⟨1,m6 (.inr rfl)⟩
  ·exact⟨0,m7 rfl⟩
 ·exact⟨m.1,m.2.1,.inr ⟨m.2.2.1,m.2.2.2.1,m.2.2.2.2.1⟩,λ{w'} {gs'} {u} {k'}=>tail w' gs' u k'⟩
 ·rcases m.2.2.2.2.2 with x|x<;>rcases e with e|e<;>rw[e]at x<;>cases x
 ·rcases m.2.2.2.2 with x|x<;>rcases e with e|e<;>rw[e]at x<;>cases x
 ·have x:=m.2.2.2;rcases e with e|e<;>rw[e]at x<;>cases x
theorem FY(Im:cq):mq {noView with ab:=Im} {noView with ab:=Im}:=⟨λ_=> .inr rfl,λ_ _=> .inr rfl,λ_ _ _=>rfl⟩
theorem al0(Im:cq):mq noView {noView with ab:=Im}:=⟨λ_=> .inr rfl,λ_ _=> .inl rfl,λb hb=>absurd rfl hb⟩
theorem Inv.yC(h:Inv P n0 W0 V gs w t K Im ic (some p) st)(aH:p.recv=true){gi bB:SH}{es:Array Uq}{k':GS}{a:U1}{s:eg}(hs:st=some s)(aM:gs[ic]?=some gi)(aP:stepG P false gi w=.go bB w' es)(hd:UR t ic=1)
  (ha:Atom a es) (yU:a=dV p.Wg\/a=ow p.Wg) (nC:w'=w\/∃x,w'=w.setCell a x) (hk:k'.is P p.c p.Wg Im p.Ss 1 bB) (hv:k'.view Im={noView with ab:=Im}) (xF:(K ic).view Im={noView with ab:=Im}) (cW:k'.idx=none) (ud:(K ic).idx=none)
  (gC:∃n,w.heap[p.c]?=some (.chan 0 #[] false n n false))
  (xx:Mode P p.c p.Wg gs.size w' ((gs.map (woken P gi bB w')).setIfInBounds ic bB) (t++Ta ic gi.frame.fn gi.frame.place es) (upd K ic k') ic s) (uj:qz k'.cY (K ic).cY):gr P n0 W0 V gs w sl t K Im ic (some p) st ic:=by
 obtain⟨s',_,gg,_,_⟩:=h.mode aH;exact h.DZ aH hs gg aM aP hd ha yU nC hk (by rw[hv,xF];exact FY Im) (λ_=>rfl) cW ud (.inl rfl) gC xx uj
theorem Inv.ajJ(h:Inv P n0 W0 V gs w t K Im ic (some p) st)(aH:p.recv=true){k n:Nat}{gi:SH}(aM:gs[ic]?=some gi)(hK:K ic=.head k n)(jx:ez P Im p.c p.Wg k (UR t ic) gi):gr P n0 W0 V gs w sl t K Im ic (some p) st ic:=by
 obtain⟨s,hs,gg,iI,hm⟩:=h.mode aH;obtain⟨m1,m2,m3,m4,m5,m6⟩:=hm.aeJ (k:=k) (by rw[hK];rfl);obtain⟨k,rfl⟩:∃k',k=k'+1:=⟨k-1,by omega⟩;obtain⟨hd,bH,Fx⟩:=ez.succ _ _ _ _ jx;obtain⟨g',aP,hz,Km⟩:=Fx _ (by omega) m4;have lF:=aP w m5;have tJ:∀k':GS,k'.cnt=0->k'.late=0->sumTo gs.size (λi=>(upd K ic k' i).cnt)=(sumTo gs.size λi=>(K i).cnt)/\sumTo gs.size (λi=>(upd K ic k' i).late)=(sumTo gs.size λi=>(K i).late):=λk' h1 h2=>
  ⟨lh K k' GS.cnt (by rw[h1,hK];rfl),lh K k' GS.late (by rw[h2,hK];rfl)⟩
 by_cases hv:(sumTo gs.size λi=>(K i).cnt)=0
 ·obtain⟨n',dL⟩:=hz hv;refine h.yC aH (k':=.acq n') (a:=dV p.Wg) hs aM lF hd (.inl rfl) (.inl rfl) (.inl rfl) dL rfl (by rw[hK];rfl) rfl (by rw[hK];rfl) m1 ?_ (by rw[hK];exact .inl (by simp[GS.cY];omega));unfold Mode;simp only[(tJ (.acq n') rfl rfl).1,(tJ (.acq n') rfl rfl).2,bu];refine .inr (.inr (.inr (.inr (.inl ⟨m1,m2,m3,hv,?_,.inr rfl⟩))));rw[hv]at m5;simpa using m5
 ·obtain⟨n',dL⟩:=Km hv;refine h.yC aH (k':=.lW (sumTo gs.size λi=>(K i).cnt) n') (a:=dV p.Wg) hs aM lF hd (.inl rfl) (.inl rfl) (.inl rfl) dL rfl (by rw[hK];rfl) rfl (by rw[hK];rfl) m1 ?_ (by rw[hK];exact .inl (by simp[GS.cY];omega));unfold Mode;simp only[(tJ (.lW _ n') rfl rfl).1,(tJ (.lW _ n') rfl rfl).2,bu];exact .inl ⟨m1,m2,m3,m4,m5,.inr ⟨_,rfl,SP _,by omega⟩⟩
theorem Inv.afL(h:Inv P n0 W0 V gs w t K Im ic (some p) st)(aH:p.recv=true){v n:Nat}{gi:SH}(aM:gs[ic]?=some gi)(hK:K ic=.lW v n)(jx:Dp P p.c p.Wg Im v (UR t ic) gi):gr P n0 W0 V gs w sl t K Im ic (some p) st ic:=by
 obtain⟨s,hs,gg,iI,hm⟩:=h.mode aH;obtain⟨m1,m2,m3,m4,m5,m6,m7⟩:=hm.aeI (v:=v) (by rw[hK];rfl);obtain⟨hd,bH,⟨g1,Fw,n1,akP⟩,aj4⟩:=jx;have qS:p.c≠p.Wg:=h.phase.2.2.1;have tJ:∀k':GS,k'.cnt=0->k'.late=0->sumTo gs.size (λi=>(upd K ic k' i).cnt)=(sumTo gs.size λi=>(K i).cnt)/\sumTo gs.size (λi=>(upd K ic k' i).late)=(sumTo gs.size λi=>(K i).late):=λk' h1 h2=>
  ⟨lh K k' GS.cnt (by rw[h1,hK];rfl),lh K k' GS.late (by rw[h2,hK];rfl)⟩
 by_cases hv:(sumTo gs.size λi=>(K i).cnt)=v
 ·refine h.yC aH (k':=.said n1) (a:=dV p.Wg) hs aM (Fw w (by rw[<- hv];exact m5)) hd (.inr (.inr (.inl rfl))) (.inl rfl) (.inr ⟨_,rfl⟩) akP rfl (by rw[hK];rfl) rfl (by rw[hK];rfl) m1 ?_ (by rw[hK];exact .inl (by simp[GS.cY];omega));unfold Mode;simp only[(tJ (.said n1) rfl rfl).1,(tJ (.said n1) rfl rfl).2,bu];refine .inr (.inl ⟨?_,m2,m3,by omega,m4,?_,.inl rfl⟩)
  ·obtain⟨n,hn⟩:=m1;exact⟨n,by rw[vE _ _ _ (Ne.symm qS)];exact hn⟩
  ·rw[hv];exact m5.GI _
 ·obtain⟨g',lF,n',dL⟩:=aj4 (sumTo gs.size λi=>(K i).cnt) (by omega);refine h.yC aH (k':=.head v n') (a:=dV p.Wg) hs aM (lF w m5) hd (.inl rfl) (.inl rfl) (.inl rfl) dL rfl (by rw[hK];rfl) rfl (by rw[hK];rfl) m1 ?_ (by rw[hK];exact .inl (by simp[GS.cY]));unfold Mode;simp only[(tJ (.head v n') rfl rfl).1,(tJ (.head v n') rfl rfl).2,bu];exact .inl ⟨m1,m2,m3,m4,m5,.inl ⟨v,rfl,by omega⟩⟩
theorem Inv.alz(h:Inv P n0 W0 V gs w t K Im ic (some p) st)(aH:p.recv=true){n:Nat}{gi:SH}(aM:gs[ic]?=some gi)(hK:K ic=.last n)(jx:Hm P Im p.c p.Wg (UR t ic) gi):gr P n0 W0 V gs w sl t K Im ic (some p) st ic:=by
 obtain⟨s,hs,gg,iI,hm⟩:=h.mode aH;obtain⟨m1,m2,m3,m4,m5⟩:=hm.NK (.inl (by rw[hK];rfl));obtain⟨hd,bH,g',aP,n',dL⟩:=jx;refine h.yC aH (k':=.acq n') (a:=dV p.Wg) hs aM (aP w m5) hd (.inl rfl) (.inl rfl) (.inl rfl) dL rfl (by rw[hK];rfl) rfl (by rw[hK];rfl) m1 ?_ (by rw[hK];exact .inl (by simp[GS.cY]));unfold Mode;have e1:sumTo gs.size (λi=>(upd K ic (.acq n') i).cnt)=0:=by rw[lh K (.acq n') GS.cnt (by rw[hK];rfl)];exact m4
 have e2:sumTo gs.size (λi=>(upd K ic (.acq n') i).late)=0:=by rw[lh K (.acq n') GS.late (by rw[hK];rfl)];exact m3
 simp only[e1,e2,bu];exact .inr (.inr (.inr (.inr (.inl ⟨m1,m2,trivial,trivial,m5,.inr rfl⟩))))
theorem Inv.afY(h:Inv P n0 W0 V gs w t K Im ic (some p) st)(aH:p.recv=true){n:Nat}{gi:SH}(aM:gs[ic]?=some gi)(hK:K ic=.gU n)(jx:Dr P Im p.c p.Wg (UR t ic) gi):gr P n0 W0 V gs w sl t K Im ic (some p) st ic:=by
 obtain⟨s,hs,gg,iI,hm⟩:=h.mode aH;obtain⟨m1,m2,m3,mk⟩:=hm.NM (.inr (by rw[hK];rfl));obtain⟨hd,bH,akf,vz,g',RM,n',dL⟩:=jx;have qS:p.c≠p.Wg:=h.phase.2.2.1;rcases m3 with⟨stv,hW⟩|⟨m4,m5,hW⟩
 ·
  have aP:=vz w stv hW;have aj9:¬WgAt P p.Wg w 0 1:=λx=>by have:=(hW.inj x).2;cases this
  refine h.s9 aH (k':=.gU 0) (s':=s) gg aM aP (.inr ⟨rfl,gi,rfl,by rw[hd];exact⟨rfl,bH,akf,vz,g',RM,n',dL⟩⟩) (by rw[hK];exact FY Im) (λ_=>rfl) rfl (λj hj=>by rw[hK]at hj;cases hj) (.inl rfl) (by simp) (by simp) (by simp) rfl (λ_ _ _=>rfl) rfl rfl rfl
   (mk (.inr rfl) rfl rfl (λx=>absurd x aj9) iI) (.inl m1) ?_ ?_
  ·have e0:t++Ta ic gi.frame.fn gi.frame.place #[]=t:=(by simp[Ta]);have hr:Rest p.Wg t K ic st:=h.out.2.2.1;rw[hs]at hr;refine hr.app (λidx a ha hx=> .inr (hx.app (by obtain⟨op,au,_⟩:=US ha;exact TH au) λm _ _ hj=> .inl ?_)) (λidx a _ ⟨op,au,_⟩ _=>by simp[Ta]at au);by_cases cS:m=ic
   ·subst cS;rw[hK]at hj;cases hj
   ·rw[aZ _ _ cS];exact hj
  ·by_cases hn:n=0
   ·refine .inr ⟨funext λj=> ?_,?_⟩
    ·by_cases hj:j=ic
     ·subst hj;simp only[bu,hK,hn]
     ·simp only[aZ _ _ hj]
    ·simp only[flag];rw[S_ (by simpa using iI),aM];simp[bH]
   ·exact xS iI (by rw[hK];exact .inr ⟨rfl,.inr ⟨rfl,by simp only[GS.cY];omega⟩⟩)
 ·refine h.yC aH (k':=.last n') (a:=ow p.Wg) hs aM (RM w hW) hd (.inr (.inr (.inr rfl))) (.inr rfl) (.inr ⟨_,rfl⟩) dL rfl (by rw[hK];rfl) rfl (by rw[hK];rfl) m1 ?_ (by rw[hK];exact .inl (by simp[GS.cY]));unfold Mode;have e1:sumTo gs.size (λi=>(upd K ic (.last n') i).cnt)=0:=by rw[lh K (.last n') GS.cnt (by rw[hK];rfl)];exact m5
  have e2:sumTo gs.size (λi=>(upd K ic (.last n') i).late)=0:=by rw[lh K (.last n') GS.late (by rw[hK];rfl)];exact m4
  simp only[e1,e2,bu];obtain⟨n,hn⟩:=m1;exact .inr (.inr (.inr (.inr (.inl ⟨⟨n,by rw[vE _ _ _ (Ne.symm qS)];exact hn⟩,m2,trivial,trivial,hW.abY 0,.inl rfl⟩))))
theorem Inv.ape(h:Inv P n0 W0 V gs w t K Im ic (some p) st)(aH:p.recv=true){n:Nat}{gi:SH}(aM:gs[ic]?=some gi)(hK:K ic=.said n)(jx:Dq P Im p.c p.Wg (UR t ic) gi):gr P n0 W0 V gs w sl t K Im ic (some p) st ic:=by
 obtain⟨s,hs,gg,iI,hm⟩:=h.mode aH;obtain⟨m1,m2,m3,mk⟩:=hm.NM (.inl (by rw[hK];rfl));obtain⟨hd,bH,g',aP,n',dL⟩:=jx;have nv:∀e∈#[jW (.write (ow p.Wg))],e=jW (.write (ow p.Wg)):=λe he=>by simpa using he
 have RF:g'.status=.running:=cP.running (λd g x=>x.2.1) dL;refine h.s9 aH (k':=.gU n') (s':=s) gg aM (aP w) (.inl (by rw[hd];exact dL)) (by rw[hK];exact FY Im) (λ_=>rfl) rfl (λj hj=>by rw[hK]at hj;cases hj) (.inl rfl) (λe he x hx=> .inr (.inl ?_)) (λe he=> ?_) (λe he a=> ?_) rfl (λ_ _ _=>rfl) rfl rfl rfl
  (mk (.inr rfl) rfl rfl (λ_ g hg=> ?_) iI) (.inl m1) ?_ (xS iI (by rw[hK];exact .inl (by simp[GS.cY])))
 ·rw[nv e he]at hx;cases hx;exact⟨rfl,rfl,rfl⟩
 ·rw[nv e he];exact h.low.2
 ·rw[nv e he];simp[jW,Ts]
 ·rcases getElem?_next iI hg with⟨_,rfl⟩|⟨aG,_⟩
  ·exact RF
  ·exact absurd rfl aG
 ·have hr:Rest p.Wg t K ic st:=h.out.2.2.1;rw[hs,m2]at hr;rw[m2];refine hr.app (λidx a ha hx=> .inr (hx.app (by obtain⟨op,au,_⟩:=US ha;exact TH au) λm _ _ hj=> .inl ?_)) (λidx a _ ⟨op,au,xp,_⟩ _=> .inr (.inr ⟨ic,?_,gg,.inr (.inl rfl)⟩))
  ·by_cases cS:m=ic
   ·subst cS;rw[hK]at hj;cases hj
   ·rw[aZ _ _ cS];exact hj
  ·obtain⟨e,_,rfl⟩:=TM au;simp[Wx,xp]
end
end Go.Gg
