/- A part of the proof. -/
import Derived.Test.YtkanpclgnhdbiaaGreatDoorTicketGreaterCard1
import Derived.Conc.Beside
import Derived.Conc.CrowdTrace
import Derived.Conc.CrowdComm
set_option linter.all false
set_option maxRecDepth 4000
set_option maxHeartbeats 4000000
open Array renaming getElem?_append_right->X_,getElem?_eq_getElem->SJ,getElem?_eq_some_iff->SR,getElem?_map->WI,getElem?_modify->Wo,getElem?_setIfInBounds_ne->SV,getElem?_setIfInBounds_self_of_lt->Tb,getElem_mem->XX,mem_append->Uw,size_append->XG
open Bool renaming false_eq_true->TP
open Classical renaming byContradiction->Tn
open Go renaming Addr->U_,Code->T7,Deferred->U2,Event->Ut,FuncId->TQ,Goroutine->SG,IntKind->TZ,LoopState->aa',MemOp->Wj,Operand->Tj,Program->SI,ResultVar->UQ,Touch->YO,Trace->Uo,Value->SP,World->Tp
open Go.BinOp renaming neq->VL
open Go.Conc renaming Deaf->UY,Deaf_other->au2,Knows->Wr,QuitsD->Y9,act?_of->ah_,act?_old->X9,deaf_succ->ac',getElem?_append_cases->Xo,getElem?_stand->Yc,heard_old->Wv,knows_own->Zg,lt_of_act?->We,lt_size_of_getElem?->TK,mem_ofEvents->TO,mem_of_getElem?->XW,ofEvent_cell0->ao_,offersAt_of_not_blocked->U1,offersAt_ph->Zp,served->T8,touch_mute->ZY,touch_of->U0,woken_run->Yo
open Go.Conc.QuitsD renaming status->ZJ
open Go.ConcN renaming le_sumTo->WH,sumTo_congr->Vq
open Go.Event renaming mute->WK
open Go.GoStatus renaming blocked->au0
open Go.Goroutine renaming again->YZ
open Go.IntKind renaming i64->SD
open Go.MemAct renaming low_mono->Zm,ofEvent->Ts,touch?->Wl
open Go.MemAct.mark renaming injEq->aj'
open Go.MemOp renaming ofEvents->Tc
open Go.Obj renaming deferred->au_
open Go.Op renaming equal->WT
open Go.Proofs.Tryz renaming f107->ai',f109->ai_,f89->am',f97->auU,prog->SA
open Go.Trace renaming g?->WF
open Go.Value renaming int->SF
open Go.World renaming cell?->UA,setCell->Xn
open Int renaming toNat->Yb
open List renaming append_assoc->SC,append_nil->SN,cons_append->Vm,drop->TH,drop_append->VA,drop_append_of_le_length->Wu,drop_drop->am_,drop_eq_getElem_cons->TL,drop_eq_nil_of_le->TY,drop_zero->XD,ext_getElem?->Yr,flatMap_append->VE,flatMap_cons->T5,foldl->ae_,foldl_append->ZS,foldl_cons->U4,getD_eq_getElem?_getD->SE,getElem?_append_left->SX,getElem?_append_right->Ta,getElem?_drop->Up,getElem?_eq_getElem->SW,getElem?_eq_some_iff->SL,getElem?_map->To,getElem?_set->UU,getElem?_set_ne->Ua,getElem?_set_self->Xc,getElem?_take->Uf,getElem_mem->Wz,getLastD_eq_getLast?->UR,length_append->S5,length_drop->Uk,length_map->S9,length_set->TF,map->Ve,mapM_cons->Ub,mapM_nil->UE,map_append->TG,map_congr_left->Vg,map_cons->UP,map_drop->apT,map_flatMap->UO,map_map->WM,map_singleton->Zb,map_take->VJ,mem_append->SQ,mem_append_left->Th,mem_append_right->S4,mem_cons->SK,mem_flatMap->S6,mem_flatten->XP,mem_iff_getElem?->UV,mem_map->Te,mem_of_getElem?->S_,mem_of_mem_take->Wy,mem_or_eq_of_mem_set->UD,mem_replicate->XB,mem_singleton->S8,mem_toArray->TM,nil_append->UL,nodup_append->Vb,not_mem_nil->SZ,range->SU,range'->T9,range'_append_1->Y',range'_succ->VU,range_eq_range'->Vs,range_succ->Vp,replicate->TJ,replicate_succ->WA,set_append_left->UX,set_append_right->Ud,set_cons_succ->UJ,set_cons_zero->T4,set_eq_take_append_cons_drop->X8,set_set->Xb,take->TS,take_add_one->UZ,take_append_drop->Vo,take_append_of_le_length->Tw,take_length->TD,take_nil->YE,take_of_length_le->SS,take_set->Z8,take_succ->WE,take_succ_cons->VT,take_take->U8,take_zero->al'
open List.Perm renaming refl->ae'
open Nat renaming add_sub_cancel->Wa,add_sub_cancel_left->TU,add_zero->UI,eq_zero_or_pos->Ul,le_of_eq->WL,le_refl->SO,le_trans->UH,lt_of_lt_of_le->Tf,lt_trans->Ws,reduceAdd->SY,strongRecOn->Yq,sub_self->Vd,sub_zero->Z1,zero_add->Wx
open Option renaming bind_eq_bind->TR,getD_some->S0,map_eq_some_iff->Tq,pure_def->Uj,toList_some->Ww
open Option.some renaming inj->V_,injEq->Tm
open Prod.mk renaming injEq->U7
namespace Go.Gg
open Go.Conc Go.Proofs Go.Gg.Tk
theorem Kt{α:Type}(g:Nat->List α)(i:Nat):(SU (i+1)).flatMap g=(SU i).flatMap g++g i:=by
 rw[Vp,VE];simp
theorem Ks{α:Type}(g:Nat->List α){i n:Nat}(h:i<n):(SU n).flatMap g=(SU i).flatMap g++(g i++(T9 (i+1) (n-(i+1))).flatMap g):=by
 have:SU n=SU i++(i::T9 (i+1) (n-(i+1))):=by
  rw[Vs,Vs,<- VU];have:=Y' (s:=0) (m:=i) (n:=n-(i+1)+1);rw[Wx]at this;rw[this];congr 1;omega
 rw[this,VE,T5]
theorem Oz{α:Type}{l:List α}{i:Nat}{v:α}(h:i<l.length):(l.set i v).take (i+1)=l.take i++[v]:=by
 rw[WE,Z8,UU,if_pos rfl,if_pos h,List.set_eq_of_length_le (by simp;omega)];rfl
namespace Tk
def jf (h:List Int)(hour j:Nat)(n:Int):List Int:=h.take hour++TJ j n++h.drop (hour+j)
theorem FU{h:List Int}{hour j:Nat}{n:Int}(hj:hour+j<=h.length):(jf h hour j n).length=h.length:=by simp[jf];omega
theorem ajy(h:List Int)(hour:Nat)(n:Int):jf h hour 0 n=h:=by simp[jf]
theorem Kh{h:List Int}{hour j:Nat}{n:Int}(hj:hour+j<h.length):(jf h hour j n).set (hour+j) n=jf h hour (j+1) n:=by
 unfold jf;have hl:(h.take hour++TJ j n).length=hour+j:=by simp;omega
 rw[Ud _ _ (by omega),hl,Vd,List.replicate_succ'];rw[TL hj,T4,SC,SC,SC];rfl
theorem ajx{h:List Int}{hour j:Nat}{n:Int}(hn:h[hour]?=some n)(hj:hour+j<=h.length):(jf h hour j n)[hour]?=some n:=by
 have hl:=eN hn;unfold jf;rw[SC,Ta (by simp;omega)];have:hour-(h.take hour).length=0:=by simp;omega
 rw[this];cases j with
 |zero=>simpa using hn
 |succ j=>simp[WA]
theorem ajw{h pre:List Int}{hour:Nat}{n:Int}(h4:h.length=4)(hn:h[hour]?=some n)(hp:pre=h.take (hour+1)):jf h hour (4-hour) n=cL pre:=by
 have hl:=eN hn;have e:pre=h.take hour++[n]:=by rw[hp,WE,hn];rfl
 unfold jf cL;rw[TY (by omega),SN,e];have h1:(h.take hour++[n]).length=hour+1:=by simp;omega
 rw[h1,show (h.take hour++[n]).getLastD 0=n by simp[UR],SC];congr 1;rw[show 4-hour=(4-(hour+1))+1 by omega,WA];rfl
theorem acD{h pre:List Int}{hour:Nat}{n:Int}(hn:h[hour]?=some n)(hp:pre=h.take (hour+1)):pre.length=hour+1/\pre.getLastD 0=n:=by
 have hl:=eN hn;have e:pre=h.take hour++[n]:=by rw[hp,WE,hn];rfl
 subst e;exact⟨by simp;omega,by simp[UR]⟩
end Tk
open Go.Conc Go.Proofs Go.Gg.Tk
section
variable {lv:Bool}
def qq (yv:AV)(N ir it:Nat)(h:List Int):List aa:=[.cells [yv] 130,.cells (h.map iv) 83,.cells [.fn (.func 87) [] [.op ir 0,.op (N+1) 0]] 68,.cells [.fn (.func 89) [] [.op (N+2) 0,.op ir 0,.op (N+1) 0,.op N 0,.op it 0,.op (N+3) 0]] 68]
theorem ajh{x:aj}{bh N ir it:Nat}{yv pv:AV}{S:Type}{f:S->List Int->dG S}{Gf:S->List aa}{I:S->Prop}{A:List Int->Prop}(hx:x.Ok)(hY:jP lv SA yv f Gf N I A pv)(hr:∀σ L,(Gf σ++L)[ir]?=some (.cells x.l 76))(ht:∀σ L,(Gf σ++L)[it]?=some (.cells [iv bh] 3))(lO:bh<=3):
  ∀(d hour:Nat)(h pre:List Int)(n0:Int)(σ:S)(M:List aa)(k kp:AV->List aa->Prop),d+hour=x.hours.toNat->h.length=4->h[hour]?=some n0->(0<=n0/\n0<=90+3* hour)->pre=h.take (hour+1)->I σ->(∀a∈mL x bh d pre,A a)->
   (∀h',h'.length=4->h'.take (hour+1)=pre->cX Gf pv k kp (qq yv N ir it h'++M) (bE f (mL x bh d pre) σ))->
   bf lv SA 89 (Gf σ++(qq yv N ir it h++M)) [iv hour,.op (N+2) 0,.op ir 0,.op (N+1) 0,.op N 0,.op it 0,.op (N+3) 0] k kp:=by
 intro d;induction d with
 |zero=>
  intro hour h pre n0 σ M k kp pq h4 oH hb hp hI hA hk;refine bI (rs:=[.tmp 8]) (nt:=61) am' λhH uC=> ?_;simp only[bt,SY];obtain⟨du,uT⟩:=acD oH hp;have pu:hour<4:=by have:=eN oH;omega
  have Dm:=hx.hours;have bP:x.l=[iv x.first,iv x.hours,iv x.am,cY x.seen,aL x.pieces,aL x.aA]:=rfl;have g0:∀(σ:S)(L:List aa),(Gf σ++L)[N]?=L[0]?:=λσ L=>hY.get σ L 0;have g1:∀(σ:S)(L:List aa),(Gf σ++L)[N+1]?=L[1]?:=λσ L=>hY.get σ L 1;have g2:∀(σ:S)(L:List aa),(Gf σ++L)[N+2]?=L[2]?:=λσ L=>hY.get σ L 2;have s1:∀(σ:S)(L:List aa) x,(Gf σ++L).set (N+1) x=Gf σ++L.set 1 x:=λσ L x=>hY.set σ L 1 x;rw[mL,du,uT,Wa]at hA hk;refine ak ?_;refine ai ?_;simp only[seval,g2,qq];refine aJ ((Rb (x:=x) (h:=h) (n:=n0) hx h4 oH (hr _ _) (by rw[g1];rfl) ?_));(try simp only[seval]);refine aD ?_;refine⟨λhs=> ?_,λhs=> ?_⟩
  ·refine ak ?_;refine bc ?_;have:=hk h h4 hp.symm;rw[hs]at this;simp only[TP,if_false,bE,cX]at this;exact b9 this
  ·rw[if_pos hs]at hA hk;rw[Ob]at hk;have hhe:(hour:Int)=x.hours:=(by omega);refine aO ?_;refine ai ?_;simp only[seval,hr,bP];refine aD ?_;refine⟨λhc=> ?_,λhc=>by exfalso;simp at hc;omega⟩;refine ak ?_;refine bY ?_;refine gF (4-hour) (λj:Nat=>[(9,iv ((hour+j:Nat):Int))]) (λj=>Gf σ++(qq yv N ir it (jf h hour j n0)++M)) (λj=>True) (λ_ _=>rfl) (by simp only[seval];simp[bm,Wk.refl]) (by rw[ajy];rfl) (λm _ _=>by simp[qq]) trivial (λbJ cm j py hj R hR=> ?_);refine ak ?_;refine aD ?_;refine⟨λhc=> ?_,λhc=> ?_⟩
   ·have e9:j<4-hour:=(by omega);have bb:(0<=(hour:Int)/\(hour:Int)<4)=True:=(by simp;omega);have bj:(0<=(hour:Int)+(j:Int)/\(hour:Int)+(j:Int)<4)=True:=(by simp;omega);have yC:((hour:Int)+(j:Int)).toNat=hour+j:=(by omega);have l_:(jf h hour j n0).length=4:=(by rw[FU (by omega),h4]);have ma:(Ve iv (jf h hour j n0)).length=4:=(by rw[S9,l_]);have hw:SD.wrap ((hour:Int)+(j:Int)+1)=(hour:Int)+((j+1:Nat):Int):=(by rw[bw _ (by omega)];push_cast;omega);refine aO ?_;refine ai ?_;simp only[seval,g1,s1,qq,bb,bj,yC,ma,kT (ajx oH (show hour+j<=h.length by omega))];refine⟨by omega,?_⟩;rw[xi (by omega),Kh (by omega)];refine ai ?_;simp only[seval,hw];exact hR _ ⟨e9,trivial,cT⟩
   ·have:j=4-hour:=(by omega);subst this;have GL:=ajw h4 oH hp;rw[GL];have GK:(cL pre).length=4:=(by rw[<- GL,FU (by omega),h4]);have rR:((cL pre).map iv).length=4:=(by rw[S9,GK]);have nH:(cL pre).take (hour+1)=pre:=(by unfold cL;rw[Tw (by omega),SS (by omega)]);refine bU ?_;refine ai ?_;simp only[seval,g0,g1,qq,rR];rw[SS (i:=4) (l:=(cL pre).map iv) (by rw[rR];exact SO _)];refine xQ (hY.call σ (cL pre) (qq yv N ir it (cL pre)++M) _ _ hI (hA _ (by simp)) ?_);have aI:=hk (cL pre) GK nH;cases hf:f σ (cL pre)with
    |go σ'=>
     rw[hf]at aI;simp only[cX]at aI⊢;(try simp only[seval]);refine bc ?_;exact b9 aI
    |stop σ'=>
     rw[hf]at aI;simp only[cX]at aI⊢;(try simp only[seval]);refine bc ?_;exact b9 aI
    |bad σ'=>
     rw[hf]at aI;simp only[cX]at aI⊢;exact b9 aI
 |succ d ih=>
  intro hour h pre n0 σ M k kp pq h4 oH hb hp hI hA hk;refine bI (rs:=[.tmp 8]) (nt:=61) am' λhH uC=> ?_;simp only[bt,SY];obtain⟨du,uT⟩:=acD oH hp;have Dm:=hx.hours;have hpr:=hx.am;have hh3:hour<3:=by omega
  have bP:x.l=[iv x.first,iv x.hours,iv x.am,cY x.seen,aL x.pieces,aL x.aA]:=rfl;have g1:∀(σ:S)(L:List aa),(Gf σ++L)[N+1]?=L[1]?:=λσ L=>hY.get σ L 1;have g2:∀(σ:S)(L:List aa),(Gf σ++L)[N+2]?=L[2]?:=λσ L=>hY.get σ L 2;have g3:∀(σ:S)(L:List aa),(Gf σ++L)[N+3]?=L[3]?:=λσ L=>hY.get σ L 3;have s1:∀(σ:S)(L:List aa) x,(Gf σ++L).set (N+1) x=Gf σ++L.set 1 x:=λσ L x=>hY.set σ L 1 x;rw[mL,du,uT,Wa]at hA hk;refine ak ?_;refine ai ?_;simp only[seval,g2,qq];refine aJ ((Rb (x:=x) (h:=h) (n:=n0) hx h4 oH (hr _ _) (by rw[g1];rfl) ?_));(try simp only[seval]);refine aD ?_;refine⟨λhs=> ?_,λhs=> ?_⟩
  ·refine ak ?_;refine bc ?_;have:=hk h h4 hp.symm;rw[hs]at this;simp only[TP,if_false,bE,cX]at this;exact b9 this
  ·rw[if_pos hs]at hA hk;have hhe:¬(hour:Int)=x.hours:=(by omega);refine aO ?_;refine ai ?_;simp only[seval,hr,bP];refine aD ?_;refine⟨λhc=>by exfalso;exact hhe hc,λhc=> ?_⟩;refine aO ?_;refine ai ?_;simp only[seval,hr,bP,bw (x.am+1) (by omega)];generalize hg:(λn:Nat=>if hour+1=1/\n≠bh then[]else mL x bh d (pre++[n0+(n:Int)]))=g at hA hk;refine bY ?_;refine zU (measure λm:Nat×S×List Int=>(x.am.toNat+1)-m.1).wf (λm=>[(37,iv (m.1:Nat))]) (λm=>Gf m.2.1++(qq yv N ir it m.2.2++M)) (λm=>m.1<=x.am.toNat+1/\bE f ((SU m.1).flatMap g) σ=.go m.2.1/\m.2.2.length=4/\m.2.2.take (hour+1)=pre) (0,σ,h) (λ_ _=>rfl) (by intro p hp;simp at hp;subst hp;exact⟨_,rfl,Wk.refl _⟩) rfl (λ_ _=>by simp[qq,hY.len]) ⟨by omega,rfl,h4,hp.symm⟩ (λbJ cm m aq R hR=> ?_);obtain⟨i,τ,hq⟩:=m;obtain⟨hi,bK,AU,AX⟩:=aq;replace hi:i<=x.am.toNat+1:=hi;replace bK:bE f ((SU i).flatMap g) σ=.go τ:=bK;replace AU:hq.length=4:=AU;replace AX:hq.take (hour+1)=pre:=AX;have AW:hq[hour]?=some n0:=by
    have h1:(hq.take (hour+1))[hour]?=some n0:=(by rw[AX,hp,Uf,if_pos (by omega)];exact oH);rwa [Uf,if_pos (by omega)]at h1
   refine ak ?_;refine aD ?_;refine⟨λhc=> ?_,λhc=> ?_⟩
   ·have bB:i<x.am.toNat+1:=(by omega);have bC:SD.wrap ((i:Int)+1)=((i+1:Nat):Int):=(by rw[bw _ (by omega)];rfl);have rU:=Ks g bB;have tO:=Kt g i;have C0:I τ:=Bu (A:=A) hY.inv _ σ τ (λa ha=>hA a (by rw[rU];exact Th _ ha)) hI bK;refine aO ?_;refine ak ?_;have hqm:(Ve iv hq).length=4:=(by rw[S9,AU]);have bb:(0<=(hour:Int)/\(hour:Int)<4)=True:=(by simp;omega);have bb1:(0<=(hour:Int)+1/\(hour:Int)+1<4)=True:=(by simp;omega);have pB:((hour:Int)+1).toNat=hour+1:=(by omega);have hwh:SD.wrap ((hour:Int)+1)=(hour:Int)+1:=bw _ (by omega);have MB:SD.wrap (n0+(i:Int))=n0+(i:Int):=bw _ (by omega);refine ai ?_;simp only[seval,ht];refine yc (λh2=> ?ga) (λh2=> ?gb)
    case' ga=>
     (try simp only[seval,ht]);refine aD ?_;refine⟨λh3=> ?gc,λh3=> ?gd⟩
     case gc=>
      have aM:g i=[]:=(by rw[<- hg];exact if_pos ⟨by simp at h2;omega,by omega⟩);refine bU ?_;refine ai ?_;simp only[seval,bC];exact hR _ ⟨(i+1,τ,hq),(by show x.am.toNat+1-(i+1)<x.am.toNat+1-i;omega),⟨by omega,by rw[tO,aM,SN];exact bK,AU,AX⟩,cT⟩
    case' gb=>
     (try simp only[seval]);refine aD ?_
    all_goals
     have aM:g i=mL x bh d (pre++[n0+(i:Int)]):=by
      rw[<- hg];refine if_neg ?_
      rintro⟨q1,q2⟩
      first|(simp at h3;omega)|(simp at h2;omega)
     refine aO ?_;refine ai ?_;simp only[seval,g1,s1,qq,bb,bb1,pB,hwh,MB,hqm,kT AW];refine⟨by omega,?_⟩;rw[xi (show hour+1<hq.length by omega)];refine ai ?_;simp only[seval,g3,hwh];have alR:(hq.set (hour+1) (n0+(i:Int))).length=4:=(by rw[TF,AU]);have hqt:pre++[n0+(i:Int)]=(hq.set (hour+1) (n0+(i:Int))).take (hour+1+1):=(by rw[Oz (by omega),AX]);refine aJ ((ih (hour+1) (hq.set (hour+1) (n0+(i:Int))) (pre++[n0+(i:Int)]) (n0+(i:Int)) τ M _ _ (by omega) alR (by rw[UU,if_pos rfl,if_pos (by omega)]) (by omega) hqt C0 (λa ha=>hA a (by rw[rU,aM];exact S4 _ (Th _ ha))) (λh' ry alQ=> ?_)));have Mf:h'.take (hour+1)=pre:=by
      have e:h'.take (hour+1)=(h'.take (hour+1+1)).take (hour+1):=(by rw[U8];congr 1;omega);rw[e,alQ,Tw (WL du.symm),SS (WL du)]
     have A5:bE f ((SU (x.am.toNat+1)).flatMap g) σ=match bE f (g i) τ with
       |.go s'=>bE f ((T9 (i+1) (x.am.toNat+1-(i+1))).flatMap g) s'
       |r=>r:=by
      rw[rU,qJ,bK];exact qJ f (g i) _ τ
     rw[<- aM];cases hf:bE f (g i) τ with
     |go τ'=>
      simp only[cX];(try simp only[seval]);refine aD ?_;refine aO ?_;refine ai ?_;simp only[seval,bC];exact hR _ ⟨(i+1,τ',h'),(by show x.am.toNat+1-(i+1)<x.am.toNat+1-i;omega),⟨by omega,by rw[tO,qJ,bK];exact hf,ry,Mf⟩,cT⟩
     |stop τ'=>
      simp only[cX];(try simp only[seval]);refine aD ?_;refine ak ?_;refine bc ?_;have aI:=hk h' ry Mf;rw[A5,hf]at aI;exact b9 aI
     |bad τ'=>
      simp only[cX];have aI:=hk h' ry Mf;rw[A5,hf]at aI;exact b9 aI
   ·have dD:i=x.am.toNat+1:=(by omega);subst dD;have aI:=hk hq AU AX;rw[bK]at aI;refine bU ?_;refine ak ?_;refine bc ?_;exact b9 aI
theorem vD{P:SI}{yv pv:AV}{S:Type}{f:S->List Int->dG S}{Gf:S->List aa}{N:Nat}{I:S->Prop}{A:List Int->Prop}{k:AV->List aa->Prop}(hY:jP lv P yv f Gf N I A pv){σ σ':S}{L:List aa}{a:AV}(hH:bH (Gf σ))(ha:∀n,Lt n a)(hk:k a (Gf σ')):cF (Gf σ).length (Gf σ'++L) a k:=by
 refine jU (H':=Gf σ') (Wk.refl _) rfl (by rw[hY.len,hY.len];exact SO _) ?_ (ha _) hk;have:=hY.aq (σ:=σ) (M:=[]) (by simpa using hH) σ';simpa using this
theorem J'{H:List aa}{k kp:AV->List aa->Prop}{x:aj}{n:Int}(hk:k (.fn (.func 86) [] [.op H.length 0,.op (H.length+1) 0]) (H++[.cells x.l 76,.cells [iv n] 3])):bf lv SA 64 H [x.av,iv n] k kp:=by
 refine bI (rs:=[.tmp 4]) (nt:=6) Tryz.f64 λhH hA=> ?_;simp only[bt,SY,aj.av];refine ak ?_;refine ai ?_;simp only[seval,Ub,UE,Uj,TR];refine bc ?_;exact b9 hk
theorem Ke{x:aj}{bh N ir it:Nat}{yv pv:AV}{S:Type}{f:S->List Int->dG S}{Gf:S->List aa}{I:S->Prop}{A:List Int->Prop}{σ:S}{k kp:AV->List aa->Prop}(hx:x.Ok)(hY:jP lv SA yv f Gf N I A pv)(hr:∀σ L,(Gf σ++L)[ir]?=some (.cells x.l 76))(ht:∀σ L,(Gf σ++L)[it]?=some (.cells [iv bh] 3))(lO:bh<=3)
  (me:∀n,Lt n pv) (hI:I σ) (hA:∀a∈kq x bh,A a) (hk:gg Gf pv k kp [] (bE f (kq x bh) σ)):bf lv SA 86 (Gf σ) [yv,.op ir 0,.op it 0] k kp:=by
 refine bI (rs:=[]) (nt:=15) Tryz.f86 λhH uC=> ?_;simp only[bt,SY];have hN:=hY.len σ;have bP:x.l=[iv x.first,iv x.hours,iv x.am,cY x.seen,aL x.pieces,aL x.aA]:=rfl;refine ai ?_;simp only[seval,hY.parts];refine ak ?_;refine ai ?_;simp only[seval,Ub,UE,Uj,TR];refine ak ?_;refine ai ?_;simp only[seval,Ub,UE,Uj,TR];refine ai ?_;simp only[seval,hr,bP];refine ak ?_;have h0:=hx.first;have hh:=hx.hours;have Me:[x.first]=TS (0+1) [x.first,0,0,0]:=rfl;refine aJ (?_);rw[hN];refine ajh (x:=x) (bh:=bh) hx hY hr ht lO x.hours.toNat 0 [x.first,0,0,0] [x.first] x.first σ [] _ _ rfl rfl rfl (by omega) Me hI hA (λh' ry AR=> ?_);change cX Gf pv _ _ _ (bE f (kq x bh) σ);have sg:∀n,Lt n (.aN []):=λn=>by simp[jK]
 cases hf:bE f (kq x bh) σ with
 |go s=>
  rw[hf]at hk;simp only[cX,gg]at hk⊢;rw[SN]at hk;(try simp only[seval]);rw[<- hN];exact vD hY hH sg hk
 |stop s=>
  rw[hf]at hk;simp only[cX,gg]at hk⊢;rw[SN]at hk;(try simp only[seval]);rw[<- hN];exact vD hY hH sg hk
 |bad s=>
  rw[hf]at hk;simp only[cX,gg]at hk⊢;rw[SN]at hk;rw[<- hN];exact vD hY hH me hk
end
theorem QJ{α:Type}{l:List α}{i j:Nat}{v:α}(h:i<j):(l.set i v).drop j=l.drop j:=by
 apply Yr;intro k;rw[Up,Up,Ua (by omega)]
theorem Ad{α:Type}{g:α->AV}{xs:List α}{i:Nat}{x:α}(h:xs[i]?=some x):(xs.map g).drop i=g x::(xs.drop (i+1)).map g:=by
 rw[<- apT,wi h,UP]
namespace Tk
def adT (k:Nat):List Int:=TJ (4-k) (-1)++[-1, -1, -1]
structure oY (h:List Int)(k p:Nat)(t:List Nat)(tc:List Int):Prop where
 len:tc.length=11
 pre:tc.take (4+p)=h++t.map λn:Nat=>(n:Int)
 tl:tc.drop (4+k)=adT k
theorem oY.all{h:List Int}{k:Nat}{t:List Nat}{tc:List Int}(ht:t.length=k)(n:oY h k k t tc):tc=dT h t:=by
 have:=Vo (4+k) tc;rw[n.pre,n.tl]at this;rw[<- this];unfold dT lq adT;rw[ht];simp[SC]
theorem oY.back{h:List Int}{k p:Nat}{t:List Nat}{n:Nat}{tc:List Int}(h4:h.length=4)(ht:t.length=p)(q:oY h k (p+1) (t++[n]) tc):oY h k p t tc:=by
 refine⟨q.len,?_,q.tl⟩;have e:tc.take (4+p)=(tc.take (4+(p+1))).take (4+p):=by rw[U8];congr 1;omega
 rw[e,q.pre,TG,<- SC,Tw (by simp[h4,ht]),SS (by simp[h4,ht])]
theorem oY.next{h:List Int}{k p:Nat}{t:List Nat}{n:Nat}{tc:List Int}(hp:p<k)(hk:k<=4)(q:oY h k p t tc):oY h k (p+1) (t++[n]) (tc.set (4+p) (n:Int)):=by
 refine⟨by rw[TF];exact q.len,?_,?_⟩
 ·rw[show 4+(p+1)=(4+p)+1 by omega,Oz (by rw[q.len];omega),q.pre];simp
 ·rw[QJ (by omega)];exact q.tl
theorem aoo{h:List Int}{q:Nat}{qs:List Nat}{u:Nat}{t:List Nat}:(kK (q::qs) u t).map (dT h)=(SU 9).flatMap λn=>if u.testBit n|| !q.testBit n then[]else(kK qs (u|||2^n) (t++[n])).map (dT h):=by
 rw[kK,UO];congr 1;funext n;split<;>rfl
end Tk
section
variable {lv:Bool}
def tW (yv:AV)(N ir:Nat)(ps:List Nat)(tc:List Int):List aa:=[.cells [yv] 132,.cells (tc.map iv) 86,.cells (ps.map λn=>wv n) 80,.cells [.fn (.func 107) [] [.op ir 0,.op N 0,.op (N+1) 0,.op (N+2) 0,.op (N+3) 0]] 157]
theorem aiw{x:aj}{h ps N ir:_}{yv pv:AV}{S:Type}{f:S->List Int->dG S}{Gf:S->List aa}{I:S->Prop}{A:List Int->Prop}(hx:x.Ok)(h4:h.length=4)(hY:jP lv SA yv f Gf N I A pv)(hr:∀σ L,(Gf σ++L)[ir]?=some (.cells x.l 76))(pD:ps=x.pieces.map (b_ h)++TJ (4-x.pieces.length) 0):
  ∀(d p u:Nat)(t:List Nat)(tc:List Int)(σ:S)(M:List aa)(k kp:AV->List aa->Prop),d+p=x.pieces.length->u<65536->t.length=p->oY h x.pieces.length p t tc->I σ->(∀a∈(kK ((x.pieces.map (b_ h)).drop p) u t).map (dT h),A a)->
   (∀eg,oY h x.pieces.length p t eg->cX Gf pv k kp (tW yv N ir ps eg++M) (bE f ((kK ((x.pieces.map (b_ h)).drop p) u t).map (dT h)) σ))->
   bf lv SA 107 (Gf σ++(tW yv N ir ps tc++M)) [iv p,wv u,.op ir 0,.op N 0,.op (N+1) 0,.op (N+2) 0,.op (N+3) 0] k kp:=by
 intro d;induction d with
 |zero=>
  intro p u t tc σ M k kp Lc hu ht hT hI hA hk;refine bI (rs:=[.tmp 9]) (nt:=47) ai' λhH uC=> ?_;simp only[bt,SY];have bP:x.l=[iv x.first,iv x.hours,iv x.am,cY x.seen,aL x.pieces,aL x.aA]:=rfl;have g0:∀(σ:S)(L:List aa),(Gf σ++L)[N]?=L[0]?:=λσ L=>hY.get σ L 0;have g1:∀(σ:S)(L:List aa),(Gf σ++L)[N+1]?=L[1]?:=λσ L=>hY.get σ L 1;have du:p=x.pieces.length:=by omega
  have wE:(x.pieces.map (b_ h)).drop p=[]:=TY (by simp;omega);rw[wE,kK]at hA hk;rw[Zb]at hA hk;rw[Ob]at hk;have yJ:tc=dT h t:=by subst du;exact hT.all ht
  have j8:(tc.map iv).length=11:=by rw[S9,hT.len]
  refine ak ?_;(repeat apply im);refine PL ?_;refine ai ?_;simp only[seval,hr,bP,aL];refine aD ?_;refine⟨λhc=> ?_,λhc=>by exfalso;simp at hc;omega⟩;refine ai ?_;simp only[seval,g0,g1,tW,j8];rw[SS (i:=11) (l:=tc.map iv) (by rw[j8];exact SO _)];rw[<- yJ]at hA hk;have aI:=hk tc hT;refine xQ (hY.call σ tc (tW yv N ir ps tc++M) _ _ hI (hA _ (by simp)) ?_);cases hf:f σ tc with
  |go σ'=>
   rw[hf]at aI;simp only[cX]at aI⊢;(try simp only[seval]);refine bc ?_;exact b9 aI
  |stop σ'=>
   rw[hf]at aI;simp only[cX]at aI⊢;(try simp only[seval]);refine bc ?_;exact b9 aI
  |bad σ'=>
   rw[hf]at aI;simp only[cX]at aI⊢;exact b9 aI
 |succ d ih=>
  intro p u t tc σ M k kp Lc hu ht hT hI hA hk;refine bI (rs:=[.tmp 9]) (nt:=47) ai' λhH uC=> ?_;simp only[bt,SY];have bP:x.l=[iv x.first,iv x.hours,iv x.am,cY x.seen,aL x.pieces,aL x.aA]:=rfl;have g1:∀(σ:S)(L:List aa),(Gf σ++L)[N+1]?=L[1]?:=λσ L=>hY.get σ L 1;have g2:∀(σ:S)(L:List aa),(Gf σ++L)[N+2]?=L[2]?:=λσ L=>hY.get σ L 2;have g3:∀(σ:S)(L:List aa),(Gf σ++L)[N+3]?=L[3]?:=λσ L=>hY.get σ L 3;have s1:∀(σ:S)(L:List aa) x,(Gf σ++L).set (N+1) x=Gf σ++L.set 1 x:=λσ L x=>hY.set σ L 1 x;have nF:=hx.ec;have GK:p<4:=by omega
  obtain⟨y,hy⟩:=bZ (xs:=x.pieces) (i:=p) (by omega);have va:(x.pieces.map (b_ h))[p]?=some (b_ h y):=by rw[To,hy];rfl
  have nG:ps[p]?=some (b_ h y):=by rw[pD,SX (by simp;omega)];exact va
  have iH:b_ h y<65536:=Ws (Ri h y) (by decide);have aF:¬(p:Int)=(x.pieces.length:Int):=by omega
  rw[wi va,aoo]at hA hk;generalize hg:(λn=>if u.testBit n|| !(b_ h y).testBit n then[]else(kK ((x.pieces.map (b_ h)).drop (p+1)) (u|||2^n) (t++[n])).map (dT h))=g at hA hk;refine ak ?_;(repeat apply im);refine PL ?_;refine ai ?_;simp only[seval,hr,bP,aL];refine aD ?_;refine⟨λhc=>by exfalso;exact aF (by simpa using hc),λhc=> ?_⟩;refine aO ?_;(repeat apply im);refine PE ?_;simp only[seval];refine ak ?_;refine bY ?_;refine zU (measure λm:Nat×S×List Int=>9-m.1).wf (λm=>[(20,iv (m.1:Nat))]) (λm=>Gf m.2.1++(tW yv N ir ps m.2.2++M)) (λm=>m.1<=9/\bE f ((SU m.1).flatMap g) σ=.go m.2.1/\oY h x.pieces.length p t m.2.2) (0,σ,tc) (λ_ _=>rfl) (by intro p hp;simp at hp;subst hp;exact⟨_,rfl,Wk.refl _⟩) rfl (λ_ _=>by simp[tW,hY.len]) ⟨by omega,rfl,hT⟩ (λbJ cm m aq R hR=> ?_);obtain⟨i,τ,tq⟩:=m;obtain⟨hi,bK,lE⟩:=aq;replace hi:i<=9:=hi;replace bK:bE f ((SU i).flatMap g) σ=.go τ:=bK;replace lE:oY h x.pieces.length p t tq:=lE;refine ak ?_;refine aD ?_;refine⟨λhc=> ?_,λhc=> ?_⟩
  ·have bB:i<9:=(by omega);have bC:SD.wrap ((i:Int)+1)=((i+1:Nat):Int):=(by rw[bw _ (by omega)];rfl);have rU:=Ks g bB;have tO:=Kt g i;have C0:I τ:=Bu (A:=A) hY.inv _ σ τ (λa ha=>hA a (by rw[rU];exact Th _ ha)) hI bK;have b4:(0<=(p:Int)/\(p:Int)<4)=True:=(by simp;omega);have Ez:(u.testBit i|| !(b_ h y).testBit i)=true->g i=[]:=λe=>(by rw[<- hg];exact if_pos e);have Kz:(u.testBit i|| !(b_ h y).testBit i)=false->g i=(kK ((x.pieces.map (b_ h)).drop (p+1)) (u|||2^i) (t++[i])).map (dT h):=λe=>(by rw[<- hg];exact if_neg (by rw[e];simp));refine aO ?_;refine ak ?_;refine ai ?_;simp only[seval,g2,tW,b4,Ad nG];refine aJ ((x8 hu ?_));(try simp only[seval,g2,tW,b4,Ad nG]);refine yc (λh2=> ?_) (λh2=> ?_)
   ·(try simp only[seval,g2,tW,b4,Ad nG]);refine aJ ((x8 iH ?_));(try simp only[seval]);refine aD ?_;refine⟨λh3=> ?_,λh3=> ?_⟩
    ·have aM:=Ez (by rw[h2];simpa using h3);refine bU ?_;refine ai ?_;simp only[seval,bC];exact hR _ ⟨(i+1,τ,tq),(by show 9-(i+1)<9-i;omega),⟨by omega,by rw[tO,aM,SN];exact bK,lE⟩,cT⟩
    ·have aM:=Kz (by rw[h2];simpa using h3);have j8:(tq.map iv).length=11:=(by rw[S9,lE.len]);have Jk:4+p<tq.length:=(by rw[lE.len];omega);have G8:SD.wrap ((p:Int)+1)=((p+1:Nat):Int):=(by rw[bw _ (by omega)];rfl);refine aO ?_;refine ai ?_;simp only[seval,g1,s1,tW,b4];refine⟨by omega,?_⟩;rw[xi Jk];refine ek 6 ?_;simp only[seval,g3,G8];refine gR (wv (u|||2^i)) (di (uA hu (show i<16 by omega) ⟨rfl,rfl⟩)) ?_;rw[G8];have lP:u|||2^i<65536:=pP hu (xq (by omega));refine aJ ((ih (p+1) (u|||2^i) (t++[i]) (tq.set (4+p) (i:Int)) τ M _ _ (by omega) lP (by simp[ht]) (lE.next (by omega) nF) C0 (λa ha=>hA a (by rw[rU,aM];exact S4 _ (Th _ ha))) (λeg th=> ?_)));have C3:=th.back h4 ht;have A5:bE f ((SU 9).flatMap g) σ=match bE f (g i) τ with
       |.go s'=>bE f ((T9 (i+1) (9-(i+1))).flatMap g) s'
       |r=>r:=by
      rw[rU,qJ,bK];exact qJ f (g i) _ τ
     rw[<- aM];have aI:=hk eg C3;rw[A5]at aI;cases hf:bE f (g i) τ with
     |go τ'=>
      simp only[cX];(try simp only[seval]);refine aD ?_;refine aO ?_;refine ai ?_;simp only[seval,bC];exact hR _ ⟨(i+1,τ',eg),(by show 9-(i+1)<9-i;omega),⟨by omega,by rw[tO,qJ,bK];exact hf,C3⟩,cT⟩
     |stop τ'=>
      rw[hf]at aI;simp only[cX]at aI⊢;(try simp only[seval]);refine aD ?_;refine ak ?_;refine bc ?_;exact b9 aI
     |bad τ'=>
      rw[hf]at aI;simp only[cX]at aI⊢;exact b9 aI
   ·(try simp only[seval]);refine aD ?_;have aM:=Ez (by rw[show u.testBit i=true by simpa using h2];rfl);refine bU ?_;refine ai ?_;simp only[seval,bC];exact hR _ ⟨(i+1,τ,tq),(by show 9-(i+1)<9-i;omega),⟨by omega,by rw[tO,aM,SN];exact bK,lE⟩,cT⟩
  ·have dD:i=9:=(by omega);subst dD;have aI:=hk tq lE;rw[bK]at aI;refine bU ?_;refine ak ?_;refine bc ?_;exact b9 aI
end
open Go.Conc Go.Proofs Go.Gg.Tk
theorem Oi{α:Type}{g:α->AV}{xs:List α}{i:Nat}{y:α}(h:i<xs.length):(xs.map g).take i++[g y]++(xs.map g).drop (i+1)=(xs.set i y).map g:=by
 rw[List.map_set,X8,if_pos (by simpa using h)];simp
namespace Tk
def p9 (l:List Nat)(i:Nat):List Nat:=l.take i++TJ (4-i) 0
theorem agJ{l:List Nat}{i q:Nat}(h:l[i]?=some q)(hl:l.length<=4):(p9 l i).set i q=p9 l (i+1):=by
 have hi:=eN h;unfold p9;rw[Ud _ _ (by simp;omega),show i-(l.take i).length=0 by simp;omega,show 4-i=(4-(i+1))+1 by omega,WA,T4,WE,h];simp
theorem agI{l:List Nat}{i:Nat}(hi:i<=l.length)(hl:l.length<=4):(p9 l i).length=4:=by simp[p9];omega
theorem agH{l:List Nat}:p9 l l.length=l++TJ (4-l.length) 0:=by simp[p9]
end Tk
theorem aaG{H L:List aa}{c c':aa}(h:bH (H++(L++[c])))(hc:∀n,eQ n c'):bH (H++(L++[c'])):=λz hz=>by
 have hl:(H++(L++[c'])).length=(H++(L++[c])).length:=by simp
 rw[hl];rcases SQ.1 hz with h'|h'
 ·exact h z (Th _ h')
 ·rcases SQ.1 h' with h'|h'
  ·exact h z (S4 _ (Th _ h'))
  ·rw[S8.1 h'];exact hc _
theorem acj(l:List Nat)(t n:Nat):eQ n (.cells (l.map λn=>wv n) t):=by
 intro a ha;obtain⟨x,_,rfl⟩:=Te.1 ha;exact .val _
theorem aoC(l:List Int)(t n:Nat):eQ n (.cells (l.map iv) t):=by
 intro a ha;obtain⟨x,_,rfl⟩:=Te.1 ha;exact .val _
section
variable {lv:Bool}
theorem aji{H:List aa}{k kp:AV->List aa->Prop}{x:aj}{h:List Int}(hk:k (.fn (.func 106) [] [.op (H.length+1) 0,.op H.length 0]) (H++[.cells x.l 76,.cells (h.map iv) 83])):bf lv SA 92 H [x.av,.agg (h.map iv)] k kp:=by
 refine bI (rs:=[.tmp 4]) (nt:=6) Tryz.f92 λhH hA=> ?_;simp only[bt,SY,aj.av];refine ak ?_;refine ai ?_;simp only[seval,Ub,UE,Uj,TR];refine bc ?_;exact b9 hk
theorem aiv{x:aj}{h:List Int}{N ir ih:Nat}{yv pv:AV}{S:Type}{f:S->List Int->dG S}{Gf:S->List aa}{I:S->Prop}{A:List Int->Prop}{σ:S}{k kp:AV->List aa->Prop}(hx:x.Ok)(hh:mA h)(hY:jP lv SA yv f Gf N I A pv)(hr:∀σ L,(Gf σ++L)[ir]?=some (.cells x.l 76))(hi:∀σ L,(Gf σ++L)[ih]?=some (.cells (h.map iv) 83))
  (me:∀n,Lt n pv) (hI:I σ) (hA:∀a∈(fZ x h).map (dT h),A a) (hk:gg Gf pv k kp [] (bE f ((fZ x h).map (dT h)) σ)):bf lv SA 106 (Gf σ) [yv,.op ih 0,.op ir 0] k kp:=by
 refine bI (rs:=[]) (nt:=45) Tryz.f106 λhH uC=> ?_;simp only[bt,SY];have hN:=hY.len σ;have nF:=hx.ec;have bP:x.l=[iv x.first,iv x.hours,iv x.am,cY x.seen,aL x.pieces,aL x.aA]:=rfl;obtain⟨a,b,c,d,rfl,ha,hb,hc,hd,hs⟩:=hh.out;have okH:∀L:List aa,(∀z∈L,∀n,eQ n z)->bH (Gf σ++L):=λL hL z hz=>by
  rcases SQ.1 hz with h|h
  ·exact(hH z h).mono (by simp)
  ·exact hL z h _
 refine ai ?_;simp only[seval,hY.parts];refine ai ?_;simp only[seval,hi];refine ak ?_;refine bY ?_;refine gF 4 (λi:Nat=>[(13,iv i)]) (λi=>Gf σ++[.cells [yv] 132,.cells ((jf [a,b,c,d,0,0,0,0,0,0,0] 4 i (-1)).map iv) 86]) (λi=>True) (λ_ _=>rfl) (by simp only[seval];simp[bm,Wk.refl]) rfl (λ_ _ _=>by simp) trivial (λbJ cm i cK _ R hR=> ?_);refine ak ?_;refine aD ?_;refine⟨λhc=> ?_,λhc=> ?_⟩
 ·have bB:i<4:=by omega
  have b4:(0<=(i:Int)/\(i:Int)<4)=True:=by simp;omega
  have bC:SD.wrap ((i:Int)+1)=((i+1:Nat):Int):=by rw[bw _ (by omega)];rfl
  have l_:(jf [a,b,c,d,0,0,0,0,0,0,0] 4 i (-1)).length=11:=FU (by show 4+i<=11;omega);have ma:((jf [a,b,c,d,0,0,0,0,0,0,0] 4 i (-1)).map iv).length=11:=by rw[S9,l_]
  refine aO ?_;refine ak ?_;refine ai ?_;simp only[seval,b4,ma];refine⟨by omega,?_⟩;rw[xi (show 4+i<(jf [a,b,c,d,0,0,0,0,0,0,0] 4 i (-1)).length by omega),Kh (by show 4+i<11;omega)];refine ai ?_;simp only[seval,bC];exact hR _ ⟨bB,trivial,cT⟩
 have:i=4:=by omega
 subst this;clear hc cK;refine bU ?_;refine ak ?_;rw[show jf [a,b,c,d,0,0,0,0,0,0,0] 4 4 (-1)=[a,b,c,d, -1, -1, -1, -1,0,0,0]from rfl];refine bY ?_;refine gF 3 (λi:Nat=>[(20,iv i)]) (λi=>Gf σ++[.cells [yv] 132,.cells ((jf [a,b,c,d, -1, -1, -1, -1,0,0,0] 8 i (-1)).map iv) 86]) (λi=>True) (λ_ _=>rfl) (by simp only[seval];simp[bm,Wk.refl]) rfl (λ_ _ _=>by simp) trivial (λbJ cm i cK _ R hR=> ?_);refine ak ?_;refine aD ?_;refine⟨λhc=> ?_,λhc=> ?_⟩
 ·have bB:i<3:=by omega
  have b4:(0<=(i:Int)/\(i:Int)<3)=True:=by simp;omega
  have bC:SD.wrap ((i:Int)+1)=((i+1:Nat):Int):=by rw[bw _ (by omega)];rfl
  have l_:(jf [a,b,c,d, -1, -1, -1, -1,0,0,0] 8 i (-1)).length=11:=FU (by show 8+i<=11;omega);have ma:((jf [a,b,c,d, -1, -1, -1, -1,0,0,0] 8 i (-1)).map iv).length=11:=by rw[S9,l_]
  refine aO ?_;refine ak ?_;refine ai ?_;simp only[seval,b4,ma];refine⟨by omega,?_⟩;rw[xi (show 8+i<(jf [a,b,c,d, -1, -1, -1, -1,0,0,0] 8 i (-1)).length by omega),Kh (by show 8+i<11;omega)];refine ai ?_;simp only[seval,bC];exact hR _ ⟨bB,trivial,cT⟩
 have:i=3:=by omega
 subst this;clear hc cK;refine bU ?_;rw[show jf [a,b,c,d, -1, -1, -1, -1,0,0,0] 8 3 (-1)=[a,b,c,d, -1, -1, -1, -1, -1, -1, -1]from rfl];refine ak ?_;refine ai ?_;simp only[seval,hr,bP,aL];refine bY ?_;refine gF x.pieces.length (λi:Nat=>[(31,iv i)]) (λi=>Gf σ++[.cells [yv] 132,.cells ([a,b,c,d, -1, -1, -1, -1, -1, -1, -1].map iv) 86,.cells ((p9 (x.pieces.map (b_ [a,b,c,d])) i).map λn=>wv n) 80]) (λi=>True) (λ_ _=>rfl) (by simp only[seval];simp[bm,Wk.refl]) rfl (λ_ _ _=>by simp) trivial (λbJ cm i cK _ R hR=> ?_);refine ak ?_;refine aD ?_;refine⟨λhc=> ?_,λhc=> ?_⟩
 ·have bB:i<x.pieces.length:=by omega
  obtain⟨y,hy⟩:=bZ bB;have va:(x.pieces.map (b_ [a,b,c,d]))[i]?=some (b_ [a,b,c,d] y):=by rw[To,hy];rfl
  have b4:(0<=(i:Int)/\(i:Int)<4)=True:=by simp;omega
  have bC:SD.wrap ((i:Int)+1)=((i+1:Nat):Int):=by rw[bw _ (by omega)];rfl
  have cN:(p9 (x.pieces.map (b_ [a,b,c,d])) i).length=4:=agI (by simp;omega) (by simpa using nF);have wB:((p9 (x.pieces.map (b_ [a,b,c,d])) i).map λn=>wv n).length=4:=by rw[S9,cN]
  refine aO ?_;refine ai ?_;simp only[seval,xj hy,jR bB];refine ai ?_;simp only[seval,hi,b4];refine aJ ((FT (h:=[a,b,c,d]) (y:=y) hh ?_));(try simp only[seval,b4,wB]);refine⟨by omega,?_⟩;rw[Oi (g:=λn=>wv n) (show i<(p9 (x.pieces.map (b_ [a,b,c,d])) i).length by omega),agJ va (by simpa using nF)];refine ai ?_;simp only[seval,bC];exact hR _ ⟨bB,trivial,Bt (pL rfl rfl) (by simp only[seval];simp[bm,Wk.refl]) (aaG (L:=[_,_]) bJ (acj _ _)) (by simp[eC])⟩
 have:i=x.pieces.length:=by omega
 subst this;clear hc cK;refine bU ?_;refine ak ?_;refine ai ?_;simp only[seval,Ub,UE,Uj,TR];refine ak ?_;have pD:p9 (x.pieces.map (b_ [a,b,c,d])) x.pieces.length=x.pieces.map (b_ [a,b,c,d])++TJ (4-x.pieces.length) 0:=by
  have:=agH (l:=x.pieces.map (b_ [a,b,c,d]));simpa using this
 refine aJ (?_);rw[hN];have sg:∀n,Lt n (.aN []):=λn=>by simp[jK]
 have hT0:∀eg,oY [a,b,c,d] x.pieces.length 0 [] eg->True:=λ_ _=>trivial;refine aiw (x:=x) (h:=[a,b,c,d]) hx rfl hY hr pD x.pieces.length 0 0 [] [a,b,c,d, -1, -1, -1, -1, -1, -1, -1] σ [] _ _ rfl (by decide) rfl ⟨rfl,rfl,?_⟩ hI hA (λeg th=> ?_)
 ·have:x.pieces.length=0\/x.pieces.length=1\/x.pieces.length=2\/x.pieces.length=3\/x.pieces.length=4:=by omega
  rcases this with e|e|e|e|e<;>rw[e]<;>rfl
 change cX Gf pv _ _ _ (bE f ((fZ x [a,b,c,d]).map (dT [a,b,c,d])) σ);cases hf:bE f ((fZ x [a,b,c,d]).map (dT [a,b,c,d])) σ with
 |go s=>
  rw[hf]at hk;simp only[cX,gg]at hk⊢;rw[SN]at hk;(try simp only[seval]);rw[<- hN];exact vD hY hH sg hk
 |stop s=>
  rw[hf]at hk;simp only[cX,gg]at hk⊢;rw[SN]at hk;(try simp only[seval]);rw[<- hN];exact vD hY hH sg hk
 |bad s=>
  rw[hf]at hk;simp only[cX,gg]at hk⊢;rw[SN]at hk;rw[<- hN];exact vD hY hH me hk
end
open Go.Conc Go.Proofs Go.Gg.Tk
namespace Tk
structure n9 (h:List Int)(ns:List Nat)(k s:Nat)(o:List Nat)(tc:List Int):Prop where
 len:tc.length=11
 pre:tc.take (8+s)=h++lq 4 ns++o.map λn:Nat=>(n:Int)
 tl:tc.drop (8+k)=TJ (3-k) (-1)
theorem n9.all{h:List Int}{ns:List Nat}{k:Nat}{o:List Nat}{tc:List Int}(ho:o.length=k)(n:n9 h ns k k o tc):tc=dE h ns o:=by
 have:=Vo (8+k) tc;rw[n.pre,n.tl]at this;rw[<- this];unfold dE
 conv=>rhs;unfold lq
 rw[ho,SC];rfl
theorem Bp{k:Nat}{l:List Nat}(h:l.length<=k):(lq k l).length=k:=by simp[lq];omega
theorem n9.back{h:List Int}{ns:List Nat}{k s:Nat}{o:List Nat}{n:Nat}{tc:List Int}(h4:h.length=4)(hn:ns.length<=4)(ho:o.length=s)(q:n9 h ns k (s+1) (o++[n]) tc):n9 h ns k s o tc:=by
 refine⟨q.len,?_,q.tl⟩;have e:tc.take (8+s)=(tc.take (8+(s+1))).take (8+s):=by rw[U8];congr 1;omega
 have hp:=Bp hn;rw[e,q.pre,TG,<- SC,Tw (by simp[h4,ho,hp];omega),SS (by simp[h4,ho,hp];omega)]
theorem n9.next{h:List Int}{ns:List Nat}{k s:Nat}{o:List Nat}{n:Nat}{tc:List Int}(hp:s<k)(hk:k<=3)(q:n9 h ns k s o tc):n9 h ns k (s+1) (o++[n]) (tc.set (8+s) (n:Int)):=by
 refine⟨by rw[TF];exact q.len,?_,?_⟩
 ·rw[show 8+(s+1)=(8+s)+1 by omega,Oz (by rw[q.len];omega),q.pre];simp
 ·rw[QJ (by omega)];exact q.tl
theorem n9.num{h:List Int}{ns:List Nat}{k s p:Nat}{o:List Nat}{tc:List Int}(h4:h.length=4)(hn:ns.length<=4)(hp:p<ns.length)(q:n9 h ns k s o tc):tc[4+p]?=some ((ns.getD p 0:Nat):Int):=by
 have h1:(tc.take (8+s))[4+p]?=some ((ns.getD p 0:Nat):Int):=by
  rw[q.pre,SC,Ta (by omega),h4,show 4+p-4=p by omega,SX (by rw[Bp hn];omega)];unfold lq;rw[SX (by simpa using hp),To,SE,SW hp];rfl
 rwa [Uf,if_pos (by omega)]at h1
theorem aoQ{h:List Int}{ns:List Nat}{k q:Nat}{qs:List Nat}{u:Nat}{o:List Nat}:(mr k ns (q::qs) u o).map (dE h ns)=(SU k).flatMap λp=>if u.testBit p|| !q.testBit (ns.getD p 0)then[]else(mr k ns qs (u|||2^p) (o++[p])).map (dE h ns):=by
 rw[mr,UO];congr 1;funext n;split<;>rfl
end Tk
open Go.Conc Go.Proofs Go.Gg.Tk
section
variable {lv:Bool}
def za (yv:AV)(N ir it is:Nat):List aa:=[.cells [yv] 132,.cells [.fn (.func 109) [] [.op ir 0,.op N 0,.op it 0,.op is 0,.op (N+1) 0]] 157]
theorem aiy{x:aj}{h:List Int}{ns qs:List Nat}{N ir it is:Nat}{yv pv:AV}{S:Type}{f:S->List Int->dG S}{Gf:List Int->S->List aa}{I:S->Prop}{A:List Int->Prop}(hx:x.Ok)(h4:h.length=4)(gK:ns.length=x.pieces.length)(hY:∀tc,jP lv SA yv f (Gf tc) N I A pv)(hr:∀tc σ L,(Gf tc σ++L)[ir]?=some (.cells x.l 76))
  (ht:∀tc σ L,(Gf tc σ++L)[it]?=some (.cells (tc.map iv) 86)) (cR:∀tc eg σ L,(Gf tc σ++L).set it (.cells (eg.map iv) 86)=Gf eg σ++L) (hs:∀tc σ L,(Gf tc σ++L)[is]?=some (.cells (qs.map λn=>wv n) 81)) (AY:∃r,qs=x.aA.map (b_ h)++r) (tM:qs.length=3):
  ∀(d s u:Nat)(o:List Nat)(tc:List Int)(σ:S)(M:List aa)(k kp:AV->List aa->Prop),d+s=x.aA.length->u<65536->o.length=s->n9 h ns x.aA.length s o tc->I σ->(∀a∈(mr x.pieces.length ns ((x.aA.map (b_ h)).drop s) u o).map (dE h ns),A a)->
   (∀eg,n9 h ns x.aA.length s o eg->cX (Gf eg) pv k kp (za yv N ir it is++M) (bE f ((mr x.pieces.length ns ((x.aA.map (b_ h)).drop s) u o).map (dE h ns)) σ))->
   bf lv SA 109 (Gf tc σ++(za yv N ir it is++M)) [iv s,wv u,.op ir 0,.op N 0,.op it 0,.op is 0,.op (N+1) 0] k kp:=by
 intro d;induction d with
 |zero=>
  intro s u o tc σ M k kp pt hu ho hT hI hA hk;refine bI (rs:=[.tmp 9]) (nt:=54) ai_ λhH uC=> ?_;simp only[bt,SY];have bP:x.l=[iv x.first,iv x.hours,iv x.am,cY x.seen,aL x.pieces,aL x.aA]:=rfl;have g0:∀(tc:List Int)(σ:S)(L:List aa),(Gf tc σ++L)[N]?=L[0]?:=λtc σ L=>(hY tc).get σ L 0;have du:s=x.aA.length:=by omega
  have wE:(x.aA.map (b_ h)).drop s=[]:=TY (by simp;omega);rw[wE,mr]at hA hk;rw[Zb]at hA hk;rw[Ob]at hk;have yJ:tc=dE h ns o:=by subst du;exact hT.all ho
  have j8:(tc.map iv).length=11:=by rw[S9,hT.len]
  refine ak ?_;refine ai ?_;simp only[seval,hr,bP,aL];refine aD ?_;refine⟨λhc=> ?_,λhc=>by exfalso;simp at hc;omega⟩;refine ai ?_;simp only[seval,g0,ht,za,j8];rw[SS (i:=11) (l:=tc.map iv) (by rw[j8];exact SO _)];rw[<- yJ]at hA hk;have aI:=hk tc hT;refine xQ ((hY tc).call σ tc (za yv N ir it is++M) _ _ hI (hA _ (by simp)) ?_);cases hf:f σ tc with
  |go σ'=>
   rw[hf]at aI;simp only[cX]at aI⊢;(try simp only[seval]);refine bc ?_;exact b9 aI
  |stop σ'=>
   rw[hf]at aI;simp only[cX]at aI⊢;(try simp only[seval]);refine bc ?_;exact b9 aI
  |bad σ'=>
   rw[hf]at aI;simp only[cX]at aI⊢;exact b9 aI
 |succ d ihd=>
  intro s u o tc σ M k kp pt hu ho hT hI hA hk;refine bI (rs:=[.tmp 9]) (nt:=54) ai_ λhH uC=> ?_;simp only[bt,SY];have bP:x.l=[iv x.first,iv x.hours,iv x.am,cY x.seen,aL x.pieces,aL x.aA]:=rfl;have g1:∀(tc:List Int)(σ:S)(L:List aa),(Gf tc σ++L)[N+1]?=L[1]?:=λtc σ L=>(hY tc).get σ L 1;have nF:=hx.ec;have yG:=hx.de;obtain⟨y,hy⟩:=bZ (xs:=x.aA) (i:=s) (by omega);have va:(x.aA.map (b_ h))[s]?=some (b_ h y):=by rw[To,hy];rfl
  have nG:qs[s]?=some (b_ h y):=by obtain⟨r,e⟩:=AY;rw[e,SX (by simp;omega)];exact va
  have iH:b_ h y<65536:=Ws (Ri h y) (by decide);have aF:¬(s:Int)=(x.aA.length:Int):=by omega
  rw[wi va,aoQ]at hA hk;generalize hg:(λp=>if u.testBit p|| !(b_ h y).testBit (ns.getD p 0)then[]else(mr x.pieces.length ns ((x.aA.map (b_ h)).drop (s+1)) (u|||2^p) (o++[p])).map (dE h ns))=g at hA hk;refine ak ?_;refine ai ?_;simp only[seval,hr,bP,aL];refine aD ?_;refine⟨λhc=>by exfalso;exact aF (by simpa using hc),λhc=> ?_⟩;refine aO ?_;refine ai ?_;simp only[seval,hr,bP,aL];refine bY ?_;refine zU (measure λm:Nat×S×List Int=>x.pieces.length-m.1).wf (λm=>[(24,iv (m.1:Nat))]) (λm=>Gf m.2.2 m.2.1++(za yv N ir it is++M)) (λm=>m.1<=x.pieces.length/\bE f ((SU m.1).flatMap g) σ=.go m.2.1/\n9 h ns x.aA.length s o m.2.2) (0,σ,tc) (λ_ _=>rfl) (by intro p hp;simp at hp;subst hp;exact⟨_,rfl,Wk.refl _⟩) rfl (λ_ _=>by simp[za,(hY _).len]) ⟨by omega,rfl,hT⟩ (λbJ cm m aq R hR=> ?_);obtain⟨i,τ,tq⟩:=m;obtain⟨hi,bK,lE⟩:=aq;replace hi:i<=x.pieces.length:=hi;replace bK:bE f ((SU i).flatMap g) σ=.go τ:=bK;replace lE:n9 h ns x.aA.length s o tq:=lE;refine ak ?_;refine aD ?_;refine⟨λhc=> ?_,λhc=> ?_⟩
  ·have bB:i<x.pieces.length:=(by omega);have bC:SD.wrap ((i:Int)+1)=((i+1:Nat):Int):=(by rw[bw _ (by omega)];rfl);have hws:SD.wrap ((s:Int)+1)=((s+1:Nat):Int):=(by rw[bw _ (by omega)];rfl);have rU:=Ks g bB;have tO:=Kt g i;have C0:I τ:=Bu (A:=A) (hY tc).inv _ σ τ (λa ha=>hA a (by rw[rU];exact Th _ ha)) hI bK;have b3:(0<=(s:Int)/\(s:Int)<3)=True:=(by simp;omega);have b4:(0<=(i:Int)/\(i:Int)<4)=True:=(by simp;omega);have Ez:(u.testBit i|| !(b_ h y).testBit (ns.getD i 0))=true->g i=[]:=λe=>(by rw[<- hg];exact if_pos e);have Kz:(u.testBit i|| !(b_ h y).testBit (ns.getD i 0))=false->g i=(mr x.pieces.length ns ((x.aA.map (b_ h)).drop (s+1)) (u|||2^i) (o++[i])).map (dE h ns):=λe=>(by rw[<- hg];exact if_neg (by rw[e];simp));have aaF:=lE.num h4 (by omega) (show i<ns.length by omega);refine aO ?_;refine ak ?_;refine ek 14 ?_;simp only[seval,ht,hs,b3,b4,Ad nG,kT aaF];refine gR (bv (u.testBit i)) (di (x8 hu ⟨rfl,rfl⟩)) ?_;(try simp only[seval]);refine yc (λh2=> ?_) (λh2=> ?_)
   ·(try simp only[seval,ht,hs,b3,b4,Ad nG,kT aaF]);refine gR (bv ((b_ h y).testBit (ns.getD i 0))) (di (x8 iH ⟨rfl,rfl⟩)) ?_;(try simp only[seval]);refine aD ?_;refine⟨λh3=> ?_,λh3=> ?_⟩
    ·have aM:=Ez (by rw[h2];simpa using h3);refine bU ?_;refine ai ?_;simp only[seval,bC];exact hR _ ⟨(i+1,τ,tq),(by show x.pieces.length-(i+1)<x.pieces.length-i;omega),⟨by omega,by rw[tO,aM,SN];exact bK,lE⟩,cT⟩
    ·have aM:=Kz (by rw[h2];simpa using h3);have j8:(tq.map iv).length=11:=(by rw[S9,lE.len]);have Jk:8+s<tq.length:=(by rw[lE.len];omega);refine aO ?_;refine ai ?_;simp only[seval,ht,b3,j8];refine⟨by omega,?_⟩;rw[xi Jk,cR];refine ek 6 ?_;simp only[seval,g1,za];refine gR (wv (u|||2^i)) (di (uA hu (show i<16 by omega) ⟨rfl,rfl⟩)) ?_;rw[hws];have lP:u|||2^i<65536:=pP hu (xq (by omega));refine aJ ((ihd (s+1) (u|||2^i) (o++[i]) (tq.set (8+s) (i:Int)) τ M _ _ (by omega) lP (by simp[ho]) (lE.next (by omega) yG) C0 (λa ha=>hA a (by rw[rU,aM];exact S4 _ (Th _ ha))) (λeg th=> ?_)));have C3:=th.back h4 (by omega) ho;have A5:bE f ((SU x.pieces.length).flatMap g) σ=match bE f (g i) τ with
       |.go s'=>bE f ((T9 (i+1) (x.pieces.length-(i+1))).flatMap g) s'
       |r=>r:=by
      rw[rU,qJ,bK];exact qJ f (g i) _ τ
     rw[<- aM];have aI:=hk eg C3;rw[A5]at aI;cases hf:bE f (g i) τ with
     |go τ'=>
      simp only[cX];(try simp only[seval]);refine aD ?_;refine aO ?_;refine ai ?_;simp only[seval,bC];exact hR _ ⟨(i+1,τ',eg),(by show x.pieces.length-(i+1)<x.pieces.length-i;omega),⟨by omega,by rw[tO,qJ,bK];exact hf,C3⟩,cT⟩
     |stop τ'=>
      rw[hf]at aI;simp only[cX]at aI⊢;(try simp only[seval]);refine aD ?_;refine ak ?_;refine bc ?_;exact b9 aI
     |bad τ'=>
      rw[hf]at aI;simp only[cX]at aI⊢;exact b9 aI
   ·(try simp only[seval]);refine aD ?_;have aM:=Ez (by rw[show u.testBit i=true by simpa using h2];rfl);refine bU ?_;refine ai ?_;simp only[seval,bC];exact hR _ ⟨(i+1,τ,tq),(by show x.pieces.length-(i+1)<x.pieces.length-i;omega),⟨by omega,by rw[tO,aM,SN];exact bK,lE⟩,cT⟩
  ·have dD:i=x.pieces.length:=(by omega);subst dD;have aI:=hk tq lE;rw[bK]at aI;refine bU ?_;refine ak ?_;refine bc ?_;exact b9 aI
theorem ajj{H:List aa}{k kp:AV->List aa->Prop}{x:aj}{tc:List Int}{qs:List Nat}(hk:k (.fn (.func 108) [] [.op H.length 0,.op (H.length+1) 0,.op (H.length+2) 0]) (H++[.cells x.l 76,.cells (tc.map iv) 86,.cells (qs.map λn=>wv n) 81])):bf lv SA 93 H [x.av,.agg (tc.map iv),.agg (qs.map λn=>wv n)] k kp:=by
 refine bI (rs:=[.tmp 6]) (nt:=8) Tryz.f93 λhH hA=> ?_;simp only[bt,SY,aj.av];refine ak ?_;refine ai ?_;simp only[seval,Ub,UE,Uj,TR];refine bc ?_;exact b9 hk
theorem aix{x:aj}{h:List Int}{ns qs:List Nat}{N ir it is:Nat}{yv pv:AV}{S:Type}{f:S->List Int->dG S}{Gf:List Int->S->List aa}{I:S->Prop}{A:List Int->Prop}{tc:List Int}{σ:S}{k kp:AV->List aa->Prop}(hx:x.Ok)(h4:h.length=4)(gK:ns.length=x.pieces.length)(hY:∀tc,jP lv SA yv f (Gf tc) N I A pv)(hr:∀tc σ L,(Gf tc σ++L)[ir]?=some (.cells x.l 76))
  (ht:∀tc σ L,(Gf tc σ++L)[it]?=some (.cells (tc.map iv) 86)) (cR:∀tc eg σ L,(Gf tc σ++L).set it (.cells (eg.map iv) 86)=Gf eg σ++L) (hs:∀tc σ L,(Gf tc σ++L)[is]?=some (.cells (qs.map λn=>wv n) 81)) (AY:∃r,qs=x.aA.map (b_ h)++r) (tM:qs.length=3)
  (aq:∀m tc eg σ,(∀z∈Gf tc σ,eQ m z)->∀z∈Gf eg σ,eQ m z) (me:∀n,Lt n pv) (yJ:tc=dT h ns) (hI:I σ) (hA:∀a∈(iB x h ns).map (dE h ns),A a) (hk:∀eg,eg.length=11->gg (Gf eg) pv k kp [] (bE f ((iB x h ns).map (dE h ns)) σ)):bf lv SA 108 (Gf tc σ) [yv,.op ir 0,.op it 0,.op is 0] k kp:=by
 refine bI (rs:=[]) (nt:=9) Tryz.f108 λhH uC=> ?_;simp only[bt,SY];have hN:=(hY tc).len σ;have nF:=hx.ec;have yG:=hx.de;refine ai ?_;simp only[seval,(hY tc).parts];refine ak ?_;refine ai ?_;simp only[seval,Ub,UE,Uj,TR];refine ak ?_;refine aJ (?_);rw[hN];have sg:∀n,Lt n (.aN []):=λn=>by simp[jK]
 have du:=Bp (k:=4) (l:=ns) (by omega);have cut:∀(eg:List Int)(σ':S)(L:List aa)(a:AV)(k:AV->List aa->Prop),(∀n,Lt n a)->k a (Gf eg σ')->cF (Gf tc σ).length (Gf eg σ'++L) a k:=λeg σ' L a k ha aI=>by
  refine jU (H':=Gf eg σ') (Wk.refl _) rfl (by rw[(hY eg).len,(hY tc).len];exact SO _) ?_ (ha _) aI;intro z hz;have h1:∀z∈Gf eg σ,eQ N z:=aq N tc eg σ (λw hw=>by have:=hH w hw;rwa [hN]at this);rw[(hY eg).len];exact(hY eg).ok N σ σ' h1 z hz
 refine aiy (x:=x) (h:=h) (ns:=ns) (qs:=qs) hx h4 gK hY hr ht cR hs AY tM x.aA.length 0 0 [] tc σ [] _ _ rfl (by decide) rfl ⟨?_,?_,?_⟩ hI hA (λeg th=> ?_)
 ·rw[yJ];simp[dT,h4,du]
 ·rw[yJ];unfold dT;rw[List.map_nil,SN,Tw (by simp[h4,du]),SS (by simp[h4,du])]
 ·rw[yJ];unfold dT;rw[VA,TY (by simp[h4,du]),UL];have:(h++lq 4 ns).length=8:=by simp[h4,du]
  rw[this];have:x.aA.length=0\/x.aA.length=1\/x.aA.length=2\/x.aA.length=3:=by omega
  rcases this with e|e|e|e<;>rw[e]<;>rfl
 have hk:=hk eg th.len;change cX (Gf eg) pv _ _ _ (bE f ((iB x h ns).map (dE h ns)) σ);cases hf:bE f ((iB x h ns).map (dE h ns)) σ with
 |go s=>
  rw[hf]at hk;simp only[cX,gg]at hk⊢;rw[SN]at hk;(try simp only[seval]);rw[<- hN];exact cut _ _ _ _ _ sg hk
 |stop s=>
  rw[hf]at hk;simp only[cX,gg]at hk⊢;rw[SN]at hk;(try simp only[seval]);rw[<- hN];exact cut _ _ _ _ _ sg hk
 |bad s=>
  rw[hf]at hk;simp only[cX,gg]at hk⊢;rw[SN]at hk;rw[<- hN];exact cut _ _ _ _ _ me hk
end
section
variable {lv:Bool}{P:SI}{s:AS}{ms:List Nat}{bs:List U2}{nt:Nat}
theorem agr{f:Tj}{ps:Array Tmp}{bM body:T7}{fv:AV}{Φ:an->AS->List Nat->Prop}(hf:s.ev f=some fv)
  (h:∀(l fn:Nat)(T:List (Nat×AV))(ag bo:T7),T=s.T->ag=bM->bo=body->jb lv P fv (s.H++[.obj (.deferred (some [])),.loop l .ready none fn T nt ps ag bo s.H.length]) [.fn (.yield l) [] []]
   (λ_ H'=>∃st pe fA T' jn gC gh fh gn,H'[s.H.length+1]?=some (.loop l st pe fA T' jn gC gh fh gn)/\st≠ .busy/\sL Φ ⟨s.T,H'.set (s.H.length+1) .gone⟩ (s.H.length::ms) pe)
   (λpv H'=>Φ (.panic pv) ⟨s.T,H'⟩ (s.H.length::ms))):mz lv P nt (.rangeFunc f ps bM body) s ms Φ:=agq hf λl fn=>h l fn _ _ _ rfl rfl rfl
theorem Ji{f:Tj}{ps:Array Tmp}{bM body:T7}{fv:AV}{Φ:an->AS->List Nat->Prop}(hf:s.ev f=some fv)
  (h:∀(l fn:Nat)(T:List (Nat×AV))(ag bo:T7),T=s.T->ag=bM->bo=body->jb lv P fv (s.H++[.obj (.deferred (some [])),.loop l .ready none fn T nt ps ag bo s.H.length]) [.fn (.yield l) [] []]
   (λ_ H'=>∃st pe fA T' jn gC gh fh gn,H'[s.H.length+1]?=some (.loop l st pe fA T' jn gC gh fh gn)/\st≠ .busy/\sL Φ ⟨s.T,H'.set (s.H.length+1) .gone⟩ (s.H.length::ms) pe)
   (λpv H'=>Φ (.panic pv) ⟨s.T,H'⟩ (s.H.length::ms))):kz lv P nt bs (.rangeFunc f ps bM body) s ms Φ:=agu hf λl fn=>h l fn _ _ _ rfl rfl rfl
theorem Fx{f:Tj}{ps:Array Tmp}{bM body:T7}{fv:AV}{Φ:an->AS->Prop}{l0:Nat}(He:Nat){Ku Nw df:Nat}{Oo:aa'}{NL:Option T7}{T0:List (Nat×AV)}{N4:Array Tmp}{Jb Jn:T7}(hf:s.ev f=some fv)(h0:s.H[He]?=some (.loop l0 Oo NL Ku T0 Nw N4 Jb Jn df))
  (h:∀(l fn:Nat)(T:List (Nat×AV))(ag bo:T7),T=s.T->ag=bM->bo=body->jb lv P fv (s.H++[.loop l .ready none fn T nt ps ag bo df]) [.fn (.yield l) [] []]
   (λ_ H'=>∃st pe fA T' jn gC gh fh gn,H'[s.H.length]?=some (.loop l st pe fA T' jn gC gh fh gn)/\st≠ .busy/\um Φ ⟨s.T,H'.set s.H.length .gone⟩ pe)
   (λpv H'=>Φ (.panic pv) ⟨s.T,H'⟩)):aP lv P (some l0) nt (.rangeFunc f ps bM body) s Φ:=agf hf h0 λl fn=>h l fn _ _ _ rfl rfl rfl
end
section
variable {P:SI}
theorem HU(Φ:an->AS->List Nat->Prop)(s:AS)(ms:List Nat):sL Φ s ms none=Φ .normal s ms:=by rw[sL]
theorem apg(Φ:an->AS->List Nat->Prop)(s:AS)(ms:List Nat):sL Φ s ms (some .ret)=Φ .ret s ms:=by rw[sL]
theorem HV(Φ:an->AS->Prop)(s:AS):um Φ s none=Φ .normal s:=by rw[um]
theorem api(Φ:an->AS->Prop)(s:AS):um Φ s (some .ret)=Φ .ret s:=by rw[um]
theorem aph(Φ:an->AS->Prop)(s:AS)(i:Nat):um Φ s (some (.exit i))=Φ (.exit i) s:=by rw[um]
theorem agN(id:Nat)(Φ:an->AS->List Nat->Prop)(s:AS)(ms:List Nat):an.p_ id Φ .ret s ms=Φ .ret s ms:=by rw[an.p_];simp
theorem agM(id:Nat)(Φ:an->AS->List Nat->Prop)(pv:AV)(s:AS)(ms:List Nat):an.p_ id Φ (.panic pv) s ms=Φ (.panic pv) s ms:=by rw[an.p_];simp
theorem arF(Φ:an->AS->List Nat->Prop)(pv:AV)(s:AS)(ms:List Nat):an.vI Φ (.panic pv) s ms=Φ (.panic pv) s ms:=by rw[an.vI];simp
theorem asn(K:AS->List Nat->Prop)(Φ:an->AS->List Nat->Prop)(pv:AV)(s:AS)(ms:List Nat):an.sw K Φ (.panic pv) s ms=Φ (.panic pv) s ms:=by rw[an.sw];simp
theorem ajN(rs:List UQ)(n:Nat)(k kp:AV->List aa->Prop)(s:AS)(ms:List Nat):sH P rs n k kp .normal s ms=ao (iP ms s.H) λH'=>ao (ie P ⟨s.T,H'⟩ rs) λl=>cF n H' (i_ l) k:=by rw[sH]
theorem ajO(rs:List UQ)(n:Nat)(k kp:AV->List aa->Prop)(pv:AV)(s:AS)(ms:List Nat):sH P rs n k kp (.panic pv) s ms=ao (iP ms s.H) λH'=>cF n H' pv kp:=by rw[sH]
attribute [seval] agN agM arF asn ajN ajO
end
inductive Lp where
 |ready
 |ret
 |exit (i:Nat)
 |busy
def Lp.st:Lp->aa'
 |.ready=> .ready
 |.ret=> .done
 |.exit _=> .done
 |.busy=> .busy
def Lp.pe:Lp->Option T7
 |.ready=>none
 |.ret=>some .ret
 |.exit i=>some (.exit i)
 |.busy=>none
namespace Tk
def dG.map {S T:Type}(g:S->T):dG S->dG T
 |.go s=> .go (g s)
 |.stop s=> .stop (g s)
 |.bad s=> .bad (g s)
def dG.fin {S:Type}:dG S->Bool×S
 |.go s=>(false,s)
 |.stop s=>(false,s)
 |.bad s=>(true,s)
end Tk
theorem N_{S:Type}{Gf:S->List aa}{pv:AV}{k kp:AV->List aa->Prop}{M:List aa}{r r':dG S}(h:r.fin=r'.fin)(hk:gg Gf pv k kp M r):gg Gf pv k kp M r':=by
 cases r<;>cases r'<;>simp only[dG.fin,U7]at h<;>first
  |(obtain⟨_,rfl⟩:=h;exact hk)
  |(exact absurd h.1 (by decide))
end Go.Gg
namespace Go.Gg.Tk
open Go.Gg
def ja {S:Type}(f:S->List Int->dG S)(deep:Int)(m:S×Lp)(b:List Int):dG (S×Lp):=match f m.1 b with
 |.go σ=>if deep=0 then .stop (σ,.ret)else if deep=1 then .stop (σ,.exit 3)else .go (σ,.ready)
 |.stop σ=> .stop (σ,.ret)
 |.bad σ=> .bad (σ,.busy)
def kR {S:Type}:dG (S×Lp)->dG (S×Lp)
 |.go m=> .go (m.1,.ready)
 |.stop (σ,.ret)=> .stop (σ,.ret)
 |.stop (σ,_)=> .go (σ,.ready)
 |.bad m=> .bad (m.1,.busy)
def pS {S:Type}(f:S->List Int->dG S)(deep:Int)(L:List Int->List (List Int))(m:S×Lp)(a:List Int):dG (S×Lp):=kR (bE (ja f deep) (L a) (m.1,.ready))
def sj (deep:Int)(ll:List (List (List Int))):List (List Int):=if deep=0 then ll.flatten.take 1 else if deep=1 then(ll.map (·.take 1)).flatten else ll.flatten
theorem asC{S:Type}{f:S->List Int->dG S}{σ:S}{l:Lp}:∀(M:List (List Int)),bE (ja f 0) M (σ,l)=match M with
  |[]=> .go (σ,l)
  |b::_=>match f σ b with
   |.go τ=> .stop (τ,.ret)
   |.stop τ=> .stop (τ,.ret)
   |.bad τ=> .bad (τ,.busy)
 |[]=>rfl
 |b::M=>by
  simp only[bE,ja];cases f σ b<;>simp
theorem asD{S:Type}{f:S->List Int->dG S}{σ:S}{l:Lp}:∀(M:List (List Int)),bE (ja f 1) M (σ,l)=match M with
  |[]=> .go (σ,l)
  |b::_=>match f σ b with
   |.go τ=> .stop (τ,.exit 3)
   |.stop τ=> .stop (τ,.ret)
   |.bad τ=> .bad (τ,.busy)
 |[]=>rfl
 |b::M=>by
  simp only[bE,ja];cases f σ b<;>simp
theorem ad9{S:Type}{f:S->List Int->dG S}{deep:Int}(h0:deep≠0)(h1:deep≠1):∀(M:List (List Int))(σ:S),bE (ja f deep) M (σ,.ready)=match bE f M σ with
  |.go τ=> .go (τ,.ready)
  |.stop τ=> .stop (τ,.ret)
  |.bad τ=> .bad (τ,.busy)
 |[],σ=>rfl
 |b::M,σ=>by
  simp only[bE,ja,h0,h1,if_false];cases f σ b with
  |go τ=>exact ad9 h0 h1 M τ
  |stop τ=>rfl
  |bad τ=>rfl
theorem aea{S:Type}{f:S->List Int->dG S}{deep:Int}{L:List Int->List (List Int)}:∀(l:List (List Int))(σ:S),((bE (pS f deep L) l (σ,.ready)).map Prod.fst).fin=(bE f (sj deep (l.map L)) σ).fin/\(∀m,bE (pS f deep L) l (σ,.ready)=.go m->m.2=.ready)
 |[],σ=>by
  have:sj deep (([]:List (List Int)).map L)=[]:=by
   unfold sj;by_cases h0:deep=0
   ·rw[if_pos h0];rfl
   ·by_cases h1:deep=1
    ·rw[if_neg h0,if_pos h1];rfl
    ·rw[if_neg h0,if_neg h1];rfl
  rw[this];exact⟨rfl,λm h=>by cases h;rfl⟩
 |a::l,σ=>by
  have ih:=aea (f:=f) (deep:=deep) (L:=L) l;by_cases h0:deep=0
  ·subst h0;have hp:sj 0 ((a::l).map L)=(L a++(l.map L).flatten).take 1:=rfl;have jW:sj 0 (l.map L)=((l.map L).flatten).take 1:=rfl;rw[hp];simp only[bE,pS,asC];cases hL:L a with
   |nil=>
    simp only[kR,UL];rw[<- jW];exact ih σ
   |cons b M=>
    simp only[Vm,VT,al'];cases hf:f σ b with
    |go τ=>simp only[kR,bE,hf];exact⟨rfl,λm h=>by cases h⟩
    |stop τ=>simp only[kR,bE,hf];exact⟨rfl,λm h=>by cases h⟩
    |bad τ=>simp only[kR,bE,hf];exact⟨rfl,λm h=>by cases h⟩
  by_cases h1:deep=1
  ·subst h1;have hp:sj 1 ((a::l).map L)=(L a).take 1++sj 1 (l.map L):=rfl;rw[hp,qJ];simp only[bE,pS,asD];cases hL:L a with
   |nil=>
    simp only[kR,YE,bE];exact ih σ
   |cons b M=>
    simp only[VT,al',bE];cases hf:f σ b with
    |go τ=>simp only[kR];exact ih τ
    |stop τ=>simp only[kR];exact⟨rfl,λm h=>by cases h⟩
    |bad τ=>simp only[kR];exact⟨rfl,λm h=>by cases h⟩
  ·have hp:sj deep ((a::l).map L)=L a++sj deep (l.map L):=(by unfold sj;rw[if_neg h0,if_neg h1,if_neg h0,if_neg h1];rfl);rw[hp,qJ];simp only[bE,pS];rw[ad9 h0 h1];cases hf:bE f (L a) σ with
   |go τ=>simp only[kR];exact ih τ
   |stop τ=>simp only[kR];exact⟨rfl,λm h=>by cases h⟩
   |bad τ=>simp only[kR];exact⟨rfl,λm h=>by cases h⟩
theorem Oc{S α:Type}{F:S->α->dG S}:∀{l:List α}{s s':S},bE F l s=.stop s'->∃t a,F t a=.stop s'
 |[],s,s',h=>by cases h
 |a::l,s,s',h=>by
  simp only[bE]at h;cases hf:F s a with
  |go t=>rw[hf]at h;exact Oc h
  |stop t=>rw[hf]at h;cases h;exact⟨s,a,hf⟩
  |bad t=>rw[hf]at h;cases h
theorem asB{S:Type}{f:S->List Int->dG S}{deep:Int}{L:List Int->List (List Int)}{m m':S×Lp}{a:List Int}(h:pS f deep L m a=.stop m'):m'.2=.ret:=by
 unfold pS at h;generalize bE (ja f deep) (L a) (m.1,.ready)=r at h;cases r with
 |go q=>cases h
 |bad q=>cases h
 |stop q=>
  obtain⟨s,lp⟩:=q;cases lp<;>cases h;rfl
theorem asF{S:Type}{f:S->List Int->dG S}{deep:Int}{m m':S×Lp}{a:List Int}(h:ja f deep m a=.stop m'):m'.2=.ret\/m'.2=.exit 3:=by
 unfold ja at h;cases hf:f m.1 a with
 |go q=>
  rw[hf]at h;dsimp only at h;by_cases h0:deep=0
  ·rw[if_pos h0]at h;cases h;exact .inl rfl
  ·rw[if_neg h0]at h;by_cases h1:deep=1
   ·rw[if_pos h1]at h;cases h;exact .inr rfl
   ·rw[if_neg h1]at h;cases h
 |stop q=>rw[hf]at h;cases h;exact .inl rfl
 |bad q=>rw[hf]at h;cases h
theorem asE{S:Type}{f:S->List Int->dG S}{deep:Int}{m m':S×Lp}{a:List Int}(h:ja f deep m a=.go m'):m'.2=.ready:=by
 unfold ja at h;cases hf:f m.1 a with
 |go q=>
  rw[hf]at h;dsimp only at h;by_cases h0:deep=0
  ·rw[if_pos h0]at h;cases h
  ·rw[if_neg h0]at h;by_cases h1:deep=1
   ·rw[if_pos h1]at h;cases h
   ·rw[if_neg h1]at h;cases h;rfl
 |stop q=>rw[hf]at h;cases h
 |bad q=>rw[hf]at h;cases h
theorem acU{S α:Type}{F:S->α->dG S}{J:S->Prop}{A:α->Prop}(hi:∀s a s',J s->A a->F s a=.go s'->J s'):∀{l:List α}{s s':S},(∀a∈l,A a)->J s->bE F l s=.stop s'->∃t a,J t/\A a/\F t a=.stop s'
 |[],s,s',_,_,h=>by cases h
 |a::l,s,s',ha,hs,h=>by
  simp only[bE]at h;cases hf:F s a with
  |go t=>rw[hf]at h;exact acU hi (λb hb=>ha b (by simp[hb])) (hi s a t hs (ha a (by simp)) hf) h
  |stop t=>rw[hf]at h;cases h;exact⟨s,a,hs,ha a (by simp),hf⟩
  |bad t=>rw[hf]at h;cases h
theorem EG{S:Type}{f:S->List Int->dG S}{deep:Int}{I:S->Prop}{A:List Int->Prop}(hi:∀s a s',I s->A a->f s a=.go s'->I s'){m m':S×Lp}{a:List Int}(hm:I m.1)(ha:A a)(h:ja f deep m a=.go m'\/ja f deep m a=.stop m'/\m'.2≠ .ret):I m'.1:=by
 unfold ja at h;cases hf:f m.1 a with
 |go q=>
  have hq:=hi _ _ _ hm ha hf;rw[hf]at h;dsimp only at h;by_cases h0:deep=0
  ·rw[if_pos h0]at h;rcases h with h|⟨h,h2⟩
   ·cases h
   ·cases h;exact hq
  ·rw[if_neg h0]at h;by_cases h1:deep=1
   ·rw[if_pos h1]at h;rcases h with h|⟨h,h2⟩
    ·cases h
    ·cases h;exact hq
   ·rw[if_neg h1]at h;rcases h with h|⟨h,h2⟩
    ·cases h;exact hq
    ·cases h
 |stop q=>
  rw[hf]at h;rcases h with h|⟨h,h2⟩
  ·cases h
  ·cases h;exact absurd rfl h2
 |bad q=>
  rw[hf]at h;rcases h with h|⟨h,h2⟩
  ·cases h
  ·cases h
theorem afC{S:Type}{f:S->List Int->dG S}{deep:Int}{I:S->Prop}{A:List Int->Prop}(hi:∀s a s',I s->A a->f s a=.go s'->I s'){l:List (List Int)}{σ:S}{m:S×Lp}(hl:∀a∈l,A a)(hs:I σ)(h:kR (bE (ja f deep) l (σ,.ready))=.go m):I m.1/\m.2=.ready:=by
 cases hr:bE (ja f deep) l (σ,.ready)with
 |go q=>
  rw[hr]at h;cases h;exact⟨Bu (f:=ja f deep) (s':=q) (I:=λm:S×Lp=>I m.1) (A:=A) (λs a s' h1 h2 h3=>EG hi h1 h2 (.inl h3)) l _ hl hs hr,rfl⟩
 |stop q=>
  obtain⟨t,a,h1,h2,h3⟩:=acU (J:=λm:S×Lp=>I m.1) (A:=A) (λs a s' h1 h2 h3=>EG hi h1 h2 (.inl h3)) hl hs hr;rw[hr]at h;obtain⟨q1,q2⟩:=q;cases q2 with
  |ret=>cases h
  |ready=>cases h;exact⟨EG (m':=(q1,.ready)) hi h1 h2 (.inr ⟨h3,by simp⟩),rfl⟩
  |exit i=>cases h;exact⟨EG (m':=(q1,.exit i)) hi h1 h2 (.inr ⟨h3,by simp⟩),rfl⟩
  |busy=>cases h;exact⟨EG (m':=(q1,.busy)) hi h1 h2 (.inr ⟨h3,by simp⟩),rfl⟩
 |bad q=>rw[hr]at h;cases h
end Go.Gg.Tk
namespace Go.Gg
open Go.Conc Go.Proofs Go.Gg.Tk
namespace Tk
def nd (l:List Nat)(i:Nat):List Nat:=l.take i++TJ (3-i) 0
theorem agG{l:List Nat}{i q:Nat}(h:l[i]?=some q)(hl:l.length<=3):(nd l i).set i q=nd l (i+1):=by
 have hi:=eN h;unfold nd;rw[Ud _ _ (by simp;omega),show i-(l.take i).length=0 by simp;omega,show 3-i=(3-(i+1))+1 by omega,WA,T4,WE,h];simp
theorem PW{l:List Nat}{i:Nat}(hi:i<=l.length)(hl:l.length<=3):(nd l i).length=3:=by simp[nd];omega
theorem agF{l:List Nat}:nd l l.length=l++TJ (3-l.length) 0:=by simp[nd]
theorem acb:∀{qs:List Nat}{u:Nat}{t ns:List Nat},ns∈kK qs u t->ns.length=t.length+qs.length
 |[],u,t,ns,h=>by
  simp only[kK,S8]at h;subst h;rfl
 |q::qs,u,t,ns,h=>by
  simp only[kK,S6]at h;obtain⟨n,_,h⟩:=h;split at h
  ·cases h
  ·have:=acb h;simp at this⊢;omega
theorem Ny{x:aj}{h:List Int}{ns:List Nat}(hm:ns∈fZ x h):ns.length=x.pieces.length:=by
 have:=acb hm;simpa using this
def HE (k:Nat)(a:List Int):List Nat:=((a.drop 4).take k).map Yb
theorem aol{h:List Int}{ns:List Nat}(h4:h.length=4):HE ns.length (dT h ns)=ns:=by
 unfold HE dT lq;rw[SC,VA,TY (by omega),h4,UL,Vd,XD,SC,Tw (by simp),SS (by simp),WM]
 conv=>rhs;rw[<- List.map_id ns]
 exact Vg λn _=>by simp
def vd (x:aj)(h:List Int)(a:List Int):List (List Int):=(iB x h (HE x.pieces.length a)).map (dE h (HE x.pieces.length a))
theorem MP{x:aj}{h:List Int}{ns:List Nat}(h4:h.length=4)(hn:ns.length=x.pieces.length):vd x h (dT h ns)=(iB x h ns).map (dE h ns):=by
 unfold vd;rw[<- hn,aol h4]
theorem asL{x:aj}{h:List Int}{deep:Int}(h4:h.length=4):iM x deep h=sj deep (((fZ x h).map (dT h)).map (vd x h)):=by
 rw[WM];have:(fZ x h).map (vd x h∘dT h)=(fZ x h).map λns=>(iB x h ns).map λos=>dE h ns os:=Vg λns hm=>MP h4 (Ny hm);rw[this];rfl
end Tk
section
variable {lv:Bool}
theorem Kc{H:List aa}{k kp:AV->List aa->Prop}{x:aj}{h:List Int}{deep:Int}(hk:k (.fn (.func 91) [] [.op H.length 0,.op (H.length+1) 0,.op (H.length+2) 0]) (H++[.cells x.l 76,.cells (h.map iv) 83,.cells [iv deep] 3])):bf lv SA 66 H [x.av,.agg (h.map iv),iv deep] k kp:=by
 refine bI (rs:=[.tmp 6]) (nt:=8) Tryz.f66 λhH hA=> ?_;simp only[bt,SY,aj.av];refine ak ?_;refine ai ?_;simp only[seval,Ub,UE,Uj,TR];refine bc ?_;exact b9 hk
theorem Kg{x:aj}{h:List Int}{deep:Int}{N ir ih id:Nat}{yv pv:AV}{S:Type}{f:S->List Int->dG S}{Gf:S->List aa}{I:S->Prop}{A:List Int->Prop}{σ:S}{k kp:AV->List aa->Prop}(hx:x.Ok)(hh:mA h)(hY:jP lv SA yv f Gf N I A pv)(hr:∀σ L,(Gf σ++L)[ir]?=some (.cells x.l 76))(hi:∀σ L,(Gf σ++L)[ih]?=some (.cells (h.map iv) 83))(hd:∀σ L,(Gf σ++L)[id]?=some (.cells [iv deep] 3))
  (me:∀n,Lt n pv) (hI:I σ) (qf:∀a,A a->a.length=11) (hA:∀ns∈fZ x h,∀a∈(iB x h ns).map (dE h ns),A a) (hk:gg Gf pv k kp [] (bE f (iM x deep h) σ)):bf lv SA 91 (Gf σ) [yv,.op ir 0,.op ih 0,.op id 0] k kp:=by
 refine Rn (rs:=[]) (nt:=44) F.f91 rfl rfl rfl (by simp) λhH uC=> ?_;simp only[bt,SY];have hN:=hY.len σ;have yG:=hx.de;have bP:x.l=[iv x.first,iv x.hours,iv x.am,cY x.seen,aL x.pieces,aL x.aA]:=rfl;have nm:(h.map iv).length=4:=by rw[S9,hh.len]
 refine nc ?_;refine ai ?_;simp only[seval,hY.parts];refine ags ?_;refine nc ?_;refine ak ?_;refine Jh ?_;refine nc ?_;refine ai ?_;simp only[seval,hr,bP,aL];refine Jg ?_;refine bY ?_;refine gF x.aA.length (λi:Nat=>[(14,iv i)]) (λi=>Gf σ++[.cells [yv] 132,.cells ((nd (x.aA.map (b_ h)) i).map λn=>wv n) 81]) (λi=>True) (λ_ _=>rfl) (by simp only[seval];simp[bm,Wk.refl]) rfl (λ_ _ _=>by simp) trivial (λbJ cm i cK _ R hR=> ?_);refine ak ?_;refine aD ?_;refine⟨λhc=> ?_,λhc=> ?_⟩
 ·have bB:i<x.aA.length:=by omega
  obtain⟨y,hy⟩:=bZ bB;have va:(x.aA.map (b_ h))[i]?=some (b_ h y):=by rw[To,hy];rfl
  have b3:(0<=(i:Int)/\(i:Int)<3)=True:=by simp;omega
  have bC:SD.wrap ((i:Int)+1)=((i+1:Nat):Int):=by rw[bw _ (by omega)];rfl
  have cN:(nd (x.aA.map (b_ h)) i).length=3:=PW (by simp;omega) (by simpa using yG);have wB:((nd (x.aA.map (b_ h)) i).map λn=>wv n).length=3:=by rw[S9,cN]
  refine aO ?_;refine ai ?_;simp only[seval,xj hy,jR bB];refine ai ?_;simp only[seval,hi,nm];rw[SS (i:=4) (l:=h.map iv) (by rw[nm];exact SO _)];refine aJ ((FT (h:=h) (y:=y) hh ?_));(try simp only[seval,b3,wB]);refine⟨by omega,?_⟩;rw[Oi (g:=λn=>wv n) (show i<(nd (x.aA.map (b_ h)) i).length by omega),agG va (by simpa using yG)];refine ai ?_;simp only[seval,bC];exact hR _ ⟨bB,trivial,Bt (pL rfl rfl) (by simp only[seval];simp[bm,Wk.refl]) (aaG (L:=[_]) bJ (acj _ _)) (by simp[eC])⟩
 have:i=x.aA.length:=by omega
 subst this;clear hc cK;refine bU ?_;have AY:∃r,nd (x.aA.map (b_ h)) x.aA.length=x.aA.map (b_ h)++r:=⟨_,by
  have:=agF (l:=x.aA.map (b_ h));simpa using this⟩
 have tM:(nd (x.aA.map (b_ h)) x.aA.length).length=3:=PW (by simp) (by simpa using yG);have Mg:((nd (x.aA.map (b_ h)) x.aA.length).map λn=>wv n).length=3:=by rw[S9,tM]
 generalize nd (x.aA.map (b_ h)) x.aA.length=qs at AY tM Mg;refine nc ?_;(repeat apply im);refine PE ?_;simp only[seval];refine nc ?_;refine ai ?_;simp only[seval,hr,bP,hi,nm];rw[SS (i:=4) (l:=h.map iv) (by rw[nm];exact SO _)];refine aJ ((aji (x:=x) (h:=h) ?_));(try simp only[seval]);refine agp ?_;refine agr (by rfl) λl fn T ag bo hT yj qj=> ?_;(try simp only[seval]);rw[hN]at hT⊢;have h4:=hh.len;have akr:jP lv SA (.fn (.yield l) [] []) (pS f deep (vd x h)) (λm:S×Lp=>Gf m.1++[.cells [yv] 132,.cells (qs.map λn=>wv n) 81,.cells x.l 76,.cells (h.map iv) 83,.obj (.deferred (some [])),.loop l m.2.st m.2.pe fn T 44 #[28] ag bo (N+4)]) (N+6) (λm=>I m.1/\m.2=.ready) (λa=>∃ns∈fZ x h,a=dT h ns) pv:=by
  have g3:∀(σ:S)(L:List aa),(Gf σ++L)[N+1]?=L[1]?:=λσ L=>hY.get σ L 1;have g5:∀(σ:S)(L:List aa),(Gf σ++L)[N+5]?=L[5]?:=λσ L=>hY.get σ L 5;have s5:∀(σ:S)(L:List aa) y,(Gf σ++L).set (N+5) y=Gf σ++L.set 5 y:=λσ L y=>hY.set σ L 5 y;refine⟨λm a M k kp hm ha dO=> ?_,λm a m' hm ha he=> ?_,λm=>by simp[hY.len],λq m m' hz z eW=> ?_,rfl,rfl,rfl⟩
  ·obtain⟨σ,lp⟩:=m;obtain⟨KO,g_⟩:=hm;replace KO:I σ:=KO;replace g_:lp=.ready:=g_;subst g_;obtain⟨ns,gK,rfl⟩:=ha;have jG:=Ny gK;have qC:(dT h ns).length=11:=(by simp[dT,h4,Bp (k:=4) (l:=ns) (by have:=hx.ec;omega)]);have A4:((dT h ns).map iv).length=11:=(by rw[S9,qC]);obtain⟨Lo,kX⟩:∃Lo,Lo=aa.loop l .busy none fn T 44 #[28] ag bo (N+4):=⟨_,rfl⟩;obtain⟨P1,dB⟩:∃P1:S->List aa,∀σ,P1 σ=Gf σ++([.cells [yv] 132,.cells (qs.map λn=>wv n) 81,.cells x.l 76,.cells (h.map iv) 83,.obj (.deferred (some [])),Lo]++M):=⟨_,λ_=>rfl⟩;have eo:∀σ,(P1 σ).length=N+6+M.length:=λσ=>(by rw[dB];simp[hY.len];omega);have pg:∀(σ:S)(L:List aa)(i:Nat),i<6->(P1 σ++L)[N+i]?=[aa.cells [yv] 132,.cells (qs.map λn=>wv n) 81,.cells x.l 76,.cells (h.map iv) 83,.obj (.deferred (some [])),Lo][i]?:=λσ L i LB=>by
    rw[dB,SC,hY.get,SC,SX (by simpa using LB)]
   have pr:∀(σ:S)(L:List aa),(P1 σ++L)[ir]?=some (.cells x.l 76):=λσ L=>(by rw[dB,SC];exact hr σ _);have pd:∀(σ:S)(L:List aa),(P1 σ++L)[id]?=some (.cells [iv deep] 3):=λσ L=>(by rw[dB,SC];exact hd σ _);have pb:∀(σ:S)(L:List aa)(i:Nat),(P1 σ++L)[N+6+M.length+i]?=L[i]?:=λσ L i=>(by rw[<- eo σ,aY]);have xf:∀(σ:S)(L:List aa),(P1 σ++L)[N+6+M.length]?=L[0]?:=λσ L=>pb σ L 0;have pg1:∀(σ:S)(L:List aa),(P1 σ++L)[N+1]?=some (.cells (qs.map λn=>wv n) 81):=λσ L=>pg σ L 1 (by omega);have pg0:∀(σ:S)(L:List aa),(P1 σ++L)[N]?=some (.cells [yv] 132):=λσ L=>pg σ L 0 (by omega);have Sy:∀(τ:S)(lp:Lp),bH (Gf σ++(([aa.cells [yv] 132,.cells (qs.map λn=>wv n) 81,.cells x.l 76,.cells (h.map iv) 83,.obj (.deferred (some [])),.loop l .ready none fn T 44 #[28] ag bo (N+4)]:List aa)++M))->bH (Gf τ++(([aa.cells [yv] 132,.cells (qs.map λn=>wv n) 81,.cells x.l 76,.cells (h.map iv) 83,.obj (.deferred (some [])),.loop l lp.st lp.pe fn T 44 #[28] ag bo (N+4)]:List aa)++M)):=λτ lp iq z hz=>by
    have hlen:(Gf τ++(([aa.cells [yv] 132,.cells (qs.map λn=>wv n) 81,.cells x.l 76,.cells (h.map iv) 83,.obj (.deferred (some [])),.loop l lp.st lp.pe fn T 44 #[28] ag bo (N+4)]:List aa)++M)).length=(Gf σ++(([aa.cells [yv] 132,.cells (qs.map λn=>wv n) 81,.cells x.l 76,.cells (h.map iv) 83,.obj (.deferred (some [])),.loop l .ready none fn T 44 #[28] ag bo (N+4)]:List aa)++M)).length:=(by simp[hY.len]);have hl:=iq (.loop l .ready none fn T 44 #[28] ag bo (N+4)) (by simp);rw[hlen];rcases SQ.1 hz with h'|h'
    ·exact hY.ok _ σ τ (λw hw=>iq w (Th _ hw)) z h'
    ·rcases SQ.1 h' with h'|h'
     ·simp only[SK,SZ,or_false]at h';rcases h' with rfl|rfl|rfl|rfl|rfl|rfl
      ·exact iq _ (by simp)
      ·exact iq _ (by simp)
      ·exact iq _ (by simp)
      ·exact iq _ (by simp)
      ·exact iq _ (by simp)
      ·exact hl
     ·exact iq z (S4 _ (S4 _ h'))
   have Ki:bH (Gf σ++(([aa.cells [yv] 132,.cells (qs.map λn=>wv n) 81,.cells x.l 76,.cells (h.map iv) 83,.obj (.deferred (some [])),.loop l .ready none fn T 44 #[28] ag bo (N+4)]:List aa)++M))->∀(τ:S)(lp:Lp)(b':Bool)(TT:List (Nat×AV))(L:List aa),k (bv b') ((Gf τ++[.cells [yv] 132,.cells (qs.map λn=>wv n) 81,.cells x.l 76,.cells (h.map iv) 83,.obj (.deferred (some [])),.loop l lp.st lp.pe fn T 44 #[28] ag bo (N+4)])++M)->oZ (N+5) (N+6+M.length) k lp.st lp.pe b' ⟨TT,P1 τ++L⟩:=λiq τ lp b' TT L dO=>by
    refine⟨l,.busy,none,fn,T,44,#[28],ag,bo,N+4,by show (P1 τ++L)[_]?=_;rw[pg τ _ 5 (by omega),kX];rfl,?_⟩;show cF (N+6+M.length) ((P1 τ++L).set _ _) _ k;rw[dB,SC,s5];rw[SC]at dO;exact jU (G:=L) (Wk.refl _) (by simp) (by simp[hY.len];omega) (Sy τ lp iq) (.val _) dO
   have ajA:bH (Gf σ++(([aa.cells [yv] 132,.cells (qs.map λn=>wv n) 81,.cells x.l 76,.cells (h.map iv) 83,.obj (.deferred (some [])),.loop l .ready none fn T 44 #[28] ag bo (N+4)]:List aa)++M))->∀(τ:S)(L:List aa),kp pv ((Gf τ++[.cells [yv] 132,.cells (qs.map λn=>wv n) 81,.cells x.l 76,.cells (h.map iv) 83,.obj (.deferred (some [])),.loop l Lp.busy.st Lp.busy.pe fn T 44 #[28] ag bo (N+4)])++M)->cF (N+6+M.length) (P1 τ++L) pv kp:=λiq τ L dO=>by
    rw[SC]at dO;rw[dB,kX];exact jU (G:=L) (Wk.refl _) rfl (by simp[hY.len];omega) (Sy τ .busy iq) (me _) dO
   subst hT yj qj;rw[SC];refine wc (id:=N+5) (by rw[g5];rfl) rfl (by kernel_rfl) λov KH=> ?_;simp only[sC];have wF:TH 11 [iv 0,iv 0,iv 0,iv 0,iv 0,iv 0,iv 0,iv 0,iv 0,iv 0,iv 0]=[]:=rfl;refine ai ?_;simp only[seval,qC,wF];unfold un;refine⟨none,fn,_,44,#[28],_,_,_,by rw[g5];rfl,?_⟩;dsimp only;rw[s5];simp only[UJ,T4];rw[<- kX];have ye:(Gf σ).length+(M.length+1+1+1+1+1+1)=N+6+M.length:=(by rw[hY.len];omega);rw[ye];have yr:∀z:aa,Gf σ++aa.cells [yv] 132::aa.cells (Ve (λn=>wv n) qs) 81::aa.cells x.l 76::aa.cells (Ve iv h) 83::aa.obj (au_ (some []))::Lo::(M++[z])=P1 σ++[z]:=λz=>(by rw[dB];simp);rw[yr];refine ai ?_;simp only[seval,pr,bP,xf,pg1,A4,qC,Mg,tM];rw[SS (i:=11) (l:=(dT h ns).map iv) (by rw[A4];exact SO _),SS (i:=3) (l:=qs.map λn=>wv n) (by rw[Mg];exact SO _)];refine aJ ((ajj (x:=x) (tc:=dT h ns) (qs:=qs) ?_));(try simp only[seval]);refine bY ?_;have qt:∀(σ:S)(a b c d:aa),(P1 σ++[a,b,c,d]).length=N+6+M.length+4:=λσ a b c d=>(by simp[eo]);refine Fx (N+5) (by rfl) (by show (P1 σ++_)[N+5]?=_;rw[pg σ _ 5 (by omega),kX];rfl) λl2 eM T2 gE gG ox yk yl=> ?_;simp only[seval];rw[eo]at ox⊢;have Bg:∀(σ τ:S)(L L':List aa),L'.length=L.length->(∀q,(∀z∈L,eQ q z)->∀z∈L',eQ q z)->bH (P1 σ++L)->bH (P1 τ++L'):=λσ τ L L' hl hL hH z hz=>by
    have hlen:(P1 τ++L').length=(P1 σ++L).length:=(by simp[eo,hl]);rw[hlen];rcases SQ.1 hz with h'|h'
    ·rw[dB]at h';rcases SQ.1 h' with h'|h'
     ·exact hY.ok _ σ τ (λw hw=>hH w (Th _ (by rw[dB];exact Th _ hw))) z h'
     ·exact hH z (Th _ (by rw[dB];exact S4 _ h'))
    ·exact hL _ (λw hw=>hH w (S4 _ hw)) z h'
   have yi:∀tc:List Int,jP lv SA (.fn (.yield l2) [] []) (ja f deep) (λm:S×Lp=>P1 m.1++[.cells ((dT h ns).map iv) 86,.cells x.l 76,.cells (tc.map iv) 86,.cells (qs.map λn=>wv n) 81,.loop l2 m.2.st m.2.pe eM T2 44 #[33] gE gG (N+4)]) (N+6+M.length+5) (λm=>I m.1/\m.2=.ready) A pv:=λtc=>by
    refine⟨λm b M2 k2 yR hm hb ld=> ?_,λm b m' hm hb he=> ?_,λm=>by simp[eo],λq m m' hz z eW=> ?_,rfl,rfl,rfl⟩
    ·obtain⟨σ',lp⟩:=m;obtain⟨KP,g_⟩:=hm;replace KP:I σ':=KP;replace g_:lp=.ready:=g_;subst g_;have cN:b.length=11:=qf b hb;have wB:(b.map iv).length=11:=(by rw[S9,cN]);obtain⟨pY,tg⟩:∃Lo,Lo=aa.loop l2 .busy none eM T2 44 #[33] gE gG (N+4):=⟨_,rfl⟩;obtain⟨Q1,gp⟩:∃Q1:S->List aa,∀σ,Q1 σ=P1 σ++([.cells ((dT h ns).map iv) 86,.cells x.l 76,.cells (tc.map iv) 86,.cells (qs.map λn=>wv n) 81,pY]++M2):=⟨_,λ_=>rfl⟩;obtain⟨C,hC⟩:∃C,C=N+6+M.length+5+M2.length:=⟨_,rfl⟩;have KV:∀σ,(Q1 σ).length=C:=λσ=>(by rw[gp,hC];simp[eo];omega);have lV:∀(σ:S)(L:List aa),(P1 σ++L)[N+6+M.length+4]?=L[4]?:=λσ L=>pb σ L 4;have pQ:∀(σ:S)(L:List aa)(y:aa),(P1 σ++L).set (N+6+M.length+4) y=P1 σ++L.set 4 y:=λσ L y=>(by rw[<- eo σ,dJ]);have qN:∀(σ:S)(L:List aa),(Q1 σ++L)[N]?=some (.cells [yv] 132):=λσ L=>(by rw[gp,SC];exact pg0 σ _);have qd:∀(σ:S)(L:List aa),(Q1 σ++L)[id]?=some (.cells [iv deep] 3):=λσ L=>(by rw[gp,SC];exact pd σ _);have q4:∀(σ:S)(L:List aa),(Q1 σ++L)[N+6+M.length+4]?=some pY:=λσ L=>(by rw[gp,SC,lV];rfl);have qc:∀(σ:S)(L:List aa),(Q1 σ++L)[C]?=L[0]?:=λσ L=>(by rw[<- KV σ];exact aY _ L 0);have N7:∀(σ:S)(L:List aa)(y:aa),(Q1 σ++L).set (N+6+M.length+4) y=(P1 σ++([.cells ((dT h ns).map iv) 86,.cells x.l 76,.cells (tc.map iv) 86,.cells (qs.map λn=>wv n) 81,y]++M2))++L:=λσ L y=>(by rw[gp,SC,pQ];simp);obtain⟨Mz,F9⟩:∃Mz:List aa,∀σ,Q1 σ++[.cells (b.map iv) 86]=Gf σ++Mz:=⟨_,λσ=>by rw[gp,dB,SC,SC]⟩;have fE:∀(τ:S)(lp:Lp),bH (P1 σ'++([.cells ((dT h ns).map iv) 86,.cells x.l 76,.cells (tc.map iv) 86,.cells (qs.map λn=>wv n) 81,.loop l2 .ready none eM T2 44 #[33] gE gG (N+4)]++M2))->bH (P1 τ++([.cells ((dT h ns).map iv) 86,.cells x.l 76,.cells (tc.map iv) 86,.cells (qs.map λn=>wv n) 81,.loop l2 lp.st lp.pe eM T2 44 #[33] gE gG (N+4)]++M2)):=λτ lp iq=>Bg σ' τ _ _ (by simp) (λq hz z eW=>by
      have hl:=hz (.loop l2 .ready none eM T2 44 #[33] gE gG (N+4)) (by simp);rcases SQ.1 eW with h'|h'
      ·simp only[SK,SZ,or_false]at h';rcases h' with rfl|rfl|rfl|rfl|rfl
       ·exact hz _ (by simp)
       ·exact hz _ (by simp)
       ·exact hz _ (by simp)
       ·exact hz _ (by simp)
       ·exact hl
      ·exact hz _ (S4 _ h')) iq
     have gA:cX (λm:S×Lp=>P1 m.1++[.cells ((dT h ns).map iv) 86,.cells x.l 76,.cells (tc.map iv) 86,.cells (qs.map λn=>wv n) 81,.loop l2 m.2.st m.2.pe eM T2 44 #[33] gE gG (N+4)]) pv k2 yR M2 (ja f deep (σ',.ready) b):=ld;have Lm:∀z:aa,P1 σ'++(aa.cells (Ve iv (dT h ns)) 86::aa.cells x.l 76::aa.cells (Ve iv tc) 86::aa.cells (Ve (λn=>wv n) qs) 81::pY::(M2++[z]))=Q1 σ'++[z]:=λz=>(by rw[gp];simp);have FW:bH (P1 σ'++([.cells ((dT h ns).map iv) 86,.cells x.l 76,.cells (tc.map iv) 86,.cells (qs.map λn=>wv n) 81,.loop l2 .ready none eM T2 44 #[33] gE gG (N+4)]++M2))->∀(τ:S)(lp:Lp)(b':Bool)(TT:List (Nat×AV)),k2 (bv b') ((P1 τ++[.cells ((dT h ns).map iv) 86,.cells x.l 76,.cells (tc.map iv) 86,.cells (qs.map λn=>wv n) 81,.loop l2 lp.st lp.pe eM T2 44 #[33] gE gG (N+4)])++M2)->oZ (N+6+M.length+4) C k2 lp.st lp.pe b' ⟨TT,Gf τ++Mz⟩:=λiq τ lp b' TT dO=>by
      refine⟨l2,.busy,none,eM,T2,44,#[33],gE,gG,N+4,by show (Gf τ++Mz)[_]?=_;rw[<- F9,q4,tg],?_⟩;show cF C ((Gf τ++Mz).set _ _) _ k2;rw[<- F9,N7];rw[SC]at dO;exact jU (G:=[.cells (b.map iv) 86]) (Wk.refl _) rfl (by rw[hC];simp[eo];omega) (fE τ lp iq) (.val _) dO
     have ajz:bH (P1 σ'++([.cells ((dT h ns).map iv) 86,.cells x.l 76,.cells (tc.map iv) 86,.cells (qs.map λn=>wv n) 81,.loop l2 .ready none eM T2 44 #[33] gE gG (N+4)]++M2))->∀τ:S,yR pv ((P1 τ++[.cells ((dT h ns).map iv) 86,.cells x.l 76,.cells (tc.map iv) 86,.cells (qs.map λn=>wv n) 81,.loop l2 Lp.busy.st Lp.busy.pe eM T2 44 #[33] gE gG (N+4)])++M2)->cF C (Gf τ++Mz) pv yR:=λiq τ dO=>by
      rw[<- F9,gp,tg];rw[SC]at dO;exact jU (G:=[.cells (b.map iv) 86]) (Wk.refl _) rfl (by rw[hC];simp[eo];omega) (fE τ .busy iq) (me _) dO
     subst ox yk yl;rw[SC];refine wc (id:=N+6+M.length+4) (by rw[lV];rfl) rfl (by kernel_rfl) λrA KI=> ?_;simp only[sC];refine ai ?_;simp only[seval,cN,wF];unfold un;refine⟨none,eM,_,44,#[33],_,_,_,by rw[lV];rfl,?_⟩;dsimp only;rw[pQ];simp only[UJ,T4];rw[<- tg];have CX:(P1 σ').length+(M2.length+1+1+1+1+1)=C:=(by rw[eo,hC];omega);rw[CX,Lm];refine ai ?_;simp only[seval,qN,qc,cN,wB];rw[SS (i:=11) (l:=b.map iv) (by rw[wB];exact SO _),F9];refine xQ (hY.call σ' b Mz _ _ KP hb ?_);unfold ja at gA;rw[show f (σ',Lp.ready).1 b=f σ' b from rfl]at gA;cases hf:f σ' b with
     |go τ=>
      rw[hf]at gA;dsimp only at gA;simp only[cX];(try simp only[seval,hd]);refine aD ?_;refine⟨λh0=> ?_,λh0=> ?_⟩
      ·replace h0:deep=0:=(by simpa using h0);rw[if_pos h0]at gA;simp only[cX]at gA;refine bc ?_;exact FW rA τ .ret false _ gA
      ·replace h0:¬deep=0:=(by simpa using h0);rw[if_neg h0]at gA;refine aO ?_;refine ai ?_;simp only[seval,hd];refine aD ?_;refine⟨λh1=> ?_,λh1=> ?_⟩
       ·replace h1:deep=1:=(by simpa using h1);rw[if_pos h1]at gA;simp only[cX]at gA;refine bU ?_;exact FW rA τ (.exit 3) false _ gA
       ·replace h1:¬deep=1:=(by simpa using h1);rw[if_neg h1]at gA;simp only[cX]at gA;refine aO ?_;exact FW rA τ .ready true _ gA
     |stop τ=>
      rw[hf]at gA;dsimp only at gA;simp only[cX]at gA⊢;(try simp only[seval]);refine aD ?_;refine bc ?_;exact FW rA τ .ret false _ gA
     |bad τ=>
      rw[hf]at gA;dsimp only at gA;simp only[cX]at gA⊢;exact ajz rA τ gA
    ·obtain⟨σ',lp⟩:=m;obtain⟨τ,D9⟩:=m';unfold ja at he;have hi:=(hY.inv σ' b τ hm.1 hb);cases hf:f σ' b with
     |go τ'=>
      rw[show f (σ',lp).1 b=f σ' b from rfl,hf]at he;dsimp only at he;by_cases h0:deep=0
      ·rw[if_pos h0]at he;cases he
      ·rw[if_neg h0]at he;by_cases h1:deep=1
       ·rw[if_pos h1]at he;cases he
       ·rw[if_neg h1]at he;cases he;exact⟨hi hf,rfl⟩
     |stop τ'=>rw[show f (σ',lp).1 b=f σ' b from rfl,hf]at he;cases he
     |bad τ'=>rw[show f (σ',lp).1 b=f σ' b from rfl,hf]at he;cases he
    ·rcases SQ.1 eW with h'|h'
     ·rw[dB]at h';rcases SQ.1 h' with h'|h'
      ·exact hY.ok q m.1 m'.1 (λw hw=>hz w (Th _ (by rw[dB];exact Th _ hw))) z h'
      ·exact hz z (Th _ (by rw[dB];exact S4 _ h'))
     ·have hl:=hz _ (S4 _ (S_ (i:=4) rfl));simp only[SK,SZ,or_false]at h';rcases h' with rfl|rfl|rfl|rfl|rfl
      ·exact hz _ (S4 _ (by simp))
      ·exact hz _ (S4 _ (by simp))
      ·exact hz _ (S4 _ (by simp))
      ·exact hz _ (S4 _ (by simp))
      ·exact hl
   have e1:pS f deep (vd x h) (σ,.ready) (dT h ns)=kR (bE (ja f deep) ((iB x h ns).map (dE h ns)) (σ,.ready)):=(by unfold pS;rw[MP h4 jG]);rw[e1]at dO;refine di (aix (x:=x) (h:=h) (ns:=ns) (qs:=qs) (N:=N+6+M.length+5) (ir:=N+6+M.length+1) (it:=N+6+M.length+2) (is:=N+6+M.length+3) (tc:=dT h ns) (σ:=(σ,Lp.ready)) hx h4 jG yi (λtc m L=> ?_) (λtc m L=> ?_) (λtc eg m L=> ?_) (λtc m L=> ?_) AY tM (λq tc eg m hz z eW=> ?_) me rfl ⟨KO,rfl⟩ (hA ns gK) (λeg auB=> ?_))
   ·rw[SC];exact pb _ _ 1
   ·rw[SC];exact pb _ _ 2
   ·rw[SC,<- eo m.1,dJ,SC];rfl
   ·rw[SC];exact pb _ _ 3
   ·rcases SQ.1 eW with h'|h'
    ·exact hz z (Th _ h')
    ·simp only[SK,SZ,or_false]at h';rcases h' with rfl|rfl|rfl|rfl|rfl
     ·exact hz _ (by simp)
     ·exact hz _ (by simp)
     ·exact aoC _ _ _
     ·exact hz _ (by simp)
     ·exact hz _ (by simp)
   have lV:∀(σ:S)(L:List aa),(P1 σ++L)[N+6+M.length+4]?=L[4]?:=λσ L=>pb σ L 4;have pQ:∀(σ:S)(L:List aa)(y:aa),(P1 σ++L).set (N+6+M.length+4) y=P1 σ++L.set 4 y:=λσ L y=>(by rw[<- eo σ,dJ]);cases cK:bE (ja f deep) ((iB x h ns).map (dE h ns)) (σ,.ready)with
   |go m=>
    obtain⟨τ,lp⟩:=m;have g_:lp=.ready:=Bu (I:=λm:S×Lp=>m.2=.ready) (A:=λ_=>True) (λs a s' _ _ e=>asE e) _ _ _ (λ_ _=>trivial) rfl cK;subst g_;rw[cK]at dO;simp only[kR,cX]at dO;simp only[gg,SN];refine⟨.ready,none,_,_,_,_,_,_,_,by rw[lV];rfl,by decide,?_⟩;rw[pQ,HV];(try simp only[seval]);exact Ki ov τ .ready true _ _ dO
   |stop m=>
    obtain⟨τ,lp⟩:=m;have g_:lp=.ret\/lp=.exit 3:=by
     obtain⟨_,_,q⟩:=Oc cK;exact asF q
    rw[cK]at dO;rcases g_ with rfl|rfl
    ·simp only[kR,cX]at dO;simp only[gg,SN];refine⟨.done,some .ret,_,_,_,_,_,_,_,by rw[lV];rfl,by decide,?_⟩;rw[pQ,api];(try simp only[seval]);exact Ki ov τ .ret false _ _ dO
    ·simp only[kR,cX]at dO;simp only[gg,SN];refine⟨.done,some (.exit 3),_,_,_,_,_,_,_,by rw[lV];rfl,by decide,?_⟩;rw[pQ,aph];(try simp only[seval]);exact Ki ov τ .ready true _ _ dO
   |bad m=>
    obtain⟨τ,lp⟩:=m;rw[cK]at dO;simp only[kR,cX]at dO;simp only[gg,SN];exact ajA ov τ _ dO
  ·obtain⟨σ',lp⟩:=m;obtain⟨τ,D9⟩:=m';obtain⟨ns,gK,rfl⟩:=ha;have e1:pS f deep (vd x h) (σ',lp) (dT h ns)=kR (bE (ja f deep) ((iB x h ns).map (dE h ns)) (σ',.ready)):=(by unfold pS;rw[MP h4 (Ny gK)]);rw[e1]at he;exact afC hY.inv (hA ns gK) hm.1 he
  ·rcases SQ.1 eW with h'|h'
   ·exact hY.ok q m.1 m'.1 (λw hw=>hz w (Th _ hw)) z h'
   ·have hl:=hz _ (S4 _ (S_ (i:=5) rfl));simp only[SK,SZ,or_false]at h';rcases h' with rfl|rfl|rfl|rfl|rfl|rfl
    ·exact hz _ (S4 _ (by simp))
    ·exact hz _ (S4 _ (by simp))
    ·exact hz _ (S4 _ (by simp))
    ·exact hz _ (S4 _ (by simp))
    ·exact hz _ (S4 _ (by simp))
    ·exact hl
 obtain⟨dY,uY⟩:=aea (f:=f) (deep:=deep) (L:=vd x h) ((fZ x h).map (dT h)) σ;rw[<- asL h4]at dY;have g4:∀(σ:S)(L:List aa),(Gf σ++L)[N+4]?=L[4]?:=λσ L=>hY.get σ L 4;have g5:∀(σ:S)(L:List aa),(Gf σ++L)[N+4+1]?=L[5]?:=λσ L=>hY.get σ L 5;have s4:∀(σ:S)(L:List aa) y,(Gf σ++L).set (N+4) y=Gf σ++L.set 4 y:=λσ L y=>hY.set σ L 4 y;have s5:∀(σ:S)(L:List aa) y,(Gf σ++L).set (N+4+1) y=Gf σ++L.set 5 y:=λσ L y=>hY.set σ L 5 y;have sg:∀n,Lt n (.aN []):=λn=>by simp[jK]
 refine di (aiv (x:=x) (h:=h) (N:=N+6) (ir:=N+2) (ih:=N+3) (σ:=(σ,Lp.ready)) hx hh akr (λm L=> ?_) (λm L=> ?_) me ⟨hI,rfl⟩ (λa ha=> ?_) ?_)
 ·rw[SC,hY.get m.1 _ 2];rfl
 ·rw[SC,hY.get m.1 _ 3];rfl
 ·obtain⟨ns,h1,rfl⟩:=Te.1 ha;exact⟨ns,h1,rfl⟩
 cases bK:bE (pS f deep (vd x h)) ((fZ x h).map (dT h)) (σ,.ready)with
 |go m=>
  obtain⟨σ',lp⟩:=m;have g_:lp=.ready:=uY _ bK;subst g_;rw[bK]at dY;have aI:=N_ (r':=.go σ') dY.symm hk;simp only[gg,SN]at aI⊢;refine⟨.ready,none,_,_,_,_,_,_,_,by rw[g5];rfl,by decide,?_⟩;rw[s5];simp only[UJ,T4];rw[HU];(try simp only[seval]);rw[Ap (by rw[g4];rfl),Aq,s4];(try simp only[seval]);rw[<- hN];exact vD hY hH sg aI
 |stop m=>
  obtain⟨σ',lp⟩:=m;have g_:lp=.ret:=by
   obtain⟨_,_,q⟩:=Oc bK;exact asB q
  subst g_;rw[bK]at dY;have aI:=N_ (r':=.stop σ') dY.symm hk;simp only[gg,SN]at aI⊢;refine⟨.done,some .ret,_,_,_,_,_,_,_,by rw[g5];rfl,by decide,?_⟩;rw[s5];simp only[UJ,T4];rw[apg];(try simp only[seval]);rw[Ap (by rw[g4];rfl),Aq,s4];(try simp only[seval]);rw[<- hN];exact vD hY hH sg aI
 |bad m=>
  obtain⟨σ',lp⟩:=m;rw[bK]at dY;have aI:=N_ (r':=.bad σ') dY.symm hk;simp only[gg,SN]at aI⊢;rw[Ap (by rw[g4];rfl),Aq,s4];rw[xd,<- hN];exact vD hY hH me aI
end
open Go.Conc Go.Proofs Go.Gg.Tk
namespace Tk
def mG (x y:Int):Int:=if x<y then -1 else if y<x then 1 else 0
def oh:List Int->List Int->Int
 |a::l,b::m=>if mG a b≠0 then mG a b else oh l m
 |[],[]=>0
 |[],_::_=> -1
 |_::_,[]=>1
def sS (a b:List Int):Bool:=if a.take 4=b.take 4 then(if oh ((a.drop 4).take 4) ((b.drop 4).take 4)≠0 then decide (oh ((a.drop 4).take 4) ((b.drop 4).take 4)<0)else decide (oh (a.drop 8) (b.drop 8)<0))else decide (oh (a.take 4) (b.take 4)<0)
end Tk
theorem FO{ca pa ra:List AV}{xs:List Int}{o i:Nat}{x:Int}(hc:ca=pa++(xs.map iv++ra))(ho:pa.length=o)(h:xs[i]?=some x):ca.drop (o+i)=iv x::((xs.drop (i+1)).map iv++ra):=by
 subst hc ho;rw[VA,TY (by omega),UL,show pa.length+i-pa.length=i by omega,VA,kT h,show i-(xs.map iv).length=0 by have:=eN h;simp;omega,XD];rfl
section
variable {lv:Bool}{H:List aa}{k kp:AV->List aa->Prop}
theorem Q2{x:Int}(hk:k (bv false) H):bf lv SA 143 H [iv x] k kp:=by
 refine bI (rs:=[.tmp 2]) (nt:=6) Tryz.f143 λhH hA=> ?_;simp only[bt,SY];refine ak ?_;refine ai ?_;simp only[seval,bne_self_eq_false];refine bc ?_;refine b9 ?_;simpa using hk
theorem aiA{x y:Int}(hk:k (iv (mG x y)) H):bf lv SA 142 H [iv x,iv y] k kp:=by
 refine bI (rs:=[.tmp 4]) (nt:=20) Tryz.f142 λhH hA=> ?_;simp only[bt,SY];refine ak ?_;refine ak ?_;refine aJ ((Q2 ?_));(try simp only[seval]);refine ak ?_;refine aJ ((Q2 ?_));(try simp only[seval]);refine ak ?_;refine aD ?_;refine aO ?_;refine ak ?_;refine aD ?_;refine aO ?_;refine ak ?_;refine aD ?_;refine⟨λh=> ?_,λh=> ?_⟩
 ·refine ak ?_;refine bc ?_;rw[mG,if_pos h]at hk;exact b9 hk
 ·refine aO ?_;refine ak ?_;refine aD ?_;refine⟨λh2=> ?_,λh2=> ?_⟩
  ·refine ak ?_;refine bc ?_;rw[mG,if_neg h,if_pos h2]at hk;exact b9 hk
  ·refine aO ?_;refine ak ?_;refine bc ?_;rw[mG,if_neg h,if_neg h2]at hk;exact b9 hk
theorem JZ{xs ys:List Int}{ia oa ib ob ta tb:Nat}{ca cb pa ra pb rb:List AV}(ha:H[ia]?=some (.cells ca ta))(hb:H[ib]?=some (.cells cb tb))(hca:ca=pa++(xs.map iv++ra))(Ma:pa.length=oa)(hcb:cb=pb++(ys.map iv++rb))(hpb:pb.length=ob)(hl:ys.length=xs.length)(h4:xs.length<=4)(hk:k (iv (oh xs ys)) H):
  bf lv SA 138 H [.bp ia oa xs.length xs.length,.bp ib ob ys.length ys.length] k kp:=by
 refine bI (rs:=[.tmp 4]) (nt:=36) Tryz.f138 λhH hA=> ?_;simp only[bt,SY];refine ak ?_;refine ak ?_;refine bY ?_;refine sQ xs.length (λi:Nat=>[(11,iv i)]) (λ_=>H) (λi=>oh xs ys=oh (xs.drop i) (ys.drop i)) rfl (λbJ cm i cK hI R hR=> ?_);refine ak ?_;refine aD ?_;refine⟨λh=> ?_,λh=> ?_⟩
 ·have bB:i<xs.length:=by omega
  obtain⟨x,hx⟩:=bZ bB;obtain⟨y,hy⟩:=bZ (xs:=ys) (i:=i) (by omega);have bC:SD.wrap ((i:Int)+1)=((i+1:Nat):Int):=by rw[bw _ (by omega)];rfl
  have lh:oh xs ys=if mG x y≠0 then mG x y else oh (xs.drop (i+1)) (ys.drop (i+1)):=by rw[hI,wi hx,wi hy,oh]
  refine aO ?_;refine ai ?_;simp only[seval,ha,jR bB,FO hca Ma hx];refine ak ?_;refine aD ?_;refine⟨λh2=>by exfalso;omega,λh2=> ?_⟩;refine aO ?_;refine ai ?_;simp only[seval,hb,jR (show i<ys.length by omega),FO hcb hpb hy];refine ak ?_;refine aJ ((aiA ?_));(try simp only[seval]);refine ak ?_;refine aD ?_;refine⟨λh3=> ?_,λh3=> ?_⟩
  ·refine ak ?_;refine bc ?_;rw[lh,if_pos (by simpa using h3)]at hk;exact b9 hk
  ·refine aO ?_;refine ai ?_;simp only[seval,bC];refine hR _ ⟨bB,?_,cT⟩;rw[lh,if_neg (by simpa using h3)]
 ·have dD:i=xs.length:=by omega
  subst dD;refine bU ?_;refine ai ?_;simp only[seval,hl];refine aD ?_;refine⟨λh2=>by exfalso;omega,λh2=> ?_⟩;refine aO ?_;refine ak ?_;refine bc ?_;rw[hI,List.drop_length,TY (WL hl),oh]at hk;exact b9 hk
theorem F.EK:SA.underlying 83=some (.array 4 3):=by kernel_rfl
theorem F.u3:SA.underlying 3=some (.int .i64):=by kernel_rfl
theorem afl{P:SI}{t e:TypeId}{k0:TZ}{n:Nat}{xs ys:List Int}(ht:P.underlying t=some (.array n e))(he:P.underlying e=some (.int k0))(hs:(P.info? e).map (·.size)=some 1)(hg:P.eqGuardType P.depth t=false)(hx:xs.length=n)(hy:ys.length=n)(k:AV->Prop):
  dA P .neq t (.agg (xs.map iv)) (.agg (ys.map iv)) k=k (bv (!(xs==ys))):=by
 obtain⟨i,hi,hs⟩:=Tq.1 hs;have wT:=adN ht he hi hs hx hy;have e:dA P .neq t (.agg (xs.map iv)) (.agg (ys.map iv)) k=((VL=.eql\/VL=.neq)/\ao (AV.raw (.agg (xs.map iv))) λX=>ao (AV.raw (.agg (ys.map iv))) λY=>xY X Y=true/\P.eqGuardType P.depth t=false/\∃e,cG P (WT t X Y) e/\k (.val (.bool (if VL== .neq then !e else e)))):=rfl;rw[e,vB,vB,xd,xd];apply propext;constructor
 ·rintro⟨_,_,_,b,h1,h2⟩
  rw[wT.uniq h1];exact h2
 ·intro h;exact⟨.inr rfl,rfl,hg,_,wT,h⟩
theorem F.i3s:(SA.info? 3).map (·.size)=some 1:=by kernel_rfl
theorem F.g83:SA.eqGuardType SA.depth 83=false:=by kernel_rfl
theorem aiz{a b:List Int}(ha:a.length=11)(hb:b.length=11)(hk:k (bv (sS a b)) H):bf lv SA 128 H [.agg (a.map iv),.agg (b.map iv)] k kp:=by
 refine bI (rs:=[.tmp 4]) (nt:=32) Tryz.f128 λhH hA=> ?_;simp only[bt,SY];have ham:(a.map iv).length=11:=by rw[S9,ha]
 have wB:(b.map iv).length=11:=by rw[S9,hb]
 have ea:a.map iv=(a.take 4).map iv++(((a.drop 4).take 4).map iv++(a.drop 8).map iv):=by
  rw[<- TG,<- TG];congr 1;have:(a.drop 4).take 4++a.drop 8=a.drop 4:=by
   conv=>rhs;rw[<- Vo 4 (a.drop 4)]
   rw[am_]
  rw[this,Vo]
 have eb:b.map iv=(b.take 4).map iv++(((b.drop 4).take 4).map iv++(b.drop 8).map iv):=by
  rw[<- TG,<- TG];congr 1;have:(b.drop 4).take 4++b.drop 8=b.drop 4:=by
   conv=>rhs;rw[<- Vo 4 (b.drop 4)]
   rw[am_]
  rw[this,Vo]
 refine ak ?_;refine ai ?_;simp only[seval,ham,wB,ha,hb];have GZ:(a.take 4).length=4:=by simp[ha]
 have Mu:(b.take 4).length=4:=by simp[hb]
 have Ms:((a.drop 4).take 4).length=4:=by simp[ha]
 have aaX:((b.drop 4).take 4).length=4:=by simp[hb]
 have Mt:(a.drop 8).length=3:=by simp[ha]
 have aaY:(b.drop 8).length=3:=by simp[hb]
 rw[<- VJ,<- VJ,afl F.EK F.u3 F.i3s F.g83 GZ Mu];refine aD ?_;refine⟨λh=> ?_,λh=> ?_⟩
 ·refine ek 4 ?_;simp only[seval];have c1:=λk kp=>JZ (lv:=lv) (k:=k) (kp:=kp) (H:=H++[.cells (a.map iv) 86,.cells (b.map iv) 86]) (xs:=a.take 4) (ys:=b.take 4) (ia:=H.length) (ib:=H.length+1) (oa:=0) (ob:=0) (pa:=[]) (pb:=[]) (aY H _ 0) (aY H _ 1) ea rfl eb rfl (by rw[GZ,Mu]) (by rw[GZ];exact SO _);simp only[GZ,Mu]at c1;refine aJ ((c1 _ _ ?_));(try simp only[seval]);refine bc ?_;rw[sS,if_neg (by simpa using h)]at hk;exact lB hH hk
 ·have h:=(by simpa using h:a.take 4=b.take 4);rw[sS,if_pos h]at hk;refine aO ?_;refine ek 4 ?_;simp only[seval];have c2:=λk kp=>JZ (lv:=lv) (k:=k) (kp:=kp) (H:=H++[.cells (a.map iv) 86,.cells (b.map iv) 86]) (xs:=(a.drop 4).take 4) (ys:=(b.drop 4).take 4) (ia:=H.length) (ib:=H.length+1) (oa:=4) (ob:=4) (pa:=(a.take 4).map iv) (pb:=(b.take 4).map iv) (aY H _ 0) (aY H _ 1) ea (by simp[ha]) eb (by simp[hb]) (by rw[Ms,aaX]) (by rw[Ms];exact SO _);simp only[Ms,aaX]at c2;refine aJ ((c2 _ _ ?_));(try simp only[seval]);refine ak ?_;refine aD ?_;refine⟨λh2=> ?_,λh2=> ?_⟩
  ·refine ak ?_;refine bc ?_;rw[if_pos (by simpa using h2)]at hk;exact lB hH hk
  ·refine aO ?_;rw[if_neg (by simpa using h2)]at hk;refine ek 4 ?_;simp only[seval];have c3:=λk kp=>JZ (lv:=lv) (k:=k) (kp:=kp) (H:=H++[.cells (a.map iv) 86,.cells (b.map iv) 86]) (xs:=a.drop 8) (ys:=b.drop 8) (ia:=H.length) (ib:=H.length+1) (oa:=8) (ob:=8) (pa:=(a.take 4).map iv++((a.drop 4).take 4).map iv) (pb:=(b.take 4).map iv++((b.drop 4).take 4).map iv) (ra:=[]) (rb:=[]) (aY H _ 0) (aY H _ 1) (by rw[ea];simp) (by simp[ha]) (by rw[eb];simp) (by simp[hb]) (by rw[Mt,aaY]) (by rw[Mt];omega);simp only[Mt,aaY]at c3;refine aJ ((c3 _ _ ?_));(try simp only[seval]);refine bc ?_;exact lB hH hk
end
open Go.Conc Go.Proofs Go.Gg.Tk
theorem HB{α:Type}{g:α->AV}{ca pa ra:List AV}{xs:List α}{o i:Nat}{x:α}(hc:ca=pa++(xs.map g++ra))(ho:pa.length=o)(h:xs[i]?=some x):ca.drop (o+i)=g x::((xs.drop (i+1)).map g++ra):=by
 subst hc ho;rw[VA,TY (by omega),UL,show pa.length+i-pa.length=i by omega,VA,Ad h,show i-(xs.map g).length=0 by have:=eN h;simp;omega,XD];rfl
theorem HC{α:Type}{g:α->AV}{ca pa ra:List AV}{xs:List α}{o i:Nat}{y:α}(hc:ca=pa++(xs.map g++ra))(ho:pa.length=o)(h:i<xs.length):ca.take (o+i)++[g y]++ca.drop (o+i+1)=pa++((xs.set i y).map g++ra):=by
 subst hc ho;have h1:(pa++(xs.map g++ra)).take (pa.length+i)=pa++(xs.map g).take i:=by
  rw[List.take_append,SS (by omega),show pa.length+i-pa.length=i by omega,Tw (by simp;omega)]
 have h2:(pa++(xs.map g++ra)).drop (pa.length+i+1)=(xs.map g).drop (i+1)++ra:=by
  rw[VA,TY (by omega),UL,show pa.length+i+1-pa.length=i+1 by omega,Wu (by simp;omega)]
 rw[h1,h2,<- Oi h];simp[SC]
namespace Tk
def Kn.l (F:Kn)(mp:Nat):List AV:=bv F.has:: .mp mp::(F.aC.map (λn=>wv n)++(F.hours.map (λn=>wv n)++(F.less.map (λn=>wv n)++(F.aU.map (λn=>wv n)++F.first.map iv))))
structure bL (F:Kn):Prop where
 aC:F.aC.length=4
 hours:F.hours.length=4
 less:F.less.length=4
 aU:F.aU.length=3
 first:F.first.length=11
 mo:∀n∈F.aC,n<65536
 mH:∀n∈F.hours,n<65536
 mP:∀n∈F.less,n<65536
 lT:∀n∈F.aU,n<65536
 h4:∀h∈F.aK,h.length=4
theorem Kn.len{F:Kn}(h:bL F)(mp:Nat):(F.l mp).length=28:=by simp[Kn.l,h.aC,h.hours,h.less,h.aU,h.first]
theorem Kn.HF{F:Kn}{mp p n:Nat}(h:F.aC[p]?=some n):(F.l mp).drop (2+p)=wv n::((F.aC.drop (p+1)).map (λn=>wv n)++(F.hours.map (λn=>wv n)++(F.less.map (λn=>wv n)++(F.aU.map (λn=>wv n)++F.first.map iv)))):=HB (pa:=[bv F.has,.mp mp]) rfl rfl h
theorem Kn.ace{F:Kn}{mp p v:Nat}(h:p<F.aC.length):(F.l mp).take (2+p)++[wv v]++(F.l mp).drop (2+p+1)=({F with aC:=F.aC.set p v}:Kn).l mp:=HC (g:=λn=>wv n) (pa:=[bv F.has,.mp mp]) rfl rfl h
theorem Kn.L9{F:Kn}(k:bL F){mp p n:Nat}(h:F.hours[p]?=some n):(F.l mp).drop (6+p)=wv n::((F.hours.drop (p+1)).map (λn=>wv n)++(F.less.map (λn=>wv n)++(F.aU.map (λn=>wv n)++F.first.map iv))):=HB (pa:=bv F.has:: .mp mp::F.aC.map (λn=>wv n)) rfl (by simp[k.aC]) h
theorem Kn.aaK{F:Kn}(k:bL F){mp p v:Nat}(h:p<F.hours.length):(F.l mp).take (6+p)++[wv v]++(F.l mp).drop (6+p+1)=({F with hours:=F.hours.set p v}:Kn).l mp:=HC (g:=λn=>wv n) (pa:=bv F.has:: .mp mp::F.aC.map (λn=>wv n)) rfl (by simp[k.aC]) h
theorem Kn.Nf{F:Kn}(k:bL F){mp p n:Nat}(h:F.less[p]?=some n):(F.l mp).drop (10+p)=wv n::((F.less.drop (p+1)).map (λn=>wv n)++(F.aU.map (λn=>wv n)++F.first.map iv)):=HB (pa:=bv F.has:: .mp mp::(F.aC.map (λn=>wv n)++F.hours.map (λn=>wv n))) (by simp[Kn.l]) (by simp[k.aC,k.hours]) h
theorem Kn.abx{F:Kn}(k:bL F){mp p v:Nat}(h:p<F.less.length):(F.l mp).take (10+p)++[wv v]++(F.l mp).drop (10+p+1)=({F with less:=F.less.set p v}:Kn).l mp:=by
 have:=HC (g:=λn=>wv n) (ca:=F.l mp) (y:=v) (pa:=bv F.has:: .mp mp::(F.aC.map (λn=>wv n)++F.hours.map (λn=>wv n))) (ra:=F.aU.map (λn=>wv n)++F.first.map iv) (by simp[Kn.l]) (show _=10 by simp[k.aC,k.hours]) h;rw[this];simp[Kn.l]
theorem Kn.En{F:Kn}(k:bL F){mp p n:Nat}(h:F.aU[p]?=some n):(F.l mp).drop (14+p)=wv n::((F.aU.drop (p+1)).map (λn=>wv n)++F.first.map iv):=HB (pa:=bv F.has:: .mp mp::(F.aC.map (λn=>wv n)++(F.hours.map (λn=>wv n)++F.less.map (λn=>wv n)))) (by simp[Kn.l]) (by simp[k.aC,k.hours,k.less]) h
theorem Kn.acA{F:Kn}(k:bL F){mp p v:Nat}(h:p<F.aU.length):(F.l mp).take (14+p)++[wv v]++(F.l mp).drop (14+p+1)=({F with aU:=F.aU.set p v}:Kn).l mp:=by
 have:=HC (g:=λn=>wv n) (ca:=F.l mp) (y:=v) (pa:=bv F.has:: .mp mp::(F.aC.map (λn=>wv n)++(F.hours.map (λn=>wv n)++F.less.map (λn=>wv n)))) (ra:=F.first.map iv) (by simp[Kn.l]) (show _=14 by simp[k.aC,k.hours,k.less]) h;rw[this];simp[Kn.l]
theorem Kn.CP{F:Kn}{mp:Nat}:(F.l mp)[0]?=some (bv F.has):=rfl
theorem Kn.ahL{F:Kn}{mp:Nat}:(F.l mp).drop 1=.mp mp::(F.aC.map (λn=>wv n)++(F.hours.map (λn=>wv n)++(F.less.map (λn=>wv n)++(F.aU.map (λn=>wv n)++F.first.map iv)))):=rfl
theorem Kn.aq7{F:Kn}{mp:Nat}:(F.l mp).take 0++[bv true]++(F.l mp).drop (0+1)=({F with has:=true}:Kn).l mp:=rfl
theorem Kn.ade{F:Kn}(k:bL F){mp:Nat}{t:List Int}(ht:t.length=11):(F.l mp).take 17++t.map iv++(F.l mp).drop (17+11)=({F with first:=t}:Kn).l mp:=by
 have e:F.l mp=(bv F.has:: .mp mp::(F.aC.map (λn=>wv n)++(F.hours.map (λn=>wv n)++(F.less.map (λn=>wv n)++F.aU.map (λn=>wv n)))))++F.first.map iv:=by simp[Kn.l]
 have hl:(bv F.has::AV.mp mp::(F.aC.map (λn=>wv n)++(F.hours.map (λn=>wv n)++(F.less.map (λn=>wv n)++F.aU.map (λn=>wv n))))).length=17:=by simp[k.aC,k.hours,k.less,k.aU]
 rw[TY (by rw[Kn.len k];omega),e,Tw (by omega),SS (by omega),SN];simp[Kn.l]
structure jw (x:aj)(t:List Int):Prop where
 len:t.length=11
 bG:mA (t.take 4)
 num:∀p,p<x.pieces.length->∃n:Nat,t[4+p]?=some (n:Int)/\n<9/\0<=iL (t.take 4) (n+t.getD 0 0)
 own:∀s,s<x.aA.length->∃o:Nat,t[8+s]?=some (o:Int)/\o<4
end Tk
def setH (hs:List (List Int)):aa:=.obj (.map (hs.zipIdx.map ey).toArray hs.length)
theorem qL{H:List aa}{i:Nat}{x:aa}(h:H[i]?=some x):H.set i x=H:=by
 apply Yr;intro j;rw[UU];split
 ·rename_i e;subst e;rw[if_pos (eN h)];exact h.symm
 ·rfl
theorem vH{H L:List aa}{i:Nat}{x:aa}(h:i<H.length):(H++L).set i x=H.set i x++L:=UX _ _ h
section
variable {lv:Bool}{H:List aa}{k kp:AV->List aa->Prop}
theorem PS{F:Kn}{t:List Int}(h:bL F)(ht:t.length=11):bL (jQ F t):=by
 unfold jQ;split
 ·exact h
 ·exact⟨h.aC,h.hours,h.less,h.aU,ht,h.mo,h.mH,h.mP,h.lT,h.h4⟩
theorem D_{l:List Nat}{i v:Nat}(h:∀n∈l,n<65536)(hv:v<65536):∀n∈l.set i v,n<65536:=λn hn=>by
 rcases UD hn with h'|rfl
 ·exact h n h'
 ·exact hv
theorem Tk.bL.Ew{G:Kn}(h:bL G){i v:Nat}(hv:v<65536):bL {G with aU:=G.aU.set i v}:=⟨h.aC,h.hours,h.less,by simp[h.aU],h.first,h.mo,h.mH,h.mP,D_ h.lT hv,h.h4⟩
theorem Tk.bL.adj{G:Kn}(h:bL G){i v:Nat}(hv:v<65536):bL {G with aC:=G.aC.set i v}:=⟨by simp[h.aC],h.hours,h.less,h.aU,h.first,D_ h.mo hv,h.mH,h.mP,h.lT,h.h4⟩
theorem Tk.bL.adh{G:Kn}(h:bL G){i v:Nat}(hv:v<65536):bL {G with hours:=G.hours.set i v}:=⟨h.aC,by simp[h.hours],h.less,h.aU,h.first,h.mo,D_ h.mH hv,h.mP,h.lT,h.h4⟩
theorem Tk.bL.adi{G:Kn}(h:bL G){i v:Nat}(hv:v<65536):bL {G with less:=G.less.set i v}:=⟨h.aC,h.hours,by simp[h.less],h.aU,h.first,h.mo,h.mH,D_ h.mP hv,h.lT,h.h4⟩
theorem Fq{l:List Nat}{i n v:Nat}(h:l[i]?=some n):o0 l i v=l.set i (n|||2^v):=by
 unfold o0;rw[SE,h];rfl
theorem adg(hs:List (List Int)):setH hs=.obj (.map (hs.zipIdx.map ey).toArray hs.length):=rfl
theorem adf(hs:List (List Int))(h:List Int):setH (hs++[h])=.obj (.map ((hs.zipIdx++[(h,hs.length)]).map ey).toArray (hs.length+1)):=by
 rw[adg,List.zipIdx_append,S5];simp
theorem EQ{α:Type}{l:List α}{y:α×Nat}(h:y∈l.zipIdx):y.1∈l:=by
 obtain⟨a,b⟩:=y;have:=List.mem_zipIdx h;simp at this;rw[this.2];exact Wz _
theorem Kj{x:List Int}{hs:List (List Int)}:(qb x hs.zipIdx 0=none/\x∉hs)\/(∃i b,qb x hs.zipIdx 0=some (i,.bool true)/\hs.zipIdx[i]?=some (x,b)/\x∈hs):=by
 cases h:qb x hs.zipIdx 0 with
 |none=>
  refine .inl ⟨rfl,λhm=> ?_⟩;obtain⟨i,hi⟩:=UV.1 hm;have:(x,i)∈hs.zipIdx:=UV.2 ⟨i,by rw[List.getElem?_zipIdx,hi];simp⟩;exact Re h _ this rfl
 |some p=>
  obtain⟨i,v⟩:=p;obtain⟨b,_,h2,rfl⟩:=Rf h;rw[Z1]at h2;exact .inr ⟨i,b,rfl,h2,EQ (y:=(x,b)) (S_ h2)⟩
theorem F.i3:∃i,SA.info? 3=some i/\i.size=1:=by
 obtain⟨i,h1,h2⟩:=Tq.1 F.i3s;exact⟨i,h1,h2⟩
theorem vF{H L:List aa}{i:Nat}{z:aa}(h:i<H.length):(H.set i z++L)[i]?=some z:=by
 rw[SX (by simpa using h),UU,if_pos rfl,if_pos h]
theorem vG{H L:List aa}{i:Nat}{z y:aa}(h:i<H.length):(H.set i z++L).set i y=H.set i y++L:=by
 rw[vH (by simpa using h),Xb]
theorem ajn{x:aj}{t:List Int}{deep:Int}{fp mp:Nat}{Q:Kn}(hx:x.Ok)(ht:jw x t)(hQ:bL Q)(ma:fp≠mp)(hf:H[fp]?=some (.cells (Q.l mp) 88))(hm:H[mp]?=some (setH Q.aK))(hk:k (.aN []) ((H.set fp (.cells ((eD x deep Q t).l mp) 88)).set mp (setH (eD x deep Q t).aK))):bf lv SA 99 H [.op fp 0,x.av,.agg (t.map iv),iv deep] k kp:=by
 refine bI (rs:=[]) (nt:=135) Tryz.f99 λhH hA=> ?_;simp only[bt,SY,aj.av];have j8:=ht.len;have KB:(t.map iv).length=11:=by rw[S9,j8]
 have l_:=eN hf;have Dq:=eN hm;have aaw:=Kn.len hQ mp;have bP:x.l=[iv x.first,iv x.hours,iv x.am,cY x.seen,aL x.pieces,aL x.aA]:=rfl;have dC:∀(L:List aa) i,(H++L)[H.length+i]?=L[i]?:=λL i=>aY H L i;obtain⟨R1,qg⟩:∃R1,R1=jQ Q t:=⟨_,rfl⟩;have nu:bL R1:=by rw[qg];exact PS hQ j8
 have C2:R1.aK=Q.aK:=by rw[qg];unfold jQ;split<;>rfl
 obtain⟨H1,lD⟩:∃H1,H1=H.set fp (.cells (R1.l mp) 88):=⟨_,rfl⟩;have cP:H1.length=H.length:=by rw[lD,TF]
 have yd:H1[fp]?=some (.cells (R1.l mp) 88):=by rw[lD,UU,if_pos rfl,if_pos l_]
 have F3:H1[mp]?=some (setH R1.aK):=by rw[lD,Ua ma,C2];exact hm
 have alF:∀G:Kn,∀hs:List (List Int),bH ((H1.set fp (.cells (G.l mp) 88)).set mp (setH hs)):=λG hs=>by
  have hl:((H1.set fp (.cells (G.l mp) 88)).set mp (setH hs)).length=H.length:=by rw[TF,TF,cP]
  intro z hz;rw[hl];rcases UD hz with hz|rfl
  ·rcases UD hz with hz|rfl
   ·rw[lD]at hz;rcases UD hz with hz|rfl
    ·exact hH z hz
    ·intro a ha;simp only[Kn.l,SK,SQ,Te]at ha;rcases ha with rfl|rfl|⟨_,_,rfl⟩|⟨_,_,rfl⟩|⟨_,_,rfl⟩|⟨_,_,rfl⟩|⟨_,_,rfl⟩
     ·exact .val _
     ·exact .mp (by omega)
     all_goals exact .val _
   ·intro a ha;simp only[Kn.l,SK,SQ,Te]at ha;rcases ha with rfl|rfl|⟨_,_,rfl⟩|⟨_,_,rfl⟩|⟨_,_,rfl⟩|⟨_,_,rfl⟩|⟨_,_,rfl⟩
    ·exact .val _
    ·exact .mp (by omega)
    all_goals exact .val _
  ·trivial
 have iG:k (.aN []) ((H1.set fp (.cells ((eD x deep Q t).l mp) 88)).set mp (setH (eD x deep Q t).aK)):=by rw[lD,Xb];exact hk
 have dY:∀(G:Kn)(hs:List (List Int))(L:List aa),eD x deep Q t=G->G.aK=hs->cF H1.length ((H1.set fp (.cells (G.l mp) 88)).set mp (setH hs)++L) (.aN []) k:=λG hs L hG iT=>by
  subst hG iT;exact jU (Wk.refl _) rfl (by rw[TF,TF,cP];exact SO _) (alF _ _) (by simp[jK]) iG
 have aG:eD x deep Q t=(if deep=2 then{R1 with aU:=mR t x.aA.length R1.aU}else if deep=0 then{R1 with aK:=jL R1.aK (t.take 4)}else{R1 with aC:=sh t x.pieces.length R1.aC,hours:=wQ t x.pieces.length R1.hours,less:=yU t x.pieces.length x.pieces.length R1.less}):=by rw[qg];rfl
 rw[aG]at dY;clear hk iG aG;refine ak ?_;refine ai ?_;simp only[seval,fO hf,Kn.CP];refine aD ?_;refine⟨λhc=> ?ga,λhc=> ?gb⟩
 case' ga=>
  have e1:R1={Q with has:=true,first:=t}:=by rw[qg];unfold jQ;rw[hc];rfl
  have eH:∀L:List aa,(H++L).set fp (.cells (({Q with has:=true}:Kn).l mp) 88)=H.set fp (.cells (({Q with has:=true}:Kn).l mp) 88)++L:=λL=>vH l_;have F':bL {Q with has:=true}:=⟨hQ.aC,hQ.hours,hQ.less,hQ.aU,hQ.first,hQ.mo,hQ.mH,hQ.mP,hQ.lT,hQ.h4⟩;have alk:=Kn.len F' mp;have H8:=Kn.ade F' (mp:=mp) (t:=t) j8;have A3:TS 11 (t.map iv)=t.map iv:=SS (by omega);have ak5:∀(z:aa)(L:List aa),(H.set fp z++L)[H.length+1]?=L[1]?:=λz L=>by have:=aY (H.set fp z) L 1;rwa [TF]at this
  refine o_ [5,8] (SU 9) (λD=>bif isDone 8 D then H1++[.cells x.l 76,.cells (t.map iv) 86]else bif isDone 5 D then H.set fp (.cells (({Q with has:=true}:Kn).l mp) 88)++[.cells x.l 76,.cells (t.map iv) 86]else H++[.cells x.l 76,.cells (t.map iv) 86]) ?_;simp only[seval,fO hf,vF l_,vG l_,vH l_,aaw,alk,j8,KB,A3,ak5];have eL:(AV.val (.bool true)::(TS 16 (TH 1 (Q.l mp))++t.map iv++TH 27 (TH 1 (Q.l mp))))=R1.l mp:=by rw[e1];exact H8
  refine⟨by rfl,by rw[Uk,aaw];omega,by rw[eL,lD],?_⟩;rw[eL,<- lD,<- cP]
 case' gb=>
  have e1:R1=Q:=by rw[qg];unfold jQ;rw[hc];rfl
  have JO:H1=H:=by rw[lD,e1];exact qL hf
  refine aO ?_;rw[<- JO]
 all_goals
  clear hc e1;have lI:fp<H1.length:=by omega
  have aX:∀(L:List aa),(H1++L)[H1.length]?=L[0]?:=λL=>aY H1 L 0;have cQ:∀(L:List aa),(H1++L)[H1.length+1]?=L[1]?:=λL=>aY H1 L 1;have cu:∀(z:aa)(L:List aa),(H1.set fp z++L)[H1.length]?=L[0]?:=λz L=>by have:=aY (H1.set fp z) L 0;rwa [TF]at this
  have dL:∀(z:aa)(L:List aa),(H1.set fp z++L)[H1.length+1]?=L[1]?:=λz L=>by have:=aY (H1.set fp z) L 1;rwa [TF]at this
  have GU:∀G:Kn,G.aK=R1.aK->(H1.set fp (.cells (G.l mp) 88)).set mp (setH R1.aK)=H1.set fp (.cells (G.l mp) 88):=λG _=>qL (by rw[Ua ma];exact F3);refine ak ?_;refine ak ?_;refine aD ?_;refine⟨λh2=> ?_,λh2=> ?_⟩
  ·
   replace h2:deep=2:=(by simpa using h2);have yG:=hx.de;rw[if_pos h2]at dY;refine ai ?_;simp only[seval,aX,bP,aL];refine bY ?_;refine gF x.aA.length (λi:Nat=>[(30,iv i)]) (λi=>H1.set fp (.cells (({R1 with aU:=mR t i R1.aU}:Kn).l mp) 88)++[.cells x.l 76,.cells (t.map iv) 86]) (λi=>bL {R1 with aU:=mR t i R1.aU}) (λ_ _=>rfl) (by simp only[seval];simp[bm,Wk.refl]) (by rw[show ({R1 with aU:=mR t 0 R1.aU}:Kn)=R1 from rfl,qL yd];rfl) (λ_ _ _=>by simp) nu (λbJ cm i cK aq R hR=> ?_);refine ak ?_;refine aD ?_;refine⟨λh3=> ?_,λh3=> ?_⟩
   ·have bB:i<x.aA.length:=(by omega);obtain⟨o,ho,ho4⟩:=ht.own i bB;have qD:sr t i=o:=(by unfold sr;rw[SE,ho];rfl);obtain⟨n,hn⟩:=bZ (xs:=mR t i R1.aU) (i:=i) (by have:=aq.aU;simp only at this;omega);have Dr:n<65536:=aq.lT n (S_ hn);have b3:(0<=(i:Int)/\(i:Int)<3)=True:=(by simp;omega);have bC:SD.wrap ((i:Int)+1)=((i+1:Nat):Int):=(by rw[bw _ (by omega)];rfl);have AT:=Kn.En aq (mp:=mp) (p:=i) (n:=n) hn;have pD:=Kn.acA aq (mp:=mp) (p:=i) (v:=n|||2^o) (eN hn);have du:=Kn.len aq mp;refine aO ?_;refine ak ?_;refine ek 15 ?_;simp only[seval,dL,vF lI,vG lI,b3,AT,kT ho];refine gR (wv (n|||2^o)) (di (uA Dr (show o<16 by omega) ⟨rfl,rfl⟩)) ?_;(try simp only[seval,vF lI,vG lI,b3,du]);refine⟨by omega,?_⟩;rw[pD];refine ai ?_;simp only[seval,bC];have dc:mR t (i+1) R1.aU=(mR t i R1.aU).set i (n|||2^o):=(by rw[mR,qD,Fq hn]);refine hR _ ⟨bB,?_,?_⟩
    ·rw[dc];exact aq.Ew (pP Dr (xq (by omega)))
    ·rw[dc];exact cT
   ·have dD:i=x.aA.length:=(by omega);subst dD;have:=dY _ R1.aK [.cells x.l 76,.cells (t.map iv) 86] rfl rfl;rw[GU {R1 with aU:=mR t x.aA.length R1.aU} rfl]at this;refine bU ?_;refine bc ?_;exact this
  ·replace h2:¬deep=2:=(by simpa using h2);rw[if_neg h2]at dY;refine ak ?_;refine aD ?_;refine⟨λh3=> ?_,λh3=> ?_⟩
   ·
    replace h3:deep=0:=(by simpa using h3);rw[if_pos h3]at dY;have DJ:(t.take 4).length=4:=(by simp[j8]);have tG:∀L:List aa,(H1++L)[mp]?=some (.obj (.map (R1.aK.zipIdx.map ey).toArray R1.aK.length)):=λL=>fO F3;have hfp:∀L:List aa,(H1++L)[fp]?=some (.cells (R1.l mp) 88):=λL=>fO yd;have aaC:mp<H1.length:=(by omega);obtain⟨i3,qp,pE⟩:=F.i3;have KE:∀y∈R1.aK.zipIdx,y.1.length=4:=λy hy=>nu.h4 _ (EQ hy);have Gq:=adP (ts:=R1.aK.zipIdx) F.EK F.u3 qp pE DJ KE;have Gl:=λb=>adL (b:=b) (k:=.i64) (d:=9998) F.EK F.u3 qp pE DJ;refine ek 6 ?_;simp only[seval,hfp,cQ,tG,Kn.ahL,j8,KB];rw[<- VJ];refine d_ (vB _) (d_ rfl ⟨Gl _,_,Gq,?_,?_⟩)
    ·intro i v pw;rcases Kj (x:=t.take 4) (hs:=R1.aK)with⟨h,_⟩|⟨i',b,h,h2,_⟩
     ·rw[h]at pw;cases pw
     ·rw[h]at pw;cases pw;rw[To,h2];exact aqN _
    ·rcases Kj (x:=t.take 4) (hs:=R1.aK)with⟨h,hn⟩|⟨i',b,h,h2,hn⟩
     ·rw[h,acH,vH aaC];have:=dY _ _ [.cells x.l 76,.cells (t.map iv) 86] rfl rfl;rw[show jL R1.aK (t.take 4)=R1.aK++[t.take 4] by rw[jL,if_neg hn],adf]at this;rw[show H1.set fp (.cells (({R1 with aK:=R1.aK++[t.take 4]}:Kn).l mp) 88)=H1 from qL yd]at this;refine bc ?_;exact this
     ·rw[h,apt h2,vH aaC];have:=dY _ _ [.cells x.l 76,.cells (t.map iv) 86] rfl rfl;rw[show jL R1.aK (t.take 4)=R1.aK by rw[jL,if_pos hn],adg]at this;rw[show H1.set fp (.cells (({R1 with aK:=R1.aK}:Kn).l mp) 88)=H1 from qL yd]at this;refine bc ?_;exact this
   ·
    replace h3:¬deep=0:=(by simpa using h3);rw[if_neg h3]at dY;refine aO ?_;have nF:=hx.ec;obtain⟨P,hP⟩:∃P:Nat->Kn,∀p,P p={R1 with aC:=sh t p R1.aC,hours:=wQ t p R1.hours,less:=yU t x.pieces.length p R1.less}:=⟨_,λ_=>rfl⟩;obtain⟨P',F_⟩:∃P':Nat->Nat->Kn,∀p q,P' p q={R1 with aC:=sh t (p+1) R1.aC,hours:=wQ t (p+1) R1.hours,less:=w_ t p q (yU t x.pieces.length p R1.less)}:=⟨_,λ_ _=>rfl⟩;have R6:P 0=R1:=(by rw[hP];rfl);have hPs:∀p,P' p x.pieces.length=P (p+1):=λp=>(by rw[hP,F_];rfl);refine ai ?_;simp only[seval,aX,bP,aL];refine bY ?_;refine gF x.pieces.length (λi:Nat=>[(62,iv i)]) (λi=>H1.set fp (.cells ((P i).l mp) 88)++[.cells x.l 76,.cells (t.map iv) 86]) (λi=>bL (P i)) (λ_ _=>rfl) (by simp only[seval];simp[bm,Wk.refl]) (by rw[R6,qL yd];rfl) (λ_ _ _=>by simp) (by rw[R6];exact nu) (λbJ cm p cK aq R hR=> ?_);refine ak ?_;refine aD ?_;refine⟨λh=> ?_,λh=> ?_⟩
    ·have du:p<x.pieces.length:=(by omega);obtain⟨o,ho,ho9,qD⟩:=ht.num p du;obtain⟨n,hn⟩:=bZ (xs:=(P p).aC) (i:=p) (by have:=aq.aC;omega);obtain⟨m,fW⟩:=bZ (xs:=(P p).hours) (i:=p) (by have:=aq.hours;omega);have Dr:n<65536:=aq.mo n (S_ hn);have aax:m<65536:=aq.mH m (S_ fW);have b4:(0<=(p:Int)/\(p:Int)<4)=True:=(by simp;omega);have bC:SD.wrap ((p:Int)+1)=((p+1:Nat):Int):=(by rw[bw _ (by omega)];rfl);have AT:=Kn.HF (mp:=mp) hn;have pD:=Kn.ace (mp:=mp) (p:=p) (v:=n|||2^o) (eN hn);have Mc:=Kn.len aq mp;have lO:mv t p=o:=(by unfold mv;rw[SE,ho];rfl);refine aO ?_;refine ak ?_;refine ek 15 ?_;simp only[seval,dL,vF lI,vG lI,b4,AT,kT ho];refine gR (wv (n|||2^o)) (di (uA Dr (show o<16 by omega) ⟨rfl,rfl⟩)) ?_;(try simp only[seval,vF lI,vG lI,b4,Mc]);refine⟨by omega,?_⟩;rw[pD];obtain⟨c0,ym⟩:=bZ (xs:=t) (i:=0) (by omega);have Gj:t.getD 0 0=c0:=(by rw[SE,ym];rfl);rw[Gj]at qD;have St:c0∈t.take 4:=by
      match t,j8,ym with
      |a::t',_,ym=>cases ym;simp
     have pz:=ht.bG.lo c0 St;have Gt:=ht.bG.hi c0 St;have fY:SD.wrap ((o:Int)+c0)=(o:Int)+c0:=bw _ (by omega);have akD:(t.map iv)[0]?=some (iv c0):=(by rw[To,ym];rfl);obtain⟨u,hu⟩:=Int.eq_ofNat_of_zero_le qD;have hu4:u<4:=by
      have h5:iL (t.take 4) ((o:Int)+c0)<0+(t.take 4).length:=ad4;rw[ht.bG.len,hu]at h5;omega
     have hth:ED t p=u:=by
      unfold ED;rw[SE,ho,Gj];simp only[S0];rw[hu];rfl
     obtain⟨G1,yf⟩:∃G1,G1=({P p with aC:=(P p).aC.set p (n|||2^o)}:Kn):=⟨_,rfl⟩;have CZ:bL G1:=(by rw[yf];exact aq.adj (pP Dr (xq (by omega))));have LQ:G1.hours[p]?=some m:=(by rw[yf];exact fW);rw[<- yf];have aaO:=Kn.L9 CZ (mp:=mp) LQ;have aaQ:=Kn.aaK CZ (mp:=mp) (p:=p) (v:=m|||2^u) (eN LQ);have aaP:=Kn.len CZ mp;refine ek 22 ?_;simp only[seval,dL,vF lI,vG lI,b4,aaO,kT ho,KB,j8,fY];rw[<- VJ];refine d_ akD ?_;(try simp only[seval,fY]);refine gR (iv u) (di (Rc (h:=t.take 4) (n:=(o:Int)+c0) ht.bG.len ⟨by rw[hu],rfl⟩)) ?_;refine gR (wv (m|||2^u)) (di (uA aax (show u<16 by omega) ⟨rfl,rfl⟩)) ?_;(try simp only[seval,vF lI,vG lI,b4,aaP]);refine⟨by omega,?_⟩;rw[aaQ];have KU:({G1 with hours:=G1.hours.set p (m|||2^u)}:Kn)=P' p 0:=by
      rw[yf,F_];simp only[hP]at hn fW⊢;rw[sh,lO,Fq hn,wQ,hth,Fq fW];rfl
     have akq:bL (P' p 0):=(by rw[<- KU];exact CZ.adh (pP aax (xq (by omega))));rw[KU];clear pD AT Mc CZ LQ aaO aaQ aaP KU yf hn fW aq;refine ai ?_;simp only[seval,cu,bP,aL];refine bY ?_;refine gF x.pieces.length (λi:Nat=>[(108,iv i)]) (λi=>H1.set fp (.cells ((P' p i).l mp) 88)++[.cells x.l 76,.cells (t.map iv) 86]) (λi=>bL (P' p i)) (λ_ _=>rfl) (by simp only[seval];simp[bm,Wk.refl]) rfl (λ_ _ _=>by simp) akq (λR3 auk q AW nE R' R8=> ?_);refine ak ?_;refine aD ?_;refine⟨λh=> ?_,λh=> ?_⟩
     ·have iH:q<x.pieces.length:=(by omega);obtain⟨o2,ho2,auw,_⟩:=ht.num q iH;have b4q:(0<=(q:Int)/\(q:Int)<4)=True:=(by simp;omega);have wY:SD.wrap ((q:Int)+1)=((q+1:Nat):Int):=(by rw[bw _ (by omega)];rfl);have dc:P' p (q+1)={P' p q with less:=if o<o2 then o0 (P' p q).less p q else(P' p q).less}:=by
       rw[F_,F_,w_];simp only[SE,ho,ho2,S0];by_cases hlt:o<o2
       ·rw[if_pos (by omega),if_pos hlt]
       ·rw[if_neg (by omega),if_neg hlt]
      refine aO ?_;refine ak ?_;refine ek 8 ?_;simp only[seval,dL,b4,b4q,kT ho,kT ho2];refine aD ?_;refine⟨λh=> ?_,λh=> ?_⟩
      ·have hlt:o<o2:=(by simpa using h);rw[if_pos hlt]at dc;obtain⟨v,hv⟩:=bZ (xs:=(P' p q).less) (i:=p) (by have:=nE.less;omega);have G4:v<65536:=nE.mP v (S_ hv);have alL:=Kn.Nf nE (mp:=mp) hv;have alP:=Kn.abx nE (mp:=mp) (p:=p) (v:=v|||2^q) (eN hv);have alO:=Kn.len nE mp;rw[Fq hv]at dc;refine ek 12 ?_;simp only[seval,vF lI,vG lI,b4,alL];refine gR (wv (v|||2^q)) (di (uA G4 (show q<16 by omega) ⟨rfl,rfl⟩)) ?_;(try simp only[seval,vF lI,vG lI,b4,alO]);refine⟨by omega,?_⟩;rw[alP,<- dc];refine ai ?_;simp only[seval,wY];refine R8 _ ⟨iH,?_,?_⟩
       ·rw[dc];exact nE.adi (pP G4 (xq (by omega)))
       ·exact cT
      ·have hlt:¬o<o2:=(by simpa using h);rw[if_neg hlt]at dc;refine aO ?_;refine ai ?_;simp only[seval,wY];rw[show ({P' p q with less:=(P' p q).less}:Kn)=P' p q from rfl]at dc;refine R8 _ ⟨iH,?_,?_⟩
       ·rw[dc];exact nE
       ·rw[dc];exact cT
     ·have hqe:q=x.pieces.length:=(by omega);subst hqe;rw[hPs]at nE⊢;refine bU ?_;refine ai ?_;simp only[seval,bC];exact hR _ ⟨du,nE,cT⟩
    ·have iy:p=x.pieces.length:=(by omega);subst iy;have:=dY _ R1.aK [.cells x.l 76,.cells (t.map iv) 86] rfl rfl;rw[<- hP,GU (P _) (by rw[hP])]at this;refine bU ?_;exact this
end
open Go.Conc Go.Proofs Go.Gg.Tk
namespace Tk
def hO (F:Kn)(hs:List (List Int))(G:Kn):Kn:=if G.has then⟨true,hs.foldl jL F.aK,lS F.aC G.aC,lS F.hours G.hours,lS F.less G.less,lS F.aU G.aU,if F.has=false\/sS G.first F.first then G.first else F.first⟩else F
def nR (l m:List Nat):Nat->List Nat
 |0=>l
 |i+1=>(nR l m i).set i ((nR l m i).getD i 0|||m.getD i 0)
end Tk
theorem HO{l m:List Nat}{i a b:Nat}(ha:(nR l m i)[i]?=some a)(hb:m[i]?=some b):nR l m (i+1)=(nR l m i).set i (a|||b):=by
 rw[nR,SE,SE,ha,hb];rfl
theorem aoK{l m:List Nat}(h:l.length=m.length){i:Nat}(hi:i<=l.length):nR l m i=lS (l.take i) (m.take i)++l.drop i:=by
 induction i with
 |zero=>simp[nR,lS]
 |succ i ih=>
  have hl:i<l.length:=by omega
  have hm:i<m.length:=by omega
  have e1:(lS (l.take i) (m.take i)).length=i:=by simp[lS];omega
  have e2:(nR l m i).getD i 0=l[i]:=by
   rw[ih (by omega),SE,Ta (by omega),e1];simp[hl]
  rw[nR,e2,ih (by omega),Ud _ _ (by omega),e1,Vd,SE,SW hm,S0,TL hl,T4,UZ,UZ,SW hl,SW hm,Ww,Ww];unfold lS;rw[List.zipWith_append (by simp;omega)];simp
theorem HN{l m:List Nat}(h:l.length=m.length){n:Nat}(hn:l.length=n):nR l m n=lS l m:=by
 subst hn;rw[aoK h (SO _),h,TD,TY (by omega),SN,<- h,TD]
theorem ais{lv:Bool}{H:List aa}{k kp:AV->List aa->Prop}{fp mp mg:Nat}{Q G:Kn}(hQ:bL Q)(hG:bL G)(ma:fp≠mp)(wI:mg≠mp)(hf:H[fp]?=some (.cells (Q.l mp) 88))(hm:H[mp]?=some (setH Q.aK))(hg:H[mg]?=some (setH G.aK))(wN:G.aK.Nodup)(hk:∀hs:List (List Int),hs.Perm G.aK->k (.aN []) ((H.set fp (.cells ((hO Q hs G).l mp) 88)).set mp (setH (hO Q hs G).aK))):bf lv SA 102 H [.op fp 0,.agg (G.l mg)] k kp:=by
 refine bI (rs:=[]) (nt:=121) Tryz.f102 λhH hA=> ?_;simp only[bt,SY];have l_:=eN hf;have Dq:=eN hm;have ki:=eN hg;have Gr:=Kn.len hG mg;have GP:=Kn.len hQ mp;have tC:(G.l mg).drop 17=G.first.map iv:=by
  have e:G.l mg=(bv G.has:: .mp mg::(G.aC.map (λn=>wv n)++(G.hours.map (λn=>wv n)++(G.less.map (λn=>wv n)++G.aU.map (λn=>wv n)))))++G.first.map iv:=by simp[Kn.l]
  rw[e,Wu (by simp[hG.aC,hG.hours,hG.less,hG.aU]),TY (by simp[hG.aC,hG.hours,hG.less,hG.aU])];rfl
 refine ak ?_;refine ai ?_;simp only[seval,Kn.CP];refine aD ?_;refine⟨λh=> ?_,λh=> ?_⟩
 ·
  have Lv:G.has=false:=by simpa using h
  have:=hk G.aK (ae' _);rw[hO,Lv]at this;simp only[TP,if_false]at this;rw[qL hf,qL hm]at this;refine bc ?_;exact jA hH (Wk.refl _) (by simp[jK]) this
 ·have Lv:G.has=true:=by simpa using h
  refine aO ?_;obtain⟨R1,qg⟩:∃R1,R1=(if Q.has=false\/sS G.first Q.first=true then{Q with first:=G.first}else Q):=⟨_,rfl⟩;have nu:bL R1:=by
   rw[qg];split
   ·exact⟨hQ.aC,hQ.hours,hQ.less,hQ.aU,hG.first,hQ.mo,hQ.mH,hQ.mP,hQ.lT,hQ.h4⟩
   ·exact hQ
  have C2:R1.aK=Q.aK:=by rw[qg];split<;>rfl
  obtain⟨H1,lD⟩:∃H1,H1=H.set fp (.cells (R1.l mp) 88):=⟨_,rfl⟩;have aX:∀(L:List aa),(H++L)[H.length]?=L[0]?:=λL=>aY H L 0;have cu:∀(z:aa)(L:List aa),(H.set fp z++L)[H.length]?=L[0]?:=λz L=>by have:=aY (H.set fp z) L 0;rwa [TF]at this
  have j8:=hG.first;have A3:TS 11 (G.first.map iv)=G.first.map iv:=SS (by rw[S9];omega);have H8:TS 17 (Q.l mp)++G.first.map iv++TH 28 (Q.l mp)=({Q with first:=G.first}:Kn).l mp:=Kn.ade hQ j8;have hqd:(Q.l mp).drop 17=Q.first.map iv:=by
   have e:Q.l mp=(bv Q.has:: .mp mp::(Q.aC.map (λn=>wv n)++(Q.hours.map (λn=>wv n)++(Q.less.map (λn=>wv n)++Q.aU.map (λn=>wv n)))))++Q.first.map iv:=(by simp[Kn.l]);rw[e,Wu (by simp[hQ.aC,hQ.hours,hQ.less,hQ.aU]),TY (by simp[hQ.aC,hQ.hours,hQ.less,hQ.aU])];rfl
  have aa0:TS 11 (Q.first.map iv)=Q.first.map iv:=SS (by rw[S9,hQ.first];exact SO _);have cP:H1.length=H.length:=by rw[lD,TF]
  cases GO:Q.has
  case' true=>
   refine ek 12 ?_;simp only[seval,fO hf,Kn.CP,GO,aX,tC,hqd,Gr,GP,A3,aa0];refine⟨by omega,by have:=hQ.first;omega,?_⟩;refine aJ ((aiz hG.first hQ.first ?_));(try simp only[seval]);refine aD ?_;refine⟨λhb=> ?tt,λhb=> ?tf⟩
  case' false=>
   refine ek 12 ?_;simp only[seval,fO hf,Kn.CP,GO,aX,tC,hqd,Gr,GP,A3,aa0];refine aD ?_
  case' tt=>
   have e1:R1={Q with first:=G.first}:=(by rw[qg,if_pos (.inr hb)]);refine ai ?_;simp only[seval,fO hf,aX,tC,Gr,GP,A3,j8,vH l_];rw[H8,<- e1,<- lD,<- cP]
  case' tf=>
   have e1:R1=Q:=(by rw[qg,if_neg (by rw[GO,hb];simp)]);have JO:H1=H:=(by rw[lD,e1];exact qL hf);refine aO ?_;rw[<- JO]
  case' false=>
   have e1:R1={Q with first:=G.first}:=(by rw[qg,if_pos (.inl GO)]);refine ai ?_;simp only[seval,fO hf,aX,tC,Gr,GP,A3,j8,vH l_];rw[H8,<- e1,<- lD,<- cP]
  all_goals
   clear e1;have lI:fp<H1.length:=(by omega);have yd:H1[fp]?=some (.cells (R1.l mp) 88):=(by rw[lD,UU,if_pos rfl,if_pos l_]);have F3:H1[mp]?=some (setH R1.aK):=(by rw[lD,Ua ma,C2];exact hm);have hfg:fp≠mg:=λe=>(by subst e;rw[hf]at hg;cases hg);have h1g:H1[mg]?=some (setH G.aK):=(by rw[lD,Ua hfg];exact hg);obtain⟨R2,uE⟩:∃R2,R2=({R1 with has:=true}:Kn):=⟨_,rfl⟩;have eL:AV.val (.bool true)::TH 1 (R1.l mp)=R2.l mp:=(by rw[uE];rfl);have KW:R2.aK=Q.aK:=(by rw[uE];exact C2);have uF:bL R2:=(by rw[uE];exact⟨nu.aC,nu.hours,nu.less,nu.aU,nu.first,nu.mo,nu.mH,nu.mP,nu.lT,nu.h4⟩);refine ai ?_;simp only[seval,fO yd,vH lI,Kn.aq7];refine⟨by have:=Kn.len nu mp;omega,?_⟩;rw[eL];obtain⟨B,hB⟩:∃B:Kn->List (List Int)->List aa,∀K hs,B K hs=(H1.set fp (.cells (K.l mp) 88)).set mp (setH hs):=⟨_,λ_ _=>rfl⟩;have fP:∀K hs,(B K hs).length=H1.length:=λK hs=>(by rw[hB,TF,TF]);have RV:∀K hs (L:List aa),(B K hs++L)[mp]?=some (.obj (.map (hs.zipIdx.map ey).toArray hs.length)):=λK hs L=>by
    rw[SX (by rw[fP];omega),hB,UU,if_pos rfl,if_pos (by rw[TF];omega)];rfl
   have F6:∀K hs (L:List aa),(B K hs++L)[mg]?=some (.obj (.map (G.aK.zipIdx.map ey).toArray G.aK.length)):=λK hs L=>by
    rw[SX (by rw[fP];omega),hB,Ua (λe=>wI e.symm),Ua hfg,h1g];rfl
   have oq:∀K hs (L:List aa),(B K hs++L)[fp]?=some (.cells (K.l mp) 88):=λK hs L=>by
    rw[SX (by rw[fP];omega),hB,Ua (λe=>ma e.symm),UU,if_pos rfl,if_pos (by omega)]
   have ako:∀K hs nI (L:List aa),(B K hs++L).set mp (setH nI)=B K nI++L:=λK hs nI L=>by
    rw[UX _ _ (by rw[fP];omega),hB,hB,Xb]
   have F7:∀K hs K' (L:List aa),(B K hs++L).set fp (.cells (K'.l mp) 88)=B K' hs++L:=λK hs K' L=>by
    rw[UX _ _ (by rw[fP];omega),hB,hB,List.set_comm _ _ (λe=>ma e.symm),Xb]
   have RX:H1.set fp (.cells (R2.l mp) 88)=B R2 R2.aK:=by
    rw[hB];symm;exact qL (by rw[Ua ma,F3,KW,C2])
   have aX:∀K hs (L:List aa),(B K hs++L)[H1.length]?=L[0]?:=λK hs L=>(by rw[<- fP K hs];exact aY _ L 0);have cQ:∀K hs (L:List aa),(B K hs++L)[H1.length+1]?=L[1]?:=λK hs L=>(by rw[<- fP K hs];exact aY _ L 1);have kF:∀K hs (L:List aa),(B K hs++L)[H1.length+2]?=L[2]?:=λK hs L=>(by rw[<- fP K hs];exact aY _ L 2);have Lr:(G.l mg).drop 1=.mp mg::((G.l mg).drop 2):=rfl;have R5:∀K:Kn,(K.l mp).drop 1=.mp mp::((K.l mp).drop 2):=λ_=>rfl;have cH:∀(K:Kn)(hs:List (List Int)),bH (B K hs):=λK hs=>by
    intro z hz;rw[fP];rw[hB]at hz;rcases UD hz with hz|rfl
    ·rcases UD hz with hz|rfl
     ·rw[lD]at hz;rcases UD hz with hz|rfl
      ·exact cP▸hH z hz
      ·intro a ha;simp only[Kn.l,SK,SQ,Te]at ha;rcases ha with rfl|rfl|⟨_,_,rfl⟩|⟨_,_,rfl⟩|⟨_,_,rfl⟩|⟨_,_,rfl⟩|⟨_,_,rfl⟩
       ·exact .val _
       ·exact .mp (by omega)
       all_goals exact .val _
     ·intro a ha;simp only[Kn.l,SK,SQ,Te]at ha;rcases ha with rfl|rfl|⟨_,_,rfl⟩|⟨_,_,rfl⟩|⟨_,_,rfl⟩|⟨_,_,rfl⟩|⟨_,_,rfl⟩
      ·exact .val _
      ·exact .mp (by omega)
      all_goals exact .val _
    ·trivial
   have dY:∀(hs:List (List Int))(K:Kn)(L:List aa),hs.Perm G.aK->hO Q hs G=K->cF H1.length (B K K.aK++L) (.aN []) k:=λhs K L hp hK=>by
    have:=hk hs hp;rw[hK]at this;subst hK;refine jU (Wk.refl _) rfl (by rw[fP];exact SO _) (cH _ _) (by simp[jK]) ?_;rw[hB,lD,Xb];exact this
   rw[RX];clear hk RX;refine ai ?_;simp only[seval,aX,Lr,F6];rw[fP];have Sp:∀K hs (L:List aa) z,(B K hs++L).set (H1.length+1) z=B K hs++L.set 1 z:=λK hs L z=>by
    rw[Ud _ _ (by rw[fP];omega),fP,TU]
   have akC:∀K hs (L:List aa) z,(B K hs++L).set (H1.length+2) z=B K hs++L.set 2 z:=λK hs L z=>by
    rw[Ud _ _ (by rw[fP];omega),fP,TU]
   obtain⟨ts,cR⟩:∃ts,ts=G.aK.zipIdx:=⟨_,rfl⟩;obtain⟨ck,Gm⟩:∃ck,ck=G.aK.length:=⟨_,rfl⟩;rw[<- cR,<- Gm]at F6;rw[<- Gm];have hb:∀y∈ts,y.2<ck:=λy hy=>(by rw[cR]at hy;have:=List.snd_lt_add_of_mem_zipIdx hy;omega);have Ds:(ts.map (·.2)).Nodup:=(by rw[cR,show (λy:List Int×Nat=>y.2)=Prod.snd from rfl,List.zipIdx_map_snd];exact List.nodup_range');have h4:∀y∈ts,y.1.length=4:=λy hy=>(by rw[cR]at hy;exact hG.h4 _ (EQ hy));have fD:=P3 ts ck hb;have Mw:ts.map (·.1)=G.aK:=(by rw[cR,show (λy:List Int×Nat=>y.1)=Prod.fst from rfl,List.zipIdx_map_fst]);clear cR;obtain⟨ac,Gc⟩:∃ac:List (List Int×Nat)->List (List Int),∀vs,ac vs=vs.foldl (λa y=>jL a y.1) R2.aK:=⟨_,λ_=>rfl⟩;have Si:ac []=R2.aK:=(by rw[Gc];rfl);have KX:∀vs y,ac (vs++[y])=jL (ac vs) y.1:=λvs y=>(by rw[Gc,Gc,ZS];rfl);obtain⟨i3,qp,pE⟩:=F.i3;refine bY ?_;refine zU (measure λvs:List (List Int×Nat)=>ts.length-vs.length).wf (λvs=>[]) (λvs=>B R2 (ac vs)++[.cells (G.l mg) 88,.iter mg ck (vs.map (·.2)).toArray ck]) (λvs=>(vs.map (·.2)).Nodup/\(∀y∈vs,y∈ts)/\∀h∈ac vs,h.length=4) [] (λ_ _=>rfl) (by simp) (by rw[Si];rfl) (λ_ _=>by simp[fP]) ⟨by simp,by simp,by rw[Si,KW];exact hQ.h4⟩ (λbJ cm vs aq R hR=> ?_);refine ai ?_;simp only[seval,cQ,F6,Sp];refine⟨fD.elim .inl (λh=> .inr (.inl h)),λe he hn=> ?_,λhs=> ?_⟩
   ·obtain⟨y,hy,rfl⟩:∃y∈ts,ey y=e:=(by simpa using he);refine aD ?_;refine aO ?_;refine bY ?_;have td:=h4 y hy;have K5:(ey y).born=y.2:=rfl;have hlen:(y.1.map iv).length=4:=(by simp[td]);have Ld:TH 4 [AV.val (SF SD 0),AV.val (SF SD 0),AV.val (SF SD 0),AV.val (SF SD 0)]=[]:=rfl;refine ai ?_;simp only[seval,cQ,F6,Sp,akC,kF,fP,Array.back?_push,K5,Rh Ds hy,ach,td,hlen,Ld];refine ek 10 ?_;simp only[seval,oq,R5,RV,kF,hlen,td];have aaZ:TS 4 (y.1.map iv)=y.1.map iv:=SS (by omega);have KE:∀z∈(ac vs).zipIdx,z.1.length=4:=λz hz=>aq.2.2 _ (EQ hz);have Gq:=adP (ts:=(ac vs).zipIdx) F.EK F.u3 qp pE td KE;have Gl:=λb=>adL (b:=b) (k:=.i64) (d:=9998) F.EK F.u3 qp pE td;have GN:((vs.map (·.2)).toArray.push y.2)=((vs++[y]).map (·.2)).toArray:=(by simp);have MD:y.2∉vs.map (·.2):=(by simpa[ey]using hn);have tI:((vs++[y]).map (·.2)).Nodup/\(∀z∈vs++[y],z∈ts)/\∀h∈ac (vs++[y]),h.length=4:=by
     refine⟨?_,λz hz=> ?_,λh hh=> ?_⟩
     ·rw[TG,Vb];refine⟨aq.1,by simp,λa ha b hb=> ?_⟩;simp at hb;subst hb;intro e;subst e;exact MD ha
     ·rcases SQ.1 hz with h|h
      ·exact aq.2.1 z h
      ·rw[S8.1 h];exact hy
     ·rw[KX,jL]at hh;split at hh
      ·exact aq.2.2 _ hh
      ·rcases SQ.1 hh with h'|h'
       ·exact aq.2.2 _ h'
       ·rw[S8.1 h'];exact td
    have hlen:vs.length<ts.length:=by
     have h1:(vs++[y]).Nodup:=Ee _ tI.1;have:=h1.length_le_of_subset tI.2.1;simp at this;omega
    have rS:ts.length-(vs++[y]).length<ts.length-vs.length:=(by simp;omega);have GI:∀sn,bH (B R2 (ac (vs++[y]))++[aa.cells (G.l mg) 88,aa.iter mg ck sn ck]):=λsn z hz=>by
     rcases SQ.1 hz with h|h
     ·exact(cH _ _ z h).mono (by simp)
     ·have KN:∀a∈G.l mg,Lt H1.length a:=λa ha=>by
       simp only[Kn.l,SK,SQ,Te]at ha;rcases ha with rfl|rfl|⟨_,_,rfl⟩|⟨_,_,rfl⟩|⟨_,_,rfl⟩|⟨_,_,rfl⟩|⟨_,_,rfl⟩
       ·exact .val _
       ·exact .mp (by omega)
       all_goals exact .val _
      simp only[SK,SZ,or_false]at h;rcases h with rfl|rfl
      ·intro a ha;exact(KN a ha).mono (by simp[fP])
      ·show mg<_;simp[fP];omega
    rw[aaZ];refine d_ F.Ph (d_ (vB _) ⟨Gl _,_,Gq,?_⟩);rcases Kj (x:=y.1) (hs:=ac vs)with⟨h,Dt⟩|⟨i',b,h,h2,Dt⟩
    ·rw[h];(try simp only[seval,AV.found]);refine ak ?_;refine aD ?_;refine ek 5 ?_;simp only[seval,oq,R5,RV,kF,hlen,td];rw[aaZ];refine d_ (vB _) (d_ rfl ⟨Gl _,_,Gq,?_,?_⟩)
     ·intro i v pw;rw[h]at pw;cases pw
     ·rw[h,acH,<- adf,ako,show ac vs++[y.1]=ac (vs++[y]) by rw[KX,jL,if_neg Dt],GN];refine hR _ ⟨vs++[y],rS,tI,?_⟩;exact Bt (pL rfl rfl) (by simp only[seval]<;>simp[bm,Wk.refl]) (GI _) (by simp[eC])
    ·rw[h];(try simp only[seval,AV.found]);refine ak ?_;refine aD ?_;refine aO ?_;rw[show ac vs=ac (vs++[y]) by rw[KX,jL,if_pos Dt],GN];refine hR _ ⟨vs++[y],rS,tI,?_⟩;exact Bt (pL rfl rfl) (by simp only[seval]<;>simp[bm,Wk.refl]) (GI _) (by simp[eC])
   ·have hp:vs.Perm ts:=ac2 aq.1 Ds aq.2.1 λy hy=>by
     have:=hs (ey y) (by simp;exact⟨y.1,y.2,hy,rfl⟩) (hb y hy);simpa[ey]using this
    refine aD ?_;refine bU ?_;obtain⟨K,hK⟩:∃K:Nat->Nat->Kn,∀i j,K i j={R2 with aC:=nR R2.aC G.aC i,hours:=nR R2.hours G.hours i,less:=nR R2.less G.less i,aU:=nR R2.aU G.aU j}:=⟨_,λ_ _=>rfl⟩;have R4:K 0 0=R2:=(by rw[hK];rfl);refine ak ?_;refine bY ?_;refine gF 4 (λi:Nat=>[(57,iv i)]) (λi=>B (K i 0) (ac vs)++[.cells (G.l mg) 88,.iter mg ck (vs.map (·.2)).toArray ck]) (λi=>bL (K i 0)) (λ_ _=>rfl) (by simp only[seval];simp[bm,Wk.refl]) (by rw[R4]) (λ_ _ _=>by simp[fP]) (by rw[R4];exact uF) (λauh aul i cK uW R hR=> ?_);refine ak ?_;refine aD ?_;refine⟨λh=> ?_,λh=> ?_⟩
    ·have bB:i<4:=(by omega);obtain⟨a1,rC⟩:=bZ (xs:=(K i 0).aC) (i:=i) (by have:=uW.aC;omega);obtain⟨a2,C4⟩:=bZ (xs:=(K i 0).hours) (i:=i) (by have:=uW.hours;omega);obtain⟨a3,Gb⟩:=bZ (xs:=(K i 0).less) (i:=i) (by have:=uW.less;omega);obtain⟨c1,dq⟩:=bZ (xs:=G.aC) (i:=i) (by have:=hG.aC;omega);obtain⟨c2,cO⟩:=bZ (xs:=G.hours) (i:=i) (by have:=hG.hours;omega);obtain⟨c3,dQ⟩:=bZ (xs:=G.less) (i:=i) (by have:=hG.less;omega);have D3:=uW.mo _ (S_ rC);have la2:=uW.mH _ (S_ C4);have la3:=uW.mP _ (S_ Gb);have D5:=hG.mo _ (S_ dq);have lc2:=hG.mH _ (S_ cO);have lc3:=hG.mP _ (S_ dQ);have b4:(0<=(i:Int)/\(i:Int)<4)=True:=(by simp;omega);have bC:SD.wrap ((i:Int)+1)=((i+1:Nat):Int):=(by rw[bw _ (by omega)];rfl);refine aO ?_;refine ak ?_;obtain⟨Ka,C1⟩:∃Ka,Ka=({K i 0 with aC:=(K i 0).aC.set i (a1|||c1)}:Kn):=⟨_,rfl⟩;have HH:bL Ka:=(by rw[C1];exact uW.adj (pP D3 D5));have sa:=Kn.ace (F:=K i 0) (mp:=mp) (p:=i) (v:=a1|||c1) (eN rC);rw[<- C1]at sa;refine ek 13 ?_;simp only[seval,oq,aX,b4,Kn.HF rC,Kn.HF dq,Ck,HP D3 D5,Kn.len uW mp];refine⟨by omega,?_⟩;rw[sa,F7];obtain⟨Kb,F8⟩:∃Kb,Kb=({Ka with hours:=Ka.hours.set i (a2|||c2)}:Kn):=⟨_,rfl⟩;have HI:bL Kb:=(by rw[F8];exact HH.adh (pP la2 lc2));have uJ:Ka.hours[i]?=some a2:=(by rw[C1];exact C4);have sb:=Kn.aaK HH (mp:=mp) (p:=i) (v:=a2|||c2) (eN uJ);rw[<- F8]at sb;refine ek 13 ?_;simp only[seval,oq,aX,b4,Kn.L9 HH uJ,Kn.L9 hG cO,Ck,HP la2 lc2,Kn.len HH mp];refine⟨by omega,?_⟩;rw[sb,F7];have Gh:Kb.less[i]?=some a3:=(by rw[F8,C1];exact Gb);have sc:=Kn.abx HI (mp:=mp) (p:=i) (v:=a3|||c3) (eN Gh);have yg:({Kb with less:=Kb.less.set i (a3|||c3)}:Kn)=K (i+1) 0:=by
      rw[F8,C1,hK (i+1)];simp only[hK]at rC C4 Gb⊢;rw[HO rC dq,HO C4 cO,HO Gb dQ]
     have NC:bL (K (i+1) 0):=(by rw[<- yg];exact HI.adi (pP la3 lc3));rw[yg]at sc;refine ek 13 ?_;simp only[seval,oq,aX,b4,Kn.Nf HI Gh,Kn.Nf hG dQ,Ck,HP la3 lc3,Kn.len HI mp];refine⟨by omega,?_⟩;rw[sc,F7];refine ai ?_;simp only[seval,bC];exact hR _ ⟨bB,NC,cT⟩
    ·have dD:i=4:=(by omega);subst dD;refine bU ?_;refine ak ?_;refine bY ?_;refine gF 3 (λi:Nat=>[(103,iv i)]) (λj=>B (K 4 j) (ac vs)++[.cells (G.l mg) 88,.iter mg ck (vs.map (·.2)).toArray ck]) (λj=>bL (K 4 j)) (λ_ _=>rfl) (by simp only[seval];simp[bm,Wk.refl]) rfl (λ_ _ _=>by simp[fP]) uW (λaui aum j py AP R hR=> ?_);refine ak ?_;refine aD ?_;refine⟨λh=> ?_,λh=> ?_⟩
     ·have e9:j<3:=(by omega);obtain⟨a1,rC⟩:=bZ (xs:=(K 4 j).aU) (i:=j) (by have:=AP.aU;omega);obtain⟨c1,dq⟩:=bZ (xs:=G.aU) (i:=j) (by have:=hG.aU;omega);have D3:=AP.lT _ (S_ rC);have D5:=hG.lT _ (S_ dq);have b3:(0<=(j:Int)/\(j:Int)<3)=True:=(by simp;omega);have bC:SD.wrap ((j:Int)+1)=((j+1:Nat):Int):=(by rw[bw _ (by omega)];rfl);refine aO ?_;refine ak ?_;have sa:=Kn.acA AP (mp:=mp) (p:=j) (v:=a1|||c1) (eN rC);have yg:({K 4 j with aU:=(K 4 j).aU.set j (a1|||c1)}:Kn)=K 4 (j+1):=by
       rw[hK 4 (j+1)];simp only[hK]at rC⊢;rw[HO rC dq]
      have NC:bL (K 4 (j+1)):=(by rw[<- yg];exact AP.Ew (pP D3 D5));rw[yg]at sa;refine ek 13 ?_;simp only[seval,oq,aX,b3,Kn.En AP rC,Kn.En hG dq,Ck,HP D3 D5,Kn.len AP mp];refine⟨by omega,?_⟩;rw[sa,F7];refine ai ?_;simp only[seval,bC];exact hR _ ⟨e9,NC,cT⟩
     ·have LI:j=3:=(by omega);subst LI;refine bU ?_;have Md:(vs.map (·.1)).Perm G.aK:=by
       have:=hp.map (·.1);rw[Mw]at this;exact this
      have akt:ac vs=(vs.map (·.1)).foldl jL Q.aK:=(by rw[Gc,KW,List.foldl_map]);have hJ:hO Q (vs.map (·.1)) G={K 4 3 with aK:=ac vs}:=by
       have e2:R2=⟨true,Q.aK,Q.aC,Q.hours,Q.less,Q.aU,if Q.has=false\/sS G.first Q.first=true then G.first else Q.first⟩:=by
        rw[uE,qg];split<;>rfl
       rw[hO,if_pos Lv,hK,HN (by rw[uF.aC,hG.aC]) uF.aC,HN (by rw[uF.hours,hG.hours]) uF.hours,HN (by rw[uF.less,hG.less]) uF.less,HN (by rw[uF.aU,hG.aU]) uF.aU,akt,e2]
      have:=dY (vs.map (·.1)) _ [.cells (G.l mg) 88,.iter mg ck (vs.map (·.2)).toArray ck] Md hJ;rw[show B ({K 4 3 with aK:=ac vs}:Kn) (ac vs)=B (K 4 3) (ac vs) by rw[hB,hB];rfl]at this;exact this
open Go.Conc Go.Proofs Go.Gg.Tk
namespace Tk
theorem Co{l:List Nat}{i v:Nat}:(o0 l i v).length=l.length:=by simp[o0]
theorem Fs{l:List Nat}{i v:Nat}(h:∀n∈l,n<65536)(hv:v<16):∀n∈o0 l i v,n<65536:=by
 refine D_ h (pP ?_ (xq hv));rw[SE];cases hi:l[i]?with
 |none=>exact(by decide:0<65536)
 |some a=>exact h _ (S_ hi)
theorem ar8{x:aj}{t:List Int}(ht:jw x t){p:Nat}(hp:p<x.pieces.length):mv t p<16:=by
 obtain⟨n,h1,h2,_⟩:=ht.num p hp;unfold mv;rw[SE,h1];show n<16;omega
theorem ar7{t:List Int}(h:t.length=11){p:Nat}:ED t p<16:=by
 unfold ED;have h5:iL (t.take 4) (t.getD (4+p) 0+t.getD 0 0)<0+(t.take 4).length:=ad4;have:(t.take 4).length=4:=by simp[h]
 omega
theorem ar9{x:aj}{t:List Int}(ht:jw x t){s:Nat}(hs:s<x.aA.length):sr t s<16:=by
 obtain⟨n,h1,h2⟩:=ht.own s hs;unfold sr;rw[SE,h1];show n<16;omega
theorem acz{x:aj}{t:List Int}(ht:jw x t){l:List Nat}(hl:∀n∈l,n<65536):∀{s:Nat},s<=x.aA.length->(mR t s l).length=l.length/\∀n∈mR t s l,n<65536
 |0,_=>⟨rfl,hl⟩
 |s+1,h=>by
  obtain⟨h1,h2⟩:=acz ht hl (s:=s) (by omega);exact⟨Co.trans h1,Fs h2 (ar9 ht (by omega))⟩
theorem ab9{x:aj}{t:List Int}(ht:jw x t){l:List Nat}(hl:∀n∈l,n<65536):∀{s:Nat},s<=x.pieces.length->(sh t s l).length=l.length/\∀n∈sh t s l,n<65536
 |0,_=>⟨rfl,hl⟩
 |s+1,h=>by
  obtain⟨h1,h2⟩:=ab9 ht hl (s:=s) (by omega);exact⟨Co.trans h1,Fs h2 (ar8 ht (by omega))⟩
theorem aaJ{t:List Int}(ht:t.length=11){l:List Nat}(hl:∀n∈l,n<65536):∀{s:Nat},(wQ t s l).length=l.length/\∀n∈wQ t s l,n<65536
 |0=>⟨rfl,hl⟩
 |s+1=>by
  obtain⟨h1,h2⟩:=aaJ ht hl (s:=s);exact⟨Co.trans h1,Fs h2 (ar7 ht)⟩
theorem abw{t:List Int}{p:Nat}{l:List Nat}(hl:∀n∈l,n<65536):∀{q:Nat},q<=4->(w_ t p q l).length=l.length/\∀n∈w_ t p q l,n<65536
 |0,_=>⟨rfl,hl⟩
 |q+1,h=>by
  obtain⟨h1,h2⟩:=abw hl (q:=q) (t:=t) (p:=p) (by omega);unfold w_;split
  ·exact⟨Co.trans h1,Fs h2 (by omega)⟩
  ·exact⟨h1,h2⟩
theorem abv{t:List Int}{k:Nat}(hk:k<=4){l:List Nat}(hl:∀n∈l,n<65536):∀{p:Nat},(yU t k p l).length=l.length/\∀n∈yU t k p l,n<65536
 |0=>⟨rfl,hl⟩
 |p+1=>by
  obtain⟨h1,h2⟩:=abv hk hl (p:=p) (t:=t);obtain⟨h3,h4⟩:=abw h2 (t:=t) (p:=p) hk;exact⟨h3.trans h1,h4⟩
theorem acE{hs:List (List Int)}{h:List Int}(h1:∀y∈hs,y.length=4)(h2:h.length=4):∀y∈jL hs h,y.length=4:=λy hy=>by
 unfold jL at hy;split at hy
 ·exact h1 y hy
 ·rcases SQ.1 hy with h'|h'
  ·exact h1 y h'
  ·rw[S8.1 h'];exact h2
theorem Oy{x:aj}{deep:Int}{Q:Kn}{t:List Int}(hx:x.Ok)(ht:jw x t)(hQ:bL Q):bL (eD x deep Q t):=by
 have hB:=PS hQ ht.len;unfold eD;dsimp only;generalize jQ Q t=R at hB;split
 ·obtain⟨h1,h2⟩:=acz ht hB.lT (SO _);exact⟨hB.aC,hB.hours,hB.less,h1.trans hB.aU,hB.first,hB.mo,hB.mH,hB.mP,h2,hB.h4⟩
 ·split
  ·exact⟨hB.aC,hB.hours,hB.less,hB.aU,hB.first,hB.mo,hB.mH,hB.mP,hB.lT,acE hB.h4 (by simp[ht.len])⟩
  ·obtain⟨h1,h2⟩:=ab9 ht hB.mo (SO _);obtain⟨h3,h4⟩:=aaJ ht.len hB.mH (s:=x.pieces.length);obtain⟨h5,h6⟩:=abv (t:=t) hx.ec hB.mP (p:=x.pieces.length);exact⟨h1.trans hB.aC,h3.trans hB.hours,h5.trans hB.less,hB.aU,hB.first,h2,h4,h6,hB.lT,hB.h4⟩
theorem OG{x:aj}{deep:Int}{h t:List Int}(ht:t∈iM x deep h):∃ns∈fZ x h,t∈(iB x h ns).map (dE h ns):=by
 have key:t∈((fZ x h).map λns=>(iB x h ns).map λos=>dE h ns os).flatten:=by
  unfold iM at ht;dsimp only at ht;split at ht
  ·exact Wy ht
  ·split at ht
   ·obtain⟨l,h1,h2⟩:=XP.1 ht;obtain⟨m,h3,rfl⟩:=Te.1 h1;exact XP.2 ⟨m,h3,Wy h2⟩
   ·exact ht
 obtain⟨l,h1,h2⟩:=XP.1 key;obtain⟨ns,h3,rfl⟩:=Te.1 h1;exact⟨ns,h3,h2⟩
theorem D2:bL Kn.zero:=by
 have h0:∀k:Nat,∀n∈TJ k 0,n<65536:=λk n h=>by rw[(XB.1 h).2];decide
 exact⟨rfl,rfl,rfl,rfl,rfl,h0 4,h0 4,h0 4,h0 3,λh hh=>by cases hh⟩
theorem Kv{x:aj}{deep:Int}(hx:x.Ok):∀{ts:List (List Int)}{Q:Kn},(∀t∈ts,jw x t)->bL Q->bL (ts.foldl (eD x deep) Q)
 |[],Q,_,h=>h
 |t::ts,Q,ht,h=>by rw[U4];exact Kv hx (λu hu=>ht u (by simp[hu])) (Oy hx (ht t (by simp)) h)
end Tk
theorem yQ{K:Kn}{mp m:Nat}(h:mp<m):∀a∈K.l mp,Lt m a:=λa ha=>by
 simp only[Kn.l,SK,SQ,Te]at ha;rcases ha with rfl|rfl|⟨_,_,rfl⟩|⟨_,_,rfl⟩|⟨_,_,rfl⟩|⟨_,_,rfl⟩|⟨_,_,rfl⟩
 ·exact .val _
 ·exact .mp h
 all_goals exact .val _
theorem Hj{K:Kn}{mp m:Nat}(h:∀a∈K.l mp,Lt m a):mp<m:=by
 cases h (.mp mp) (by simp[Kn.l]);assumption
def cs:T7->T7
 |.seq _ c=>c
 |_=> .skip
def cf:T7->T7
 |.seq c _=>c
 |_=> .skip
noncomputable def abj:T7:=auU.body.getD .skip
def vf (x:aj)(bh:Nat)(deep:Int)(c:Nat)(w:SP):List (Nat×AV):=[(12,.fn (.func 86) [] [.op 2 0,.op 3 0]),(5,.op 1 0),(0,.val w),(1,.rp x.l),(2,.rp [iv bh]),(3,.rp [iv deep]),(4,.rp [.val (.chan (some c))])]
def w7 (x:aj)(bh:Nat)(K:Kn):List aa:=[setH K.aK,.cells (K.l 0) 88,.cells x.l 76,.cells [iv bh] 3]
theorem amJ{lv:Bool}{x:aj}{bh c:Nat}{w:SP}{deep:Int}{bs:List U2}(hx:x.Ok)(lO:bh<=3)(hA:∀h∈kq x bh,mA h/\∀ns∈fZ x h,∀a∈(iB x h ns).map (dE h ns),jw x a)(Φ:an->AS->List Nat->Prop)(hΦ:Φ .normal ⟨vf x bh deep c w,w7 x bh (gT x deep bh)++[.obj (.deferred (some [])),.gone]⟩ [4]):
  kz lv SA 25 bs (cs (cf (cs (cs abj)))) ⟨vf x bh deep c w,w7 x bh Kn.zero⟩ [] Φ:=by
 unfold abj auU;dsimp only[S0,cs,cf];refine xO ?_;refine Ji (by rfl) λl fn T ag bo hT yj qj=> ?_;(try simp only[seval,w7]);simp only[vf,iv]at hT;have bP:x.l=[iv x.first,iv x.hours,iv x.am,cY x.seen,aL x.pieces,aL x.aA]:=rfl;obtain⟨Gf,nq⟩:∃Gf:Kn->List aa,∀K,Gf K=[setH K.aK,.cells (K.l 0) 88,.cells x.l 76,.cells [iv bh] 3,.obj (.deferred (some [])),.loop l .ready none fn T 25 #[13] ag bo 4]:=⟨_,λ_=>rfl⟩;have KN:∀K,(Gf K).length=6:=λK=>by rw[nq];rfl
 have akp:∀m K K',(∀z∈Gf K,eQ m z)->∀z∈Gf K',eQ m z:=λm K K' hz z eW=>by
  rw[nq]at hz eW;have h1:=hz (.cells (K.l 0) 88) (by simp);simp only[SK,SZ,or_false]at eW;rcases eW with rfl|rfl|rfl|rfl|rfl|rfl
  ·trivial
  ·exact yQ (Hj h1)
  ·exact hz _ (by simp)
  ·exact hz _ (by simp)
  ·exact hz _ (by simp)
  ·exact hz _ (by simp)
 have hY:jP lv SA (.fn (.yield l) [] []) (λK h=> .go ((iM x deep h).foldl (eD x deep) K)) Gf 6 bL (λh=>mA h/\∀ns∈fZ x h,∀a∈(iB x h ns).map (dE h ns),jw x a) (.aN []):=by
  refine⟨λK h M k kp hK ha dO=> ?_,λK h K' hK ha he=> ?_,KN,akp,rfl,rfl,rfl⟩
  ·obtain⟨pu,DK⟩:=ha;have h4:=pu.len;have nm:(h.map iv).length=4:=(by rw[S9,h4]);obtain⟨Lo,kX⟩:∃Lo,Lo=aa.loop l .busy none fn T 25 #[13] ag bo 4:=⟨_,rfl⟩;obtain⟨P1,dB⟩:∃P1:Kn->List aa,∀K,P1 K=[setH K.aK,.cells (K.l 0) 88,.cells x.l 76,.cells [iv bh] 3,.obj (.deferred (some [])),Lo]++M:=⟨_,λ_=>rfl⟩;have eo:∀K,(P1 K).length=6+M.length:=λK=>(by rw[dB];simp;omega);have pg:∀(K:Kn)(L:List aa)(i:Nat),i<6->(P1 K++L)[i]?=[setH K.aK,aa.cells (K.l 0) 88,.cells x.l 76,.cells [iv bh] 3,.obj (.deferred (some [])),Lo][i]?:=λK L i LB=>by
    rw[dB,SC,SX (by simpa using LB)]
   have pb:∀(K:Kn)(L:List aa)(i:Nat),(P1 K++L)[6+M.length+i]?=L[i]?:=λK L i=>(by rw[<- eo K,aY]);have xf:∀(K:Kn)(L:List aa),(P1 K++L)[6+M.length]?=L[0]?:=λK L=>pb K L 0;have pQ:∀(K:Kn)(L:List aa)(y:aa),(P1 K++L).set (6+M.length+4) y=P1 K++L.set 4 y:=λK L y=>(by rw[<- eo K,dJ]);have s5:∀(K:Kn)(L:List aa) y,(P1 K++L).set 5 y=[setH K.aK,.cells (K.l 0) 88,.cells x.l 76,.cells [iv bh] 3,.obj (.deferred (some [])),y]++M++L:=λK L y=>(by rw[dB];rfl);have Bg:∀(K K':Kn)(L L':List aa),L'.length=L.length->(∀q,(∀z∈L,eQ q z)->∀z∈L',eQ q z)->bH (P1 K++L)->bH (P1 K'++L'):=λK K' L L' hl hL hH z hz=>by
    have hlen:(P1 K'++L').length=(P1 K++L).length:=(by simp[eo,hl]);rw[hlen];rcases SQ.1 hz with h'|h'
    ·rw[dB]at h';rcases SQ.1 h' with h'|h'
     ·have h1:=hH (.cells (K.l 0) 88) (by rw[dB];simp);have hq:∀w∈[setH K.aK,aa.cells (K.l 0) 88,.cells x.l 76,.cells [iv bh] 3,.obj (.deferred (some [])),Lo],eQ (P1 K++L).length w:=λw hw=>hH w (by rw[dB,SC];exact Th _ hw);simp only[SK,SZ,or_false]at h';rcases h' with rfl|rfl|rfl|rfl|rfl|rfl
      ·trivial
      ·exact yQ (Hj h1)
      ·exact hq _ (by simp)
      ·exact hq _ (by simp)
      ·exact hq _ (by simp)
      ·exact hq _ (by simp)
     ·exact hH z (by rw[dB];simp[h'])
    ·exact hL _ (λw hw=>hH w (S4 _ hw)) z h'
   simp only[cX]at dO;rw[nq]at dO;rw[nq];subst hT yj qj;refine wc (id:=5) (by rfl) rfl (by kernel_rfl) λov KH=> ?_;simp only[sC];have wF:TH 4 [iv 0,iv 0,iv 0,iv 0]=[]:=rfl;refine ai ?_;simp only[seval,vf,h4,wF];unfold un;refine⟨none,fn,_,25,#[13],_,_,_,by rfl,?_⟩;dsimp only;simp only[UJ,T4];rw[<- kX];have ye:M.length+1+1+1+1+1+1=6+M.length:=(by omega);rw[ye];have yr:∀z:aa,(setH K.aK::aa.cells (K.l 0) 88::aa.cells x.l 76::aa.cells [AV.val (SF SD ↑bh)] 3::aa.obj (au_ (some []))::Lo::(M++[z]))=P1 K++[z]:=λz=>(by rw[dB];rfl);rw[yr];refine ai ?_;simp only[seval,bP,xf,h4,nm];rw[SS (i:=4) (l:=h.map iv) (by rw[nm];exact SO _)];refine aJ ((Kc (x:=x) (h:=h) (deep:=deep) ?_));(try simp only[seval]);refine bY ?_;have qt:∀(K:Kn)(a b c d:aa),(P1 K++[a,b,c,d]).length=6+M.length+4:=λK a b c d=>(by simp[eo]);refine Fx 5 (by rfl) (by show (P1 K++_)[5]?=_;rw[pg K _ 5 (by omega),kX];rfl) λl2 eM T2 gE gG ox yk yl=> ?_;simp only[seval];rw[eo]at ox⊢;have yi:jP lv SA (.fn (.yield l2) [] []) (λK t=> .go (eD x deep K t)) (λK=>P1 K++[.cells (h.map iv) 83,.cells x.l 76,.cells (h.map iv) 83,.cells [iv deep] 3,.loop l2 .ready none eM T2 25 #[18] gE gG 4]) (6+M.length+5) bL (jw x) (.aN []):=by
    refine⟨λK' t M2 k2 yR KQ ht ld=> ?_,λK' t B3 KQ ht he=> ?_,λK'=>by simp[eo],λq K' B3 hz z eW=> ?_,rfl,rfl,rfl⟩
    ·have qC:=ht.len;have A4:(t.map iv).length=11:=(by rw[S9,qC]);obtain⟨pY,tg⟩:∃Lo,Lo=aa.loop l2 .busy none eM T2 25 #[18] gE gG 4:=⟨_,rfl⟩;obtain⟨Q1,gp⟩:∃Q1:Kn->List aa,∀K,Q1 K=P1 K++([.cells (h.map iv) 83,.cells x.l 76,.cells (h.map iv) 83,.cells [iv deep] 3,pY]++M2):=⟨_,λ_=>rfl⟩;obtain⟨C,hC⟩:∃C,C=6+M.length+5+M2.length:=⟨_,rfl⟩;have KV:∀K,(Q1 K).length=C:=λK=>(by rw[gp,hC];simp[eo];omega);have lV:∀(K:Kn)(L:List aa),(P1 K++L)[6+M.length+4]?=L[4]?:=λK L=>pb K L 4;have q0:∀(K:Kn)(L:List aa),(Q1 K++L)[0]?=some (setH K.aK):=λK L=>(by rw[gp,SC];exact pg K _ 0 (by omega));have q1:∀(K:Kn)(L:List aa),(Q1 K++L)[1]?=some (.cells (K.l 0) 88):=λK L=>(by rw[gp,SC];exact pg K _ 1 (by omega));have q4:∀(K:Kn)(L:List aa),(Q1 K++L)[6+M.length+4]?=some pY:=λK L=>(by rw[gp,SC,lV];rfl);have qc:∀(K:Kn)(L:List aa),(Q1 K++L)[C]?=L[0]?:=λK L=>(by rw[<- KV K];exact aY _ L 0);have N7:∀(K:Kn)(L:List aa)(y:aa),(Q1 K++L).set (6+M.length+4) y=(P1 K++([.cells (h.map iv) 83,.cells x.l 76,.cells (h.map iv) 83,.cells [iv deep] 3,y]++M2))++L:=λK L y=>(by rw[gp,SC,pQ];simp);have ap7:∀(K K':Kn)(L:List aa),((Q1 K++L).set 1 (.cells (K'.l 0) 88)).set 0 (setH K'.aK)=Q1 K'++L:=λK K' L=>(by rw[gp,gp,dB,dB];rfl);have fE:∀(B3:Kn),bH (P1 K'++([.cells (h.map iv) 83,.cells x.l 76,.cells (h.map iv) 83,.cells [iv deep] 3,.loop l2 .ready none eM T2 25 #[18] gE gG 4]++M2))->bH (P1 B3++([.cells (h.map iv) 83,.cells x.l 76,.cells (h.map iv) 83,.cells [iv deep] 3,.loop l2 .ready none eM T2 25 #[18] gE gG 4]++M2)):=λB3 iq=>Bg K' B3 _ _ rfl (λq hz=>hz) iq;simp only[cX]at ld;have Lm:∀z:aa,P1 K'++(aa.cells (Ve iv h) 83::aa.cells x.l 76::aa.cells (Ve iv h) 83::aa.cells [AV.val (SF SD deep)] 3::pY::(M2++[z]))=Q1 K'++[z]:=λz=>(by rw[gp];simp[iv]);subst ox yk yl;rw[SC];refine wc (id:=6+M.length+4) (by rw[lV];rfl) rfl (by kernel_rfl) λrA KI=> ?_;simp only[sC];have De:TH 11 [iv 0,iv 0,iv 0,iv 0,iv 0,iv 0,iv 0,iv 0,iv 0,iv 0,iv 0]=[]:=rfl;refine ai ?_;simp only[seval,qC,De];unfold un;refine⟨none,eM,_,25,#[18],_,_,_,by rw[lV];rfl,?_⟩;dsimp only;rw[pQ];simp only[UJ,T4];rw[<- tg];have CX:(P1 K').length+(M2.length+1+1+1+1+1)=C:=(by rw[eo,hC];omega);rw[CX];have iS:∀z:aa,(P1 K'++aa.cells (Ve iv h) 83::aa.cells x.l 76::aa.cells (Ve iv h) 83::aa.cells [AV.val (SF SD deep)] 3::pY::(M2++[z]))=Q1 K'++[z]:=Lm;rw[iS];refine ai ?_;simp only[seval,bP,qc,qC,A4];rw[SS (i:=11) (l:=t.map iv) (by rw[A4];exact SO _)];refine aJ ((ajn (x:=x) (t:=t) (deep:=deep) (fp:=1) (mp:=0) (Q:=K') hx ht KQ (by decide) (q1 K' _) (q0 K' _) ?_));rw[ap7];(try simp only[seval]);show oZ _ _ _ _ _ _ _;refine⟨l2,.busy,none,eM,_,25,#[18],_,_,4,by show (Q1 _++_)[_]?=_;rw[q4,tg],?_⟩;show cF C ((Q1 _++_).set _ _) _ k2;rw[N7];rw[SC]at ld;exact jU (G:=[.cells (t.map iv) 86]) (Wk.refl _) rfl (by rw[hC];simp[eo];omega) (fE _ rA) (.val _) ld
    ·cases he;exact Oy hx ht KQ
    ·rcases SQ.1 eW with h'|h'
     ·have h1:=hz (.cells (K'.l 0) 88) (by rw[dB];simp);rw[dB]at h';rcases SQ.1 h' with h'|h'
      ·simp only[SK,SZ,or_false]at h';rcases h' with rfl|rfl|rfl|rfl|rfl|rfl
       ·trivial
       ·exact yQ (Hj h1)
       all_goals exact hz _ (by rw[dB];simp)
      ·exact hz z (by rw[dB];simp[h'])
     ·exact hz z (S4 _ h')
   refine di (Kg (x:=x) (h:=h) (deep:=deep) (ir:=6+M.length+1) (ih:=6+M.length+1+1) (id:=6+M.length+1+2) (σ:=K) hx pu yi (λK L=> ?_) (λK L=> ?_) (λK L=> ?_) (λn=>by simp[jK]) hK (λa ha=>ha.len) DK ?_)
   ·rw[SC];exact pb _ _ 1
   ·rw[SC];exact pb _ _ 2
   ·rw[SC];exact pb _ _ 3
   rw[Ep (g:=eD x deep) (λ_ _=>rfl)];simp only[gg,SN];have lV:∀(K:Kn)(L:List aa),(P1 K++L)[6+M.length+4]?=L[4]?:=λK L=>pb K L 4;refine⟨.ready,none,_,_,_,_,_,_,_,by rw[lV];rfl,by decide,?_⟩;rw[pQ,HV];(try simp only[seval]);show oZ _ _ _ _ _ _ _;have auj:=kX;refine⟨l,.busy,none,fn,_,25,#[13],_,_,4,by show (P1 _++_)[_]?=_;rw[pg _ _ 5 (by omega),kX];rfl,?_⟩;show cF (6+M.length) ((P1 _++_).set _ _) _ k;rw[s5];refine jU (G:=[.cells (h.map iv) 83,.cells x.l 76,.cells (h.map iv) 83,.cells [iv deep] 3,.gone]) (Wk.refl _) rfl (by simp;omega) ?_ (.val _) dO;intro z hz;have h1:=ov (.cells (K.l 0) 88) (by simp);have hlen:∀(y:aa),([setH (ae_ (eD x deep) K (iM x deep h)).aK,aa.cells ((ae_ (eD x deep) K (iM x deep h)).l 0) 88,.cells x.l 76,.cells [iv bh] 3,.obj (.deferred (some [])),y]++M).length=(setH K.aK::aa.cells (K.l 0) 88::aa.cells x.l 76:: .cells [iv bh] 3:: .obj (.deferred (some []))::y::M).length:=λy=>rfl;rcases SQ.1 hz with h'|h'
   ·simp only[SK,SZ,or_false]at h';rcases h' with rfl|rfl|rfl|rfl|rfl|rfl
    ·trivial
    ·exact yQ (Hj h1)
    all_goals exact ov _ (by simp)
   ·exact ov z (by simp[h'])
  ·cases he;exact Kv hx (λt ht=>by obtain⟨ns,h1,h2⟩:=OG ht;exact ha.2 ns h1 t h2) hK
 have hgo:bE (λK h=>dG.go ((iM x deep h).foldl (eD x deep) K)) (kq x bh) Kn.zero=.go (gT x deep bh):=by
  rw[Ep (g:=λK h=>(iM x deep h).foldl (eD x deep) K) (λ_ _=>rfl),gT,List.foldl_flatMap]
 refine Jo (by kernel_rfl) ?_;have e0:=nq Kn.zero;simp only[iv]at e0;rw[<- e0];refine Ke (lv:=lv) (x:=x) (bh:=bh) (N:=6) (ir:=2) (it:=3) (σ:=Kn.zero) hx hY (λK L=>by rw[nq];rfl) (λK L=>by rw[nq];rfl) lO (λn=>by simp[jK]) D2 hA ?_;rw[hgo];simp only[gg,SN];refine⟨.ready,none,_,_,_,_,_,_,_,by rw[nq];rfl,by decide,?_⟩;rw[nq,HU];exact hΦ
open Go.Conc
inductive Ht where
 |z
 |s (f:Tp->Ht)
inductive B0:Ht->Ht->Prop where
 |mk (f:Tp->Ht) (w:Tp):B0 (f w) (.s f)
theorem amj:WellFounded B0:=by
 refine⟨λh=> ?_⟩;induction h with
 |z=>exact⟨_,λy hy=>by cases hy⟩
 |s f ih=>exact⟨_,λy hy=>by cases hy with|mk _ w=>exact ih w⟩
inductive lA (P:SI):Ht->View->SG->Prop where
 |step {f:Tp->Ht} {V V₁:View} {g:SG} (G':Tp->SG) (W':Tp->Tp) (E':Tp->Array Ut) (V':Tp->View) (hs:g.status=.running) (hg:dU V V₁)
   (h1:∀w,Sat V₁ w->stepG P false g w=.go (G' w) (W' w) (E' w)) (h2:∀w,Sat V₁ w->dh V₁ w (V' w) (W' w) (E' w)) (h3:∀w,Sat V₁ w->lA P (f w) (V' w) (G' w)):lA P (.s f) V g
 |send {h:Ht} {V V₁:View} {g:SG} (c Wg:Nat) (sp:Spec) (S:List Spec) (v z:SP) (B:Nat->Bool) (hs:g.status=.running) (hg:dU V V₁) (hr:V₁.role=.work c Wg (sp::S)) (hd:V₁.deaf=0) (ho:g.offers=none)
   (h1:∀w,Sat V₁ w->stepG P false g w=.comm g #[scase c v z] true .send w #[]) (h2:sp v V₁.ab (λb=>if B b then V₁.own b else none))
   (h3:lA P h {V₁ with own:=λb=>if B b then none else V₁.own b,role:=.work c Wg S} (T8 g undef)):lA P (.s λ_=>h) V g
 |done {V V₁:View} {g:SG} (c Wg:Nat) (hg:dU V V₁) (hr:V₁.role=.work c Wg []) (hd:V₁.deaf=0) (h1:Fa P Wg g):lA P (.s λ_=> .z) V g
 |slip {h:Ht} {V V₁:View} {g g':SG} (c Wg:Nat) (hs:g.status=.running) (hg:dU V V₁) (hr:V₁.role=.work c Wg []) (h1:∀w st,Sat V₁ w->WgAt P Wg w st 0->stepG P false g w=.go g' w #[]) (h3:lA P h V₁ g'):lA P (.s λ_=>h) V g
theorem lA.running{P:SI}{h:Ht}{V:View}{g:SG}(k:lA P h V g):g.status=.running:=by
 cases k with
 |step _ _ _ _ hs=>exact hs
 |send _ _ _ _ _ _ _ hs=>exact hs
 |done _ _ _ _ _ h1=>exact h1.1
 |slip _ _ hs=>exact hs
open Classical in
theorem as7(P:SI):zC P false (λV g=>∃h,lA P h V g)where
 step V g hs h:=by
  have hc:∀w,∃h' g' w' es V',Sat V w->stepG P false g w=.go g' w' es/\dh V w V' w' es/\lA P h' V' g':=by
   intro w;by_cases hw:Sat V w
   ·obtain⟨g',w',es,V',h1,h2,h',h3⟩:=h w hw;exact⟨h',g',w',es,V',λ_=>⟨h1,h2,h3⟩⟩
   ·exact⟨.z,g,w,#[],V,λx=>absurd x hw⟩
  have pn:=λw=>(hc w).choose_spec.choose_spec.choose_spec.choose_spec.choose_spec;exact⟨.s λw=>(hc w).choose,.step (λw=>(hc w).choose_spec.choose) (λw=>(hc w).choose_spec.choose_spec.choose) (λw=>(hc w).choose_spec.choose_spec.choose_spec.choose)
   (λw=>(hc w).choose_spec.choose_spec.choose_spec.choose_spec.choose) hs (dU.refl V) (λw hw=>(pn w hw).1) (λw hw=>(pn w hw).2.1) (λw hw=>(pn w hw).2.2)⟩
 ghost V V' g hg h:=by
  obtain⟨h,hk⟩:=h;cases hk with
  |step a b c d e f x y z=>exact⟨_,.step a b c d e (hg.trans f) x y z⟩
  |send a b c d e f m n o p q r s t u=>exact⟨_,.send a b c d e f m n (hg.trans o) p q r s t u⟩
  |done a b o p q r=>exact⟨_,.done a b (hg.trans o) p q r⟩
  |slip a b f o p q r=>exact⟨_,.slip a b f (hg.trans o) p q r⟩
 send V g c Wg sp S v z B h1 h2 h3 h4 h5 h6 h7:=by
  obtain⟨h,hk⟩:=h7;exact⟨_,.send c Wg sp S v z B h3 (dU.refl V) h1 h2 h4 h5 h6 hk⟩
 done V g c Wg h1 h2 h3:=⟨_,.done c Wg (dU.refl V) h1 h2 h3⟩
 slip V g g' c Wg h1 h2 h3 h4:=by
  obtain⟨h,hk⟩:=h4;exact⟨_,.slip c Wg h2 (dU.refl V) h1 h3 hk⟩
structure zN where
 a:Nat
 h:Ht
 n:Nat
def qZ:zN->zN->Prop:=λx y=>x.a<y.a\/(x.a=y.a/\(B0 x.h y.h\/(x.h=y.h/\x.n<y.n)))
theorem aqc:WellFounded qZ:=by
 refine⟨λ⟨a,h,n⟩=> ?_⟩;induction a using Yq generalizing h n with
 |_ a iha=>
  induction h using amj.induction generalizing n with
  |_ h ihh=>
   induction n using Yq with
   |_ n MN=>
    refine⟨_,λ⟨a',h',n'⟩ hlt=> ?_⟩;rcases hlt with x|⟨rfl,x|⟨rfl,x⟩⟩
    ·exact iha a' x h' n'
    ·exact ihh h' x n'
    ·exact MN n' x
def Cc (N:Nat)(f' f:Nat->zN):Prop:=∃i,i<N/\qZ (f' i) (f i)/\∀j,j≠i->f' j=f j
theorem ark(N:Nat):WellFounded (Cc N):=by
 refine⟨?_⟩;induction N with
 |zero=>intro f;exact⟨_,λf' ⟨i,hi,_⟩=>by omega⟩
 |succ N ih=>
  have key:∀x:zN,∀f,f N=x->Acc (Cc (N+1)) f:=by
   intro x;induction x using aqc.induction with
   |_ x ihx=>
    intro f hf;have inner:∀f,Acc (Cc N) f->f N=x->Acc (Cc (N+1)) f:=by
     intro f ha;induction ha with
     |intro f _ MM=>
      intro hf;refine⟨_,λf' ⟨i,hi,hlt,ho⟩=> ?_⟩;by_cases ft:i=N
      ·subst ft;exact ihx (f' i) (hf▸hlt) f' rfl
      ·exact MM f' ⟨i,by omega,hlt,ho⟩ ((ho N (Ne.symm ft)).trans hf)
    exact inner f (ih f) hf
  exactλf=>key (f N) f rfl
def B9 (N:Nat)(x y:(Nat->zN)×Nat):Prop:=Cc N x.1 y.1\/(x.1=y.1/\x.2<y.2)
theorem abU(N:Nat):WellFounded (B9 N):=by
 refine⟨λ⟨f,n⟩=> ?_⟩;induction f using(ark N).induction generalizing n with
 |_ f MM=>
  induction n using Yq with
  |_ n MN=>
   refine⟨_,λ⟨f',n'⟩ hlt=> ?_⟩;rcases hlt with x|⟨x,y⟩
   ·exact MM f' x n'
   ·have x':f'=f:=x;subst x';exact MN n' y
open Go.ConcN
structure TI (t:Uo)(B N:Nat)(rd wr:Nat->Loc->Prop)(Sh:Loc->Prop)(act:Nat->Prop)(ic:Nat):Prop where
 nr:∀said,¬Race said t
 low:∀op∈t,op.act.low B
 gs:∀op∈t,op.g<N
 norel:∀op∈t,∀a,op.act≠ .mark (.release a)
 kr:∀i,i<N->∀l,rd i l->PermW t i l
 kw:∀i,i<N->∀l,wr i l->Perm t i l
 sp:∀idx a,touchAt t idx=some a->Sh a.loc->(a.kind=.plain->∀i,act i->Wr t i idx)/\(a.kind=.said->Wr t ic idx)
def Fit (B:Nat)(rd wr:Nat->Loc->Prop)(Sh:Loc->Prop)(act:Nat->Prop)(ic i:Nat)(x:YO):Prop:=
 (Sh x.loc/\x.kind=.atomic/\act i)\/(Sh x.loc/\x.kind=.said/\i=ic/\act i)\/(¬Sh x.loc/\(wr i x.loc\/(rd i x.loc/\x.write=false)\/¬x.loc.low B))
theorem anN{B:Nat}{m:MemAct}(h:m.low B){x:YO}(hx:m.touch?=some x):x.loc.low B:=by
 cases m with
 |access e=>simp only[Wl,Tm]at hx;subst hx;exact h
 |mark m=>cases m<;>simp[Wl]at hx<;>(subst hx;exact h)
 |_=>simp[Wl]at hx
theorem OF{t:Uo}{B:Nat}(h:∀op∈t,op.act.low B){idx:Nat}{a:YO}(ha:touchAt t idx=some a):a.loc.low B:=by
 obtain⟨x,hx,G9⟩:=U0 ha;exact anN (h x (XW hx)) G9
theorem BI{t u:Uo}{idx:Nat}{a:YO}(h:touchAt (t++u) idx=some a):touchAt t idx=some a\/(t.size<=idx/\∃op∈u,(t++u)[idx]?=some op/\op.act.touch?=some a):=by
 obtain⟨x,hx,G9⟩:=U0 h;rcases Xo hx with⟨_,jI⟩|⟨hi,hu⟩
 ·exact .inl (by rw[touchAt_of jI];exact G9)
 ·exact .inr ⟨hi,x,hu,hx,G9⟩
theorem TI.app{t:Uo}{B N B':Nat}{rd wr rd' wr':Nat->Loc->Prop}{Sh:Loc->Prop}{act:Nat->Prop}{ic:Nat}(h:TI t B N rd wr Sh act ic){u:Uo}{i:Nat}(hi:i<N)(hu:∀op∈u,op.g=i)
  (hf:∀op∈u,∀x,op.act.touch?=some x->Fit B rd wr Sh act ic i x) (hl:∀op∈u,op.act.low B') (hB:B<=B') (hn:∀op∈u,∀a,op.act≠ .mark (.release a))
  (Mi:∀j l,j≠i->rd' j l->rd j l) (rZ:∀j l,j≠i->wr' j l->wr j l) (hri:∀l,rd' i l->l.low B->rd i l\/wr i l) (yN:∀l,wr' i l->l.low B->wr i l)
  (ex:∀l j,j≠i->(wr i l->¬rd j l/\¬wr j l)/\(rd i l->¬wr j l)) (If:∀l j,Sh l->¬rd j l/\¬wr j l) (abF:∀j l,rd j l\/wr j l->l.low B):
  TI (t++u) B' N rd' wr' Sh act ic where
 nr said:=by
  refine noRace_append (h.nr said) hu λidx a ha op ay b hb hc=> ?_;have bi:=hc;obtain⟨cP,_,LN,qt⟩:=hc;rcases hf op ay b hb with⟨h1,h2,h3⟩|⟨h1,h2,h3,h4⟩|⟨_,h2|⟨h2,h3⟩|h2⟩
  ·rw[h2]at qt;rcases qt with x|x|⟨_,_,x⟩
   ·exact(h.sp idx a ha (cP▸h1)).1 x i h3
   ·cases x
   ·cases x
  ·rw[h2]at qt;rcases qt with x|x|⟨_,x,_⟩
   ·exact(h.sp idx a ha (cP▸h1)).1 x i h4
   ·cases x
   ·rw[h3];exact(h.sp idx a ha (cP▸h1)).2 x
  ·exact h.kw i hi _ h2 idx a ha cP
  ·exact h.kr i hi _ h2 idx a ha cP (by rw[h3]at LN;simpa using LN)
  ·exact absurd (cP▸OF h.low ha) h2
 low op ay:=(Uw.1 ay).elim (λx=>Zm hB (h.low op x)) (hl op)
 gs op ay:=(Uw.1 ay).elim (h.gs op) (λx=>by rw[hu op x];exact hi)
 norel op ay:=(Uw.1 ay).elim (h.norel op) (hn op)
 kr j hj l uZ:=by
  by_cases cp:j=i
  ·subst cp;intro idx a ha gJ hw;rcases BI ha with gq|⟨_,op,ay,c_,hx⟩
   ·have iw:l.low B:=gJ▸OF h.low gq;rcases hri l uZ iw with x|x
    ·exact(h.kr j hj l x idx a gq gJ hw).app u
    ·exact(h.kw j hj l x idx a gq gJ).app u
   ·have:=Zg c_;rwa [hu op ay]at this
  ·have Dy:=Mi j l cp uZ;refine(h.kr j hj l Dy).app λop ay b hb cN hw=> ?_;exfalso;rcases hf op ay b hb with⟨h1,_⟩|⟨h1,_⟩|⟨_,h2|⟨_,h3⟩|h2⟩
   ·exact(If l j (cN▸h1)).1 Dy
   ·exact(If l j (cN▸h1)).1 Dy
   ·exact((ex l j cp).1 (cN▸h2)).1 Dy
   ·rw[h3]at hw;cases hw
   ·exact h2 (cN▸abF j l (.inl Dy))
 kw j hj l rY:=by
  by_cases cp:j=i
  ·subst cp;intro idx a ha gJ;rcases BI ha with gq|⟨_,op,ay,c_,hx⟩
   ·exact(h.kw j hj l (yN l rY (gJ▸OF h.low gq)) idx a gq gJ).app u
   ·have:=Zg c_;rwa [hu op ay]at this
  ·have nM:=rZ j l cp rY;refine(h.kw j hj l nM).app λop ay b hb cN=> ?_;exfalso;rcases hf op ay b hb with⟨h1,_⟩|⟨h1,_⟩|⟨_,h2|⟨h2,_⟩|h2⟩
   ·exact(If l j (cN▸h1)).2 nM
   ·exact(If l j (cN▸h1)).2 nM
   ·exact((ex l j cp).1 (cN▸h2)).2 nM
   ·exact(ex l j cp).2 (cN▸h2) nM
   ·exact h2 (cN▸abF j l (.inr nM))
 sp idx a ha dS:=by
  rcases BI ha with gq|⟨_,op,ay,c_,hx⟩
  ·exact⟨λhp j hj=>((h.sp idx a gq dS).1 hp j hj).app u,λhp=>((h.sp idx a gq dS).2 hp).app u⟩
  ·rcases hf op ay a hx with⟨_,h2,_⟩|⟨_,h2,h3,_⟩|⟨h1,_⟩
   ·exact⟨λhp=>absurd (h2.symm.trans hp) (by simp),λhp=>absurd (h2.symm.trans hp) (by simp)⟩
   ·refine⟨λhp=>absurd (h2.symm.trans hp) (by simp),λ_=> ?_⟩;have:=Zg c_;rw[hu op ay,h3]at this;exact this
   ·exact absurd dS h1
theorem TI.weaken{t:Uo}{B N B':Nat}{rd wr rd' wr':Nat->Loc->Prop}{Sh Pf:Loc->Prop}{act act':Nat->Prop}{ic kH:Nat}(h:TI t B N rd wr Sh act ic)(hB:B<=B')
  (Mi:∀i l,i<N->rd' i l->rd i l\/wr i l) (rZ:∀i l,i<N->wr' i l->wr i l)
  (yH:∀idx a,touchAt t idx=some a->Pf a.loc->(a.kind=.plain->∀i,act' i->Wr t i idx)/\(a.kind=.said->Wr t kH idx)):TI t B' N rd' wr' Pf act' kH:=
 ⟨h.nr,λop ay=>Zm hB (h.low op ay),h.gs,h.norel,λi hi l x=>(Mi i l hi x).elim (h.kr i hi l) (λy=>PermW.of (h.kw i hi l y)),λi hi l x=>h.kw i hi l (rZ i l hi x),yH⟩
theorem aok{t u:Uo}(h:∀said,¬Race said t)(hn:∀op∈u,op.act.touch?=none):∀said,¬Race said (t++u):=by
 intro said
 rintro⟨i,j,ko,⟨a,b,ha,hb,hc⟩,n1,n2⟩
 have old:∀{k:Nat}{x:YO},((t++u).act? k).bind (·.touch?)=some x->k<t.size/\(t.act? k).bind (·.touch?)=some x:=by
  intro k x hx;obtain⟨y,hy,ME⟩:=U0 hx;rcases Xo hy with⟨hk,pJ⟩|⟨_,hyu⟩
  ·exact⟨hk,by simp[Trace.act?,pJ,ME]⟩
  ·rw[hn y hyu]at ME;cases ME
 exact h said ⟨i,j,ko,⟨a,b,(old ha).2,(old hb).2,hc⟩,λe=>n1 (hb_app u e),λe=>n2 (hb_app u e)⟩
theorem BJ{t u:Uo}(hn:∀op∈u,op.act.touch?=none){idx:Nat}{a:YO}(h:touchAt (t++u) idx=some a):touchAt t idx=some a:=by
 rcases BI h with h|⟨_,op,ay,_,hx⟩
 ·exact h
 ·rw[hn op ay]at hx;cases hx
theorem TI.mute{t:Uo}{B N N':Nat}{rd wr rd' wr':Nat->Loc->Prop}{Sh:Loc->Prop}{act act':Nat->Prop}{ic kH:Nat}(h:TI t B N rd wr Sh act ic){u:Uo}(hn:∀op∈u,op.act.touch?=none)(hl:∀op∈u,op.act.low B)(hg:∀op∈u,op.g<N')(hN:N<=N')
  (rP:∀op∈u,∀a,op.act≠ .mark (.release a))
  (kr:∀i,i<N'->∀l,rd' i l->∀idx a,touchAt t idx=some a->a.loc=l->a.write=true->Wr (t++u) i idx) (kw:∀i,i<N'->∀l,wr' i l->∀idx a,touchAt t idx=some a->a.loc=l->Wr (t++u) i idx)
  (sp:∀idx a,touchAt t idx=some a->Sh a.loc->(a.kind=.plain->∀i,act' i->Wr (t++u) i idx)/\(a.kind=.said->Wr (t++u) kH idx)):TI (t++u) B N' rd' wr' Sh act' kH:=
 ⟨aok h.nr hn,λop ay=>(Uw.1 ay).elim (h.low op) (hl op),λop ay=>(Uw.1 ay).elim (λx=>Tf (h.gs op x) hN) (hg op),λop ay=>(Uw.1 ay).elim (h.norel op) (rP op),
  λi hi l x idx a ha=>kr i hi l x idx a (BJ hn ha),λi hi l x idx a ha=>kw i hi l x idx a (BJ hn ha),λidx a ha=>sp idx a (BJ hn ha)⟩
theorem ru{t u:Uo}{k:Nat}{x:Wj}(h:u[k]?=some x):(t++u)[t.size+k]?=some x:=by
 rw[X_ (by omega)];simpa using h
theorem heard_new{t u:Uo}{k g:Nat}{x:Wj}(h:u[k]?=some x)(hx:x.g=g)(hd:(t++u).deaf g (t.size+k)=0):(t++u).heard (t.size+k):=⟨g,by simp[WF,ru h,hx],hd⟩
def still (m:MemAct):Prop:=m≠ .mark .disable/\m≠ .mark .enable
theorem Jy{g d:Nat}{y:Wj}(h:still y.act):deafStep g d y=d:=by
 unfold deafStep;obtain⟨_,_,_,act⟩:=y;cases act with
 |mark m=>cases m<;>first|rfl|exact absurd rfl h.1|exact absurd rfl h.2
 |_=>rfl
theorem ux{t u:Uo}{g:Nat}(hs:∀op∈u,still op.act):∀{k:Nat},k<=u.size->(t++u).deaf g (t.size+k)=UY t g:=by
 intro k;induction k with
 |zero=>intro _;exact deaf_old (SO _)
 |succ k ih=>
  intro hk;have hlt:k<u.size:=by omega
  have hy:u[k]?=some u[k]:=SJ hlt;have e:=ac' (g:=g) (ru (t:=t) hy);rw[show t.size+(k+1)=t.size+k+1 from rfl,e,ih (by omega),Jy (hs _ (XX hlt))]
theorem Deaf_still{t u:Uo}{g:Nat}(hs:∀op∈u,still op.act):UY (t++u) g=UY t g:=by
 have:=ux (t:=t) (g:=g) hs (SO u.size);unfold UY;rw[XG];exact this
theorem anZ{t u:Uo}{k c s:Nat}{x0 x1 x2 x3:Wj}(hu:u=#[x0,x1,x2,x3]) (h0:x0.g=k/\x0.act=.send c s) (h1:still x1.act) (h2:still x2.act) (h3:x3.g=0/\x3.act=.recvDone c s) (dk:UY t k=0) (d0:UY t 0=0) {idx:Nat} (h:Wr t k idx):Wr (t++u) 0 idx:=by
 have hs:∀op∈u,still op.act:=by
  subst hu;intro op ay;simp only[TM,SK,SZ,or_false]at ay;rcases ay with rfl|rfl|rfl|rfl
  ·rw[h0.2];exact⟨by simp,by simp⟩
  ·exact h1
  ·exact h2
  ·rw[h3.2];exact⟨by simp,by simp⟩
 have e0:u[0]?=some x0:=by subst hu;rfl
 have e3:u[3]?=some x3:=by subst hu;rfl
 have aV:u.size=4:=by subst hu;rfl
 have g0:=ru (t:=t) e0;have g3:=ru (t:=t) e3;have hh0:(t++u).heard (t.size+0):=heard_new e0 h0.1 (by rw[ux hs (by omega)];exact dk);have hh3:(t++u).heard (t.size+3):=heard_new e3 h3.1 (by rw[ux hs (by omega)];exact d0);have hb:HappensBefore (t++u) idx (t.size+0):=h.hb_new (by omega) g0 h0.1;exact⟨_,x3,g3,h3.1,.inr (hb.trans (.single (.inr ⟨.handOver (c:=c) (k:=s) (by rw[ah_ g0,h0.2]) (by rw[ah_ g3,h3.2]),hh0,hh3⟩)))⟩
theorem afw{t:Uo}{a:U_}{r q i:Nat}{y:Wj}(hr:t.act? r=some (.mark (.releaseMerge a)))(hh:t.heard r)(hn:∀op∈t,∀a,op.act≠ .mark (.release a))(hy:y.g=q/\y.act=.mark (.acquire a))(hd:UY t q=0)(hb:Before t i r):Wr (t++#[y]) q i:=by
 have e:(#[y]:Uo)[0]?=some y:=rfl;have g:=ru (t:=t) e;have uZ:=We hr;have aR:∀op∈(#[y]:Uo),still op.act:=by
  intro op ay;simp only[TM,SK,SZ,or_false]at ay;subst ay;rw[hy.2];exact⟨by simp,by simp⟩
 have LA:(t++#[y]).heard (t.size+0):=heard_new e hy.1 (by rw[ux aR (by simp)];exact hd);refine⟨_,y,g,hy.1,.inr ((hb.app #[y]).hb (.single (.inr ⟨.marked (a:=a) (by omega) (.inr (by rw[X9 uZ];exact hr)) (by rw[ah_ g,hy.2]) (λk iG cH e'=> ?_),(Wv uZ).2 hh,LA⟩)))⟩;obtain⟨op,ho,hoa⟩:=Tq.1 e';rcases Xo ho with⟨_,ba⟩|⟨hk,_⟩
 ·exact hn op (XW ba) a hoa
 ·omega
theorem ahg{t:Uo}{c p q i:Nat}{y:Wj}(hp:t.act? p=some (.close c))(hh:t.heard p)(hy:y.g=q/\y.act=.recvClosed c)(hd:UY t q=0)(hb:Before t i p):Wr (t++#[y]) q i:=by
 have e:(#[y]:Uo)[0]?=some y:=rfl;have g:=ru (t:=t) e;have du:=We hp;have aR:∀op∈(#[y]:Uo),still op.act:=by
  intro op ay;simp only[TM,SK,SZ,or_false]at ay;subst ay;rw[hy.2];exact⟨by simp,by simp⟩
 have LA:(t++#[y]).heard (t.size+0):=heard_new e hy.1 (by rw[ux aR (by simp)];exact hd);exact⟨_,y,g,hy.1,.inr ((hb.app #[y]).hb (.single (.inr ⟨.closed (c:=c) (by rw[X9 du];exact hp) (by rw[ah_ g,hy.2]),(Wv du).2 hh,LA⟩)))⟩
def jN (U V:View):Prop:=∀b,U.own b≠none->V.own b=none/\∀o,V.ab b o≠none->U.ab b o≠none
def gV (V:View):Loc->Prop
 |.cell a=>V.own a.block≠none\/V.ab a.block a.off≠none
 |.obj r=>V.own r≠none
 |_=>False
def jO (V:View):Loc->Prop
 |.cell a=>V.own a.block≠none/\V.ab a.block a.off=none
 |.obj r=>V.own r≠none
 |_=>False
theorem jO.rd{V:View}:∀{l:Loc},jO V l->gV V l
 |.cell _,h=> .inl h.1
 |.obj _,h=>h
theorem dh.others{V V' U:View}{w w':Tp}{es:Array Ut}(s:dh V w V' w' es)(hV:Sat V w)(h:Sat U w)(d:jN V U):Sat U w':=by
 refine⟨λb o v e=> ?_,λb x e=> ?_⟩
 ·have hc:=h.ab b o v e;have hb:=h.DX e;cases ho:V.own b with
  |none=>
   have:=s.frame b hb ho;simp only[UA,this]at hc⊢;exact hc
  |some x=>
   have hp:=(d b (by rw[ho];simp)).2 o (by rw[e];simp);cases hi:V.ab b o with
   |none=>exact absurd hi hp
   |some v'=>
    have e1:=hV.ab b o v' hi;rw[hc]at e1;cases e1;exact s.sat.ab b o v (s.ab b o v hi)
 ·have hb:=h.lt e;have ho:V.own b=none:=by
   cases ho:V.own b with
   |none=>rfl
   |some y=>rw[(d b (by rw[ho];simp)).1]at e;cases e
  rw[s.frame b hb ho];exact h.own b x e
theorem dh.wh{V V' U:View}{w w':Tp}{es:Array Ut}(s:dh V w V' w' es)(h:Sat U w)(d:jN V U)(d':jN U V):jN V' U/\jN U V':=by
 have key:∀b,V'.own b≠none->V.own b≠none\/w.heap.size<=b:=by
  intro b hb;by_cases hlt:b<w.heap.size
  ·exact .inl λe=>hb (s.own b hlt e)
  ·exact .inr (by omega)
 refine⟨λb hb=> ?_,λb hb=> ?_⟩
 ·rcases key b hb with x|x
  ·refine⟨(d b x).1,λo ho=> ?_⟩;have:=(d b x).2 o ho;cases e:V.ab b o with
   |none=>exact absurd e this
   |some v=>rw[s.ab b o v e];simp
  ·have:=h.fresh x;exact⟨this.1,λo ho=>absurd (this.2 o) ho⟩
 ·have hlt:b<w.heap.size:=by
   cases e:U.own b with
   |none=>exact absurd e hb
   |some x=>exact h.lt e
  refine⟨?_,λo ho=> ?_⟩
  ·exact s.own b hlt (d' b hb).1
  ·cases e:V'.ab b o with
   |none=>exact absurd e ho
   |some v=>
    rcases s.kI b o v e with x|x|x
    ·exact(d' b hb).2 o (by rw[x];simp)
    ·exact absurd (d' b hb).1 x
    ·omega
theorem dU.wh{V V' U:View}(g:dU V V')(d:jN V U)(d':jN U V):jN V' U/\jN U V':=by
 refine⟨λb hb=> ?_,λb hb=>⟨g.own b (d' b hb).1,λo ho=> ?_⟩⟩
 ·have x:V.own b≠none:=λe=>hb (g.own b e);refine⟨(d b x).1,λo ho=> ?_⟩;cases e:V.ab b o with
  |none=>exact absurd e ((d b x).2 o ho)
  |some v=>rw[g.ab b o v e];simp
 ·cases e:V'.ab b o with
  |none=>exact absurd e ho
  |some v=>
   rcases g.kI b o v e with x|x
   ·exact(d' b hb).2 o (by rw[x];simp)
   ·exact absurd (d' b hb).1 x
theorem dU.rd{V V':View}(g:dU V V'):∀{l:Loc},gV V' l->gV V l
 |.cell a,h=>by
  rcases h with h|h
  ·exact .inl λe=>h (g.own _ e)
  ·cases e:V'.ab a.block a.off with
   |none=>exact absurd e h
   |some v=>exact(g.kI _ _ _ e).elim (λx=> .inr (by rw[x];simp)) .inl
 |.obj _,h=>λe=>h (g.own _ e)
theorem dU.wr{V V':View}(g:dU V V'):∀{l:Loc},jO V' l->jO V l
 |.cell a,h=>⟨λe=>h.1 (g.own _ e),by
  cases e:V.ab a.block a.off with
  |none=>rfl
  |some v=>exact absurd (g.ab _ _ _ e) (by rw[h.2];simp)⟩
 |.obj _,h=>λe=>h (g.own _ e)
theorem gV.low{V:View}{w:Tp}(h:Sat V w):∀{l:Loc},gV V l->l.low w.heap.size
 |.cell a,x=>by
  rcases x with x|x
  ·cases e:V.own a.block with
   |none=>exact absurd e x
   |some y=>exact h.lt e
  ·cases e:V.ab a.block a.off with
   |none=>exact absurd e x
   |some y=>exact h.DX e
 |.obj r,x=>by
  cases e:V.own r with
  |none=>exact absurd e x
  |some y=>exact h.lt e
theorem dh.rd{V V':View}{w w':Tp}{es:Array Ut}(s:dh V w V' w' es):∀{l:Loc},gV V' l->l.low w.heap.size->gV V l
 |.cell a,h,hl=>by
  have eG:a.block<w.heap.size:=hl;rcases h with h|h
  ·exact .inl λe=>h (s.own _ eG e)
  ·cases e:V'.ab a.block a.off with
   |none=>exact absurd e h
   |some v=>
    rcases s.kI _ _ _ e with x|x|x
    ·exact .inr (by rw[x];simp)
    ·exact .inl x
    ·omega
 |.obj r,h,hl=>λe=>h (s.own _ hl e)
theorem dh.wr{V V':View}{w w':Tp}{es:Array Ut}(s:dh V w V' w' es):∀{l:Loc},jO V' l->l.low w.heap.size->jO V l
 |.cell a,h,hl=>⟨λe=>h.1 (s.own _ hl e),by
  cases e:V.ab a.block a.off with
  |none=>rfl
  |some v=>exact absurd (s.ab _ _ _ e) (by rw[h.2];simp)⟩
 |.obj r,h,hl=>λe=>h (s.own _ hl e)
theorem ahB{U V:View}(d:jN U V)(d':jN V U)(l:Loc):(jO U l->¬gV V l/\¬jO V l)/\(gV U l->¬jO V l):=by
 cases l with
 |cell a=>
  refine⟨λh=> ?_,λh=> ?_⟩
  ·have:=d _ h.1;refine⟨λx=> ?_,λx=>x.1 this.1⟩;rcases x with x|x
   ·exact x this.1
   ·exact this.2 _ x h.2
  ·intro x;have:=d' _ x.1;rcases h with h|h
   ·exact h this.1
   ·exact this.2 _ h x.2
 |obj r=>exact⟨λh=>⟨λx=>x (d r h).1,λx=>x (d r h).1⟩,λh x=>h (d' r x).1⟩
 |_=>exact⟨λh=>h.elim,λh=>h.elim⟩
def rc (c Wg:Nat):Loc->Prop
 |.cell a=>a.block=Wg
 |.obj r=>r=c
 |_=>False
structure Core (VV:Nat->View)(N:Nat)(w:Tp)(t:Uo)(Sh:Loc->Prop)(act:Nat->Prop)(ic n0:Nat)(W0:Tp):Prop where
 sat:∀i,i<N->Sat (VV i) w
 dN:∀i j,i<N->j<N->i≠j->jN (VV i) (VV j)
 ti:TI t w.heap.size N (λi l=>i<N/\gV (VV i) l/\¬Sh l) (λi l=>i<N/\jO (VV i) l/\¬Sh l) Sh act ic
 tape:w.tape=W0.tape
 os:w.os=W0.os
 out:w.output=W0.output
 old:∀b,b<n0->w.heap[b]?=W0.heap[b]?
 jo:∀i,i<N->∀b,b<n0->(VV i).own b=none
 n0:n0<=w.heap.size
def upd {α:Type}(f:Nat->α)(i:Nat)(x:α):Nat->α:=λj=>if j=i then x else f j
theorem bz{α:Type}(f:Nat->α)(i:Nat)(x:α):upd f i x i=x:=by simp[upd]
theorem a_{α:Type}(f:Nat->α){i j:Nat}(x:α)(h:j≠i):upd f i x j=f j:=by simp[upd,h]
section
variable {VV:Nat->View}{N:Nat}{w w':Tp}{t:Uo}{Sh:Loc->Prop}{act:Nat->Prop}{ic n0 i:Nat}{W0:Tp}
theorem Core.draw(h:Core VV N w t Sh act ic n0 W0)(d:Nat):Core VV N (w.at d) t Sh act ic n0 W0:=
 ⟨λi hi=>⟨(h.sat i hi).ab,(h.sat i hi).own⟩,h.dN,h.ti,h.tape,h.os,h.out,h.old,h.jo,h.n0⟩
theorem JV{V:View}{B:Nat}{e:Ut}(he:mU V B e){x:YO}(hx:(Ts e).touch?=some x):(jO V x.loc\/(gV V x.loc/\x.write=false)\/¬x.loc.low B)/\
  (∀c,V.role.chan=some c->x.loc≠ .obj c)/\(∀Wg a,V.role.group=some Wg->x.loc=.cell a->a.block=Wg->x.kind≠ .plain):=by
 obtain⟨l,wr,s⟩:=e;cases l with
 |cell a=>
  simp only[ao_,Wl,Tm]at hx;subst hx;cases wr with
  |false=>
   refine⟨?_,λc _=>by simp,λWg a' hr ha hb=> ?_⟩
   ·rcases he.1 with h|h|h
    ·exact .inr (.inr (by show ¬a.block<B;omega))
    ·exact .inr (.inl ⟨.inl h,rfl⟩)
    ·exact .inr (.inl ⟨.inr h,rfl⟩)
   ·cases ha;rcases he.2 with h|h
    ·subst h;simp
    ·subst hb;exact absurd hr h
  |true=>
   refine⟨?_,λc _=>by simp,λWg a' hr ha hb=> ?_⟩
   ·rcases he.1 with h|h
    ·exact .inr (.inr (by show ¬a.block<B;omega))
    ·exact .inl h
   ·cases ha;rcases he.2 with h|h
    ·subst h;simp
    ·subst hb;exact absurd hr h
 |obj r=>
  obtain⟨⟨rfl,h2⟩,h3⟩:=he;have e1:Ts ⟨.obj r,wr,false⟩=.access ⟨.obj r,wr,false⟩:=by cases wr<;>rfl
  rw[e1]at hx;simp only[Wl,Tm]at hx;subst hx;refine⟨?_,λc hc e=> ?_,λWg a _ ha=>by cases ha⟩
  ·rcases h2 with h|h
   ·exact .inr (.inr (by show ¬r<B;omega))
   ·exact .inl h
  ·cases e;exact h3 hc
 |mark m=>
  have e1:Ts ⟨.mark m,wr,s⟩=.mark m:=by cases wr<;>cases s<;>rfl
  rw[e1]at hx;cases m<;>simp only[Wl,Tm,reduceCtorEq]at hx
  all_goals
   subst hx;refine⟨?_,λc _=>by simp,λWg a' _ _ _=>by simp⟩;have kg:mC V B _:=he;rcases kg with h|h
   ·exact .inr (.inr (by simp only[Loc.low];omega))
   ·exact .inl h
 |_=>exact he.elim
theorem Core.QX(h:Core VV N w t Sh act ic n0 W0)(l:Loc){i j:Nat}(hi:i<N)(hj:j≠i):
  ((i<N/\jO (VV i) l/\¬Sh l)->¬(j<N/\gV (VV j) l/\¬Sh l)/\¬(j<N/\jO (VV j) l/\¬Sh l))/\((i<N/\gV (VV i) l/\¬Sh l)->¬(j<N/\jO (VV j) l/\¬Sh l)):=by
 by_cases Dn:j<N
 ·have:=ahB (h.dN i j hi Dn (Ne.symm hj)) (h.dN j i Dn hi hj) l;exact⟨λ⟨_,x,_⟩=>⟨λ⟨_,y,_⟩=>(this.1 x).1 y,λ⟨_,y,_⟩=>(this.1 x).2 y⟩,λ⟨_,x,_⟩ ⟨_,y,_⟩=>this.2 x y⟩
 ·exact⟨λ_=>⟨λ⟨y,_⟩=>Dn y,λ⟨y,_⟩=>Dn y⟩,λ_ ⟨y,_⟩=>Dn y⟩
theorem Core.step(h:Core VV N w t Sh act ic n0 W0)(hi:i<N){V':View}{es:Array Ut}(s:dh (VV i) w V' w' es)
  (dS:∀e∈es,∀x,(Ts e).touch?=some x->Sh x.loc->(x.kind=.atomic/\act i)\/(x.kind=.said/\i=ic/\act i)) (fn:TQ) (pos:String):
  Core (upd VV i V') N w' (t++Tc i fn pos es) Sh act ic n0 W0 where
 sat j hj:=by
  by_cases cp:j=i
  ·subst cp;rw[bz];exact s.sat
  ·rw[a_ _ _ cp];exact s.others (h.sat i hi) (h.sat j hj) (h.dN i j hi hj (Ne.symm cp))
 dN a b ha hb fC:=by
  by_cases nv:a=i
  ·subst nv;have wz:b≠a:=Ne.symm fC;rw[bz,a_ _ _ wz];exact(s.wh (h.sat b hb) (h.dN a b ha hb fC) (h.dN b a hb ha wz)).1
  ·by_cases fQ:b=i
   ·subst fQ;rw[bz,a_ _ _ nv];exact(s.wh (h.sat a ha) (h.dN b a hb ha (Ne.symm fC)) (h.dN a b ha hb fC)).2
   ·rw[a_ _ _ nv,a_ _ _ fQ];exact h.dN a b ha hb fC
 ti:=by
  refine h.ti.app hi (λop ay=>by obtain⟨e,_,rfl⟩:=TO ay;rfl) (λop ay x hx=> ?_) (λop ay=>by obtain⟨e,he,rfl⟩:=TO ay;exact s.low e he) s.size (λop ay a=> ?_)
   (λj l hj ⟨x,y⟩=>by rw[a_ _ _ hj]at y;exact⟨x,y⟩) (λj l hj ⟨x,y⟩=>by rw[a_ _ _ hj]at y;exact⟨x,y⟩)
   (λl ⟨x,y,z⟩ hl=>by rw[bz]at y;exact .inl ⟨x,s.rd y hl,z⟩) (λl ⟨x,y,z⟩ hl=>by rw[bz]at y;exact⟨x,s.wr y hl,z⟩)
   (λl j hj=>h.QX l hi hj) (λl j hs=>⟨λx=>x.2.2 hs,λx=>x.2.2 hs⟩) (λj l x=>x.elim (λy=>gV.low (h.sat j y.1) y.2.1) (λy=>gV.low (h.sat j y.1) y.2.1.rd))
  ·obtain⟨e,he,rfl⟩:=TO ay;by_cases hs:Sh x.loc
   ·rcases dS e he x hx hs with⟨a,b⟩|⟨a,b,c⟩
    ·exact .inl ⟨hs,a,b⟩
    ·exact .inr (.inl ⟨hs,a,b,c⟩)
   ·refine .inr (.inr ⟨hs,?_⟩);rcases(JV (s.eZ e he) hx).1 with x'|⟨x',y⟩|x'
    ·exact .inl ⟨hi,x',hs⟩
    ·exact .inr (.inl ⟨⟨hi,x',hs⟩,y⟩)
    ·exact .inr (.inr x')
  ·obtain⟨e,he,rfl⟩:=TO ay;intro e';have hk:=s.eZ e he;obtain⟨l,wr,sy⟩:=e;cases l with
   |mark m=>
    have e1:Ts ⟨.mark m,wr,sy⟩=.mark m:=(by cases wr<;>cases sy<;>rfl);simp only[e1,aj']at e';subst e';exact hk
   |cell a'=>simp[ao_]at e'
   |obj r=>cases wr<;>cases sy<;>simp[Ts]at e'
   |_=>exact hk
 tape:=s.tape.trans h.tape
 os:=s.os.trans h.os
 out:=s.output.trans h.out
 old b hb:=(s.frame b (Tf hb h.n0) (h.jo i hi b hb)).trans (h.old b hb)
 jo j hj b hb:=by
  by_cases cp:j=i
  ·subst cp;rw[bz];exact s.own b (Tf hb h.n0) (h.jo j hj b hb)
  ·rw[a_ _ _ cp];exact h.jo j hj b hb
 n0:=UH h.n0 s.size
theorem Core.ghost(h:Core VV N w t Sh act ic n0 W0)(hi:i<N){V':View}(g:dU (VV i) V'):Core (upd VV i V') N w t Sh act ic n0 W0 where
 sat j hj:=by
  by_cases cp:j=i
  ·subst cp;rw[bz];exact g.sat _ (h.sat j hj)
  ·rw[a_ _ _ cp];exact h.sat j hj
 dN a b ha hb fC:=by
  by_cases nv:a=i
  ·subst nv;have wz:b≠a:=Ne.symm fC;rw[bz,a_ _ _ wz];exact(g.wh (h.dN a b ha hb fC) (h.dN b a hb ha wz)).1
  ·by_cases fQ:b=i
   ·subst fQ;rw[bz,a_ _ _ nv];exact(g.wh (h.dN b a hb ha (Ne.symm fC)) (h.dN a b ha hb fC)).2
   ·rw[a_ _ _ nv,a_ _ _ fQ];exact h.dN a b ha hb fC
 ti:=h.ti.weaken (SO _) (λj l _ ⟨x,y,z⟩=>by
   by_cases cp:j=i
   ·subst cp;rw[bz]at y;exact .inl ⟨x,g.rd y,z⟩
   ·rw[a_ _ _ cp]at y;exact .inl ⟨x,y,z⟩) (λj l _ ⟨x,y,z⟩=>by
   by_cases cp:j=i
   ·subst cp;rw[bz]at y;exact⟨x,g.wr y,z⟩
   ·rw[a_ _ _ cp]at y;exact⟨x,y,z⟩) h.ti.sp
 tape:=h.tape
 os:=h.os
 out:=h.out
 old:=h.old
 jo j hj b hb:=by
  by_cases cp:j=i
  ·subst cp;rw[bz];exact g.own b (h.jo j hj b hb)
  ·rw[a_ _ _ cp];exact h.jo j hj b hb
 n0:=h.n0
def mB (V' V:View):Prop:=(∀b,V'.own b=none\/V'.own b=V.own b)/\(∀b o,V'.ab b o=none\/V'.ab b o=V.ab b o)/\(∀b,V'.own b≠none->∀o,V'.ab b o=V.ab b o)
theorem mB.sat{V V':View}(l:mB V' V){w:Tp}(h:Sat V w):Sat V' w:=
 ⟨λb o v e=>h.ab b o v (by rcases l.2.1 b o with x|x<;>rw[x]at e;cases e;exact e),λb x e=>h.own b x (by rcases l.1 b with y|y<;>rw[y]at e;cases e;exact e)⟩
theorem mB.rd{V V':View}(k:mB V' V):∀{l:Loc},gV V' l->gV V l
 |.cell a,h=>h.imp (λx y=>by rcases k.1 a.block with z|z;exact x z;exact x (z.trans y)) (λx y=>by rcases k.2.1 a.block a.off with z|z;exact x z;exact x (z.trans y))
 |.obj r,h=>λy=>by rcases k.1 r with z|z;exact h z;exact h (z.trans y)
theorem mB.wr{V V':View}(k:mB V' V):∀{l:Loc},jO V' l->jO V l
 |.cell a,h=>⟨λy=>by rcases k.1 a.block with z|z;exact h.1 z;exact h.1 (z.trans y),by rw[<- k.2.2 _ h.1];exact h.2⟩
 |.obj r,h=>λy=>by rcases k.1 r with z|z;exact h z;exact h (z.trans y)
theorem mB.wh{V V' U:View}(k:mB V' V)(d:jN V U)(d':jN U V):jN V' U/\jN U V':=by
 refine⟨λb hb=> ?_,λb hb=>⟨?_,λo ho=> ?_⟩⟩
 ·have x:V.own b≠none:=λy=>by rcases k.1 b with z|z;exact hb z;exact hb (z.trans y)
  exact⟨(d b x).1,λo ho=>by rw[k.2.2 b hb];exact(d b x).2 o ho⟩
 ·rcases k.1 b with z|z;exact z;exact z.trans (d' b hb).1
 ·exact(d' b hb).2 o λy=>by rcases k.2.1 b o with z|z;exact ho z;exact ho (z.trans y)
theorem Core.less(h:Core VV N w t Sh act ic n0 W0)(hi:i<N){V':View}(k:mB V' (VV i)):Core (upd VV i V') N w t Sh act ic n0 W0 where
 sat j hj:=by
  by_cases cp:j=i
  ·subst cp;rw[bz];exact k.sat (h.sat j hj)
  ·rw[a_ _ _ cp];exact h.sat j hj
 dN a b ha hb fC:=by
  by_cases nv:a=i
  ·subst nv;have wz:b≠a:=Ne.symm fC;rw[bz,a_ _ _ wz];exact(k.wh (h.dN a b ha hb fC) (h.dN b a hb ha wz)).1
  ·by_cases fQ:b=i
   ·subst fQ;rw[bz,a_ _ _ nv];exact(k.wh (h.dN b a hb ha (Ne.symm fC)) (h.dN a b ha hb fC)).2
   ·rw[a_ _ _ nv,a_ _ _ fQ];exact h.dN a b ha hb fC
 ti:=h.ti.weaken (SO _) (λj l _ ⟨x,y,z⟩=>by
   by_cases cp:j=i
   ·subst cp;rw[bz]at y;exact .inl ⟨x,k.rd y,z⟩
   ·rw[a_ _ _ cp]at y;exact .inl ⟨x,y,z⟩) (λj l _ ⟨x,y,z⟩=>by
   by_cases cp:j=i
   ·subst cp;rw[bz]at y;exact⟨x,k.wr y,z⟩
   ·rw[a_ _ _ cp]at y;exact⟨x,y,z⟩) h.ti.sp
 tape:=h.tape
 os:=h.os
 out:=h.out
 old:=h.old
 jo j hj b hb:=by
  by_cases cp:j=i
  ·subst cp;rw[bz];rcases k.1 b with z|z;exact z;exact z.trans (h.jo j hj b hb)
  ·rw[a_ _ _ cp];exact h.jo j hj b hb
 n0:=h.n0
theorem Core.ub(h:Core VV N w t Sh act ic n0 W0)(hi:i<N){es:Array Ut}(cr:∀e∈es,∀x,(Ts e).touch?=some x->Fit w.heap.size (λi l=>i<N/\gV (VV i) l/\¬Sh l) (λi l=>i<N/\jO (VV i) l/\¬Sh l) Sh act ic i x)
  (iw:∀e∈es,(Ts e).low w.heap.size) (rP:∀e∈es,∀a,Ts e≠ .mark (.release a)) (SB:Nat->Prop) (pF:∀b,SB b->n0<=b/\∀j,j<N->(VV j).own b=none/\∀o,(VV j).ab b o=none)
  (aV:w'.heap.size=w.heap.size) (ji:∀b,¬SB b->w'.heap[b]?=w.heap[b]?) (ht:w'.tape=w.tape) (ho:w'.os=w.os) (hu:w'.output=w.output) (fn:TQ) (pos:String):
  Core VV N w' (t++Tc i fn pos es) Sh act ic n0 W0 where
 sat j hj:=by
  have hs:=h.sat j hj;refine⟨λb o v e=> ?_,λb x e=> ?_⟩
  ·have hb:¬SB b:=λx=>(by rw[((pF b x).2 j hj).2 o]at e;cases e);have:=hs.ab b o v e;simp only[UA,ji b hb];exact this
  ·have hb:¬SB b:=λy=>(by rw[((pF b y).2 j hj).1]at e;cases e);rw[ji b hb];exact hs.own b x e
 dN:=h.dN
 ti:=by
  rw[aV];refine h.ti.app hi (λop ay=>by obtain⟨e,_,rfl⟩:=TO ay;rfl) (λop ay x hx=>by obtain⟨e,he,rfl⟩:=TO ay;exact cr e he x hx) (λop ay=>by obtain⟨e,he,rfl⟩:=TO ay;exact iw e he) (SO _) (λop ay a=>by obtain⟨e,he,rfl⟩:=TO ay;exact rP e he a)
   (λj l _ x=>x) (λj l _ x=>x) (λl x _=> .inl x) (λl x _=>x) (λl j hj=>h.QX l hi hj) (λl j hs=>⟨λx=>x.2.2 hs,λx=>x.2.2 hs⟩) (λj l x=>x.elim (λy=>gV.low (h.sat j y.1) y.2.1) (λy=>gV.low (h.sat j y.1) y.2.1.rd))
 tape:=ht.trans h.tape
 os:=ho.trans h.os
 out:=hu.trans h.out
 old b hb:=(ji b (λx=>by have:=(pF b x).1;omega)).trans (h.old b hb)
 jo:=h.jo
 n0:=by rw[aV];exact h.n0
theorem Core.quiet(h:Core VV N w t Sh act ic n0 W0)(hi:i<N){es:Array Ut}(Lj:∀e∈es,(Ts e).touch?=none/\(Ts e).low w.heap.size/\∀a,Ts e≠ .mark (.release a))(fn:TQ)(pos:String):
  Core VV N w (t++Tc i fn pos es) Sh act ic n0 W0:=
 h.ub hi (λe he x hx=>by rw[(Lj e he).1]at hx;cases hx) (λe he=>(Lj e he).2.1) (λe he=>(Lj e he).2.2) (λ_=>False) (λb x=>x.elim) rfl (λ_ _=>rfl) rfl rfl rfl fn pos
theorem Core.role(h:Core VV N w t Sh act ic n0 W0)(hi:i<N){V':View}(h1:V'.ab=(VV i).ab)(h2:V'.own=(VV i).own):Core (upd VV i V') N w t Sh act ic n0 W0:=
 h.less hi ⟨λb=> .inr (by rw[h2]),λb o=> .inr (by rw[h1]),λb _ o=>by rw[h1]⟩
end
inductive GS where
 |gone (q:Nat)
 |work (j:Nat) (h:Ht) (V:View)
 |nT (j:Nat) (h:Ht) (V V':View) (g0:SG) (v z:SP)
 |add (n:Nat)
 |load (n:Nat)
 |store (n:Nat)
 |mu (n:Nat)
 |head (k n:Nat)
 |l8 (v n:Nat)
 |said (n:Nat)
 |io (n:Nat)
 |last (n:Nat)
 |acq (n:Nat)
 |look (n:Nat)
 |close (n:Nat)
def noView:View:={ab:=λ_ _=>none,own:=λ_=>none,deaf:=0,role:=.plain}
def GS.view (Im:cx):GS->View
 |.work _ _ V=>V
 |.nT _ _ V _ _ _ _=>V
 |.head .. |.l8 .. |.said _|.io _|.last _|.acq _|.look _=>{noView with ab:=Im}
 |_=>noView
def GS.cnt:GS->Nat
 |.work .. |.nT .. |.add _=>1
 |_=>0
def GS.late:GS->Nat
 |.load _|.store _|.mu _=>1
 |_=>0
def GS.idx:GS->Option Nat
 |.work j _ _=>some j
 |.nT j _ _ _ _ _ _=>some j
 |_=>none
def GS.shape:GS->GS
 |.gone _=> .gone 0
 |.work j _ _=> .work j .z noView
 |.nT j _ _ _ _ _ _=> .work j .z noView
 |.add _=> .add 0
 |.load _=> .load 0
 |.store _=> .store 0
 |.mu _=> .mu 0
 |.head k _=> .head k 0
 |.l8 v _=> .l8 v 0
 |.said _=> .said 0
 |.io _=> .io 0
 |.last _=> .last 0
 |.acq _=> .acq 0
 |.look _=> .look 0
 |.close _=> .close 0
theorem GS.ng:∀K:GS,K.shape.cnt=K.cnt:=by intro K;cases K<;>rfl
theorem GS.mm:∀K:GS,K.shape.late=K.late:=by intro K;cases K<;>rfl
theorem GS.Hg:∀K:GS,K.shape.idx=K.idx:=by intro K;cases K<;>rfl
def GS.nf:GS->Bool
 |.head .. |.l8 .. |.said _|.io _|.last _|.acq _|.look _|.close _=>true
 |_=>false
theorem GS.Qe:∀K:GS,K.shape.nf=K.nf:=by intro K;cases K<;>rfl
def GS.db:GS->zN
 |.gone q=>⟨0,.z,q⟩
 |.work _ h V=>⟨11+2* (match V.role with|.work _ _ S=>S.length|_=>0),h,0⟩
 |.nT _ h V _ _ _ _=>⟨10+2* (match V.role with|.work _ _ S=>S.length|_=>0),h,0⟩
 |.add n=>⟨8,.z,n⟩
 |.load n=>⟨7,.z,n⟩
 |.store n=>⟨6,.z,n⟩
 |.mu n=>⟨5,.z,n⟩
 |.head k n=>⟨100+3* k,.z,n⟩
 |.l8 v n=>⟨102+3* v,.z,n⟩
 |.said n=>⟨60,.z,n⟩
 |.io n=>⟨50,.z,n⟩
 |.last n=>⟨40,.z,n⟩
 |.acq n=>⟨30,.z,n⟩
 |.look n=>⟨20,.z,n⟩
 |.close n=>⟨15,.z,n⟩
section
variable (P:SI)(c Wg:Nat)(Im:cx)(Ss:List (List Spec))
def ER (v d:Nat)(g:SG):Prop:=d=1/\g.status=.running/\
 (∃g',(∀w,WgAt P Wg w ((v:Int)* KK) 0->stepG P false g w=.go g' (w.setCell (dW Wg) (.int .u64 ((v:Int)* KK+1))) #[je (dW Wg),kV (dW Wg)])/\∃n,ij P Wg (ES P Im c Wg) n 1 g')/\
 (∀u:Nat,u<v->∃g',(∀w,WgAt P Wg w ((u:Int)* KK) 0->stepG P false g w=.go g' w #[je (dW Wg)])/\∃n,cU P (eE P Im c Wg v) n 1 g')
theorem eE.succ{k d:Nat}{g:SG}(h:eE P Im c Wg (k+1) d g):d=1/\g.status=.running/\∀v:Nat,v<=k->v<=4->∃g',(∀w,WgAt P Wg w ((v:Int)* KK) 0->stepG P false g w=.go g' w #[je (dW Wg)])/\
  (v=0->∃n,ij P Wg (uh P Im c Wg) n 1 g')/\(v≠0->∃n,cU P (ER P c Wg Im v) n 1 g'):=by
 rw[eE]at h;exact h
theorem eE.zero{d:Nat}{g:SG}(h:eE P Im c Wg 0 d g):False:=by
 rw[eE]at h;exact h
def GS.is:GS->Nat->SG->Prop
 |.gone q,d,g=>Y9 P q d g
 |.work j h V,d,g=>d=V.deaf/\lA P h V g/\∃S,Ss[j]?=some S/\V.role=.work c Wg S
 |.nT j h V V' g0 v z,d,g=>d=0/\V.deaf=0/\g=parked g0 #[scase c v z] .send/\lA P h V' (T8 g0 undef)/\∃sp S,∃B:Nat->Bool,Ss[j]?=some (sp::S)/\V.role=.work c Wg (sp::S)/\
   sp v V.ab (λb=>if B b then V.own b else none)/\V'={V with own:=λb=>if B b then none else V.own b,role:=.work c Wg S}
 |.add n,d,g=>cU P (BY P Wg) n d g
 |.load n,d,g=>cU P (EU P Wg) n d g
 |.store n,d,g=>cU P (EW P Wg) n d g
 |.mu n,d,g=>cU P (EV P Wg) n d g
 |.head k n,d,g=>cU P (eE P Im c Wg k) n d g
 |.l8 v n,d,g=>cU P (ER P c Wg Im v) n d g
 |.said n,d,g=>ij P Wg (ES P Im c Wg) n d g
 |.io n,d,g=>cU P (ET P Im c Wg) n d g\/(n=0/\∃g1,g={g1 with status:=.blocked}/\ET P Im c Wg d g1)
 |.last n,d,g=>cU P (IP P Im c Wg) n d g
 |.acq n,d,g=>ij P Wg (uh P Im c Wg) n d g
 |.look n,d,g=>cU P (IQ P Im c) n d g
 |.close n,d,g=>cU P (IN P c) n d g
end
theorem cU.running{P:SI}{Stop:Nat->SG->Prop}(hs:∀d g,Stop d g->g.status=.running):∀{n d:Nat}{g:SG},cU P Stop n d g->g.status=.running
 |0,_,_,h=>hs _ _ h
 |_+1,_,_,h=>h.elim (hs _ _) (λx=>x.1)
theorem ij.running{P:SI}{Wg:Nat}{Stop:Nat->SG->Prop}(hs:∀d g,Stop d g->g.status=.running):∀{n d:Nat}{g:SG},ij P Wg Stop n d g->g.status=.running
 |0,_,_,h=>hs _ _ h
 |_+1,_,_,h=>h.elim (hs _ _) (λx=>x.1)
theorem aae{P:SI}{Im:cx}{c Wg:Nat}:∀{k d:Nat}{g:SG},eE P Im c Wg k d g->g.status=.running
 |0,_,_,h=>(eE.zero P c Wg Im h).elim
 |_+1,_,_,h=>(eE.succ P c Wg Im h).2.1
theorem GS.runs{P:SI}{c Wg:Nat}{Im:cx}{Ss:List (List Spec)}{K:GS}{d:Nat}{g:SG}(h:K.is P c Wg Im Ss d g):
  g.status=.running\/g.status=.finished/\(∃q,K=.gone q)\/(∃j h V V' g0 v z,K=.nT j h V V' g0 v z)\/((∃n,K=.io n)/\g.status=.blocked/\g.offers=none):=by
 cases K with
 |gone q=>exact(ZJ h).elim .inl (λx=> .inr (.inl ⟨x,q,rfl⟩))
 |work j h' V=>exact .inl h.2.1.running
 |nT j h' V V' g0 v z=>exact .inr (.inr (.inl ⟨j,h',V,V',g0,v,z,rfl⟩))
 |add n=>exact .inl (cU.running (λd g x=>x.2.1) h)
 |load n=>exact .inl (cU.running (λd g x=>x.2.1) h)
 |store n=>exact .inl (cU.running (λd g x=>x.2.1) h)
 |mu n=>exact .inl (cU.running (λd g x=>x.2.1) h)
 |head k n=>exact .inl (cU.running (λd g x=>aae x) h)
 |l8 v n=>exact .inl (cU.running (λd g x=>x.2.1) h)
 |said n=>exact .inl (ij.running (λd g x=>x.2.1) h)
 |io n=>
  rcases h with h|⟨_,g1,rfl,h⟩
  ·exact .inl (cU.running (λd g x=>x.2.1) h)
  ·exact .inr (.inr (.inr ⟨⟨n,rfl⟩,rfl,h.2.2.1⟩))
 |last n=>exact .inl (cU.running (λd g x=>x.2.1) h)
 |acq n=>exact .inl (ij.running (λd g x=>x.2.1) h)
 |look n=>exact .inl (cU.running (λd g x=>x.2.1) h)
 |close n=>exact .inl (cU.running (λd g x=>x.2.1) h)
structure Rel (Wg:Nat)(t:Uo)(i r:Nat):Prop where
 act:t.act? r=some (.mark (.releaseMerge (dW Wg)))
 g:t.g? r=some i
 heard:t.heard r
theorem Rel.app{Wg:Nat}{t u:Uo}{i r:Nat}(h:Rel Wg t i r):Rel Wg (t++u) i r:=
 have hr:=We h.act
 ⟨by rw[X9 hr];exact h.act,by rw[g?_old hr];exact h.g,(Wv hr).2 h.heard⟩
inductive ej where
 |early
 |got
 |shut (p:Nat)
 deriving DecidableEq
def xz (Wg:Nat)(t:Uo)(K:Nat->GS)(ic:Nat):ej->Nat->Prop
 |.early,idx=>∃i,t.g? idx=some i/\0<i/\(((K i).idx.isSome=true)\/(i=ic)\/∃r,Rel Wg t i r/\idx<=r)
 |.got,idx=>Wr t ic idx
 |.shut p,idx=>Before t idx p
def Rest (Wg:Nat)(t:Uo)(K:Nat->GS)(ic:Nat)(st:Option ej):Prop:=
 ∀idx a,touchAt t idx=some a->a.loc.isMemory=true->Wr t 0 idx\/(a.kind=.atomic/\¬t.heard idx)\/∃s,st=some s/\xz Wg t K ic s idx
def Mode (P:SI)(c Wg N:Nat)(w:Tp)(gs:Array SG)(t:Uo)(K:Nat->GS)(ic:Nat)(s:ej):Prop:=
 let cn:Nat:=sumTo N λi=>(K i).cnt;let la:Nat:=sumTo N λi=>(K i).late;let opn:=∃n,w.heap[c]?=some (.chan 0 #[] false n n false)
 (opn/\s=.early/\la=0/\cn<=4/\WgAt P Wg w ((cn:Int)* KK) 0/\((∃k,(K ic).shape=.head k 0/\cn<k)\/(∃v,(K ic).shape=.l8 v 0/\cn<=v/\0<v)))\/
 (opn/\s=.early/\la=0/\1<=cn/\cn<=4/\WgAt P Wg w ((cn:Int)* KK+1) 0/\((K ic).shape=.said 0\/(K ic).shape=.io 0))\/
 (opn/\s=.early/\la=1/\cn=0/\((K ic).shape=.said 0\/(K ic).shape=.io 0)/\(∀i,i<N->((K i).shape=.load 0\/(K i).shape=.store 0)->WgAt P Wg w 1 0)/\(∀i,i<N->(K i).shape=.mu 0->WgAt P Wg w 0 0))\/
 (opn/\s=.early/\la=0/\cn=0/\WgAt P Wg w 0 1/\(∀g,gs[ic]?=some g->g.status=.running)/\((K ic).shape=.said 0\/(K ic).shape=.io 0))\/
 (opn/\s=.early/\la=0/\cn=0/\WgAt P Wg w 0 0/\((K ic).shape=.last 0\/(K ic).shape=.acq 0))\/
 (opn/\s=.got/\la=0/\cn=0/\((K ic).shape=.look 0\/(K ic).shape=.close 0))\/
 ((∃p n,s=.shut p/\t.act? p=some (.close c)/\t.heard p/\w.heap[c]?=some (.chan 0 #[] true n n false))/\la=0/\cn=0/\(K ic).shape=.gone 0)
def kB (gs:Array SG)(g:SG):Prop:=∃g0,gs[0]?=some g0/\g0.status=.running/\g0.frame=g.frame/\g0.callers=g.callers/\g0.dying=g.dying
def nZ (gs:Array SG)(g:SG)(c:Nat):Prop:=∃g0 z,gs[0]?=some (parked g0 #[rcase c z] (.recv true))/\g0.frame=g.frame/\g0.callers=g.callers/\g0.dying=g.dying
structure Phase where
 c:Nat
 Wg:Nat
 Ss:List (List Spec)
 recv:Bool
def bF (V:View)(Im:cx)(K:Nat->GS):Nat->View:=λi=>if i=0 then V else(K i).view Im
structure Inv (P:SI)(n0:Nat)(W0:Tp)(V:View)(gs:Array SG)(w:Tp)(t:Uo)(K:Nat->GS)(Im:cx)(ic:Nat)(ph:Option Phase)(st:Option ej):Prop where
 pos:0<gs.size
 k0:K 0=.gone 0
 d0:UY t 0=V.deaf
 «is» : ∀ i g, 0 < i -> gs[i]? = some g -> match ph with
  |some p=>(K i).is P p.c p.Wg Im p.Ss (UY t i) g
  |none=>∃q,K i=.gone q/\Y9 P q (UY t i) g
 core:Core (bF V Im K) gs.size w t (match ph with|some p=>rc p.c p.Wg|none=>λ_=>False)
  (λi=>match ph with|some p=>if p.recv then 0<i/\i<gs.size/\((K i).idx.isSome=true\/i=ic\/(K i).cnt=1\/(K i).late=1)else i=0\/(i<gs.size/\(K i).idx.isSome=true)|none=>False) ic n0 W0
 rest:Rest (match ph with|some p=>p.Wg|none=>0) t K ic st
 phase:match ph with
  |none=>st=none
  |some p=>n0<=p.c/\n0<=p.Wg/\p.c≠p.Wg/\p.c<w.heap.size/\p.Wg<w.heap.size/\p.Ss.length<=4/\
   (∀i,0<i->((K i).view Im).own p.c=none/\(∀o,((K i).view Im).ab p.c o=none)/\((K i).view Im).own p.Wg=none/\(∀o,((K i).view Im).ab p.Wg o=none)/\((K i).nf=true->i=ic))/\
   (∀i i' j,0<i->i<gs.size->0<i'->i'<gs.size->(K i).idx=some j->(K i').idx=some j->i=i')/\
   (∀j S,p.Ss[j]?=some S->S≠[]->∃i,0<i/\i<gs.size/\(K i).idx=some j)/\
   (if p.recv then(V.own p.c=none/\(∀o,V.ab p.c o=none)/\V.own p.Wg=none/\(∀o,V.ab p.Wg o=none))/\0<ic/\ic<gs.size/\(∃s,st=some s/\Mode P p.c p.Wg gs.size w gs t K ic s)
    else V.own p.c=some (.chan 0 #[] false 0 0 false)/\ic=0/\st=some .early/\(∀i,0<i->i<gs.size->(K i).idx.isSome=true\/∃q,K i=.gone q)/\(∀S∈p.Ss,S≠[])/\(sumTo gs.size λi=>(K i).cnt)=p.Ss.length)
theorem BH(K:Nat->GS)(k:GS)(φ:GS->Nat){i N:Nat}(hi:i<N):sumTo N (λa=>φ (upd K i k a))+φ (K i)=sumTo N (λa=>φ (K a))+φ k:=sumTo_upd K k φ hi
theorem lr(K:Nat->GS)(k:GS)(φ:GS->Nat){i N:Nat}(h:φ k=φ (K i)):sumTo N (λa=>φ (upd K i k a))=sumTo N (λa=>φ (K a)):=
 Vq λa _=>by by_cases ha:a=i;subst ha;rw[bz,h];rw[a_ _ _ ha]
theorem Core.Cn{VV:Nat->View}{N:Nat}{w:Tp}{t:Uo}{Sh:Loc->Prop}{act act':Nat->Prop}{ic n0:Nat}{W0:Tp}(h:Core VV N w t Sh act ic n0 W0)(ha:∀i,act' i->act i):Core VV N w t Sh act' ic n0 W0:=
 ⟨h.sat,h.dN,h.ti.weaken (SO _) (λ_ _ _ x=> .inl x) (λ_ _ _ x=>x) (λidx a x y=>⟨λhp i hi=>(h.ti.sp idx a x y).1 hp i (ha i hi),(h.ti.sp idx a x y).2⟩),h.tape,h.os,h.out,h.old,h.jo,h.n0⟩
theorem Core.congr{VV Fj:Nat->View}{N:Nat}{w:Tp}{t:Uo}{Sh:Loc->Prop}{act:Nat->Prop}{ic n0:Nat}{W0:Tp}(h:Core VV N w t Sh act ic n0 W0)(e:∀i,i<N->Fj i=VV i):Core Fj N w t Sh act ic n0 W0:=
 ⟨λi hi=>by rw[e i hi];exact h.sat i hi,λi j hi hj ko=>by rw[e i hi,e j hj];exact h.dN i j hi hj ko,
  h.ti.weaken (SO _) (λi l hi ⟨x,y,z⟩=> .inl ⟨x,by rw[<- e i hi];exact y,z⟩) (λi l hi ⟨x,y,z⟩=>⟨x,by rw[<- e i hi];exact y,z⟩) h.ti.sp,h.tape,h.os,h.out,h.old,λi hi b hb=>by rw[e i hi];exact h.jo i hi b hb,h.n0⟩
theorem OM(V:View)(Im:cx)(K:Nat->GS){i:Nat}(hi:0<i)(k:GS):bF V Im (upd K i k)=upd (bF V Im K) i (k.view Im):=by
 funext j;by_cases hj:j=i
 ·subst hj;rw[bz];simp[bF,bz];omega
 ·rw[a_ _ _ hj];simp[bF,a_ _ _ hj]
theorem abd{P:SI}{c Wg:Nat}{Im:cx}{Ss:List (List Spec)}{k:GS}{d:Nat}{x g g':SG}{w':Tp}(ho:(∃n,w'.heap[c]?=some (.chan 0 #[] false n n false))\/k.idx=none) (h:k.is P c Wg Im Ss d x):
  k.is P c Wg Im Ss d (woken P g g' w' x):=by
 rcases GS.runs h with hr|⟨hf,q,rfl⟩|⟨j,h',V,V',g0,v,z,rfl⟩|⟨⟨n,rfl⟩,hb,hof⟩
 ·rw[Yo hr];exact h
 ·rw[woken_quitsD h];exact h
 ·rcases ho with⟨n,ho⟩|ho
  ·obtain⟨h1,h2,rfl,h4⟩:=h;rw[woken_send_open _ _ ho];exact⟨h1,h2,rfl,h4⟩
  ·cases ho
 ·rcases h with h|⟨hn,g1,rfl,h⟩
  ·rw[cU.running (λd g x=>x.2.1) h]at hb;cases hb
  ·unfold woken;split
   ·subst hn;refine .inl ?_;have e:({g1 with status:=au0}:SG).again w'=g1:=by
     obtain⟨f,cs,s,dy,o⟩:=g1;have h2:=h.2.1;have h3:=h.2.2.1;simp only at h2 h3;subst h2 h3;rfl
    rw[e];exact h
   ·exact .inr ⟨hn,g1,rfl,h⟩
theorem Nq{P:SI}{gs:Array SG}{g:SG}{w':Tp}{i:Nat}{gi bD:SG}(hi:0<i)(h:kB gs g):kB ((gs.map (woken P gi bD w')).setIfInBounds i bD) g:=by
 obtain⟨g0,h0,h1,h2⟩:=h;exact⟨g0,by rw[SV (by omega),WI,h0];simp[Yo h1],h1,h2⟩
theorem NK{P:SI}{gs:Array SG}{g:SG}{w':Tp}{i c:Nat}{gi bD:SG}(hi:0<i)(h:nZ gs g c)(ho:∃n,w'.heap[c]?=some (.chan 0 #[] false n n false)):nZ ((gs.map (woken P gi bD w')).setIfInBounds i bD) g c:=by
 obtain⟨g0,z,h0,h2⟩:=h;obtain⟨n,ho⟩:=ho;exact⟨g0,z,by rw[SV (by omega),WI,h0];simp[woken_recv_open _ _ ho],h2⟩
theorem aoX{P:SI}{gs:Array SG}{g:SG}{w':Tp}{i c:Nat}{gi bD:SG}(hi:0<i)(h:nZ gs g c)(hw:mayWake P gi=true)(hs:bD.status=.running\/bD.status=.finished)(ho:∃n,w'.heap[c]?=some (.chan 0 #[] true n n false)):
  kB ((gs.map (woken P gi bD w')).setIfInBounds i bD) g:=by
 obtain⟨g0,z,h0,h2⟩:=h;obtain⟨n,ho⟩:=ho;refine⟨{parked g0 #[rcase c z] (.recv true)with status:=.running},?_,rfl,h2⟩;rw[SV (by omega),WI,h0];have:woken P gi bD w' (parked g0 #[rcase c z] (.recv true))={parked g0 #[rcase c z] (.recv true)with status:=.running}:=by
  unfold woken;have hc:(mayWake P gi&&bD.status != .blocked&&bD.status != .waiting)=true:=by rcases hs with hs|hs<;>simp[hw,hs]
  rw[if_pos hc,again_recv_closed ho]
 simp[this]
def zL (w:Tp)(c:Nat):Prop:=∃n,w.heap[c]?=some (.chan 0 #[] false n n false)
def I0 (gs gs':Array SG)(w w':Tp)(g:SG)(c:Nat):Prop:=(kB gs g->kB gs' g)/\(nZ gs g c->zL w c->kB gs' g\/(nZ gs' g c/\zL w' c))
def Calm (gs:Array SG):Prop:=∀i x,0<i->gs[i]?=some x->x.status=.blocked->x.offers=none
def flag (gs:Array SG)(ic:Nat):Nat:=if(gs[ic]?).any (·.status== .running)then 1 else 0
def jc (p:Phase)(N ic:Nat)(K:Nat->GS)(i:Nat):Prop:=if p.recv then 0<i/\i<N/\((K i).idx.isSome=true\/i=ic\/(K i).cnt=1\/(K i).late=1)else i=0\/(i<N/\(K i).idx.isSome=true)
section
variable {P:SI}{n0:Nat}{W0:Tp}{V:View}{gs:Array SG}{w:Tp}{t:Uo}{K:Nat->GS}{Im:cx}{ic:Nat}{ph:Option Phase}{st:Option ej}
structure gD (P:SI)(n0:Nat)(W0:Tp)(V:View)(gs:Array SG)(w:Tp)(sl:Option (Nat×Nat))(t:Uo)(K:Nat->GS)(Im:cx)(ic:Nat)(ph:Option Phase)(st:Option ej)(i:Nat):Prop where
 intro::
 auT:∃gs' w' ops K' st',runT P (crowd gs w sl) i=(.next (crowd gs' w' sl),ops)/\gs'.size=gs.size/\Inv P n0 W0 V gs' w' (t++ops) K' Im ic ph st'/\(∀g c,(∀p,ph=some p->p.c=c)->I0 gs gs' w w' g c)/\(∀g c,nZ gs g c->Calm gs->Calm gs')/\
  B9 gs.size ((λj=>(K' j).db),flag gs' ic) ((λj=>(K j).db),flag gs ic)
theorem getElem?_next{gi bD:SG}{w':Tp}{i j:Nat}{x:SG}(hlt:i<gs.size)(h:((gs.map (woken P gi bD w')).setIfInBounds i bD)[j]?=some x):(j=i/\x=bD)\/(j≠i/\∃y,gs[j]?=some y/\x=woken P gi bD w' y):=by
 by_cases cp:j=i
 ·subst cp;rw[Tb (by simpa using hlt)]at h;exact .inl ⟨rfl,(V_ h).symm⟩
 ·rw[SV (Ne.symm cp),WI]at h;obtain⟨y,hy,rfl⟩:=Tq.1 h;exact .inr ⟨cp,y,hy,rfl⟩
theorem Rest.app{Wg:Nat}{t u:Uo}{K K':Nat->GS}{ic:Nat}{s s':ej}(h:Rest Wg t K ic (some s))(hold:∀idx a,touchAt t idx=some a->xz Wg t K ic s idx->Wr (t++u) 0 idx\/xz Wg (t++u) K' ic s' idx)
  (wO:∀idx a,t.size<=idx->(∃op∈u,(t++u)[idx]?=some op/\op.act.touch?=some a)->a.loc.isMemory=true->Wr (t++u) 0 idx\/(a.kind=.atomic/\¬(t++u).heard idx)\/xz Wg (t++u) K' ic s' idx):Rest Wg (t++u) K' ic (some s'):=by
 intro idx a ha hm;rcases BI ha with gq|⟨hi,hx⟩
 ·obtain⟨op,ay,_⟩:=U0 gq;rcases h idx a gq hm with x|⟨x,y⟩|⟨s1,dL,x⟩
  ·exact .inl (x.app u)
  ·exact .inr (.inl ⟨x,λz=>y ((Wv (TK ay)).1 z)⟩)
  ·cases dL;exact(hold idx a gq x).imp id λy=> .inr ⟨s',rfl,y⟩
 ·exact(wO idx a hi hx hm).imp id (λy=>y.imp id λz=>⟨s',rfl,z⟩)
theorem xz.app{Wg:Nat}{t u:Uo}{K K':Nat->GS}{ic idx:Nat}{s:ej}(c_:idx<t.size)(h:xz Wg t K ic s idx)(hK:∀i,t.g? idx=some i->0<i->(K i).idx.isSome=true->(K' i).idx.isSome=true\/∃r,Rel Wg (t++u) i r/\idx<=r):xz Wg (t++u) K' ic s idx:=by
 cases s with
 |early=>
  obtain⟨i,hg,h0,hx⟩:=h;refine⟨i,by rw[g?_old c_];exact hg,h0,?_⟩;rcases hx with x|x|⟨r,x,y⟩
  ·exact(hK i hg h0 x).imp id .inr
  ·exact .inr (.inl x)
  ·exact .inr (.inr ⟨r,x.app,y⟩)
 |got=>exact Knows.app u h
 |shut p=>exact Before.app u h
end
def sq (ph:Option Phase):Loc->Prop:=match ph with|some p=>rc p.c p.Wg|none=>λ_=>False
def m9 (ph:Option Phase)(N ic:Nat)(K:Nat->GS):Nat->Prop:=λi=>match ph with|some p=>jc p N ic K i|none=>False
def BN (ph:Option Phase):Nat:=match ph with|some p=>p.Wg|none=>0
section
variable {P:SI}{n0:Nat}{W0:Tp}{V:View}{gs:Array SG}{w w':Tp}{sl:Option (Nat×Nat)}{t:Uo}{K:Nat->GS}{Im:cx}{ic:Nat}{ph:Option Phase}{st st':Option ej}
def zM (P:SI)(n0:Nat)(V:View)(gs:Array SG)(w:Tp)(t:Uo)(K:Nat->GS)(Im:cx)(ic:Nat)(ph:Option Phase)(st:Option ej):Prop:=match ph with
  |none=>st=none
  |some p=>n0<=p.c/\n0<=p.Wg/\p.c≠p.Wg/\p.c<w.heap.size/\p.Wg<w.heap.size/\p.Ss.length<=4/\
   (∀i,0<i->((K i).view Im).own p.c=none/\(∀o,((K i).view Im).ab p.c o=none)/\((K i).view Im).own p.Wg=none/\(∀o,((K i).view Im).ab p.Wg o=none)/\((K i).nf=true->i=ic))/\
   (∀i i' j,0<i->i<gs.size->0<i'->i'<gs.size->(K i).idx=some j->(K i').idx=some j->i=i')/\
   (∀j S,p.Ss[j]?=some S->S≠[]->∃i,0<i/\i<gs.size/\(K i).idx=some j)/\
   (if p.recv then(V.own p.c=none/\(∀o,V.ab p.c o=none)/\V.own p.Wg=none/\(∀o,V.ab p.Wg o=none))/\0<ic/\ic<gs.size/\(∃s,st=some s/\Mode P p.c p.Wg gs.size w gs t K ic s)
    else V.own p.c=some (.chan 0 #[] false 0 0 false)/\ic=0/\st=some .early/\(∀i,0<i->i<gs.size->(K i).idx.isSome=true\/∃q,K i=.gone q)/\(∀S∈p.Ss,S≠[])/\(sumTo gs.size λi=>(K i).cnt)=p.Ss.length)
def B1 (P:SI)(Im:cx)(ph:Option Phase)(k:GS)(d:Nat)(g:SG):Prop:=match ph with
  |some p=>k.is P p.c p.Wg Im p.Ss d g
  |none=>∃q,k=.gone q/\Y9 P q d g
theorem Inv.mk'(pos:0<gs.size)(k0:K 0=.gone 0)(d0:UY t 0=V.deaf)(dl:∀i g,0<i->gs[i]?=some g->B1 P Im ph (K i) (UY t i) g)
  (hc:Core (bF V Im K) gs.size w t (sq ph) (m9 ph gs.size ic K) ic n0 W0) (hr:Rest (BN ph) t K ic st) (hp:zM P n0 V gs w t K Im ic ph st):Inv P n0 W0 V gs w t K Im ic ph st:=by
 cases ph with
 |none=>exact⟨pos,k0,d0,dl,hc,hr,hp⟩
 |some p=>exact⟨pos,k0,d0,dl,hc,hr,hp⟩
theorem Inv.out(h:Inv P n0 W0 V gs w t K Im ic ph st):(∀i g,0<i->gs[i]?=some g->B1 P Im ph (K i) (UY t i) g)/\Core (bF V Im K) gs.size w t (sq ph) (m9 ph gs.size ic K) ic n0 W0/\Rest (BN ph) t K ic st/\zM P n0 V gs w t K Im ic ph st:=by
 cases ph with
 |none=>exact⟨h.is,h.core,h.rest,h.phase⟩
 |some p=>exact⟨h.is,h.core,h.rest,h.phase⟩
theorem ag6{y:SG}(hy:y.status=.blocked->y.offers=none):(y.again w').status=.blocked->(y.again w').offers=none:=by
 obtain⟨f,cs,s,d,o⟩:=y;unfold YZ;cases s<;>cases o<;>simp_all
theorem ag7{g g' y:SG}(hy:y.status=.blocked->y.offers=none)(hb:(woken P g g' w' y).status=.blocked):(woken P g g' w' y).offers=none:=by
 unfold woken at hb⊢;split
 ·rename_i hh;rw[if_pos hh]at hb;exact ag6 hy hb
 ·rename_i hh;rw[if_neg hh]at hb;exact hy hb
theorem Inv.abW(h:Inv P n0 W0 V gs w t K Im ic ph st){i:Nat}{gi bD:SG}{es:Array Ut}{k':GS}(hi:0<i)(aM:gs[i]?=some gi)(aR:stepG P false gi w=.go bD w' es)
  (hk:B1 P Im ph k' (deafBehind (UY t i) es) bD) (tu:bD.status=.blocked->bD.offers=none) (gL:∀p,ph=some p->(∃n,w'.heap[p.c]?=some (.chan 0 #[] false n n false))\/(∀j,0<j->j<gs.size->j≠i->(K j).idx=none))
  (yp:Core (bF V Im (upd K i k')) gs.size w' (t++Tc i gi.frame.fn gi.frame.place es) (sq ph) (m9 ph gs.size ic (upd K i k')) ic n0 W0)
  (lK:Rest (BN ph) (t++Tc i gi.frame.fn gi.frame.place es) (upd K i k') ic st')
  (Du:zM P n0 V ((gs.map (woken P gi bD w')).setIfInBounds i bD) w' (t++Tc i gi.frame.fn gi.frame.place es) (upd K i k') Im ic ph st')
  (jF:B9 gs.size ((λj=>(upd K i k' j).db),flag ((gs.map (woken P gi bD w')).setIfInBounds i bD) ic) ((λj=>(K j).db),flag gs ic))
  (pA:∀g c,(∀p,ph=some p->p.c=c)->I0 gs ((gs.map (woken P gi bD w')).setIfInBounds i bD) w w' g c):gD P n0 W0 V gs w sl t K Im ic ph st i:=by
 have hlt:i<gs.size:=(SR.1 aM).1;have eO:(i==0)=false:=by simp;omega
 have aV:((gs.map (woken P gi bD w')).setIfInBounds i bD).size=gs.size:=by simp
 have DF:∀op∈Tc i gi.frame.fn gi.frame.place es,op.g=i:=λop ay=>by obtain⟨e,_,rfl⟩:=TO ay;rfl
 refine⟨_,w',_,upd K i k',st',runT_crowd_go (P:=P) (sl:=sl) aM (by rw[eO];exact aR),aV,?_,pA,?_,jF⟩
 rotate_left
 ·intro g c _ hc j x hj hx hb;rcases getElem?_next hlt hx with⟨_,rfl⟩|⟨_,y,hy,rfl⟩
  ·exact tu hb
  ·exact ag7 (hc j y hj hy) hb
 refine Inv.mk' (by rw[aV];exact h.pos) (by rw[a_ _ _ (by omega)];exact h.k0) ?_ (λj x hj hx=> ?_) (by rw[aV];exact yp) lK Du
 ·rw[au2 t (g:=0) (g':=i) (by omega) _ DF];exact h.d0
 ·rcases getElem?_next hlt hx with⟨rfl,rfl⟩|⟨cp,y,hy,rfl⟩
  ·rw[bz,Deaf_own];exact hk
  ·rw[a_ _ _ cp,au2 t (g:=j) (g':=i) (Ne.symm cp) _ DF];have DR:=h.out.1 j y hj hy;have LJ:j<gs.size:=(SR.1 hy).1;cases ph with
   |none=>
    obtain⟨q,hq,pJ⟩:=DR;exact⟨q,hq,by rw[woken_quitsD pJ];exact pJ⟩
   |some p=>
    refine abd ?_ DR;rcases gL p rfl with x|x
    ·exact .inl x
    ·exact .inr (x j hj LJ cp)
theorem Inv.next(h:Inv P n0 W0 V gs w t K Im ic ph st){i:Nat}{gi bD:SG}{es:Array Ut}{k':GS}(hi:0<i)(aM:gs[i]?=some gi)(aR:stepG P false gi w=.go bD w' es)
  (hk:B1 P Im ph k' (deafBehind (UY t i) es) bD) (tu:bD.status=.blocked->bD.offers=none) (gL:∀p,ph=some p->(∃n,w'.heap[p.c]?=some (.chan 0 #[] false n n false))\/(∀j,0<j->j<gs.size->j≠i->(K j).idx=none))
  (yp:Core (bF V Im (upd K i k')) gs.size w' (t++Tc i gi.frame.fn gi.frame.place es) (sq ph) (m9 ph gs.size ic (upd K i k')) ic n0 W0)
  (lK:Rest (BN ph) (t++Tc i gi.frame.fn gi.frame.place es) (upd K i k') ic st')
  (Du:zM P n0 V ((gs.map (woken P gi bD w')).setIfInBounds i bD) w' (t++Tc i gi.frame.fn gi.frame.place es) (upd K i k') Im ic ph st')
  (uX:qZ k'.db (K i).db)
  (pA:∀g c,(∀p,ph=some p->p.c=c)->I0 gs ((gs.map (woken P gi bD w')).setIfInBounds i bD) w w' g c):gD P n0 W0 V gs w sl t K Im ic ph st i:=
 h.abW hi aM aR hk tu gL yp lK Du (.inl ⟨i,(SR.1 aM).1,by simpa only[bz]using uX,λj hj=>by show (upd K i k' j).db=(K j).db;rw[a_ _ _ hj]⟩) pA
theorem aoa{B:Nat}{e:Ut}(h:e.mute=true):(Ts e).touch?=none/\(Ts e).low B/\∀a,Ts e≠ .mark (.release a):=by
 refine⟨ZY h,low_mute h B,λa=> ?_⟩;obtain⟨l,wr,sy⟩:=e;cases l with
 |mark m=>cases m<;>cases wr<;>cases sy<;>simp_all[Ts,WK]
 |_=>simp[WK]at h
theorem Mode.keep{c Wg N:Nat}{gs':Array SG}{u:Uo}{K':Nat->GS}{s:ej}(h:Mode P c Wg N w gs t K ic s)(hs:∀j,(K' j).shape=(K j).shape)(hc:w'.heap[c]?=w.heap[c]?)(hW:w'.heap[Wg]?=w.heap[Wg]?)
  (hr:(∀g,gs[ic]?=some g->g.status=.running)->∀g,gs'[ic]?=some g->g.status=.running):Mode P c Wg N w' gs' (t++u) K' ic s:=by
 have e1:sumTo N (λi=>(K' i).cnt)=sumTo N λi=>(K i).cnt:=Vq λi _=>by rw[<- GS.ng,hs i,GS.ng]
 have e2:sumTo N (λi=>(K' i).late)=sumTo N λi=>(K i).late:=Vq λi _=>by rw[<- GS.mm,hs i,GS.mm]
 have e3:∀st sm,WgAt P Wg w' st sm=WgAt P Wg w st sm:=λst sm=>by unfold WgAt;rw[hW]
 unfold Mode at h⊢;simp only[e1,e2,e3,hs,hc];rcases h with h|h|h|h|h|h|h
 ·exact .inl h
 ·exact .inr (.inl h)
 ·exact .inr (.inr (.inl h))
 ·exact .inr (.inr (.inr (.inl ⟨h.1,h.2.1,h.2.2.1,h.2.2.2.1,h.2.2.2.2.1,hr h.2.2.2.2.2.1,h.2.2.2.2.2.2⟩)))
 ·exact .inr (.inr (.inr (.inr (.inl h))))
 ·exact .inr (.inr (.inr (.inr (.inr (.inl h)))))
 ·obtain⟨⟨p,n,a,b,c',d⟩,e⟩:=h;exact .inr (.inr (.inr (.inr (.inr (.inr ⟨⟨p,n,a,by rw[X9 (We b)];exact b,(Wv (We b)).2 c',d⟩,e⟩)))))
theorem acV{i:Nat}{gi bD:SG}(hlt:i<gs.size)(hg:bD.status=.running)(h:∀g,gs[ic]?=some g->g.status=.running):∀g,((gs.map (woken P gi bD w')).setIfInBounds i bD)[ic]?=some g->g.status=.running:=by
 intro g Lq;rcases getElem?_next hlt Lq with⟨_,rfl⟩|⟨_,y,hy,rfl⟩
 ·exact hg
 ·rw[Yo (h y hy)];exact h y hy
theorem GS.aa7{k:GS}(h:k.cnt=0):k.idx=none:=by
 cases k<;>first|rfl|(simp[GS.cnt]at h)
theorem Inv.opens(h:Inv P n0 W0 V gs w t K Im ic ph st){p:Phase}(hp:ph=some p):(∃n,w.heap[p.c]?=some (.chan 0 #[] false n n false))\/((∀j,0<j->j<gs.size->(K j).idx=none)/\(∃n,w.heap[p.c]?=some (.chan 0 #[] true n n false))/\p.recv=true):=by
 subst hp;obtain⟨_,hc,_,gM⟩:=h.out;obtain⟨_,_,_,_,_,_,_,_,_,hx⟩:=gM;by_cases hr:p.recv=true
 ·rw[if_pos hr]at hx;obtain⟨_,_,_,s,_,hm⟩:=hx;rcases hm with h|h|h|h|h|h|h
  ·exact .inl h.1
  ·exact .inl h.1
  ·exact .inl h.1
  ·exact .inl h.1
  ·exact .inl h.1
  ·exact .inl h.1
  ·obtain⟨⟨_,n,_,_,_,hn⟩,_,gY,_⟩:=h;refine .inr ⟨λj hj iF=> ?_,⟨n,hn⟩,hr⟩;have hle:(K j).cnt<=sumTo gs.size λi=>(K i).cnt:=WH (f:=λi=>(K i).cnt) iF;exact GS.aa7 (by omega)
 ·rw[if_neg hr]at hx;have:=(hc.sat 0 h.pos).own p.c _ (by simp only[bF,if_true];exact hx.1);exact .inl ⟨0,this⟩
theorem Inv.slip(h:Inv P n0 W0 V gs w t K Im ic ph st){i:Nat}{gi bD:SG}{es:Array Ut}{k':GS}(hi:0<i)(aM:gs[i]?=some gi)(aR:stepG P false gi w=.go bD w es)(jF:∀e∈es,e.mute=true)
  (hk:B1 P Im ph k' (deafBehind (UY t i) es) bD) (tu:bD.status=.blocked->bD.offers=none) (dS:k'.shape=(K i).shape) (mh:k'.view Im=(K i).view Im) (bK:(K i).shape=.io 0\/(K i).shape=.said 0->bD.status=.running) (uX:qZ k'.db (K i).db):gD P n0 W0 V gs w sl t K Im ic ph st i:=by
 have hlt:i<gs.size:=(SR.1 aM).1;obtain⟨_,hc,hr,hp⟩:=h.out;have c_:∀j,((upd K i k') j).idx=(K j).idx:=λj=>by
  by_cases hj:j=i
  ·subst hj;rw[bz,<- GS.Hg,dS,GS.Hg]
  ·rw[a_ _ _ hj]
 have lL:∀j,((upd K i k') j).shape=(K j).shape:=λj=>by
  by_cases hj:j=i
  ·subst hj;rw[bz,dS]
  ·rw[a_ _ _ hj]
 have aa4:∀j,((upd K i k') j).view Im=(K j).view Im:=λj=>by
  by_cases hj:j=i
  ·subst hj;rw[bz,mh]
  ·rw[a_ _ _ hj]
 have pk:∀j,((upd K i k') j).cnt=(K j).cnt:=λj=>by rw[<- GS.ng,lL,GS.ng]
 have wM:∀j,((upd K i k') j).late=(K j).late:=λj=>by rw[<- GS.mm,lL,GS.mm]
 refine h.next (st':=st) hi aM aR hk tu (λp AR=>(h.opens AR).imp id λx j a b _=>x.1 j a b) ?_ ?_ ?_ uX ?_
 ·refine((hc.quiet hlt (λe he=>aoa (jF e he)) gi.frame.fn gi.frame.place).congr λj hj=> ?_).Cn λj hj=> ?_
  ·simp only[bF,aa4]
  ·cases ph with
   |none=>exact hj
   |some p=>simpa only[m9,jc,c_,pk,wM]using hj
 ·cases st with
  |none=>
   intro idx a ha hm;have gq:=BJ (λop ay=>by obtain⟨e,he,rfl⟩:=TO ay;exact ZY (jF e he)) ha;obtain⟨op,ay,_⟩:=U0 gq;rcases hr idx a gq hm with x|⟨x,y⟩|⟨_,z,_⟩
   ·exact .inl (x.app _)
   ·exact .inr (.inl ⟨x,λz=>y ((Wv (TK ay)).1 z)⟩)
   ·cases z
  |some s=>
   refine hr.app (λidx a ha hx=> .inr (hx.app (by obtain⟨op,ay,_⟩:=U0 ha;exact TK ay) λj _ _ hj=> .inl (by rw[c_];exact hj))) (λidx a _ ⟨op,ay,_,hx⟩ _=> ?_);obtain⟨e,he,rfl⟩:=TO ay;rw[ZY (jF e he)]at hx;cases hx
 ·cases ph with
  |none=>exact hp
  |some p=>
   obtain⟨a1,a2,a3,a4,a5,a6,a7,a8,a9,bT⟩:=hp;refine⟨a1,a2,a3,a4,a5,a6,λj hj=>by rw[aa4,<- GS.Qe,lL,GS.Qe];exact a7 j hj,λj j' m b1 b2 b3 b4 b5 b6=>a8 j j' m b1 (by simpa using b2) b3 (by simpa using b4) (by rw[<- c_];exact b5) (by rw[<- c_];exact b6),λj S b1 b2=> ?_,?_⟩
   ·obtain⟨m,c1,c2,c3⟩:=a9 j S b1 b2;exact⟨m,c1,by simpa using c2,by rw[c_];exact c3⟩
   ·split
    ·rename_i aH;rw[if_pos aH]at bT;obtain⟨c1,c2,c3,s,c4,c5⟩:=bT;refine⟨c1,c2,by simpa using c3,s,c4,?_⟩;have aV:((gs.map (woken P gi bD w)).setIfInBounds i bD).size=gs.size:=(by simp);rw[aV];by_cases fU:i=ic/\bD.status≠ .running
     ·
      obtain⟨rfl,rP⟩:=fU;unfold Mode at c5⊢;have e1:sumTo gs.size (λj=>((upd K i k') j).cnt)=sumTo gs.size λj=>(K j).cnt:=Vq λj _=>pk j;have e2:sumTo gs.size (λj=>((upd K i k') j).late)=sumTo gs.size λj=>(K j).late:=Vq λj _=>wM j;simp only[e1,e2,lL];rcases c5 with h|h|h|h|h|h|h
      ·exact .inl h
      ·exact .inr (.inl h)
      ·exact .inr (.inr (.inl h))
      ·exact absurd (bK h.2.2.2.2.2.2.symm) rP
      ·exact .inr (.inr (.inr (.inr (.inl h))))
      ·exact .inr (.inr (.inr (.inr (.inr (.inl h)))))
      ·obtain⟨⟨p,n,a,b,c',d⟩,e⟩:=h;exact .inr (.inr (.inr (.inr (.inr (.inr ⟨⟨p,n,a,by rw[X9 (We b)];exact b,(Wv (We b)).2 c',d⟩,e⟩)))))
     ·refine c5.keep lL rfl rfl λrT g hg=> ?_;rcases getElem?_next hlt hg with⟨rfl,rfl⟩|⟨_,y,hy,rfl⟩
      ·exact Tn λx=>fU ⟨rfl,x⟩
      ·rw[Yo (rT y hy)];exact rT y hy
    ·rename_i aH;rw[if_neg aH]at bT;refine⟨bT.1,bT.2.1,bT.2.2.1,λj b1 b2=> ?_,bT.2.2.2.2.1,?_⟩
     rotate_left
     ·rw[show ((gs.map (woken P gi bD w)).setIfInBounds i bD).size=gs.size by simp,Vq λj _=>pk j];exact bT.2.2.2.2.2
     rcases bT.2.2.2.1 j b1 (by simpa using b2)with x|⟨q,x⟩
     ·exact .inl (by rw[c_];exact x)
     ·by_cases hj:j=i
      ·subst hj;rw[bz];rw[x]at dS;cases k'<;>simp[GS.shape]at dS;exact .inr ⟨_,rfl⟩
      ·rw[a_ _ _ hj];exact .inr ⟨q,x⟩
 ·intro g c _;exact⟨Nq hi,λjk ho=> .inr ⟨NK hi jk ho,ho⟩⟩
end
section
variable {P:SI}{n0:Nat}{W0:Tp}{V:View}{gs:Array SG}{w w':Tp}{sl:Option (Nat×Nat)}{t:Uo}{K:Nat->GS}{Im:cx}{ic:Nat}{p:Phase}{st st':Option ej}
def ju (p:Phase)(U:View):Prop:=U.own p.c=none/\(∀o,U.ab p.c o=none)/\U.own p.Wg=none/\(∀o,U.ab p.Wg o=none)
theorem ju.step{U U':View}{es:Array Ut}(b:ju p U)(s:dh U w U' w' es)(hc:p.c<w.heap.size)(hW:p.Wg<w.heap.size):ju p U':=by
 have key:∀b,b<w.heap.size->U.own b=none->(∀o,U.ab b o=none)->U'.own b=none/\∀o,U'.ab b o=none:=by
  intro b hb ho hi;refine⟨s.own b hb ho,λo=> ?_⟩;cases e:U'.ab b o with
  |none=>rfl
  |some v=>
   rcases s.kI b o v e with x|x|x
   ·rw[hi o]at x;cases x
   ·exact absurd ho x
   ·omega
 have k1:=key p.c hc b.1 b.2.1;have k2:=key p.Wg hW b.2.2.1 b.2.2.2;exact⟨k1.1,k1.2,k2.1,k2.2⟩
theorem ju.Bd{U:View}(b:ju p U){l:Loc}(h:gV U l):¬rc p.c p.Wg l:=by
 intro hs;cases l with
 |cell a=>
  have e:a.block=p.Wg:=hs;rcases h with h|h
  ·exact h (by rw[e];exact b.2.2.1)
  ·exact h (by rw[e];exact b.2.2.2 _)
 |obj r=>have e:r=p.c:=hs;exact h (by rw[e];exact b.1)
 |_=>exact hs
theorem ju.ghost{U U':View}(b:ju p U)(g:dU U U'):ju p U':=by
 have key:∀b,U.own b=none->(∀o,U.ab b o=none)->U'.own b=none/\∀o,U'.ab b o=none:=by
  intro b ho hi;refine⟨g.own b ho,λo=> ?_⟩;cases e:U'.ab b o with
  |none=>rfl
  |some v=>
   rcases g.kI b o v e with x|x
   ·rw[hi o]at x;cases x
   ·exact absurd ho x
 have k1:=key p.c b.1 b.2.1;have k2:=key p.Wg b.2.2.1 b.2.2.2;exact⟨k1.1,k1.2,k2.1,k2.2⟩
theorem agK:ju p noView:=⟨rfl,λ_=>rfl,rfl,λ_=>rfl⟩
theorem Inv.blind(h:Inv P n0 W0 V gs w t K Im ic (some p) st){i:Nat}(hi:0<i):ju p ((K i).view Im):=let x:=h.phase.2.2.2.2.2.2.1 i hi;⟨x.1,x.2.1,x.2.2.1,x.2.2.2.1⟩
theorem Inv.su(h:Inv P n0 W0 V gs w t K Im ic (some p) st){i:Nat}(hi:0<i)(hc:(K i).nf=true):i=ic:=(h.phase.2.2.2.2.2.2.1 i hi).2.2.2.2 hc
theorem Inv.low(h:Inv P n0 W0 V gs w t K Im ic (some p) st):p.c<w.heap.size/\p.Wg<w.heap.size:=⟨h.phase.2.2.2.1,h.phase.2.2.2.2.1⟩
theorem adm(hc:p.c<w.heap.size)(hW:p.Wg<w.heap.size){l:Loc}(h:rc p.c p.Wg l):l.low w.heap.size:=by
 cases l with
 |cell a=>show a.block<_;rw[show a.block=p.Wg from h];exact hW
 |obj r=>show r<_;rw[show r=p.c from h];exact hc
 |_=>exact h.elim
theorem Inv.ahl(h:Inv P n0 W0 V gs w t K Im ic (some p) st)(hr:p.recv=true){i:Nat}(hlt:i<gs.size)(hk:(K i).cnt=1):∃s,WgAt P p.Wg w s 0:=by
 obtain⟨_,_,_,_,_,_,_,_,_,hx⟩:=h.phase;rw[if_pos hr]at hx;obtain⟨_,_,_,s,hs,hm⟩:=hx;have hle:(K i).cnt<=sumTo gs.size λi=>(K i).cnt:=WH (f:=λi=>(K i).cnt) hlt;rcases hm with h|h|h|h|h|h|h
 ·exact⟨_,h.2.2.2.2.1⟩
 ·exact⟨_,h.2.2.2.2.2.1⟩
 ·have:=h.2.2.2.1;omega
 ·have:=h.2.2.2.1;omega
 ·have:=h.2.2.2.1;omega
 ·have:=h.2.2.2.1;omega
 ·have:=h.2.2.1;omega
theorem Inv.Pm(h:Inv P n0 W0 V gs w t K Im ic (some p) st)(hr:p.recv=true){n:Nat}(hk:K ic=.acq n\/K ic=.said n):∃x y,WgAt P p.Wg w x y:=by
 obtain⟨_,_,_,_,_,_,_,_,_,hx⟩:=h.phase;rw[if_pos hr]at hx;obtain⟨_,_,_,s,hs,hm⟩:=hx;unfold Mode at hm;rcases hm with h|h|h|h|h|h|h
 ·exact⟨_,_,h.2.2.2.2.1⟩
 ·exact⟨_,_,h.2.2.2.2.2.1⟩
 ·have key:∀N,0<(sumTo N λi=>(K i).late)->∃i,i<N/\(K i).late≠0:=by
   intro N;induction N with
   |zero=>intro h;exact absurd h (by simp[sumTo])
   |succ N ih=>
    intro h;by_cases h0:(K N).late=0
    ·simp only[sumTo,h0]at h;obtain⟨i,hi,hl⟩:=ih (by omega);exact⟨i,by omega,hl⟩
    ·exact⟨N,by omega,h0⟩
  have:=key gs.size (by have:=h.2.2.1;omega);obtain⟨i,hi,hl⟩:=this;cases kW:K i<;>rw[kW]at hl<;>first
   |exact⟨_,_,h.2.2.2.2.2.1 i hi (by rw[kW];exact .inl rfl)⟩
   |exact⟨_,_,h.2.2.2.2.2.1 i hi (by rw[kW];exact .inr rfl)⟩
   |exact⟨_,_,h.2.2.2.2.2.2 i hi (by rw[kW];rfl)⟩
   |exact absurd rfl hl
 ·exact⟨_,_,h.2.2.2.2.1⟩
 ·exact⟨_,_,h.2.2.2.2.1⟩
 ·exfalso;rcases hk with hk|hk<;>rw[hk]at h<;>rcases h.2.2.2.2 with h|h<;>cases h
 ·exfalso;rcases hk with hk|hk<;>rw[hk]at h<;>cases h.2.2.2
theorem Inv.counted(h:Inv P n0 W0 V gs w t K Im ic (some p) st){i:Nat}(_hi:0<i)(hlt:i<gs.size)(hk:(K i).cnt=1):(∃n,w.heap[p.c]?=some (.chan 0 #[] false n n false))/\st=some .early:=by
 have gM:=h.phase;obtain⟨_,_,_,_,_,_,_,_,_,hx⟩:=gM;by_cases hr:p.recv=true
 ·rw[if_pos hr]at hx;obtain⟨_,_,_,s,hs,hm⟩:=hx;have hle:(K i).cnt<=sumTo gs.size λi=>(K i).cnt:=WH (f:=λi=>(K i).cnt) hlt;rcases hm with h|h|h|h|h|h|h
  ·exact⟨h.1,by rw[hs,h.2.1]⟩
  ·exact⟨h.1,by rw[hs,h.2.1]⟩
  ·exact⟨h.1,by rw[hs,h.2.1]⟩
  ·exact⟨h.1,by rw[hs,h.2.1]⟩
  ·exact⟨h.1,by rw[hs,h.2.1]⟩
  ·have:=h.2.2.2.1;omega
  ·have:=h.2.2.1;omega
 ·rw[if_neg hr]at hx;have:=(h.core.sat 0 h.pos).own p.c _ (by simp only[bF,if_true];exact hx.1);exact⟨⟨0,this⟩,hx.2.2.1⟩
theorem Inv.NM(h:Inv P n0 W0 V gs w t K Im ic (some p) st){i:Nat}{k':GS}{gs':Array SG}{t':Uo}(aV:gs'.size=gs.size)(iT:w.heap.size<=w'.heap.size)(hb:ju p (k'.view Im))(yn:k'.nf=true->i=ic)
  (c_:k'.idx=(K i).idx\/(k'.idx=none/\∀j,(K i).idx=some j->p.Ss[j]?=some []))
  (dY:if p.recv then∃s,st'=some s/\Mode P p.c p.Wg gs.size w' gs' t' (upd K i k') ic s
    else st'=some .early/\k'.idx.isSome=true/\k'.cnt=(K i).cnt):zM P n0 V gs' w' t' (upd K i k') Im ic (some p) st':=by
 obtain⟨a1,a2,a3,a4,a5,a6,a7,a8,a9,bT⟩:=h.phase;have jC:∀j m,((upd K i k') j).idx=some m->(K j).idx=some m:=by
  intro j m hj;by_cases cp:j=i
  ·subst cp;rw[bz]at hj;rcases c_ with x|⟨x,_⟩
   ·rw[<- x];exact hj
   ·rw[x]at hj;cases hj
  ·rw[a_ _ _ cp]at hj;exact hj
 refine⟨a1,a2,a3,Tf a4 iT,Tf a5 iT,a6,λj hj=> ?_,λj j' m b1 b2 b3 b4 b5 b6=>a8 j j' m b1 (aV▸b2) b3 (aV▸b4) (jC _ _ b5) (jC _ _ b6),λj S b1 b2=> ?_,?_⟩
 ·by_cases cp:j=i
  ·subst cp;rw[bz];exact⟨hb.1,hb.2.1,hb.2.2.1,hb.2.2.2,yn⟩
  ·rw[a_ _ _ cp];exact a7 j hj
 ·obtain⟨m,c1,c2,c3⟩:=a9 j S b1 b2;refine⟨m,c1,by rw[aV];exact c2,?_⟩;by_cases cW:m=i
  ·subst cW;rw[bz];rcases c_ with x|⟨_,x⟩
   ·rw[x];exact c3
   ·have:=x j c3;rw[this]at b1;cases b1;exact absurd rfl b2
  ·rw[a_ _ _ cW];exact c3
 ·split
  ·rename_i aH;rw[if_pos aH]at bT dY;obtain⟨c1,c2,c3,_⟩:=bT;exact⟨c1,c2,by rw[aV];exact c3,by rw[aV];exact dY⟩
  ·rename_i aH;rw[if_neg aH]at bT dY;obtain⟨c1,c2,_,c4,c5⟩:=bT;refine⟨c1,c2,dY.1,λj b1 b2=> ?_,c5.1,by rw[aV,lr K k' GS.cnt dY.2.2];exact c5.2⟩;by_cases cp:j=i
   ·subst cp;rw[bz];exact .inl dY.2.1
   ·rw[a_ _ _ cp];exact c4 j b1 (aV▸b2)
theorem Inv.aer(h:Inv P n0 W0 V gs w t K Im ic (some p) st){i j:Nat}{gi bD:SG}{es:Array Ut}{hh h':Ht}{Vi V':View}(hi:0<i)(aM:gs[i]?=some gi)(hK:K i=.work j hh Vi)(aR:stepG P false gi w=.go bD w' es)
  (s:dh Vi w V' w' es) (hk:lA P h' V' bD) (mc:B0 h' hh):gD P n0 W0 V gs w sl t K Im ic (some p) st i:=by
 have hlt:i<gs.size:=(SR.1 aM).1;have dl:=h.is i gi hi aM;simp only[hK,GS.is]at dl;obtain⟨hd,_,S,hS,jl⟩:=dl;have gY:(K i).cnt=1:=by rw[hK];rfl
 obtain⟨⟨n,gL⟩,lg⟩:=h.counted hi hlt gY;have iw:=h.low;have cN:ju p Vi:=by have:=h.blind hi;rw[hK]at this;exact this
 have akA:=cN.step s iw.1 iw.2;have mh:bF V Im K i=Vi:=by simp[bF,hK,GS.view];omega
 have eS:w'.heap[p.c]?=w.heap[p.c]?:=s.frame p.c iw.1 cN.1;have hWh:w'.heap[p.Wg]?=w.heap[p.Wg]?:=s.frame p.Wg iw.2 cN.2.2.1;have lL:∀m,((upd K i (.work j h' V')) m).shape=(K m).shape:=λm=>by
  by_cases hm:m=i
  ·subst hm;rw[bz,hK];rfl
  ·rw[a_ _ _ hm]
 have c_:∀m,((upd K i (.work j h' V')) m).idx=(K m).idx:=λm=>by rw[<- GS.Hg,lL,GS.Hg]
 have pk:∀m,((upd K i (.work j h' V')) m).cnt=(K m).cnt:=λm=>by rw[<- GS.ng,lL,GS.ng]
 have wM:∀m,((upd K i (.work j h' V')) m).late=(K m).late:=λm=>by rw[<- GS.mm,lL,GS.mm]
 have ce:V'.role=Vi.role:=s.role;refine h.next (k':=.work j h' V') (st':=st) hi aM aR ⟨by rw[hd,s.deaf],hk,S,hS,ce.trans jl⟩ (λx=>by rw[hk.running]at x;cases x) (λq hq=>by cases hq;exact .inl ⟨n,by rw[eS];exact gL⟩) ?_ ?_ ?_ ?_ ?_
 ·rw[OM V Im K hi];refine(Core.step (V':=V') h.core hlt (by rw[mh];exact s) (λe he x hx hs=> ?_) gi.frame.fn gi.frame.place).Cn λm hm=> ?_
  ·exfalso;rcases(JV (s.eZ e he) hx).1 with y|⟨y,_⟩|y
   ·exact cN.Bd y.rd hs
   ·exact cN.Bd y hs
   ·exact y (adm iw.1 iw.2 hs)
  ·simpa only[m9,jc,c_,pk,wM]using hm
 ·rw[lg];have hr:Rest (BN (some p)) t K ic st:=h.out.2.2.1;rw[lg]at hr;refine hr.app (λidx a ha hx=> .inr (hx.app (by obtain⟨op,ay,_⟩:=U0 ha;exact TK ay) λm _ _ hm=> .inl (by rw[c_];exact hm))) (λidx a _ ⟨op,ay,yw,_⟩ _=> .inr (.inr ⟨i,?_,hi,.inl ?_⟩))
  ·obtain⟨e,_,rfl⟩:=TO ay;simp[WF,yw]
  ·rw[bz];rfl
 ·refine h.NM (by simp) s.size akA (λx=>by cases x) (.inl (by rw[hK];rfl)) ?_;have hx:=h.phase.2.2.2.2.2.2.2.2.2;split
  ·rename_i aH;rw[if_pos aH]at hx;obtain⟨_,_,_,s',nI,hm⟩:=hx;exact⟨s',nI,hm.keep lL eS hWh λrT=>acV hlt hk.running rT⟩
  ·exact⟨lg,rfl,by rw[hK];rfl⟩
 ·rw[hK];refine .inr ⟨by simp[GS.db,ce],.inl mc⟩
 ·intro g c La;have ho:zL w' c:=⟨n,by rw[<- La p rfl,eS];exact gL⟩;exact⟨Nq hi,λjk _=> .inr ⟨NK hi jk ho,ho⟩⟩
end
def nO (V:View)(I':cx)(O':Ca)(r:mX):View:=
 {V with ab:=λb o=>match V.ab b o with|some x=>some x|none=>I' b o,own:=λb=>match V.own b with|some x=>some x|none=>O' b,role:=r}
def lU (B:Nat->Bool)(U:View):Ca:=λb=>if B b then U.own b else none
def lR (B:Nat->Bool)(U:View)(r:mX):View:={U with own:=λb=>if B b then none else U.own b,role:=r}
section
variable {P:SI}{n0:Nat}{W0:Tp}{V:View}{gs gs':Array SG}{w w':Tp}{sl:Option (Nat×Nat)}{t:Uo}{K:Nat->GS}{Im:cx}{ic:Nat}{p:Phase}{st:Option ej}
theorem aci{k:GS}{d:Nat}{x:SG}(h:k.is P p.c p.Wg Im p.Ss d x)(r:Nat):offersAt x r false=[]:=by
 rcases GS.runs h with hr|⟨hf,_⟩|⟨j,h',V,V',g0,v,z,rfl⟩|⟨_,hb,ho⟩
 ·exact U1 (by rw[hr];simp) r false
 ·exact U1 (by rw[hf];simp) r false
 ·obtain⟨_,_,rfl,_⟩:=h;exact offersAt_parked_send' _ _ _ _ _ _
 ·unfold offersAt;simp[hb,ho]
theorem anS{g:SG}(h:kB gs g){x:SG}(hx:gs[0]?=some x)(r:Nat)(s:Bool):offersAt x r s=[]:=by
 obtain⟨g0,h0,h1,_⟩:=h;rw[h0]at hx;cases hx;exact U1 (by rw[h1];simp) r s
theorem Inv.atc(h:Inv P n0 W0 V gs w t K Im ic (some p) st){g:SG}(hm:kB gs g){i j:Nat}{gi:SG}{hh h':Ht}{Vi V₁:View}{sp:Spec}{S:List Spec}{v z:SP}{B:Nat->Bool}(hi:0<i)(aM:gs[i]?=some gi)
  (hK:K i=.work j hh Vi) (hg:dU Vi V₁) (hr:V₁.role=.work p.c p.Wg (sp::S)) (hd:V₁.deaf=0) (aR:stepG P false gi w=.comm gi #[scase p.c v z] true .send w #[])
  (yH:sp v V₁.ab (lU B V₁)) (hk:lA P h' (lR B V₁ (.work p.c p.Wg S)) (T8 gi undef)):gD P n0 W0 V gs w sl t K Im ic (some p) st i:=by
 have hlt:i<gs.size:=(SR.1 aM).1;have dl:=h.is i gi hi aM;simp only[hK,GS.is]at dl;obtain⟨bA,_,S',hS,jl⟩:=dl;have gY:(K i).cnt=1:=by rw[hK];rfl
 obtain⟨⟨n,gL⟩,lg⟩:=h.counted hi hlt gY;have eO:(i==0)=false:=by simp;omega
 have er:mX.work p.c p.Wg S'=.work p.c p.Wg (sp::S):=by rw[<- jl,<- hg.role,hr]
 cases er;let k':GS:=.nT j h' V₁ (lR B V₁ (.work p.c p.Wg S)) gi v z;have hw:=crowd_waits (P:=P) (sl:=sl) (i:=i) aM (by rw[eO];exact aR) (λcc jg=>by
  simp only[TM,SK,SZ,or_false]at jg;subst jg;refine ways_send_none gL (by simp) (partners_nil λm x hx=> ?_);rcases Yc gs i m x hx with⟨_,rfl⟩|⟨_,jI⟩
  ·exact Zp _ _
  ·rcases Ul m with rfl|iV
   ·exact anS hm jI _ _
   ·exact aci (h.is m x iV jI) _)
 have mh:bF V Im K i=Vi:=by simp[bF,hK,GS.view];omega
 have cN:ju p Vi:=by have:=h.blind hi;rw[hK]at this;exact this
 have c_:∀m,((upd K i k') m).idx=(K m).idx:=λm=>by
  by_cases hm:m=i
  ·subst hm;rw[bz,hK];rfl
  ·rw[a_ _ _ hm]
 have lL:∀m,((upd K i k') m).shape=(K m).shape:=λm=>by
  by_cases hm:m=i
  ·subst hm;rw[bz,hK];rfl
  ·rw[a_ _ _ hm]
 have pk:∀m,((upd K i k') m).cnt=(K m).cnt:=λm=>by rw[<- GS.ng,lL,GS.ng]
 have wM:∀m,((upd K i k') m).late=(K m).late:=λm=>by rw[<- GS.mm,lL,GS.mm]
 have e0:t++Tc i gi.frame.fn gi.frame.place #[]=t:=by simp[Tc]
 have aV:(gs.setIfInBounds i (parked gi #[scase p.c v z] .send)).size=gs.size:=by simp
 refine⟨_,w,_,upd K i k',st,hw,aV,?_,λg' c _=>⟨λ⟨g0,a,b⟩=>⟨g0,by rw[SV (by omega)];exact a,b⟩,λ⟨g0,z',a,b⟩ ho=> .inr ⟨⟨g0,z',by rw[SV (by omega)];exact a,b⟩,ho⟩⟩,λg' c ⟨g1,z',a,_⟩ _=>(by obtain⟨g0,h0,h1,_⟩:=hm;rw[a]at h0;cases h0;cases h1),
  .inl ⟨i,hlt,?_,λm hm=>by show (upd K i k' m).db=(K m).db;rw[a_ _ _ hm]⟩⟩
 ·rw[e0];refine Inv.mk' (by rw[aV];exact h.pos) (by rw[a_ _ _ (by omega)];exact h.k0) h.d0 (λm x hm hx=> ?_) ?_ ?_ ?_
  ·by_cases cW:m=i
   ·subst cW;rw[Tb hlt]at hx;cases hx;rw[bz];exact⟨by rw[bA,<- hg.deaf,hd],hd,rfl,hk,sp,S,B,hS,hr,yH,rfl⟩
   ·rw[SV (Ne.symm cW)]at hx;rw[a_ _ _ cW];exact h.is m x hm hx
  ·rw[aV,OM V Im K hi];exact(Core.ghost (V':=V₁) h.core hlt (by rw[mh];exact hg)).Cn λm hm=>by simpa only[m9,jc,c_,pk,wM]using hm
  ·have hr:Rest (BN (some p)) t K ic st:=h.out.2.2.1;rw[lg]at hr⊢;have:=hr.app (u:=#[]) (K':=upd K i k') (s':=.early) (λidx a ha hx=> .inr (hx.app (by obtain⟨op,ay,_⟩:=U0 ha;exact TK ay) λm _ _ hm=> .inl (by rw[c_];exact hm))) (λidx a _ ⟨op,ay,_⟩ _=>by simp at ay);simpa using this
  ·refine h.NM aV (SO _) (cN.ghost hg) (λx=>by cases x) (.inl (by rw[hK];rfl)) ?_;have hx:=h.phase.2.2.2.2.2.2.2.2.2;split
   ·rename_i aH;rw[if_pos aH]at hx;obtain⟨_,gw,_,s',nI,fW⟩:=hx;refine⟨s',nI,?_⟩;have:=fW.keep (w':=w) (gs':=gs.setIfInBounds i (parked gi #[scase p.c v z] .send)) (u:=#[]) lL rfl rfl λrT x hx=>by
     by_cases fU:ic=i
     ·subst fU;exfalso;unfold Mode at fW;have aF:∀s:GS,(K ic).shape=s->s=.work j .z noView:=λs e=>(by rw[<- e,hK];rfl);rcases fW with h|h|h|h|h|h|h
      ·rcases h.2.2.2.2.2 with⟨_,e,_⟩|⟨_,e,_⟩<;>cases aF _ e
      ·rcases h.2.2.2.2.2.2 with e|e<;>cases aF _ e
      ·rcases h.2.2.2.2.1 with e|e<;>cases aF _ e
      ·rcases h.2.2.2.2.2.2 with e|e<;>cases aF _ e
      ·rcases h.2.2.2.2.2 with e|e<;>cases aF _ e
      ·rcases h.2.2.2.2 with e|e<;>cases aF _ e
      ·cases aF _ h.2.2.2
     ·rw[SV (Ne.symm fU)]at hx;exact rT x hx
    simpa using this
   ·exact⟨lg,rfl,by rw[hK];rfl⟩
 ·show qZ (upd K i k' i).db (K i).db;rw[hK];refine .inl ?_;simp only[bz,k',GS.db,hr,jl];omega
theorem Mode.amR{c Wg N:Nat}{u:Uo}{K':Nat->GS}{s:ej}(h:Mode P c Wg N w gs t K ic s)(gY:1<=sumTo N λi=>(K i).cnt)(hs:∀j,(K' j).shape=(K j).shape)(ho:∃n,w'.heap[c]?=some (.chan 0 #[] false n n false)) (hW:w'.heap[Wg]?=w.heap[Wg]?):Mode P c Wg N w' gs' (t++u) K' ic s:=by
 have e1:sumTo N (λi=>(K' i).cnt)=sumTo N λi=>(K i).cnt:=Vq λi _=>by rw[<- GS.ng,hs i,GS.ng]
 have e2:sumTo N (λi=>(K' i).late)=sumTo N λi=>(K i).late:=Vq λi _=>by rw[<- GS.mm,hs i,GS.mm]
 have e3:∀st sm,WgAt P Wg w' st sm=WgAt P Wg w st sm:=λst sm=>by unfold WgAt;rw[hW]
 unfold Mode at h⊢;simp only[e1,e2,e3,hs];rcases h with h|h|h|h|h|h|h
 ·exact .inl ⟨ho,h.2⟩
 ·exact .inr (.inl ⟨ho,h.2⟩)
 ·have:=h.2.2.2.1;omega
 ·have:=h.2.2.2.1;omega
 ·have:=h.2.2.2.1;omega
 ·have:=h.2.2.2.1;omega
 ·have:=h.2.2.1;omega
theorem Inv.met(h:Inv P n0 W0 V gs w t K Im ic (some p) st)(aH:p.recv=true)(gI:V.deaf=0){i j:Nat}{h':Ht}{V₁:View}{gi:SG}{sp:Spec}{S:List Spec}{B:Nat->Bool}(hi:0<i)(hlt:i<gs.size)
  (yx:(K i).idx=some j) (hg:dU ((K i).view Im) V₁) (hr:V₁.role=.work p.c p.Wg (sp::S)) (hd:V₁.deaf=0) (oC:UY t i=0) (hS:p.Ss[j]?=some (sp::S))
  (hk:lA P h' (lR B V₁ (.work p.c p.Wg S)) (T8 gi undef)) (aV:gs'.size=gs.size) (aM:gs'[i]?=some (T8 gi undef)) (hgo:∀m,m≠i->0<m->gs'[m]?=gs[m]?)
  {u:Uo} {x0 x1 x2 x3:Wj} (hu:u=#[x0,x1,x2,x3]) {s:Nat} (h0:x0.g=i/\x0.act=.send p.c s) (h1:x1.g=0/\x1.act=.recv p.c s 0) (h2:x2.g=i/\x2.act=.sendDone p.c s) (h3:x3.g=0/\x3.act=.recvDone p.c s)
  (bC:w'.heap.size=w.heap.size) (fY:∀b,b≠p.c->w'.heap[b]?=w.heap[b]?) (wY:∃n,w'.heap[p.c]?=some (.chan 0 #[] false n n false)) (G6:w'.tape=w.tape) (hw5:w'.os=w.os) (hw6:w'.output=w.output):
  (∀b,V.own b≠none->lU B V₁ b=none)/\(∀b o,V.own b≠none->V₁.ab b o≠none->V.ab b o≠none)/\
  Inv P n0 W0 (nO V V₁.ab (lU B V₁) (.recv p.c p.Wg (p.Ss.set j S))) gs' w' (t++u) (upd K i (.work j h' (lR B V₁ (.work p.c p.Wg S)))) Im ic (some {p with Ss:=p.Ss.set j S}) st:=by
 obtain⟨dl,hc,lK,gM⟩:=h.out;obtain⟨a1,a2,a3,a4,a5,a6,a7,a8,a9,bT⟩:=gM;rw[if_pos aH]at bT;obtain⟨⟨c1,c2,c3,c4⟩,c5,c6,s',c7,c8⟩:=bT;have C8:ju p V:=⟨c1,c2,c3,c4⟩;have wy:=(h.blind hi).ghost hg;have mh:bF V Im K i=(K i).view Im:=by simp[bF];omega
 have rW:bF V Im K 0=V:=by simp[bF]
 have dq:Core (upd (bF V Im K) i V₁) gs.size w t (sq (some p)) (m9 (some p) gs.size ic K) ic n0 W0:=hc.ghost hlt (by rw[mh];exact hg);have dL:Sat V₁ w:=by have:=dq.sat i hlt;rwa [bz]at this
 have cu:Sat V w:=by have:=dq.sat 0 h.pos;rwa [a_ _ _ (by omega),rW]at this
 have FI:jN V V₁:=by have:=dq.dN 0 i h.pos hlt (by omega);rwa [a_ _ _ (show 0≠i by omega),bz,rW]at this
 have QA:jN V₁ V:=by have:=dq.dN i 0 hlt h.pos (by omega);rwa [bz,a_ _ _ (show 0≠i by omega),rW]at this
 have ak2:∀b,V.own b≠none->lU B V₁ b=none:=λb hb=>by
  unfold lU;split
  ·exact(FI b hb).1
  ·rfl
 refine⟨ak2,λb o hb=>(FI b hb).2 o,?_⟩;have jF:∀op∈u,op.act.touch?=none/\still op.act/\(op.g=0\/op.g=i)/\op.act.low w.heap.size/\∀a,op.act≠ .mark (.release a):=by
  intro op ay;rw[hu]at ay;simp only[TM,SK,SZ,or_false]at ay;rcases ay with rfl|rfl|rfl|rfl
  ·rw[h0.2,h0.1];exact⟨rfl,⟨by simp,by simp⟩,.inr rfl,a4,by simp⟩
  ·rw[h1.2,h1.1];exact⟨rfl,⟨by simp,by simp⟩,.inl rfl,a4,by simp⟩
  ·rw[h2.2,h2.1];exact⟨rfl,⟨by simp,by simp⟩,.inr rfl,a4,by simp⟩
  ·rw[h3.2,h3.1];exact⟨rfl,⟨by simp,by simp⟩,.inl rfl,a4,by simp⟩
 have nJ:∀op∈u,still op.act:=λop ay=>(jF op ay).2.1;have uL:∀m,UY (t++u) m=UY t m:=λm=>Deaf_still nJ;have d00:UY t 0=0:=by rw[h.d0,gI]
 have dZ:∀idx,Wr t i idx->Wr (t++u) 0 idx:=λidx hx=>anZ hu h0 (jF x1 (by rw[hu];simp)).2.1 (jF x2 (by rw[hu];simp)).2.1 h3 oC d00 hx;let k':GS:=.work j h' (lR B V₁ (.work p.c p.Wg S));let V':View:=nO V V₁.ab (lU B V₁) (.recv p.c p.Wg (p.Ss.set j S));have c_:∀m,((upd K i k') m).idx=(K m).idx:=λm=>by
  by_cases hm:m=i
  ·subst hm;rw[bz,yx];rfl
  ·rw[a_ _ _ hm]
 have dS:(K i).shape=.work j .z noView:=by
  cases kW:K i<;>rw[kW]at yx<;>simp[GS.idx]at yx
  ·subst yx;rfl
  ·subst yx;rfl
 have lL:∀m,((upd K i k') m).shape=(K m).shape:=λm=>by
  by_cases hm:m=i
  ·subst hm;rw[bz,dS];rfl
  ·rw[a_ _ _ hm]
 have pk:∀m,((upd K i k') m).cnt=(K m).cnt:=λm=>by rw[<- GS.ng,lL,GS.ng]
 have wM:∀m,((upd K i k') m).late=(K m).late:=λm=>by rw[<- GS.mm,lL,GS.mm]
 have gY:(K i).cnt=1:=by rw[<- GS.ng,dS];rfl
 have lg:=(h.counted hi hlt gY).2;have sB:bF V' Im (upd K i k') 0=V':=by simp[bF]
 have xr:bF V' Im (upd K i k') i=lR B V₁ (.work p.c p.Wg S):=by simp[bF,bz,k',GS.view];omega
 have xu:∀m,m≠0->m≠i->bF V' Im (upd K i k') m=upd (bF V Im K) i V₁ m:=λm h1 h2=>by simp[bF,a_ _ _ h2,h1]
 have Ej:upd (bF V Im K) i V₁ 0=V:=by rw[a_ _ _ (by omega),rW]
 have xc:upd (bF V Im K) i V₁ i=V₁:=bz _ _ _;have kE:∀{U:View},ju p U->Sat U w->Sat U w':=λ{U} hb hs=>⟨λb o v e=>by
   have aF:b≠p.c:=λx=>(by rw[x,hb.2.1 o]at e;cases e);have:=hs.ab b o v e;simp only[UA,fY b aF]at this⊢;exact this,λb x e=>by
   have aF:b≠p.c:=λy=>(by rw[y,hb.1]at e;cases e);rw[fY b aF];exact hs.own b x e⟩
 have amc:Sat V' w:=⟨λb o v e=>by
   simp only[V',nO]at e;split at e
   ·rename_i x hx;cases e;exact cu.ab b o _ hx
   ·exact dL.ab b o v e,λb x e=>by
   simp only[V',nO]at e;split at e
   ·rename_i y hy;cases e;exact cu.own b _ hy
   ·unfold lU at e;split at e
    ·exact dL.own b x e
    ·cases e⟩
 have C9:ju p V':=⟨by simp[V',nO,c1,lU,wy.1],λo=>by simp[V',nO,c2,wy.2.1],by simp[V',nO,c3,lU,wy.2.2.1],λo=>by simp[V',nO,c4,wy.2.2.2]⟩;have hsK:Sat (lR B V₁ (.work p.c p.Wg S)) w:=⟨dL.ab,λb x e=>by
   simp only[lR]at e;split at e
   ·cases e
   ·exact dL.own b x e⟩
 have C7:ju p (lR B V₁ (.work p.c p.Wg S)):=⟨by simp[lR,wy.1],wy.2.1,by simp[lR,wy.2.2.1],wy.2.2.2⟩;have Bj:∀b,V'.own b≠none->V.own b≠none\/(B b=true/\V₁.own b≠none):=λb hb=>by
  simp only[V',nO]at hb;split at hb
  ·rename_i y hy;exact .inl (by rw[hy];simp)
  ·unfold lU at hb;split at hb
   ·rename_i hB;exact .inr ⟨hB,hb⟩
   ·exact absurd rfl hb
 have vc:∀b o,V'.ab b o≠none<->(V.ab b o≠none\/V₁.ab b o≠none):=λb o=>by
  simp only[V',nO];cases e:V.ab b o with
  |some x=>simp
  |none=>simp
 have Bl:∀b,(lR B V₁ (.work p.c p.Wg S)).own b≠none->B b=false/\V₁.own b≠none:=λb hb=>by
  simp only[lR]at hb;split at hb
  ·exact absurd rfl hb
  ·rename_i hB;exact⟨by simpa using hB,hb⟩
 have yp:Core (bF V' Im (upd K i k')) gs.size w' (t++u) (sq (some p)) (m9 (some p) gs.size ic K) ic n0 W0:=by
  refine⟨λm hm=> ?_,λa b ha hb fC=> ?_,?_,G6.trans hc.tape,hw5.trans hc.os,hw6.trans hc.out,λb hb=>(fY b (by omega)).trans (hc.old b hb),λm hm b hb=> ?_,by rw[bC];exact hc.n0⟩
  ·by_cases iV:m=0
   ·subst iV;rw[sB];exact kE C9 amc
   ·by_cases cW:m=i
    ·subst cW;rw[xr];exact kE C7 hsK
    ·rw[xu m iV cW,a_ _ _ cW];have:=hc.sat m hm;refine kE ?_ this;have e:bF V Im K m=(K m).view Im:=(by simp[bF,iV]);rw[e];exact h.blind (by omega)
  ·
   have dm:∀m,m<gs.size->m≠0->m≠i->jN (upd (bF V Im K) i V₁ m) V/\jN V (upd (bF V Im K) i V₁ m)/\jN (upd (bF V Im K) i V₁ m) V₁/\jN V₁ (upd (bF V Im K) i V₁ m):=λm hm h1 h2=>
    ⟨by have:=dq.dN m 0 hm h.pos h1;rwa [Ej]at this,by have:=dq.dN 0 m h.pos hm (Ne.symm h1);rwa [Ej]at this,by have:=dq.dN m i hm hlt h2;rwa [xc]at this,by have:=dq.dN i m hlt hm (Ne.symm h2);rwa [xc]at this⟩
   by_cases Ax:a=0
   ·subst Ax;by_cases fQ:b=i
    ·subst fQ;rw[sB,xr];intro q hq;rcases Bj q hq with x|⟨hB,x⟩
     ·refine⟨?_,λo ho=>(vc q o).2 (.inl ((FI q x).2 o ho))⟩;simp only[lR];split
      ·rfl
      ·exact(FI q x).1
     ·refine⟨by simp only[lR,hB,if_true],λo ho=>(vc q o).2 (.inr ho)⟩
    ·have tp:b≠0:=Ne.symm fC;rw[sB,xu b tp fQ];obtain⟨_,e2,_,e4⟩:=dm b hb tp fQ;intro q hq;rcases Bj q hq with x|⟨_,x⟩
     ·exact⟨(e2 q x).1,λo ho=>(vc q o).2 (.inl ((e2 q x).2 o ho))⟩
     ·exact⟨(e4 q x).1,λo ho=>(vc q o).2 (.inr ((e4 q x).2 o ho))⟩
   ·by_cases nv:a=i
    ·subst nv;by_cases tp:b=0
     ·subst tp;rw[sB,xr];intro q hq;obtain⟨hB,x⟩:=Bl q hq;refine⟨?_,λo ho=> ?_⟩
      ·simp only[V',nO,(QA q x).1,lU,hB];rfl
      ·rcases(vc q o).1 ho with y|y
       ·exact(QA q x).2 o y
       ·exact y
     ·rw[xr,xu b tp (Ne.symm fC)];obtain⟨_,_,_,e4⟩:=dm b hb tp (Ne.symm fC);intro q hq;exact e4 q (Bl q hq).2
    ·rw[xu a Ax nv];obtain⟨e1,e2,e3,e4⟩:=dm a ha Ax nv;by_cases tp:b=0
     ·subst tp;rw[sB];intro q hq;refine⟨?_,λo ho=>((vc q o).1 ho).elim ((e1 q hq).2 o) ((e3 q hq).2 o)⟩;simp only[V',nO,(e1 q hq).1,lU,(e3 q hq).1,ite_self]
     ·by_cases fQ:b=i
      ·subst fQ;rw[xr];intro q hq;refine⟨?_,(e3 q hq).2⟩;simp only[lR,(e3 q hq).1,ite_self]
      ·rw[xu b tp fQ];exact dq.dN a b ha hb fC
  ·rw[bC];refine dq.ti.mute (λop ay=>(jF op ay).1) (λop ay=>(jF op ay).2.2.2.1) (λop ay=>((jF op ay).2.2.1).elim (λx=>by rw[x];exact h.pos) (λx=>by rw[x];exact hlt)) (SO _) (λop ay=>(jF op ay).2.2.2.2) (λm hm l hl idx a ha gJ rZ=> ?_) (λm hm l hl idx a ha gJ=> ?_) (λidx a ha dS=>⟨λhp m hm=>((dq.ti.sp idx a ha dS).1 hp m hm).app u,λhp=>((dq.ti.sp idx a ha dS).2 hp).app u⟩)
   ·obtain⟨_,cP,mb⟩:=hl;by_cases iV:m=0
    ·subst iV;rw[sB]at cP;have:gV V l\/gV V₁ l:=by
      cases l with
      |cell a'=>
       rcases cP with x|x
       ·exact(Bj _ x).imp .inl (λy=> .inl y.2)
       ·exact((vc _ _).1 x).imp .inr .inr
      |obj r=>exact(Bj _ cP).imp id (λy=>y.2)
      |_=>exact cP.elim
     rcases this with x|x
     ·exact(dq.ti.kr 0 h.pos l ⟨h.pos,by rw[Ej];exact x,mb⟩ idx a ha gJ rZ).app u
     ·exact dZ idx (dq.ti.kr i hlt l ⟨hlt,by rw[xc];exact x,mb⟩ idx a ha gJ rZ)
    ·by_cases cW:m=i
     ·subst cW;rw[xr]at cP;have:gV V₁ l:=by
       cases l with
       |cell a'=>exact cP.imp (λx=>(Bl _ x).2) id
       |obj r=>exact(Bl _ cP).2
       |_=>exact cP.elim
      exact(dq.ti.kr m hm l ⟨hm,by rw[xc];exact this,mb⟩ idx a ha gJ rZ).app u
     ·rw[xu m iV cW]at cP;exact(dq.ti.kr m hm l ⟨hm,cP,mb⟩ idx a ha gJ rZ).app u
   ·obtain⟨_,cP,mb⟩:=hl;by_cases iV:m=0
    ·subst iV;rw[sB]at cP;have:jO V l\/jO V₁ l:=by
      cases l with
      |cell a'=>
       have fS:V.ab a'.block a'.off=none:=by
        cases e:V.ab a'.block a'.off with
        |none=>rfl
        |some x=>exact absurd cP.2 ((vc _ _).2 (.inl (by rw[e];simp)))
       have uO:V₁.ab a'.block a'.off=none:=by
        cases e:V₁.ab a'.block a'.off with
        |none=>rfl
        |some x=>exact absurd cP.2 ((vc _ _).2 (.inr (by rw[e];simp)))
       exact(Bj _ cP.1).imp (λx=>⟨x,fS⟩) (λx=>⟨x.2,uO⟩)
      |obj r=>exact(Bj _ cP).imp id (λy=>y.2)
      |_=>exact cP.elim
     rcases this with x|x
     ·exact(dq.ti.kw 0 h.pos l ⟨h.pos,by rw[Ej];exact x,mb⟩ idx a ha gJ).app u
     ·exact dZ idx (dq.ti.kw i hlt l ⟨hlt,by rw[xc];exact x,mb⟩ idx a ha gJ)
    ·by_cases cW:m=i
     ·subst cW;rw[xr]at cP;have:jO V₁ l:=by
       cases l with
       |cell a'=>exact⟨(Bl _ cP.1).2,cP.2⟩
       |obj r=>exact(Bl _ cP).2
       |_=>exact cP.elim
      exact(dq.ti.kw m hm l ⟨hm,by rw[xc];exact this,mb⟩ idx a ha gJ).app u
     ·rw[xu m iV cW]at cP;exact(dq.ti.kw m hm l ⟨hm,cP,mb⟩ idx a ha gJ).app u
  ·by_cases iV:m=0
   ·subst iV;rw[sB];have e1:=dq.jo 0 h.pos b hb;have e2:=dq.jo i hlt b hb;rw[Ej]at e1;rw[xc]at e2;simp[V',nO,e1,lU,e2]
   ·by_cases cW:m=i
    ·subst cW;rw[xr];have e2:=dq.jo m hm b hb;rw[xc]at e2;simp[lR,e2]
    ·rw[xu m iV cW];exact dq.jo m hm b hb
 refine Inv.mk' (by rw[aV];exact h.pos) (by rw[a_ _ _ (by omega)];exact h.k0) (by rw[uL];exact h.d0) (λm x hm hx=> ?_) ?_ ?_ ?_
 ·show (upd K i k' m).is P p.c p.Wg Im (p.Ss.set j S) (UY (t++u) m) x;rw[uL];by_cases cW:m=i
  ·subst cW;rw[aM]at hx;cases hx;rw[bz];have e9:j<p.Ss.length:=(SL.1 hS).1;exact⟨by rw[oC];exact hd.symm,hk,S,by simp[Xc e9],rfl⟩
  ·rw[hgo m cW hm]at hx;rw[a_ _ _ cW];have A7:=dl m x hm hx;have Dq:m<gs.size:=(SR.1 hx).1;have aF:(K m).idx≠some j:=λe=>cW (a8 m i j hm Dq hi hlt e yx);cases KR:K m with
   |work j2 h2 V2=>
    rw[KR]at A7 aF;obtain⟨b1,b2,S2,b3,b4⟩:=A7;exact⟨b1,b2,S2,by rw[Ua (λe=>aF (by rw[e];rfl))];exact b3,b4⟩
   |nT j2 h2 V2 V3 g2 v2 z2=>
    rw[KR]at A7 aF;obtain⟨b1,b2,b3,b4,sp2,S2,B2,b5,b6⟩:=A7;exact⟨b1,b2,b3,b4,sp2,S2,B2,by rw[Ua (λe=>aF (by rw[e];rfl))];exact b5,b6⟩
   |_=>rw[KR]at A7;exact A7
 ·rw[aV];refine yp.Cn λm hm=> ?_;have fW:jc p gs.size ic (upd K i k') m:=hm;show jc p gs.size ic K m;unfold jc at fW⊢;rw[c_,pk,wM]at fW;exact fW
 ·show Rest p.Wg (t++u) (upd K i k') ic st;have yF:Rest p.Wg t K ic st:=lK;rw[lg]at yF⊢;exact yF.app (λidx a ha hx=> .inr (hx.app (by obtain⟨op,ay,_⟩:=U0 ha;exact TK ay) λm _ _ hm=> .inl (by rw[c_];exact hm))) (λidx a _ ⟨op,ay,_,hx⟩ _=>by rw[(jF op ay).1]at hx;cases hx)
 ·refine⟨a1,a2,a3,by rw[bC];exact a4,by rw[bC];exact a5,by simpa using a6,λm hm=> ?_,λm m' q b1 b2 b3 b4 b5 b6=>a8 m m' q b1 (aV▸b2) b3 (aV▸b4) (by rw[<- c_];exact b5) (by rw[<- c_];exact b6),λq S2 b1 b2=> ?_,?_⟩
  ·by_cases cW:m=i
   ·subst cW;rw[bz];exact⟨C7.1,C7.2.1,C7.2.2.1,C7.2.2.2,λx=>by cases x⟩
   ·rw[a_ _ _ cW];exact a7 m hm
  ·rw[aV];by_cases hq:q=j
   ·subst hq;exact⟨i,hi,hlt,by rw[c_];exact yx⟩
   ·have Jj:p.Ss[q]?=some S2:=by
     have:=b1;rwa [show ({p with Ss:=p.Ss.set j S}:Phase).Ss=p.Ss.set j S from rfl,Ua (Ne.symm hq)]at this
    obtain⟨m,e1,e2,e3⟩:=a9 q S2 Jj b2;exact⟨m,e1,e2,by rw[c_];exact e3⟩
  ·show if p.recv=true then _ else _;rw[if_pos aH];refine⟨⟨C9.1,C9.2.1,C9.2.2.1,C9.2.2.2⟩,c5,by rw[aV];exact c6,s',c7,?_⟩;have hle:(K i).cnt<=sumTo gs.size λi=>(K i).cnt:=WH (f:=λi=>(K i).cnt) hlt;rw[aV];exact c8.amR (by omega) lL wY (fY _ (Ne.symm a3))
end
section
variable {P:SI}{n0:Nat}{W0:Tp}{V:View}{gs gs':Array SG}{w w':Tp}{sl:Option (Nat×Nat)}{t:Uo}{K:Nat->GS}{Im:cx}{ic:Nat}{p:Phase}{st st':Option ej}
theorem Inv.ub(h:Inv P n0 W0 V gs w t K Im ic (some p) st)(aH:p.recv=true){i:Nat}{gi bD:SG}{es:Array Ut}{k':GS}{s':ej}(hi:0<i)(aM:gs[i]?=some gi)(aR:stepG P false gi w=.go bD w' es)
  (hk:k'.is P p.c p.Wg Im p.Ss (deafBehind (UY t i) es) bD) (qv:mB (k'.view Im) ((K i).view Im))
  (yn:k'.nf=true->i=ic) (c_:k'.idx=none) (yw:∀j,(K i).idx=some j->p.Ss[j]?=some []/\∃r,Rel p.Wg (t++Tc i gi.frame.fn gi.frame.place es) i r/\t.size<=r)
  (j9:i=ic\/(K i).idx.isSome=true\/(K i).cnt=1\/(K i).late=1)
  (cr:∀e∈es,∀x,(Ts e).touch?=some x->(rc p.c p.Wg x.loc/\x.kind=.atomic)\/(rc p.c p.Wg x.loc/\x.kind=.said/\i=ic)\/(¬rc p.c p.Wg x.loc/\gV ((K i).view Im) x.loc/\x.write=false))
  (iw:∀e∈es,(Ts e).low w.heap.size) (rP:∀e∈es,∀a,Ts e≠ .mark (.release a))
  (aV:w'.heap.size=w.heap.size) (ji:∀b,b≠p.c->b≠p.Wg->w'.heap[b]?=w.heap[b]?) (ht:w'.tape=w.tape) (ho:w'.os=w.os) (hu:w'.output=w.output)
  (yB:Mode P p.c p.Wg gs.size w' ((gs.map (woken P gi bD w')).setIfInBounds i bD) (t++Tc i gi.frame.fn gi.frame.place es) (upd K i k') ic s')
  (gL:(∃n,w'.heap[p.c]?=some (.chan 0 #[] false n n false))\/((∀j,0<j->j<gs.size->j≠i->(K j).idx=none)/\∀g,nZ gs g p.c->kB ((gs.map (woken P gi bD w')).setIfInBounds i bD) g))
  (lK:Rest p.Wg (t++Tc i gi.frame.fn gi.frame.place es) (upd K i k') ic (some s'))
  (jF:B9 gs.size ((λj=>(upd K i k' j).db),flag ((gs.map (woken P gi bD w')).setIfInBounds i bD) ic) ((λj=>(K j).db),flag gs ic)):gD P n0 W0 V gs w sl t K Im ic (some p) st i:=by
 have hlt:i<gs.size:=(SR.1 aM).1;obtain⟨_,hc,_,hp⟩:=h.out;obtain⟨a1,a2,a3,a4,a5,a6,a7,a8,a9,bT⟩:=hp;rw[if_pos aH]at bT;obtain⟨c1,c2,c3,_⟩:=bT;have qE:bF V Im K i=(K i).view Im:=by simp[bF];omega
 have C8:∀j,j<gs.size->ju p (bF V Im K j):=λj _=>by
  by_cases hj:j=0
  ·subst hj;rw[show bF V Im K 0=V by simp[bF]];exact⟨c1.1,c1.2.1,c1.2.2.1,c1.2.2.2⟩
  ·simp only[bF,hj,if_false];exact h.blind (by omega)
 have Sj:m9 (some p) gs.size ic K i:=by
  show jc p gs.size ic K i;unfold jc;rw[if_pos aH];exact⟨hi,hlt,by rcases j9 with x|x|x|x;exact .inr (.inl x);exact .inl x;exact .inr (.inr (.inl x));exact .inr (.inr (.inr x))⟩
 refine h.abW (st':=some s') hi aM aR hk (λhb=> ?_) (λq hq=>by cases hq;exact gL.imp id And.left) ?_ lK ?_ jF ?_
 ·rcases GS.runs hk with x|⟨x,_⟩|⟨_,_,_,_,_,_,_,e⟩|⟨_,_,x⟩
  ·rw[x]at hb;cases hb
  ·rw[x]at hb;cases hb
  ·rw[e]at c_;cases c_
  ·exact x
 ·rw[OM V Im K hi];have dS:=hc.ub hlt (es:=es) (w':=w') (λe he x hx=>by
    rcases cr e he x hx with⟨x1,x2⟩|⟨x1,x2,x3⟩|⟨x1,x2,x3⟩
    ·exact .inl ⟨x1,x2,Sj⟩
    ·exact .inr (.inl ⟨x1,x2,x3,Sj⟩)
    ·exact .inr (.inr ⟨x1,.inr (.inl ⟨⟨hlt,by rw[qE];exact x2,x1⟩,x3⟩)⟩)) iw rP (λb=>b=p.c\/b=p.Wg)
   (λb hb=>by
    rcases hb with rfl|rfl
    ·exact⟨a1,λj hj=>⟨(C8 j hj).1,(C8 j hj).2.1⟩⟩
    ·exact⟨a2,λj hj=>⟨(C8 j hj).2.2.1,(C8 j hj).2.2.2⟩⟩) aV (λb hb=>ji b (λx=>hb (.inl x)) (λx=>hb (.inr x))) ht ho hu gi.frame.fn gi.frame.place
  refine(dS.less (V':=k'.view Im) hlt (by rw[qE];exact qv)).Cn λm hm=> ?_;have fW:jc p gs.size ic (upd K i k') m:=hm;show jc p gs.size ic K m;unfold jc at fW⊢;rw[if_pos aH]at fW⊢;by_cases cW:m=i
  ·subst cW;exact⟨hi,hlt,by rcases j9 with x|x|x|x;exact .inr (.inl x);exact .inl x;exact .inr (.inr (.inl x));exact .inr (.inr (.inr x))⟩
  ·rw[a_ _ _ cW]at fW;exact fW
 ·refine h.NM (by simp) (by omega) ?_ yn (.inr ⟨c_,λj hj=>(yw j hj).1⟩) ?_
  ·have hb:=h.blind hi;exact⟨(qv.1 _).elim id (λx=>x.trans hb.1),λo=>(qv.2.1 _ o).elim id (λx=>x.trans (hb.2.1 o)),(qv.1 _).elim id (λx=>x.trans hb.2.2.1),λo=>(qv.2.1 _ o).elim id (λx=>x.trans (hb.2.2.2 o))⟩
  ·rw[if_pos aH];exact⟨s',rfl,yB⟩
 ·intro g c La;refine⟨Nq hi,λjk _=> ?_⟩;rw[<- La p rfl]at jk⊢;rcases gL with x|⟨_,x⟩
  ·exact .inr ⟨NK hi jk x,x⟩
  ·exact .inl (x g jk)
theorem Mode.amQ{c Wg N:Nat}{u:Uo}{K':Nat->GS}{s:ej}(h:Mode P c Wg N w gs t K ic s)(e1:sumTo N (λi=>(K' i).cnt)=sumTo N λi=>(K i).cnt)(e2:sumTo N (λi=>(K' i).late)=sumTo N λi=>(K i).late)
  (e4:(K' ic).shape=(K ic).shape) (e5:∀i,i<N->((K' i).shape=.load 0\/(K' i).shape=.store 0)->((K i).shape=.load 0\/(K i).shape=.store 0)) (e6:∀i,i<N->(K' i).shape=.mu 0->(K i).shape=.mu 0) (hc:w'.heap[c]?=w.heap[c]?) (hW:w'.heap[Wg]?=w.heap[Wg]?)
  (hr:(∀g,gs[ic]?=some g->g.status=.running)->∀g,gs'[ic]?=some g->g.status=.running):Mode P c Wg N w' gs' (t++u) K' ic s:=by
 have e3:∀st sm,WgAt P Wg w' st sm=WgAt P Wg w st sm:=λst sm=>by unfold WgAt;rw[hW]
 unfold Mode at h⊢;simp only[e1,e2,e3,e4,hc];rcases h with h|h|h|h|h|h|h
 ·exact .inl h
 ·exact .inr (.inl h)
 ·exact .inr (.inr (.inl ⟨h.1,h.2.1,h.2.2.1,h.2.2.2.1,h.2.2.2.2.1,λi hi x=>h.2.2.2.2.2.1 i hi (e5 i hi x),λi hi x=>h.2.2.2.2.2.2 i hi (e6 i hi x)⟩))
 ·exact .inr (.inr (.inr (.inl ⟨h.1,h.2.1,h.2.2.1,h.2.2.2.1,h.2.2.2.2.1,hr h.2.2.2.2.2.1,h.2.2.2.2.2.2⟩)))
 ·exact .inr (.inr (.inr (.inr (.inl h))))
 ·exact .inr (.inr (.inr (.inr (.inr (.inl h)))))
 ·obtain⟨⟨p,n,a,b,c',d⟩,e⟩:=h;exact .inr (.inr (.inr (.inr (.inr (.inr ⟨⟨p,n,a,by rw[X9 (We b)];exact b,(Wv (We b)).2 c',d⟩,e⟩)))))
theorem Mode.waits{c Wg N:Nat}{s:ej}(h:Mode P c Wg N w gs t K ic s):(K ic).cnt=0/\(K ic).late=0:=by
 rw[<- GS.ng,<- GS.mm];rcases h with h|h|h|h|h|h|h
 ·rcases h.2.2.2.2.2 with⟨_,e,_⟩|⟨_,e,_⟩<;>rw[e]<;>exact⟨rfl,rfl⟩
 ·rcases h.2.2.2.2.2.2 with e|e<;>rw[e]<;>exact⟨rfl,rfl⟩
 ·rcases h.2.2.2.2.1 with e|e<;>rw[e]<;>exact⟨rfl,rfl⟩
 ·rcases h.2.2.2.2.2.2 with e|e<;>rw[e]<;>exact⟨rfl,rfl⟩
 ·rcases h.2.2.2.2.2 with e|e<;>rw[e]<;>exact⟨rfl,rfl⟩
 ·rcases h.2.2.2.2 with e|e<;>rw[e]<;>exact⟨rfl,rfl⟩
 ·rw[h.2.2.2];exact⟨rfl,rfl⟩
theorem yY{i:Nat}{k':GS}{a b:Nat}(hlt:i<gs.size)(hr:qZ k'.db (K i).db):B9 gs.size ((λj=>(upd K i k' j).db),a) ((λj=>(K j).db),b):=
 .inl ⟨i,hlt,by simpa only[bz]using hr,λj hj=>by show (upd K i k' j).db=(K j).db;rw[a_ _ _ hj]⟩
theorem Inv.mode(h:Inv P n0 W0 V gs w t K Im ic (some p) st)(aH:p.recv=true):∃s,st=some s/\0<ic/\ic<gs.size/\Mode P p.c p.Wg gs.size w gs t K ic s:=by
 have hx:=h.phase.2.2.2.2.2.2.2.2.2;rw[if_pos aH]at hx;obtain⟨_,h1,h2,s,h3,h4⟩:=hx;exact⟨s,h3,h1,h2,h4⟩
theorem ofEvents_one{i:Nat}{fn:TQ}{pos:String}{e:Ut}:Tc i fn pos #[e]=#[{g:=i,fn,pos,act:=.ofEvent e}]:=by simp[Tc]
theorem Qm{t u:Uo}{g:Nat}:(t++u).deaf g t.size=UY t g:=deaf_old (SO _)
theorem Hq(U:View):mB noView U:=⟨λ_=> .inl rfl,λ_ _=> .inl rfl,λb hb=>absurd rfl hb⟩
theorem Inv.release(h:Inv P n0 W0 V gs w t K Im ic (some p) st)(aH:p.recv=true){i j:Nat}{gi:SG}{hh:Ht}{Vi V₁:View}{c Wg:Nat}(hi:0<i)(aM:gs[i]?=some gi)(hK:K i=.work j hh Vi)(hg:dU Vi V₁)
  (hr:V₁.role=.work c Wg []) (hd:V₁.deaf=0) (hf:Fa P Wg gi):gD P n0 W0 V gs w sl t K Im ic (some p) st i:=by
 have hlt:i<gs.size:=(SR.1 aM).1;have dl:=h.is i gi hi aM;simp only[hK,GS.is]at dl;obtain⟨bA,_,S,hS,jl⟩:=dl;rw[hg.role,jl]at hr;cases hr;have gY:(K i).cnt=1:=by rw[hK];rfl
 obtain⟨⟨n,gL⟩,lg⟩:=h.counted hi hlt gY;obtain⟨s,hs,gw,iU,hm⟩:=h.mode aH;rw[lg]at hs;cases hs;obtain⟨bK,g',lh,m,cw⟩:=hf;have aF:i≠ic:=λe=>by have:=(Mode.waits hm).1;rw[<- e,gY]at this;cases this
 have aX:UY t i=0:=by rw[bA,<- hg.deaf,hd]
 have rS:Rel p.Wg (t++Tc i gi.frame.fn gi.frame.place #[j6 (.releaseMerge (dW p.Wg))]) i t.size:=by
  rw[ofEvents_one];have e:(#[({g:=i,fn:=gi.frame.fn,pos:=gi.frame.place,act:=.ofEvent (j6 (.releaseMerge (dW p.Wg)))}:Wj)]:Uo)[0]?=some _:=rfl;have g0:=ru (t:=t) e;exact⟨ah_ g0,by simp[WF,g0],heard_new e rfl (by rw[show t.size+0=t.size from rfl,Qm];exact aX)⟩
 have nD:∀e∈#[j6 (.releaseMerge (dW p.Wg))],e=j6 (.releaseMerge (dW p.Wg)):=λe he=>by simpa using he
 refine h.ub aH (k':=.add m) (s':=.early) hi aM (lh w) ?_ (by rw[hK];exact Hq _) (λx=>by cases x) rfl (λj' iE=> ?_) (.inr (.inr (.inl gY))) (λe he x hx=> ?_) (λe he=> ?_) (λe he a=> ?_) rfl (λ_ _ _=>rfl) rfl rfl rfl ?_ (.inl ⟨n,gL⟩) ?_ (yY hlt ?_)
 ·show cU P (BY P p.Wg) m _ g';rw[aX];exact cw
 ·rw[hK]at iE;cases iE;exact⟨hS,t.size,rS,SO _⟩
 ·rw[nD e he]at hx;cases hx
 ·rw[nD e he];exact h.low.2
 ·rw[nD e he];simp[j6,Ts]
 ·refine hm.amQ (lr K _ GS.cnt (by rw[gY];rfl)) (lr K _ GS.late (by rw[hK];rfl)) (by rw[a_ _ _ (Ne.symm aF)]) (λm hm=> ?_) (λm hm=> ?_) rfl rfl (acV hlt ?_)
  ·by_cases cW:m=i
   ·subst cW;rw[bz];intro x;rcases x with x|x<;>cases x
   ·rw[a_ _ _ cW];exact id
  ·by_cases cW:m=i
   ·subst cW;rw[bz];intro x;cases x
   ·rw[a_ _ _ cW];exact id
  ·exact cU.running (λd g x=>x.2.1) cw
 ·have hr:Rest p.Wg t K ic st:=h.out.2.2.1;rw[lg]at hr;refine hr.app (λidx a ha hx=> .inr (hx.app (by obtain⟨op,ay,_⟩:=U0 ha;exact TK ay) λm wI _ hm=> ?_)) (λidx a _ ⟨op,ay,_,hx⟩ _=> ?_)
  ·by_cases cW:m=i
   ·subst cW;exact .inr ⟨t.size,rS,by obtain⟨op,ay,_⟩:=U0 ha;exact Nat.le_of_lt (TK ay)⟩
   ·rw[a_ _ _ cW];exact .inl hm
  ·rw[ofEvents_one]at ay;simp only[TM,SK,SZ,or_false]at ay;subst ay;cases hx
 ·rw[hK];refine .inl ?_;simp only[GS.db,jl];omega
def Atom (a:U_)(es:Array Ut):Prop:=es=#[je a]\/es=#[kV a]\/es=#[je a,kV a]\/es=Bz a
theorem Atom.mem{a:U_}{es:Array Ut}(h:Atom a es){e:Ut}(he:e∈es):e=je a\/e=kV a\/e=j6 .disable\/e=j6 .enable:=by
 rcases h with rfl|rfl|rfl|rfl<;>simp only[Bz,TM,SK,SZ,or_false]at he
 ·exact .inl he
 ·exact .inr (.inl he)
 ·exact he.imp id .inl
 ·rcases he with x|x|x|x
  ·exact .inr (.inr (.inl x))
  ·exact .inl x
  ·exact .inr (.inl x)
  ·exact .inr (.inr (.inr x))
theorem Atom.behind{a:U_}{es:Array Ut}(h:Atom a es):deafBehind 1 es=1:=by
 rcases h with rfl|rfl|rfl|rfl<;>rfl
theorem Atom.touch{a:U_}{es:Array Ut}(h:Atom a es){e:Ut}(he:e∈es){x:YO}(hx:(Ts e).touch?=some x):x.loc=.cell a/\x.kind=.atomic:=by
 rcases h.mem he with rfl|rfl|rfl|rfl
 ·cases hx;exact⟨rfl,rfl⟩
 ·cases hx;exact⟨rfl,rfl⟩
 ·cases hx
 ·cases hx
theorem Atom.low{a:U_}{es:Array Ut}(h:Atom a es){n:Nat}(ha:a.block<n){e:Ut}(he:e∈es):(Ts e).low n:=by
 rcases h.mem he with rfl|rfl|rfl|rfl
 ·exact ha
 ·exact ha
 ·trivial
 ·trivial
theorem Atom.norel{a:U_}{es:Array Ut}(h:Atom a es){e:Ut}(he:e∈es)(b:U_):Ts e≠ .mark (.release b):=by
 rcases h.mem he with rfl|rfl|rfl|rfl<;>simp[je,kV,j6,Ts]
theorem Atom.asX{a:U_}{es:Array Ut}(h:Atom a es){i:Nat}{fn:TQ}{pos:String}(hd:UY t i=1){idx:Nat}{op:Wj}{x:YO}(c_:t.size<=idx)(ay:(t++Tc i fn pos es)[idx]?=some op)(hx:op.act.touch?=some x):
  ¬(t++Tc i fn pos es).heard idx:=by
 obtain⟨k,rfl⟩:∃k,idx=t.size+k:=⟨idx-t.size,by omega⟩;have tJ:(Tc i fn pos es)[k]?=some op:=by rw[X_ (by omega)]at ay;simpa using ay
 have aM:op.g=i:=by obtain⟨e,_,rfl⟩:=TO (XW tJ);rfl
 rintro⟨g,hg,hz⟩
 have:g=i:=by simp[WF,ay,aM]at hg;exact hg.symm
 subst this;have BG:∀y:Wj,y.act=Ts (je a)\/y.act=Ts (kV a)->still y.act:=λy hy=>by rcases hy with e|e<;>rw[e]<;>exact⟨by simp[je,kV,Ts],by simp[je,kV,Ts]⟩
 rcases h with rfl|rfl|rfl|rfl
 ·have:=ux (t:=t) (u:=Tc g fn pos #[je a]) (g:=g) (λop ay=>by obtain⟨e,he,rfl⟩:=TO ay;simp only[TM,SK,SZ,or_false]at he;subst he;exact BG _ (.inl rfl)) (k:=k) (by have:=TK tJ;omega);omega
 ·have:=ux (t:=t) (u:=Tc g fn pos #[kV a]) (g:=g) (λop ay=>by obtain⟨e,he,rfl⟩:=TO ay;simp only[TM,SK,SZ,or_false]at he;subst he;exact BG _ (.inr rfl)) (k:=k) (by have:=TK tJ;omega);omega
 ·have:=ux (t:=t) (u:=Tc g fn pos #[je a,kV a]) (g:=g) (λop ay=>by obtain⟨e,he,rfl⟩:=TO ay;simp only[TM,SK,SZ,or_false]at he;rcases he with rfl|rfl;exact BG _ (.inl rfl);exact BG _ (.inr rfl)) (k:=k) (by have:=TK tJ;omega);omega
 ·
  have eu:Tc g fn pos (Bz a)=#[{g,fn,pos,act:=.mark .disable},{g,fn,pos,act:=.ofEvent (je a)},{g,fn,pos,act:=.ofEvent (kV a)},{g,fn,pos,act:=.mark .enable}]:=by simp[Tc,Bz,j6,Ts]
  rw[eu]at tJ hz;have d0:(t++#[({g,fn,pos,act:=.mark .disable}:Wj),{g,fn,pos,act:=.ofEvent (je a)},{g,fn,pos,act:=.ofEvent (kV a)},{g,fn,pos,act:=.mark .enable}]).deaf g t.size=1:=by rw[Qm];exact hd
  have d1:=ac' (g:=g) (ru (t:=t) (show (#[({g,fn,pos,act:=.mark .disable}:Wj),{g,fn,pos,act:=.ofEvent (je a)},{g,fn,pos,act:=.ofEvent (kV a)},{g,fn,pos,act:=.mark .enable}]:Uo)[0]?=some _ from rfl));have d2:=ac' (g:=g) (ru (t:=t) (show (#[({g,fn,pos,act:=.mark .disable}:Wj),{g,fn,pos,act:=.ofEvent (je a)},{g,fn,pos,act:=.ofEvent (kV a)},{g,fn,pos,act:=.mark .enable}]:Uo)[1]?=some _ from rfl));have d3:=ac' (g:=g) (ru (t:=t) (show (#[({g,fn,pos,act:=.mark .disable}:Wj),{g,fn,pos,act:=.ofEvent (je a)},{g,fn,pos,act:=.ofEvent (kV a)},{g,fn,pos,act:=.mark .enable}]:Uo)[2]?=some _ from rfl));rw[Jy (BG _ (.inl rfl))]at d2;rw[Jy (BG _ (.inr rfl))]at d3;simp only[UI]at d1;rw[d0]at d1;have d1:=d1.trans (show deafStep g 1 {g,fn,pos,act:=.mark .disable}=2 by simp[deafStep]);have hk:k<4:=by have:=TK tJ;simpa using this
  match k,hk with
  |0,_=>simp at tJ;subst tJ;cases hx
  |1,_=>rw[d1]at hz;omega
  |2,_=>rw[show t.size+2=t.size+1+1 from rfl,d2,d1]at hz;omega
  |3,_=>simp at tJ;subst tJ;cases hx
theorem Rest.atom{Wg:Nat}{s:ej}(hr:Rest Wg t K ic (some s)){a:U_}{es:Array Ut}(h:Atom a es){i:Nat}{fn:TQ}{pos:String}(hd:UY t i=1){K':Nat->GS}(c_:∀m,(K' m).idx=(K m).idx):Rest Wg (t++Tc i fn pos es) K' ic (some s):=by
 refine hr.app (λidx a ha hx=> .inr (hx.app (by obtain⟨op,ay,_⟩:=U0 ha;exact TK ay) λm _ _ hm=> .inl (by rw[c_];exact hm))) (λidx x hi ⟨op,ay,yw,hx⟩ _=> .inr (.inl ⟨?_,h.asX hd hi yw hx⟩));obtain⟨e,he,rfl⟩:=TO ay;exact(h.touch he hx).2
theorem WgAt.Ic{Wg:Nat}{a b:Int}(h:WgAt P Wg w a b)(v:Int):WgAt P Wg (w.setCell (dW Wg) (.int .u64 v)) v b:=by
 unfold WgAt at h⊢;unfold Xn;rw[Wo];simp[dW,h,wgBlock]
theorem WgAt.adl{Wg:Nat}{a b:Int}(h:WgAt P Wg w a b)(v:Int):WgAt P Wg (w.setCell (oR Wg) (.int .u32 v)) a v:=by
 unfold WgAt at h⊢;unfold Xn;rw[Wo];simp[oR,h,wgBlock]
theorem WgAt.inj{Wg:Nat}{a b a' b':Int}(h:WgAt P Wg w a b)(k:WgAt P Wg w a' b'):a=a'/\b=b':=by
 unfold WgAt at h k;rw[h]at k;simp[wgBlock]at k;exact k
theorem Inv.Fv(h:Inv P n0 W0 V gs w t K Im ic (some p) st)(aH:p.recv=true){i:Nat}{gi bD:SG}{es:Array Ut}{k':GS}{s:ej}{a:U_}(hs:st=some s)(hi:0<i)(aM:gs[i]?=some gi)(aR:stepG P false gi w=.go bD w' es)(hd:UY t i=1)
  (ha:Atom a es) (Ay:a=dW p.Wg\/a=oR p.Wg) (nL:w'=w\/∃x,w'=w.setCell a x) (hk:k'.is P p.c p.Wg Im p.Ss 1 bD) (qv:mB (k'.view Im) ((K i).view Im)) (yn:k'.nf=true->i=ic) (c_:k'.idx=none) (uP:(K i).idx=none)
  (j9:i=ic\/(K i).cnt=1\/(K i).late=1) (gL:∃n,w.heap[p.c]?=some (.chan 0 #[] false n n false))
  (yB:Mode P p.c p.Wg gs.size w' ((gs.map (woken P gi bD w')).setIfInBounds i bD) (t++Tc i gi.frame.fn gi.frame.place es) (upd K i k') ic s) (uX:qZ k'.db (K i).db):gD P n0 W0 V gs w sl t K Im ic (some p) st i:=by
 have hlt:i<gs.size:=(SR.1 aM).1;have wA:a.block=p.Wg:=by rcases Ay with rfl|rfl<;>rfl
 have rF:p.c≠p.Wg:=h.phase.2.2.1;have ji:∀b,b≠p.Wg->w'.heap[b]?=w.heap[b]?:=λb hb=>by
  rcases nL with rfl|⟨x,rfl⟩
  ·rfl
  ·exact wG _ _ _ (by rw[wA];exact Ne.symm hb)
 have aV:w'.heap.size=w.heap.size:=by rcases nL with rfl|⟨x,rfl⟩;rfl;exact Ey _ _ _
 refine h.ub aH hi aM aR (by rw[hd,ha.behind];exact hk) qv yn c_ (λj hj=>by rw[uP]at hj;cases hj) (j9.imp id .inr) (λe he x hx=> .inl ?_) (λe he=>ha.low (by rw[wA];exact h.low.2) he) (λe he b=>ha.norel he b) aV (λb _ hb=>ji b hb)
  (by rcases nL with rfl|⟨x,rfl⟩<;>rfl) (by rcases nL with rfl|⟨x,rfl⟩<;>rfl) (by rcases nL with rfl|⟨x,rfl⟩<;>rfl) yB (.inl (by rw[ji _ rF];exact gL)) ?_ (yY hlt uX)
 ·have:=ha.touch he hx;exact⟨by rw[this.1];exact wA,this.2⟩
 ·have hr:Rest p.Wg t K ic st:=h.out.2.2.1;rw[hs]at hr;exact hr.atom ha hd λm=>by
   by_cases hm:m=i
   ·subst hm;rw[bz,c_,uP]
   ·rw[a_ _ _ hm]
theorem Inv.afA(h:Inv P n0 W0 V gs w t K Im ic (some p) st)(aH:p.recv=true){i n:Nat}{gi:SG}(hi:0<i)(aM:gs[i]?=some gi)(hK:K i=.add n)(jH:BY P p.Wg (UY t i) gi):gD P n0 W0 V gs w sl t K Im ic (some p) st i:=by
 have hlt:i<gs.size:=(SR.1 aM).1;obtain⟨s,hs,gw,iU,hm⟩:=h.mode aH;have gY:(K i).cnt=1:=by rw[hK];rfl
 have e_:(K i).late=0:=by rw[hK];rfl
 have uP:(K i).idx=none:=by rw[hK];rfl
 have gL:=(h.counted hi hlt gY).1;have aF:ic≠i:=λe=>by have:=(Mode.waits hm).1;rw[e,gY]at this;cases this
 obtain⟨hd,bK,GX⟩:=jH;have hle:(K i).cnt<=sumTo gs.size λi=>(K i).cnt:=WH (f:=λi=>(K i).cnt) hlt;have rF:p.c≠p.Wg:=h.phase.2.2.1;have hq:∀(k':GS),sumTo gs.size (λa=>(upd K i k' a).cnt)+(K i).cnt=sumTo gs.size (λa=>(K a).cnt)+k'.cnt:=λk'=>BH K k' GS.cnt hlt;have tL:∀(k':GS),sumTo gs.size (λa=>(upd K i k' a).late)+(K i).late=sumTo gs.size (λa=>(K a).late)+k'.late:=λk'=>BH K k' GS.late hlt;have qv:∀k':GS,k'.view Im=noView->mB (k'.view Im) ((K i).view Im):=λk' e=>by rw[e];exact Hq _
 have leave:∀(wt v:Nat),wt<=1->v+1=(sumTo gs.size λi=>(K i).cnt)->v<4->¬(v=0/\wt=1)->s=.early->(sumTo gs.size λi=>(K i).late)=0->WgAt P p.Wg w (((v+1:Nat):Int)* KK+wt) 0->
   ((wt=0/\((∃k,(K ic).shape=.head k 0/\v<k)\/(∃u,(K ic).shape=.l8 u 0/\v<=u/\0<u)))\/(wt=1/\((K ic).shape=.said 0\/(K ic).shape=.io 0)))->gD P n0 W0 V gs w sl t K Im ic (some p) st i:=by
  intro wt v u9 hv G4 fu hse aus hW aW;obtain⟨g',aR,_,iH⟩:=GX v wt u9 G4;obtain⟨q,iH⟩:=iH fu;have Dw:=hq (.gone q);have Dv:=tL (.gone q);simp only[gY,e_]at Dw Dv;rw[show (GS.gone q).cnt=0 from rfl]at Dw;rw[show (GS.gone q).late=0 from rfl]at Dv;refine h.Fv aH (k':=.gone q) (a:=dW p.Wg) hs hi aM (aR w hW) hd (.inr (.inr (.inl rfl))) (.inl rfl) (.inr ⟨_,rfl⟩) iH (qv _ rfl) (λx=>by cases x) rfl uP (.inr (.inl gY)) gL ?_ (by rw[hK];exact .inl (by simp[GS.db]));have ws:=hW.Ic ((v:Int)* KK+wt);unfold Mode;simp only[a_ _ _ aF];have JP:sumTo gs.size (λa=>(upd K i (.gone q) a).cnt)=v:=by omega
  have JS:sumTo gs.size (λa=>(upd K i (.gone q) a).late)=0:=by omega
  simp only[JP,JS];have ho:∃n,(w.setCell (dW p.Wg) (.int .u64 ((v:Int)* KK+wt))).heap[p.c]?=some (.chan 0 #[] false n n false):=by
   obtain⟨n,hn⟩:=gL;exact⟨n,by rw[wG _ _ _ (Ne.symm rF)];exact hn⟩
  rcases aW with⟨rfl,aW⟩|⟨rfl,aW⟩
  ·exact .inl ⟨ho,hse,trivial,by omega,by simpa using ws,aW⟩
  ·exact .inr (.inl ⟨ho,hse,trivial,by omega,by omega,by simpa using ws,aW⟩)
 unfold Mode at hm;rcases hm with m|m|m|m|m|m|m
 ·obtain⟨m1,m2,m3,m4,m5,m6⟩:=m;refine leave 0 ((sumTo gs.size λi=>(K i).cnt)-1) (by omega) (by omega) (by omega) (by omega) m2 m3 ?_ (.inl ⟨rfl,?_⟩)
  ·rw[show (sumTo gs.size λi=>(K i).cnt)-1+1=(sumTo gs.size λi=>(K i).cnt) by omega];simpa using m5
  ·rcases m6 with⟨k,e1,e2⟩|⟨u,e1,e2,e3⟩
   ·exact .inl ⟨k,e1,by omega⟩
   ·exact .inr ⟨u,e1,by omega,e3⟩
 ·obtain⟨m1,m2,m3,m4,m5,m6,m7⟩:=m;by_cases hv:(sumTo gs.size λi=>(K i).cnt)=1
  ·
   obtain⟨g',aR,iu,_⟩:=GX 0 1 (by omega) (by omega);obtain⟨n',iu⟩:=iu ⟨rfl,rfl⟩;have Dw:=hq (.load n');have Dv:=tL (.load n');simp only[gY,e_]at Dw Dv;rw[show (GS.load n').cnt=0 from rfl]at Dw;rw[show (GS.load n').late=1 from rfl]at Dv;rw[hv]at m6;have hW:WgAt P p.Wg w (((0+1:Nat):Int)* KK+(1:Nat)) 0:=(by simpa using m6);refine h.Fv aH (k':=.load n') (a:=dW p.Wg) hs hi aM (aR w hW) hd (.inr (.inr (.inl rfl))) (.inl rfl) (.inr ⟨_,rfl⟩) iu (qv _ rfl) (λx=>by cases x) rfl uP (.inr (.inl gY)) gL ?_ (by rw[hK];exact .inl (by simp[GS.db]));have ws:=hW.Ic (((0:Nat):Int)* KK+(1:Nat));unfold Mode;simp only[a_ _ _ aF];have JP:sumTo gs.size (λa=>(upd K i (.load n') a).cnt)=0:=(by omega);have JS:sumTo gs.size (λa=>(upd K i (.load n') a).late)=1:=(by omega);simp only[JP,JS];have ho:∃n,(w.setCell (dW p.Wg) (.int .u64 (((0:Nat):Int)* KK+(1:Nat)))).heap[p.c]?=some (.chan 0 #[] false n n false):=by
    obtain⟨n,hn⟩:=gL;exact⟨n,by rw[wG _ _ _ (Ne.symm rF)];exact hn⟩
   refine .inr (.inr (.inl ⟨ho,m2,trivial,trivial,m7,λ_ _ _=>by simpa using ws,λm hm qA=> ?_⟩));exfalso;have cW:m≠i:=λe=>(by subst e;rw[bz]at qA;cases qA);rw[a_ _ _ cW]at qA;have hlm:(K m).late<=sumTo gs.size λi=>(K i).late:=WH (f:=λi=>(K i).late) hm;rw[m3,<- GS.mm,qA]at hlm;simp[GS.late]at hlm
  ·refine leave 1 ((sumTo gs.size λi=>(K i).cnt)-1) (by omega) (by omega) (by omega) (by omega) m2 m3 ?_ (.inr ⟨rfl,m7⟩);rw[show (sumTo gs.size λi=>(K i).cnt)-1+1=(sumTo gs.size λi=>(K i).cnt) by omega];simpa using m6
 ·have:=m.2.2.2.1;omega
 ·have:=m.2.2.2.1;omega
 ·have:=m.2.2.2.1;omega
 ·have:=m.2.2.2.1;omega
 ·have:=m.2.2.1;omega
theorem Mode.D4{c Wg N:Nat}{s:ej}(hm:Mode P c Wg N w gs t K ic s){i:Nat}(hlt:i<N)(e_:(K i).late=1):
  (∃n,w.heap[c]?=some (.chan 0 #[] false n n false))/\s=.early/\(sumTo N λi=>(K i).late)=1/\(sumTo N λi=>(K i).cnt)=0/\((K ic).shape=.said 0\/(K ic).shape=.io 0)/\
  (((K i).shape=.load 0\/(K i).shape=.store 0)->WgAt P Wg w 1 0)/\((K i).shape=.mu 0->WgAt P Wg w 0 0):=by
 have hle:(K i).late<=sumTo N λi=>(K i).late:=WH (f:=λi=>(K i).late) hlt;unfold Mode at hm;rcases hm with m|m|m|m|m|m|m
 ·have:=m.2.2.1;omega
 ·have:=m.2.2.1;omega
 ·exact⟨m.1,m.2.1,m.2.2.1,m.2.2.2.1,m.2.2.2.2.1,m.2.2.2.2.2.1 i hlt,m.2.2.2.2.2.2 i hlt⟩
 ·have:=m.2.2.1;omega
 ·have:=m.2.2.1;omega
 ·have:=m.2.2.1;omega
 ·have:=m.2.1;omega
theorem ack{N:Nat}(h:(sumTo N λi=>(K i).late)=1){i m:Nat}(hi:i<N)(hm:m<N)(aF:m≠i)(e_:(K i).late=1):(K m).late=0:=by
 have:=BH K (.gone 0) GS.late hi;have h2:((upd K i (.gone 0)) m).late<=sumTo N λa=>(upd K i (.gone 0) a).late:=WH (f:=λa=>(upd K i (.gone 0) a).late) hm;rw[a_ _ _ aF]at h2;simp only[e_,h,show (GS.gone 0).late=0 from rfl]at this;omega
theorem Inv.Nb(h:Inv P n0 W0 V gs w t K Im ic (some p) st)(aH:p.recv=true){i:Nat}{gi bD:SG}{es:Array Ut}{k':GS}{a:U_}(hi:0<i)(aM:gs[i]?=some gi)(aR:stepG P false gi w=.go bD w' es)(hd:UY t i=1)
  (ha:Atom a es) (Ay:a=dW p.Wg\/a=oR p.Wg) (nL:w'=w\/∃x,w'=w.setCell a x) (hk:k'.is P p.c p.Wg Im p.Ss 1 bD) (hv:k'.view Im=noView) (c_:k'.idx=none) (uP:(K i).idx=none) (pk:(K i).cnt=0) (akO:k'.cnt=0) (yn:k'.nf=false) (e_:(K i).late=1)
  (tz:(k'.late=1/\((k'.shape=.load 0\/k'.shape=.store 0)->WgAt P p.Wg w' 1 0)/\(k'.shape=.mu 0->WgAt P p.Wg w' 0 0))\/
   (k'.late=0/\WgAt P p.Wg w' 0 1/\∀g,((gs.map (woken P gi bD w')).setIfInBounds i bD)[ic]?=some g->g.status=.running)) (uX:qZ k'.db (K i).db):gD P n0 W0 V gs w sl t K Im ic (some p) st i:=by
 have hlt:i<gs.size:=(SR.1 aM).1;obtain⟨s,hs,gw,iU,hm⟩:=h.mode aH;obtain⟨m1,m2,m3,m4,m5,m6,m7⟩:=hm.D4 hlt e_;have aF:ic≠i:=λe=>by have:=(Mode.waits hm).2;rw[e,e_]at this;cases this
 have rF:p.c≠p.Wg:=h.phase.2.2.1;have wA:a.block=p.Wg:=by rcases Ay with rfl|rfl<;>rfl
 have ji:∀b,b≠p.Wg->w'.heap[b]?=w.heap[b]?:=λb hb=>by
  rcases nL with rfl|⟨x,rfl⟩
  ·rfl
  ·exact wG _ _ _ (by rw[wA];exact Ne.symm hb)
 refine h.Fv aH hs hi aM aR hd ha Ay nL hk (by rw[hv];exact Hq _) (λx=>by rw[yn]at x;cases x) c_ uP (.inr (.inr e_)) m1 ?_ uX;have e1:sumTo gs.size (λa=>(upd K i k' a).cnt)=0:=by have:=BH K k' GS.cnt hlt;simp only[pk,akO,m4]at this;omega
 unfold Mode;simp only[a_ _ _ aF,e1,ji _ rF];rcases tz with⟨x1,x2,x3⟩|⟨x1,x2,x3⟩
 ·have e2:sumTo gs.size (λa=>(upd K i k' a).late)=1:=by have:=BH K k' GS.late hlt;simp only[e_,x1,m3]at this;omega
  refine .inr (.inr (.inl ⟨m1,m2,e2,trivial,m5,λm hm dS=> ?_,λm hm dS=> ?_⟩))
  ·by_cases cW:m=i
   ·subst cW;rw[bz]at dS;exact x2 dS
   ·rw[a_ _ _ cW]at dS;have:=ack m3 hlt hm cW e_;rw[<- GS.mm]at this;rcases dS with e|e<;>rw[e]at this<;>cases this
  ·by_cases cW:m=i
   ·subst cW;rw[bz]at dS;exact x3 dS
   ·rw[a_ _ _ cW]at dS;have:=ack m3 hlt hm cW e_;rw[<- GS.mm,dS]at this;cases this
 ·have e2:sumTo gs.size (λa=>(upd K i k' a).late)=0:=by have:=BH K k' GS.late hlt;simp only[e_,x1,m3]at this;omega
  exact .inr (.inr (.inr (.inl ⟨m1,m2,e2,trivial,x2,x3,m5⟩)))
theorem Inv.anG(h:Inv P n0 W0 V gs w t K Im ic (some p) st)(aH:p.recv=true){i n:Nat}{gi:SG}(hi:0<i)(aM:gs[i]?=some gi)(hK:K i=.load n)(jH:EU P p.Wg (UY t i) gi):gD P n0 W0 V gs w sl t K Im ic (some p) st i:=by
 have hlt:i<gs.size:=(SR.1 aM).1;obtain⟨s,hs,gw,iU,hm⟩:=h.mode aH;have e_:(K i).late=1:=by rw[hK];rfl
 obtain⟨m1,m2,m3,m4,m5,m6,m7⟩:=hm.D4 hlt e_;obtain⟨hd,bK,g',aR,n',cw⟩:=jH;have hW:=m6 (by rw[hK];exact .inl rfl);exact h.Nb aH (k':=.store n') (a:=dW p.Wg) hi aM (aR w hW) hd (.inl rfl) (.inl rfl) (.inl rfl) cw rfl rfl (by rw[hK];rfl) (by rw[hK];rfl) rfl rfl e_ (.inl ⟨rfl,λ_=>hW,λx=>by cases x⟩) (by rw[hK];exact .inl (by simp[GS.db]))
theorem Inv.arV(h:Inv P n0 W0 V gs w t K Im ic (some p) st)(aH:p.recv=true){i n:Nat}{gi:SG}(hi:0<i)(aM:gs[i]?=some gi)(hK:K i=.store n)(jH:EW P p.Wg (UY t i) gi):gD P n0 W0 V gs w sl t K Im ic (some p) st i:=by
 have hlt:i<gs.size:=(SR.1 aM).1;obtain⟨s,hs,gw,iU,hm⟩:=h.mode aH;have e_:(K i).late=1:=by rw[hK];rfl
 obtain⟨m1,m2,m3,m4,m5,m6,m7⟩:=hm.D4 hlt e_;obtain⟨hd,bK,g',aR,n',cw⟩:=jH;have hW:=m6 (by rw[hK];exact .inr rfl);exact h.Nb aH (k':=.mu n') (a:=dW p.Wg) hi aM (aR w hW) hd (.inr (.inl rfl)) (.inl rfl) (.inr ⟨_,rfl⟩) cw rfl rfl (by rw[hK];rfl) (by rw[hK];rfl) rfl rfl e_ (.inl ⟨rfl,λx=>(x.elim (λy=>by cases y) (λy=>by cases y)),λ_=>hW.Ic 0⟩) (by rw[hK];exact .inl (by simp[GS.db]))
theorem Inv.aq5(h:Inv P n0 W0 V gs w t K Im ic (some p) st)(aH:p.recv=true){i n:Nat}{gi:SG}(hi:0<i)(aM:gs[i]?=some gi)(hK:K i=.mu n)(jH:EV P p.Wg (UY t i) gi):gD P n0 W0 V gs w sl t K Im ic (some p) st i:=by
 have hlt:i<gs.size:=(SR.1 aM).1;obtain⟨s,hs,gw,iU,hm⟩:=h.mode aH;have e_:(K i).late=1:=by rw[hK];rfl
 obtain⟨m1,m2,m3,m4,m5,m6,m7⟩:=hm.D4 hlt e_;obtain⟨hd,bK,LW,g',aR,q,iH⟩:=jH;have hW:=m7 (by rw[hK];rfl);have aF:ic≠i:=λe=>by have:=(Mode.waits hm).2;rw[e,e_]at this;cases this
 refine h.Nb aH (k':=.gone q) (a:=oR p.Wg) hi aM (aR w hW) hd (.inr (.inr (.inr rfl))) (.inr rfl) (.inr ⟨_,rfl⟩) iH rfl rfl (by rw[hK];rfl) (by rw[hK];rfl) rfl rfl e_ (.inr ⟨rfl,hW.adl 1,λg hg=> ?_⟩) (by rw[hK];exact .inl (by simp[GS.db]));rcases getElem?_next hlt hg with⟨e,_⟩|⟨_,y,hy,rfl⟩
 ·exact absurd e aF
 ·have yy:=h.is ic y gw hy;simp only at yy;have dS:(∃n,K ic=.said n)\/∃n,K ic=.io n:=by
   cases yg:K ic<;>rw[yg]at m5<;>simp[GS.shape]at m5
   ·exact .inl ⟨_,rfl⟩
   ·exact .inr ⟨_,rfl⟩
  rcases dS with⟨n1,e⟩|⟨n1,e⟩
  ·rw[e]at yy;have hr:y.status=.running:=ij.running (λd g x=>x.2.1) yy;rw[Yo hr];exact hr
  ·rw[e]at yy;rcases yy with yy|⟨_,g1,rfl,Lr⟩
   ·have hr:y.status=.running:=cU.running (λd g x=>x.2.1) yy;rw[Yo hr];exact hr
   ·have Ly:g'.status=.running\/g'.status=.finished:=ZJ iH;unfold woken;have akN:(mayWake P gi&&g'.status != .blocked&&g'.status != .waiting)=true:=(by rcases Ly with hs|hs<;>simp[LW,hs]);rw[if_pos akN];unfold YZ;have:=Lr.2.2.1;simp[this]
theorem Mode.af7{c Wg N k:Nat}{s:ej}(hm:Mode P c Wg N w gs t K ic s)(e:(K ic).shape=.head k 0):
  (∃n,w.heap[c]?=some (.chan 0 #[] false n n false))/\s=.early/\(sumTo N λi=>(K i).late)=0/\(sumTo N λi=>(K i).cnt)<=4/\WgAt P Wg w (((sumTo N λi=>(K i).cnt:Nat):Int)* KK) 0/\(sumTo N λi=>(K i).cnt)<k:=by
 unfold Mode at hm;simp only[e]at hm;rcases hm with m|m|m|m|m|m|m
 ·obtain⟨a,b,c,d,f,x⟩:=m;refine⟨a,b,c,d,f,?_⟩;rcases x with⟨k',x,y⟩|⟨v,x,_⟩
  ·cases x;exact y
  ·cases x
 ·rcases m.2.2.2.2.2.2 with x|x<;>cases x
 ·rcases m.2.2.2.2.1 with x|x<;>cases x
 ·rcases m.2.2.2.2.2.2 with x|x<;>cases x
 ·rcases m.2.2.2.2.2 with x|x<;>cases x
 ·rcases m.2.2.2.2 with x|x<;>cases x
 ·cases m.2.2.2
theorem Mode.af6{c Wg N v:Nat}{s:ej}(hm:Mode P c Wg N w gs t K ic s)(e:(K ic).shape=.l8 v 0):
  (∃n,w.heap[c]?=some (.chan 0 #[] false n n false))/\s=.early/\(sumTo N λi=>(K i).late)=0/\(sumTo N λi=>(K i).cnt)<=4/\WgAt P Wg w (((sumTo N λi=>(K i).cnt:Nat):Int)* KK) 0/\(sumTo N λi=>(K i).cnt)<=v/\0<v:=by
 unfold Mode at hm;simp only[e]at hm;rcases hm with m|m|m|m|m|m|m
 ·obtain⟨a,b,c,d,f,x⟩:=m;refine⟨a,b,c,d,f,?_⟩;rcases x with⟨k',x,y⟩|⟨v,x,y⟩
  ·cases x
  ·cases x;exact y
 ·rcases m.2.2.2.2.2.2 with x|x<;>cases x
 ·rcases m.2.2.2.2.1 with x|x<;>cases x
 ·rcases m.2.2.2.2.2.2 with x|x<;>cases x
 ·rcases m.2.2.2.2.2 with x|x<;>cases x
 ·rcases m.2.2.2.2 with x|x<;>cases x
 ·cases m.2.2.2
theorem Mode.Pv{c Wg N:Nat}{s:ej}(hm:Mode P c Wg N w gs t K ic s)(e:(K ic).shape=.last 0\/(K ic).shape=.acq 0):
  (∃n,w.heap[c]?=some (.chan 0 #[] false n n false))/\s=.early/\(sumTo N λi=>(K i).late)=0/\(sumTo N λi=>(K i).cnt)=0/\WgAt P Wg w 0 0:=by
 unfold Mode at hm;rcases hm with m|m|m|m|m|m|m
 ·rcases m.2.2.2.2.2 with⟨_,x,_⟩|⟨_,x,_⟩<;>rcases e with e|e<;>rw[e]at x<;>cases x
 ·rcases m.2.2.2.2.2.2 with x|x<;>rcases e with e|e<;>rw[e]at x<;>cases x
 ·rcases m.2.2.2.2.1 with x|x<;>rcases e with e|e<;>rw[e]at x<;>cases x
 ·rcases m.2.2.2.2.2.2 with x|x<;>rcases e with e|e<;>rw[e]at x<;>cases x
 ·exact⟨m.1,m.2.1,m.2.2.1,m.2.2.2.1,m.2.2.2.2.1⟩
 ·rcases m.2.2.2.2 with x|x<;>rcases e with e|e<;>rw[e]at x<;>cases x
 ·have x:=m.2.2.2;rcases e with e|e<;>rw[e]at x<;>cases x
theorem Mode.Pw{c Wg N:Nat}{s:ej}(hm:Mode P c Wg N w gs t K ic s)(e:(K ic).shape=.look 0\/(K ic).shape=.close 0):
  (∃n,w.heap[c]?=some (.chan 0 #[] false n n false))/\s=.got/\(sumTo N λi=>(K i).late)=0/\(sumTo N λi=>(K i).cnt)=0:=by
 unfold Mode at hm;rcases hm with m|m|m|m|m|m|m
 ·rcases m.2.2.2.2.2 with⟨_,x,_⟩|⟨_,x,_⟩<;>rcases e with e|e<;>rw[e]at x<;>cases x
 ·rcases m.2.2.2.2.2.2 with x|x<;>rcases e with e|e<;>rw[e]at x<;>cases x
 ·rcases m.2.2.2.2.1 with x|x<;>rcases e with e|e<;>rw[e]at x<;>cases x
 ·rcases m.2.2.2.2.2.2 with x|x<;>rcases e with e|e<;>rw[e]at x<;>cases x
 ·rcases m.2.2.2.2.2 with x|x<;>rcases e with e|e<;>rw[e]at x<;>cases x
 ·exact⟨m.1,m.2.1,m.2.2.1,m.2.2.2.1⟩
 ·have x:=m.2.2.2;rcases e with e|e<;>rw[e]at x<;>cases x
theorem Mode.Px{c Wg N:Nat}{s:ej}(hm:Mode P c Wg N w gs t K ic s)(e:(K ic).shape=.said 0\/(K ic).shape=.io 0):
  (∃n,w.heap[c]?=some (.chan 0 #[] false n n false))/\s=.early/\((∃st,WgAt P Wg w st 0)\/((sumTo N λi=>(K i).late)=0/\(sumTo N λi=>(K i).cnt)=0/\WgAt P Wg w 0 1))/\
  ∀{w':Tp}{gs':Array SG}{u:Uo}{k':GS},(k'.shape=.said 0\/k'.shape=.io 0)->w'.heap[c]?=w.heap[c]?->w'.heap[Wg]?=w.heap[Wg]?->(WgAt P Wg w 0 1->∀g,gs'[ic]?=some g->g.status=.running)->ic<N->Mode P c Wg N w' gs' (t++u) (upd K ic k') ic s:=by
 have wait:∀{k:GS},(k.shape=.said 0\/k.shape=.io 0)->k.cnt=0/\k.late=0:=λ{k} h=>by rw[<- GS.ng,<- GS.mm];rcases h with h|h<;>rw[h]<;>exact⟨rfl,rfl⟩
 have tail:∀(w':Tp)(gs':Array SG)(u:Uo)(k':GS),(k'.shape=.said 0\/k'.shape=.io 0)->w'.heap[c]?=w.heap[c]?->w'.heap[Wg]?=w.heap[Wg]?->(WgAt P Wg w 0 1->∀g,gs'[ic]?=some g->g.status=.running)->ic<N->Mode P c Wg N w' gs' (t++u) (upd K ic k') ic s:=by
  intro w' gs' u k' hk hc hW hr fU;have e1:sumTo N (λi=>(upd K ic k' i).cnt)=sumTo N λi=>(K i).cnt:=lr K k' GS.cnt (by rw[(wait hk).1,(wait e).1]);have e2:sumTo N (λi=>(upd K ic k' i).late)=sumTo N λi=>(K i).late:=lr K k' GS.late (by rw[(wait hk).2,(wait e).2]);have e3:∀st sm,WgAt P Wg w' st sm=WgAt P Wg w st sm:=λst sm=>by unfold WgAt;rw[hW]
  have e5:∀i (q:GS),(q=.load 0\/q=.store 0\/q=.mu 0)->(upd K ic k' i).shape=q->(K i).shape=q:=λi q hq hs=>by
   by_cases hi:i=ic
   ·subst hi;rw[bz]at hs;rcases hk with x|x<;>rw[x]at hs<;>subst hs<;>rcases hq with y|y|y<;>cases y
   ·rw[a_ _ _ hi]at hs;exact hs
  unfold Mode at hm⊢;simp only[e1,e2,e3,hc,bz];rcases hm with m|m|m|m|m|m|m
  ·rcases m.2.2.2.2.2 with⟨_,x,_⟩|⟨_,x,_⟩<;>rcases e with e|e<;>rw[e]at x<;>cases x
  ·exact .inr (.inl ⟨m.1,m.2.1,m.2.2.1,m.2.2.2.1,m.2.2.2.2.1,m.2.2.2.2.2.1,hk⟩)
  ·exact .inr (.inr (.inl ⟨m.1,m.2.1,m.2.2.1,m.2.2.2.1,hk,λi hi x=>m.2.2.2.2.2.1 i hi (x.imp (e5 i _ (.inl rfl)) (e5 i _ (.inr (.inl rfl)))),λi hi x=>m.2.2.2.2.2.2 i hi (e5 i _ (.inr (.inr rfl)) x)⟩))
  ·exact .inr (.inr (.inr (.inl ⟨m.1,m.2.1,m.2.2.1,m.2.2.2.1,m.2.2.2.2.1,hr m.2.2.2.2.1,hk⟩)))
  ·rcases m.2.2.2.2.2 with x|x<;>rcases e with e|e<;>rw[e]at x<;>cases x
  ·rcases m.2.2.2.2 with x|x<;>rcases e with e|e<;>rw[e]at x<;>cases x
  ·have x:=m.2.2.2;rcases e with e|e<;>rw[e]at x<;>cases x
 have iV:=hm;unfold Mode at hm;rcases hm with m|m|m|m|m|m|m
 ·rcases m.2.2.2.2.2 with⟨_,x,_⟩|⟨_,x,_⟩<;>rcases e with e|e<;>rw[e]at x<;>cases x
 ·exact⟨m.1,m.2.1,.inl ⟨_,m.2.2.2.2.2.1⟩,λ{w'} {gs'} {u} {k'}=>tail w' gs' u k'⟩
 ·refine⟨m.1,m.2.1,.inl ?_,λ{w'} {gs'} {u} {k'}=>tail w' gs' u k'⟩;have:∃i,i<N/\(K i).late=1:=by
   apply Tn;intro fu;have hz:sumTo N (λi=>(K i).late)=sumTo N λ_=>0:=Vq λi hi=>by
    have aF:¬(K i).late=1:=λx=>fu ⟨i,hi,x⟩;cases kW:K i<;>rw[kW]at aF<;>first|rfl|exact absurd rfl aF
   have h0:sumTo N (λ_=>0)=0:=by
    have:∀N,sumTo N (λ_=>0)=0:=λN=>(by induction N with|zero=>rfl|succ N ih=>simp[sumTo,ih]);exact this N
   have:=m.2.2.1;omega
  obtain⟨i,hi,e_⟩:=this;obtain⟨_,_,_,_,_,m6,m7⟩:=iV.D4 hi e_;cases kW:K i<;>rw[kW]at e_ m6 m7<;>simp[GS.late]at e_
  ·exact⟨1,m6 (.inl rfl)⟩
  ·exact⟨1,m6 (.inr rfl)⟩
  ·exact⟨0,m7 rfl⟩
 ·exact⟨m.1,m.2.1,.inr ⟨m.2.2.1,m.2.2.2.1,m.2.2.2.2.1⟩,λ{w'} {gs'} {u} {k'}=>tail w' gs' u k'⟩
 ·rcases m.2.2.2.2.2 with x|x<;>rcases e with e|e<;>rw[e]at x<;>cases x
 ·rcases m.2.2.2.2 with x|x<;>rcases e with e|e<;>rw[e]at x<;>cases x
 ·have x:=m.2.2.2;rcases e with e|e<;>rw[e]at x<;>cases x
theorem Hp(Im:cx):mB {noView with ab:=Im} {noView with ab:=Im}:=⟨λ_=> .inr rfl,λ_ _=> .inr rfl,λ_ _ _=>rfl⟩
theorem anr(Im:cx):mB noView {noView with ab:=Im}:=⟨λ_=> .inr rfl,λ_ _=> .inl rfl,λb hb=>absurd rfl hb⟩
theorem Inv.z_(h:Inv P n0 W0 V gs w t K Im ic (some p) st)(aH:p.recv=true){gi bD:SG}{es:Array Ut}{k':GS}{a:U_}{s:ej}(hs:st=some s)(aM:gs[ic]?=some gi)(aR:stepG P false gi w=.go bD w' es)(hd:UY t ic=1)
  (ha:Atom a es) (Ay:a=dW p.Wg\/a=oR p.Wg) (nL:w'=w\/∃x,w'=w.setCell a x) (hk:k'.is P p.c p.Wg Im p.Ss 1 bD) (hv:k'.view Im={noView with ab:=Im}) (yK:(K ic).view Im={noView with ab:=Im}) (c_:k'.idx=none) (uP:(K ic).idx=none)
  (gL:∃n,w.heap[p.c]?=some (.chan 0 #[] false n n false))
  (yB:Mode P p.c p.Wg gs.size w' ((gs.map (woken P gi bD w')).setIfInBounds ic bD) (t++Tc ic gi.frame.fn gi.frame.place es) (upd K ic k') ic s) (uX:qZ k'.db (K ic).db):gD P n0 W0 V gs w sl t K Im ic (some p) st ic:=by
 obtain⟨s',_,gw,_,_⟩:=h.mode aH;exact h.Fv aH hs gw aM aR hd ha Ay nL hk (by rw[hv,yK];exact Hp Im) (λ_=>rfl) c_ uP (.inl rfl) gL yB uX
theorem Inv.ak8(h:Inv P n0 W0 V gs w t K Im ic (some p) st)(aH:p.recv=true){k n:Nat}{gi:SG}(aM:gs[ic]?=some gi)(hK:K ic=.head k n)(jH:eE P Im p.c p.Wg k (UY t ic) gi):gD P n0 W0 V gs w sl t K Im ic (some p) st ic:=by
 obtain⟨s,hs,gw,iU,hm⟩:=h.mode aH;obtain⟨m1,m2,m3,m4,m5,m6⟩:=hm.af7 (k:=k) (by rw[hK];rfl);obtain⟨k,rfl⟩:∃k',k=k'+1:=⟨k-1,by omega⟩;obtain⟨hd,bK,GX⟩:=eE.succ _ _ _ _ jH;obtain⟨g',aR,hz,L2⟩:=GX _ (by omega) m4;have lM:=aR w m5;have uw:∀k':GS,k'.cnt=0->k'.late=0->sumTo gs.size (λi=>(upd K ic k' i).cnt)=(sumTo gs.size λi=>(K i).cnt)/\sumTo gs.size (λi=>(upd K ic k' i).late)=(sumTo gs.size λi=>(K i).late):=λk' h1 h2=>
  ⟨lr K k' GS.cnt (by rw[h1,hK];rfl),lr K k' GS.late (by rw[h2,hK];rfl)⟩
 by_cases hv:(sumTo gs.size λi=>(K i).cnt)=0
 ·obtain⟨n',cw⟩:=hz hv;refine h.z_ aH (k':=.acq n') (a:=dW p.Wg) hs aM lM hd (.inl rfl) (.inl rfl) (.inl rfl) cw rfl (by rw[hK];rfl) rfl (by rw[hK];rfl) m1 ?_ (by rw[hK];exact .inl (by simp[GS.db];omega));unfold Mode;simp only[(uw (.acq n') rfl rfl).1,(uw (.acq n') rfl rfl).2,bz];refine .inr (.inr (.inr (.inr (.inl ⟨m1,m2,m3,hv,?_,.inr rfl⟩))));rw[hv]at m5;simpa using m5
 ·obtain⟨n',cw⟩:=L2 hv;refine h.z_ aH (k':=.l8 (sumTo gs.size λi=>(K i).cnt) n') (a:=dW p.Wg) hs aM lM hd (.inl rfl) (.inl rfl) (.inl rfl) cw rfl (by rw[hK];rfl) rfl (by rw[hK];rfl) m1 ?_ (by rw[hK];exact .inl (by simp[GS.db];omega));unfold Mode;simp only[(uw (.l8 _ n') rfl rfl).1,(uw (.l8 _ n') rfl rfl).2,bz];exact .inl ⟨m1,m2,m3,m4,m5,.inr ⟨_,rfl,SO _,by omega⟩⟩
theorem Inv.aha(h:Inv P n0 W0 V gs w t K Im ic (some p) st)(aH:p.recv=true){v n:Nat}{gi:SG}(aM:gs[ic]?=some gi)(hK:K ic=.l8 v n)(jH:ER P p.c p.Wg Im v (UY t ic) gi):gD P n0 W0 V gs w sl t K Im ic (some p) st ic:=by
 obtain⟨s,hs,gw,iU,hm⟩:=h.mode aH;obtain⟨m1,m2,m3,m4,m5,m6,m7⟩:=hm.af6 (v:=v) (by rw[hK];rfl);obtain⟨hd,bK,⟨g1,GW,n1,ame⟩,als⟩:=jH;have rF:p.c≠p.Wg:=h.phase.2.2.1;have uw:∀k':GS,k'.cnt=0->k'.late=0->sumTo gs.size (λi=>(upd K ic k' i).cnt)=(sumTo gs.size λi=>(K i).cnt)/\sumTo gs.size (λi=>(upd K ic k' i).late)=(sumTo gs.size λi=>(K i).late):=λk' h1 h2=>
  ⟨lr K k' GS.cnt (by rw[h1,hK];rfl),lr K k' GS.late (by rw[h2,hK];rfl)⟩
 by_cases hv:(sumTo gs.size λi=>(K i).cnt)=v
 ·refine h.z_ aH (k':=.said n1) (a:=dW p.Wg) hs aM (GW w (by rw[<- hv];exact m5)) hd (.inr (.inr (.inl rfl))) (.inl rfl) (.inr ⟨_,rfl⟩) ame rfl (by rw[hK];rfl) rfl (by rw[hK];rfl) m1 ?_ (by rw[hK];exact .inl (by simp[GS.db];omega));unfold Mode;simp only[(uw (.said n1) rfl rfl).1,(uw (.said n1) rfl rfl).2,bz];refine .inr (.inl ⟨?_,m2,m3,by omega,m4,?_,.inl rfl⟩)
  ·obtain⟨n,hn⟩:=m1;exact⟨n,by rw[wG _ _ _ (Ne.symm rF)];exact hn⟩
  ·rw[hv];exact m5.Ic _
 ·obtain⟨g',lM,n',cw⟩:=als (sumTo gs.size λi=>(K i).cnt) (by omega);refine h.z_ aH (k':=.head v n') (a:=dW p.Wg) hs aM (lM w m5) hd (.inl rfl) (.inl rfl) (.inl rfl) cw rfl (by rw[hK];rfl) rfl (by rw[hK];rfl) m1 ?_ (by rw[hK];exact .inl (by simp[GS.db]));unfold Mode;simp only[(uw (.head v n') rfl rfl).1,(uw (.head v n') rfl rfl).2,bz];exact .inl ⟨m1,m2,m3,m4,m5,.inl ⟨v,rfl,by omega⟩⟩
theorem Inv.amZ(h:Inv P n0 W0 V gs w t K Im ic (some p) st)(aH:p.recv=true){n:Nat}{gi:SG}(aM:gs[ic]?=some gi)(hK:K ic=.last n)(jH:IP P Im p.c p.Wg (UY t ic) gi):gD P n0 W0 V gs w sl t K Im ic (some p) st ic:=by
 obtain⟨s,hs,gw,iU,hm⟩:=h.mode aH;obtain⟨m1,m2,m3,m4,m5⟩:=hm.Pv (.inl (by rw[hK];rfl));obtain⟨hd,bK,g',aR,n',cw⟩:=jH;refine h.z_ aH (k':=.acq n') (a:=dW p.Wg) hs aM (aR w m5) hd (.inl rfl) (.inl rfl) (.inl rfl) cw rfl (by rw[hK];rfl) rfl (by rw[hK];rfl) m1 ?_ (by rw[hK];exact .inl (by simp[GS.db]));unfold Mode;have e1:sumTo gs.size (λi=>(upd K ic (.acq n') i).cnt)=0:=by rw[lr K (.acq n') GS.cnt (by rw[hK];rfl)];exact m4
 have e2:sumTo gs.size (λi=>(upd K ic (.acq n') i).late)=0:=by rw[lr K (.acq n') GS.late (by rw[hK];rfl)];exact m3
 simp only[e1,e2,bz];exact .inr (.inr (.inr (.inr (.inl ⟨m1,m2,trivial,trivial,m5,.inr rfl⟩))))
theorem Inv.ahm(h:Inv P n0 W0 V gs w t K Im ic (some p) st)(aH:p.recv=true){n:Nat}{gi:SG}(aM:gs[ic]?=some gi)(hK:K ic=.io n)(jH:ET P Im p.c p.Wg (UY t ic) gi):gD P n0 W0 V gs w sl t K Im ic (some p) st ic:=by
 obtain⟨s,hs,gw,iU,hm⟩:=h.mode aH;obtain⟨m1,m2,m3,mk⟩:=hm.Px (.inr (by rw[hK];rfl));obtain⟨hd,bK,alD,wA,g',aaW,n',cw⟩:=jH;have rF:p.c≠p.Wg:=h.phase.2.2.1;rcases m3 with⟨stv,hW⟩|⟨m4,m5,hW⟩
 ·
  have aR:=wA w stv hW;have alx:¬WgAt P p.Wg w 0 1:=λx=>by have:=(hW.inj x).2;cases this
  refine h.ub aH (k':=.io 0) (s':=s) gw aM aR (.inr ⟨rfl,gi,rfl,by rw[hd];exact⟨rfl,bK,alD,wA,g',aaW,n',cw⟩⟩) (by rw[hK];exact Hp Im) (λ_=>rfl) rfl (λj hj=>by rw[hK]at hj;cases hj) (.inl rfl) (by simp) (by simp) (by simp) rfl (λ_ _ _=>rfl) rfl rfl rfl
   (mk (.inr rfl) rfl rfl (λx=>absurd x alx) iU) (.inl m1) ?_ ?_
  ·have e0:t++Tc ic gi.frame.fn gi.frame.place #[]=t:=(by simp[Tc]);have hr:Rest p.Wg t K ic st:=h.out.2.2.1;rw[hs]at hr;refine hr.app (λidx a ha hx=> .inr (hx.app (by obtain⟨op,ay,_⟩:=U0 ha;exact TK ay) λm _ _ hj=> .inl ?_)) (λidx a _ ⟨op,ay,_⟩ _=>by simp[Tc]at ay);by_cases cW:m=ic
   ·subst cW;rw[hK]at hj;cases hj
   ·rw[a_ _ _ cW];exact hj
  ·by_cases hn:n=0
   ·refine .inr ⟨funext λj=> ?_,?_⟩
    ·by_cases hj:j=ic
     ·subst hj;simp only[bz,hK,hn]
     ·simp only[a_ _ _ hj]
    ·simp only[flag];rw[Tb (by simpa using iU),aM];simp[bK]
   ·exact yY iU (by rw[hK];exact .inr ⟨rfl,.inr ⟨rfl,by simp only[GS.db];omega⟩⟩)
 ·refine h.z_ aH (k':=.last n') (a:=oR p.Wg) hs aM (aaW w hW) hd (.inr (.inr (.inr rfl))) (.inr rfl) (.inr ⟨_,rfl⟩) cw rfl (by rw[hK];rfl) rfl (by rw[hK];rfl) m1 ?_ (by rw[hK];exact .inl (by simp[GS.db]));unfold Mode;have e1:sumTo gs.size (λi=>(upd K ic (.last n') i).cnt)=0:=by rw[lr K (.last n') GS.cnt (by rw[hK];rfl)];exact m5
  have e2:sumTo gs.size (λi=>(upd K ic (.last n') i).late)=0:=by rw[lr K (.last n') GS.late (by rw[hK];rfl)];exact m4
  simp only[e1,e2,bz];obtain⟨n,hn⟩:=m1;exact .inr (.inr (.inr (.inr (.inl ⟨⟨n,by rw[wG _ _ _ (Ne.symm rF)];exact hn⟩,m2,trivial,trivial,hW.adl 0,.inl rfl⟩))))
theorem Inv.aqM(h:Inv P n0 W0 V gs w t K Im ic (some p) st)(aH:p.recv=true){n:Nat}{gi:SG}(aM:gs[ic]?=some gi)(hK:K ic=.said n)(jH:ES P Im p.c p.Wg (UY t ic) gi):gD P n0 W0 V gs w sl t K Im ic (some p) st ic:=by
 obtain⟨s,hs,gw,iU,hm⟩:=h.mode aH;obtain⟨m1,m2,m3,mk⟩:=hm.Px (.inl (by rw[hK];rfl));obtain⟨hd,bK,g',aR,n',cw⟩:=jH;have nD:∀e∈#[j6 (.write (oR p.Wg))],e=j6 (.write (oR p.Wg)):=λe he=>by simpa using he
 have aaS:g'.status=.running:=cU.running (λd g x=>x.2.1) cw;refine h.ub aH (k':=.io n') (s':=s) gw aM (aR w) (.inl (by rw[hd];exact cw)) (by rw[hK];exact Hp Im) (λ_=>rfl) rfl (λj hj=>by rw[hK]at hj;cases hj) (.inl rfl) (λe he x hx=> .inr (.inl ?_)) (λe he=> ?_) (λe he a=> ?_) rfl (λ_ _ _=>rfl) rfl rfl rfl
  (mk (.inr rfl) rfl rfl (λ_ g hg=> ?_) iU) (.inl m1) ?_ (yY iU (by rw[hK];exact .inl (by simp[GS.db])))
 ·rw[nD e he]at hx;cases hx;exact⟨rfl,rfl,rfl⟩
 ·rw[nD e he];exact h.low.2
 ·rw[nD e he];simp[j6,Ts]
 ·rcases getElem?_next iU hg with⟨_,rfl⟩|⟨aF,_⟩
  ·exact aaS
  ·exact absurd rfl aF
 ·have hr:Rest p.Wg t K ic st:=h.out.2.2.1;rw[hs,m2]at hr;rw[m2];refine hr.app (λidx a ha hx=> .inr (hx.app (by obtain⟨op,ay,_⟩:=U0 ha;exact TK ay) λm _ _ hj=> .inl ?_)) (λidx a _ ⟨op,ay,yw,_⟩ _=> .inr (.inr ⟨ic,?_,gw,.inr (.inl rfl)⟩))
  ·by_cases cW:m=ic
   ·subst cW;rw[hK]at hj;cases hj
   ·rw[a_ _ _ cW];exact hj
  ·obtain⟨e,_,rfl⟩:=TO ay;simp[WF,yw]
end
end Go.Gg
