/- A part of the proof. -/
import Derived.Test.YtkanpclgnhdbiaaGreatDoorTicketStepsCard1
import Derived.Conc.Beside
import Derived.Conc.CrowdTrace
import Derived.Conc.CrowdComm
set_option linter.all false
set_option maxRecDepth 4000
set_option maxHeartbeats 1000000
open Array renaming getElem?_append_right->Xn,getElem?_eq_getElem->SJ,getElem?_eq_some_iff->SP,getElem?_map->VS,getElem?_modify->VG,getElem?_setIfInBounds_ne->SR,getElem?_setIfInBounds_self_of_lt->S7,getElem_mem->Xd,mem_append->Uf,size_append->WV
open Bool renaming false_eq_true->TC
open Classical renaming byContradiction->To
open Go.BinOp renaming neq->Vk
open Go.Conc renaming mem_ofEvents->TB,served->TO
open Go.Conc.QuitsD renaming status->YN
open Go.Event renaming mute->VU
open Go.GoStatus renaming blocked->ZM
open Go.Goroutine renaming again->X9
open Go.IntKind renaming i64->SE
open Go.MemAct renaming low_mono->Yu,ofEvent->Tm,touch?->VD
open Go.MemAct.mark renaming injEq->Zo
open Go.MemOp renaming ofEvents->S8
open Go.Obj renaming deferred->ZU
open Go.Op renaming equal->Wa
open Go.Proofs.Tryz renaming f107->Zm,f109->Zl,f89->Zs,f97->ZG,prog->SD
open Go.Trace renaming g?->VQ
open Go.Value renaming int->SG
open Go.World renaming cell?->Uj,setCell->WE
open Int renaming toNat->Xp
open List renaming append_assoc->SC,append_nil->SI,cons_append->Vb,drop->Ud,drop_append->U4,drop_append_of_le_length->VJ,drop_drop->Zd,drop_eq_getElem_cons->TR,drop_eq_nil_of_le->TK,drop_zero->WS,ext_getElem?->Zw,flatMap_append->U1,flatMap_cons->Ua,foldl->Zc,foldl_append->Xj,foldl_cons->Ux,getD_eq_getElem?_getD->SF,getElem?_append_left->SY,getElem?_append_right->Tg,getElem?_drop->T9,getElem?_eq_getElem->SV,getElem?_eq_some_iff->SM,getElem?_map->Ti,getElem?_set->UD,getElem?_set_ne->TP,getElem?_set_self->Wv,getElem?_take->TY,getElem_mem->VM,getLastD_eq_getLast?->UT,length_append->SQ,length_drop->T8,length_map->Tj,length_set->TF,map->UK,mapM_cons->TS,mapM_nil->Um,map_append->Tv,map_congr_left->U9,map_cons->UE,map_drop->Zk,map_flatMap->U3,map_map->Xh,map_singleton->Yk,map_take->Vy,mem_append->SN,mem_append_left->Tb,mem_append_right->SZ,mem_cons->SK,mem_flatMap->S4,mem_flatten->W7,mem_iff_getElem?->Uz,mem_map->Th,mem_of_getElem?->S_,mem_of_mem_take->VL,mem_or_eq_of_mem_set->Uu,mem_replicate->W6,mem_singleton->S5,mem_toArray->Tx,nil_append->Up,nodup_append->UC,not_mem_nil->SU,range->SX,range'->TU,range'_append_1->Yi,range'_succ->Vu,range_eq_range'->UX,range_succ->UV,replicate->TG,replicate_succ->VN,set_append_left->WQ,set_append_right->Uy,set_cons_succ->Un,set_cons_zero->TM,set_set->Wu,take->T_,take_add_one->Vh,take_append_drop->UR,take_append_of_le_length->Tq,take_length->TE,take_of_length_le->SW,take_set->Y6,take_succ->VP,take_succ_cons->Vt,take_take->US,take_zero->Zr
open List.Perm renaming refl->Ze
open Nat renaming add_sub_cancel->VA,add_sub_cancel_left->Ve,add_zero->Uv,eq_zero_or_pos->UF,le_of_eq->VW,le_refl->SO,le_trans->Ur,lt_of_lt_of_le->Ta,lt_trans->VH,reduceAdd->SS,strongRecOn->XC,sub_self->UP,sub_zero->Y1,zero_add->VK
open Option renaming bind_eq_bind->TD,getD_some->S6,map_eq_some_iff->Tl,pure_def->T5,toList_some->X0
open Option.some renaming inj->Vz,injEq->Te
open Prod.mk renaming injEq->UH
namespace Go.Gg
open Go.Conc Go.Proofs Go.Gg.Tk
theorem IY{α:Type}(g:Nat->List α)(i:Nat):(SX (i+1)).flatMap g=(SX i).flatMap g++g i:=by
 rw[UV,U1];simp
theorem IX{α:Type}(g:Nat->List α){i n:Nat}(h:i<n):(SX n).flatMap g=(SX i).flatMap g++(g i++(TU (i+1) (n-(i+1))).flatMap g):=by
 have:SX n=SX i++(i::TU (i+1) (n-(i+1))):=by
  rw[UX,UX,<- Vu];have:=Yi (s:=0) (m:=i) (n:=n-(i+1)+1);rw[VK]at this;rw[this];congr 1;omega
 rw[this,U1,Ua]
theorem MS{α:Type}{l:List α}{i:Nat}{v:α}(h:i<l.length):(l.set i v).take (i+1)=l.take i++[v]:=by
 rw[VP,Y6,UD,if_pos rfl,if_pos h,List.set_eq_of_length_le (by simp;omega)];rfl
namespace Tk
def jf (h:List Int)(hour j:Nat)(n:Int):List Int:=h.take hour++TG j n++h.drop (hour+j)
theorem Eg{h:List Int}{hour j:Nat}{n:Int}(hj:hour+j<=h.length):(jf h hour j n).length=h.length:=by simp[jf];omega
theorem ahV(h:List Int)(hour:Nat)(n:Int):jf h hour 0 n=h:=by simp[jf]
theorem IM{h:List Int}{hour j:Nat}{n:Int}(hj:hour+j<h.length):(jf h hour j n).set (hour+j) n=jf h hour (j+1) n:=by
 unfold jf;have hl:(h.take hour++TG j n).length=hour+j:=by simp;omega
 rw[Uy _ _ (by omega),hl,UP,List.replicate_succ'];rw[TR hj,TM,SC,SC,SC];rfl
theorem ahU{h:List Int}{hour j:Nat}{n:Int}(hn:h[hour]?=some n)(hj:hour+j<=h.length):(jf h hour j n)[hour]?=some n:=by
 have hl:=eU hn;unfold jf;rw[SC,Tg (by simp;omega)];have:hour-(h.take hour).length=0:=by simp;omega
 rw[this];cases j with
 |zero=>simpa using hn
 |succ j=>simp[VN]
theorem ahT{h pre:List Int}{hour:Nat}{n:Int}(h4:h.length=4)(hn:h[hour]?=some n)(hp:pre=h.take (hour+1)):jf h hour (4-hour) n=cM pre:=by
 have hl:=eU hn;have e:pre=h.take hour++[n]:=by rw[hp,VP,hn];rfl
 unfold jf cM;rw[TK (by omega),SI,e];have h1:(h.take hour++[n]).length=hour+1:=by simp;omega
 rw[h1,show (h.take hour++[n]).getLastD 0=n by simp[UT],SC];congr 1;rw[show 4-hour=(4-(hour+1))+1 by omega,VN];rfl
theorem aa8{h pre:List Int}{hour:Nat}{n:Int}(hn:h[hour]?=some n)(hp:pre=h.take (hour+1)):pre.length=hour+1/\pre.getLastD 0=n:=by
 have hl:=eU hn;have e:pre=h.take hour++[n]:=by rw[hp,VP,hn];rfl
 subst e;exact⟨by simp;omega,by simp[UT]⟩
end Tk
open Go.Conc Go.Proofs Go.Gg.Tk
section
variable {lv:Bool}
def pZ (yv:AV)(N ir it:Nat)(h:List Int):List aa:=[.cells [yv] 130, .cells (h.map iv) 83, .cells [.fn (.func 87) [] [.op ir 0, .op (N+1) 0]] 68, .cells [.fn (.func 89) [] [.op (N+2) 0, .op ir 0, .op (N+1) 0, .op N 0, .op it 0, .op (N+3) 0]] 68]
theorem ahG{x:ai}{bh N ir it:Nat}{yv pv:AV}{S:Type}{f:S->List Int->dD S}{Gf:S->List aa}{I:S->Prop}{A:List Int->Prop}(hx:x.Ok)(hY:jP lv SD yv f Gf N I A pv)(hr:∀σ L,(Gf σ++L)[ir]?=some (.cells x.l 76))(ht:∀σ L,(Gf σ++L)[it]?=some (.cells [iv bh] 3))(kJ:bh<=3):
  ∀(d hour:Nat)(h pre:List Int)(n0:Int)(σ:S)(M:List aa)(k kp:AV->List aa->Prop),d+hour=x.hours.toNat->h.length=4->h[hour]?=some n0->(0<=n0/\n0<=90+3* hour)->pre=h.take (hour+1)->I σ->(∀a∈mP x bh d pre,A a)->
   (∀h',h'.length=4->h'.take (hour+1)=pre->cX Gf pv k kp (pZ yv N ir it h'++M) (bF f (mP x bh d pre) σ))->
   bi lv SD 89 (Gf σ++(pZ yv N ir it h++M)) [iv hour, .op (N+2) 0, .op ir 0, .op (N+1) 0, .op N 0, .op it 0, .op (N+3) 0] k kp:=by
 intro d;induction d with
 |zero=>
  intro hour h pre n0 σ M k kp o5 h4 oA hb hp hI hA hk;refine bI (rs:=[.tmp 8]) (nt:=61) Zs λhH tT=> ?_;simp only[bp,SS];obtain⟨dQ,uf⟩:=aa8 oA hp;have ox:hour<4:=by have:=eU oA;omega
  have zd:=hx.hours;have bQ:x.l=[iv x.first,iv x.hours,iv x.am,ej x.seen,bk x.pieces,bk x.aB]:=rfl;have g0:∀(σ:S)(L:List aa),(Gf σ++L)[N]?=L[0]?:=λσ L=>hY.get σ L 0;have g1:∀(σ:S)(L:List aa),(Gf σ++L)[N+1]?=L[1]?:=λσ L=>hY.get σ L 1;have g2:∀(σ:S)(L:List aa),(Gf σ++L)[N+2]?=L[2]?:=λσ L=>hY.get σ L 2;have s1:∀(σ:S)(L:List aa) x,(Gf σ++L).set (N+1) x=Gf σ++L.set 1 x:=λσ L x=>hY.set σ L 1 x;rw[mP,dQ,uf,VA]at hA hk;refine ak ?_;refine aj ?_;simp only[seval,g2,pZ];refine aL ((Pf (x:=x) (h:=h) (n:=n0) hx h4 oA (hr _ _) (by rw[g1];rfl) ?_));(try simp only[seval]);refine aC ?_;refine⟨λhs=> ?_,λhs=> ?_⟩
  ·refine ak ?_;refine a_ ?_;have:=hk h h4 hp.symm;rw[hs]at this;simp only[TC,if_false,bF,cX]at this;exact bY this
  ·rw[if_pos hs]at hA hk;rw[Mw]at hk;have QE:(hour:Int)=x.hours:=(by omega);refine aP ?_;refine aj ?_;simp only[seval,hr,bQ];refine aC ?_;refine⟨λhc=> ?_,λhc=>by exfalso;simp at hc;omega⟩;refine ak ?_;refine cN ?_;refine gM (4-hour) (λj:Nat=>[(9,iv ((hour+j:Nat):Int))]) (λj=>Gf σ++(pZ yv N ir it (jf h hour j n0)++M)) (λj=>True) (λ_ _=>rfl) (by simp only[seval];simp[bB,Wk.refl]) (by rw[ahV];rfl) (λm _ _=>by simp[pZ]) trivial (λcm dF j o_ hj R hR=> ?_);refine ak ?_;refine aC ?_;refine⟨λhc=> ?_,λhc=> ?_⟩
   ·have fy:j<4-hour:=(by omega);have bb:(0<=(hour:Int)/\(hour:Int)<4)=True:=(by simp;omega);have bj:(0<=(hour:Int)+(j:Int)/\(hour:Int)+(j:Int)<4)=True:=(by simp;omega);have B7:((hour:Int)+(j:Int)).toNat=hour+j:=(by omega);have ma:(jf h hour j n0).length=4:=(by rw[Eg (by omega),h4]);have mb:(UK iv (jf h hour j n0)).length=4:=(by rw[Tj,ma]);have hw:SE.wrap ((hour:Int)+(j:Int)+1)=(hour:Int)+((j+1:Nat):Int):=(by rw[bD _ (by omega)];push_cast;omega);refine aP ?_;refine aj ?_;simp only[seval,g1,s1,pZ,bb,bj,B7,mb,j7 (ahU oA (show hour+j<=h.length by omega))];refine⟨by omega, ?_⟩;rw[wh (by omega),IM (by omega)];refine aj ?_;simp only[seval,hw];exact hR _ ⟨fy,trivial,dR⟩
   ·have:j=4-hour:=(by omega);subst this;have Fh:=ahT h4 oA hp;rw[Fh];have Fg:(cM pre).length=4:=(by rw[<- Fh,Eg (by omega),h4]);have sO:((cM pre).map iv).length=4:=(by rw[Tj,Fg]);have nJ:(cM pre).take (hour+1)=pre:=(by unfold cM;rw[Tq (by omega),SW (by omega)]);refine cq ?_;refine aj ?_;simp only[seval,g0,g1,pZ,sO];rw[SW (i:=4) (l:=(cM pre).map iv) (by rw[sO];exact SO _)];refine wR (hY.call σ (cM pre) (pZ yv N ir it (cM pre)++M) _ _ hI (hA _ (by simp)) ?_);have aI:=hk (cM pre) Fg nJ;cases hf:f σ (cM pre)with
    |go σ'=>
     rw[hf]at aI;simp only[cX]at aI⊢;(try simp only[seval]);refine a_ ?_;exact bY aI
    |stop σ'=>
     rw[hf]at aI;simp only[cX]at aI⊢;(try simp only[seval]);refine a_ ?_;exact bY aI
    |bad σ'=>
     rw[hf]at aI;simp only[cX]at aI⊢;exact bY aI
 |succ d ih=>
  intro hour h pre n0 σ M k kp o5 h4 oA hb hp hI hA hk;refine bI (rs:=[.tmp 8]) (nt:=61) Zs λhH tT=> ?_;simp only[bp,SS];obtain⟨dQ,uf⟩:=aa8 oA hp;have zd:=hx.hours;have hpr:=hx.am;have QD:hour<3:=by omega
  have bQ:x.l=[iv x.first,iv x.hours,iv x.am,ej x.seen,bk x.pieces,bk x.aB]:=rfl;have g1:∀(σ:S)(L:List aa),(Gf σ++L)[N+1]?=L[1]?:=λσ L=>hY.get σ L 1;have g2:∀(σ:S)(L:List aa),(Gf σ++L)[N+2]?=L[2]?:=λσ L=>hY.get σ L 2;have g3:∀(σ:S)(L:List aa),(Gf σ++L)[N+3]?=L[3]?:=λσ L=>hY.get σ L 3;have s1:∀(σ:S)(L:List aa) x,(Gf σ++L).set (N+1) x=Gf σ++L.set 1 x:=λσ L x=>hY.set σ L 1 x;rw[mP,dQ,uf,VA]at hA hk;refine ak ?_;refine aj ?_;simp only[seval,g2,pZ];refine aL ((Pf (x:=x) (h:=h) (n:=n0) hx h4 oA (hr _ _) (by rw[g1];rfl) ?_));(try simp only[seval]);refine aC ?_;refine⟨λhs=> ?_,λhs=> ?_⟩
  ·refine ak ?_;refine a_ ?_;have:=hk h h4 hp.symm;rw[hs]at this;simp only[TC,if_false,bF,cX]at this;exact bY this
  ·rw[if_pos hs]at hA hk;have QE:¬(hour:Int)=x.hours:=(by omega);refine aP ?_;refine aj ?_;simp only[seval,hr,bQ];refine aC ?_;refine⟨λhc=>by exfalso;exact QE hc,λhc=> ?_⟩;refine aP ?_;refine aj ?_;simp only[seval,hr,bQ,bD (x.am+1) (by omega)];generalize hg:(λn:Nat=>if hour+1=1/\n≠bh then[]else mP x bh d (pre++[n0+(n:Int)]))=g at hA hk;refine cN ?_;refine wN (measure λm:Nat×S×List Int=>(x.am.toNat+1)-m.1).wf (λm=>[(37,iv (m.1:Nat))]) (λm=>Gf m.2.1++(pZ yv N ir it m.2.2++M)) (λm=>m.1<=x.am.toNat+1/\bF f ((SX m.1).flatMap g) σ= .go m.2.1/\m.2.2.length=4/\m.2.2.take (hour+1)=pre) (0,σ,h) (λ_ _=>rfl) (by intro p hp;simp at hp;subst hp;exact⟨_,rfl,Wk.refl _⟩) rfl (λ_ _=>by simp[pZ,hY.len]) ⟨by omega,rfl,h4,hp.symm⟩ (λcm dF m ay R hR=> ?_);obtain⟨i,τ,hq⟩:=m;obtain⟨hi,bK,zr,zt⟩:=ay;replace hi:i<=x.am.toNat+1:=hi;replace bK:bF f ((SX i).flatMap g) σ= .go τ:=bK;replace zr:hq.length=4:=zr;replace zt:hq.take (hour+1)=pre:=zt;have Fo:hq[hour]?=some n0:=by
    have h1:(hq.take (hour+1))[hour]?=some n0:=(by rw[zt,hp,TY,if_pos (by omega)];exact oA);rwa [TY,if_pos (by omega)]at h1
   refine ak ?_;refine aC ?_;refine⟨λhc=> ?_,λhc=> ?_⟩
   ·have bE:i<x.am.toNat+1:=(by omega);have bX:SE.wrap ((i:Int)+1)=((i+1:Nat):Int):=(by rw[bD _ (by omega)];rfl);have ry:=IX g bE;have sS:=IY g i;have Bz:I τ:=Ab (A:=A) hY.inv _ σ τ (λa ha=>hA a (by rw[ry];exact Tb _ ha)) hI bK;refine aP ?_;refine ak ?_;have hqm:(UK iv hq).length=4:=(by rw[Tj,zr]);have bb:(0<=(hour:Int)/\(hour:Int)<4)=True:=(by simp;omega);have bb1:(0<=(hour:Int)+1/\(hour:Int)+1<4)=True:=(by simp;omega);have pi:((hour:Int)+1).toNat=hour+1:=(by omega);have RS:SE.wrap ((hour:Int)+1)=(hour:Int)+1:=bD _ (by omega);have KP:SE.wrap (n0+(i:Int))=n0+(i:Int):=bD _ (by omega);refine aj ?_;simp only[seval,ht];refine w7 (λh2=> ?ga) (λh2=> ?gb)
    case' ga=>
     (try simp only[seval,ht]);refine aC ?_;refine⟨λh3=> ?gc,λh3=> ?gd⟩
     case gc=>
      have aM:g i=[]:=(by rw[<- hg];exact if_pos ⟨by simp at h2;omega,by omega⟩);refine cq ?_;refine aj ?_;simp only[seval,bX];exact hR _ ⟨(i+1,τ,hq),(by show x.am.toNat+1-(i+1)<x.am.toNat+1-i;omega),⟨by omega,by rw[sS,aM,SI];exact bK,zr,zt⟩,dR⟩
    case' gb=>
     (try simp only[seval]);refine aC ?_
    all_goals
     have aM:g i=mP x bh d (pre++[n0+(i:Int)]):=by
      rw[<- hg];refine if_neg ?_
      rintro⟨q1,q2⟩
      first|(simp at h3;omega)|(simp at h2;omega)
     refine aP ?_;refine aj ?_;simp only[seval,g1,s1,pZ,bb,bb1,pi,RS,KP,hqm,j7 Fo];refine⟨by omega, ?_⟩;rw[wh (show hour+1<hq.length by omega)];refine aj ?_;simp only[seval,g3,RS];have akf:(hq.set (hour+1) (n0+(i:Int))).length=4:=(by rw[TF,zr]);have hqt:pre++[n0+(i:Int)]=(hq.set (hour+1) (n0+(i:Int))).take (hour+1+1):=(by rw[MS (by omega),zt]);refine aL ((ih (hour+1) (hq.set (hour+1) (n0+(i:Int))) (pre++[n0+(i:Int)]) (n0+(i:Int)) τ M _ _ (by omega) akf (by rw[UD,if_pos rfl,if_pos (by omega)]) (by omega) hqt Bz (λa ha=>hA a (by rw[ry,aM];exact SZ _ (Tb _ ha))) (λh' qV ake=> ?_)));have Kv:h'.take (hour+1)=pre:=by
      have e:h'.take (hour+1)=(h'.take (hour+1+1)).take (hour+1):=(by rw[US];congr 1;omega);rw[e,ake,Tq (VW dQ.symm),SW (VW dQ)]
     have zC:bF f ((SX (x.am.toNat+1)).flatMap g) σ=match bF f (g i) τ with
       | .go s'=>bF f ((TU (i+1) (x.am.toNat+1-(i+1))).flatMap g) s'
       |r=>r:=by
      rw[ry,qu,bK];exact qu f (g i) _ τ
     rw[<- aM];cases hf:bF f (g i) τ with
     |go τ'=>
      simp only[cX];(try simp only[seval]);refine aC ?_;refine aP ?_;refine aj ?_;simp only[seval,bX];exact hR _ ⟨(i+1,τ',h'),(by show x.am.toNat+1-(i+1)<x.am.toNat+1-i;omega),⟨by omega,by rw[sS,qu,bK];exact hf,qV,Kv⟩,dR⟩
     |stop τ'=>
      simp only[cX];(try simp only[seval]);refine aC ?_;refine ak ?_;refine a_ ?_;have aI:=hk h' qV Kv;rw[zC,hf]at aI;exact bY aI
     |bad τ'=>
      simp only[cX];have aI:=hk h' qV Kv;rw[zC,hf]at aI;exact bY aI
   ·have dK:i=x.am.toNat+1:=(by omega);subst dK;have aI:=hk hq zr zt;rw[bK]at aI;refine cq ?_;refine ak ?_;refine a_ ?_;exact bY aI
theorem uH{P:Program}{yv pv:AV}{S:Type}{f:S->List Int->dD S}{Gf:S->List aa}{N:Nat}{I:S->Prop}{A:List Int->Prop}{k:AV->List aa->Prop}(hY:jP lv P yv f Gf N I A pv){σ σ':S}{L:List aa}{a:AV}(hH:bL (Gf σ))(ha:∀n,Lt n a)(hk:k a (Gf σ')):cy (Gf σ).length (Gf σ'++L) a k:=by
 refine jT (H':=Gf σ') (Wk.refl _) rfl (by rw[hY.len,hY.len];exact SO _) ?_ (ha _) hk;have:=hY.ay (σ:=σ) (M:=[]) (by simpa using hH) σ';simpa using this
theorem IH{H:List aa}{k kp:AV->List aa->Prop}{x:ai}{n:Int}(hk:k (.fn (.func 86) [] [.op H.length 0, .op (H.length+1) 0]) (H++[.cells x.l 76, .cells [iv n] 3])):bi lv SD 64 H [x.av,iv n] k kp:=by
 refine bI (rs:=[.tmp 4]) (nt:=6) Tryz.f64 λhH hA=> ?_;simp only[bp,SS,ai.av];refine ak ?_;refine aj ?_;simp only[seval,TS,Um,T5,TD];refine a_ ?_;exact bY hk
theorem IJ{x:ai}{bh N ir it:Nat}{yv pv:AV}{S:Type}{f:S->List Int->dD S}{Gf:S->List aa}{I:S->Prop}{A:List Int->Prop}{σ:S}{k kp:AV->List aa->Prop}(hx:x.Ok)(hY:jP lv SD yv f Gf N I A pv)(hr:∀σ L,(Gf σ++L)[ir]?=some (.cells x.l 76))(ht:∀σ L,(Gf σ++L)[it]?=some (.cells [iv bh] 3))(kJ:bh<=3)
  (me:∀n,Lt n pv) (hI:I σ) (hA:∀a∈kH x bh,A a) (hk:gv Gf pv k kp [] (bF f (kH x bh) σ)):bi lv SD 86 (Gf σ) [yv, .op ir 0, .op it 0] k kp:=by
 refine bI (rs:=[]) (nt:=15) Tryz.f86 λhH tT=> ?_;simp only[bp,SS];have hN:=hY.len σ;have bQ:x.l=[iv x.first,iv x.hours,iv x.am,ej x.seen,bk x.pieces,bk x.aB]:=rfl;refine aj ?_;simp only[seval,hY.parts];refine ak ?_;refine aj ?_;simp only[seval,TS,Um,T5,TD];refine ak ?_;refine aj ?_;simp only[seval,TS,Um,T5,TD];refine aj ?_;simp only[seval,hr,bQ];refine ak ?_;have h0:=hx.first;have hh:=hx.hours;have Ku:[x.first]=T_ (0+1) [x.first,0,0,0]:=rfl;refine aL (?_);rw[hN];refine ahG (x:=x) (bh:=bh) hx hY hr ht kJ x.hours.toNat 0 [x.first,0,0,0] [x.first] x.first σ [] _ _ rfl rfl rfl (by omega) Ku hI hA (λh' qV zo=> ?_);change cX Gf pv _ _ _ (bF f (kH x bh) σ);have rH:∀n,Lt n (.aK []):=λn=>by simp[iV]
 cases hf:bF f (kH x bh) σ with
 |go s=>
  rw[hf]at hk;simp only[cX,gv]at hk⊢;rw[SI]at hk;(try simp only[seval]);rw[<- hN];exact uH hY hH rH hk
 |stop s=>
  rw[hf]at hk;simp only[cX,gv]at hk⊢;rw[SI]at hk;(try simp only[seval]);rw[<- hN];exact uH hY hH rH hk
 |bad s=>
  rw[hf]at hk;simp only[cX,gv]at hk⊢;rw[SI]at hk;rw[<- hN];exact uH hY hH me hk
end
theorem OQ{α:Type}{l:List α}{i j:Nat}{v:α}(h:i<j):(l.set i v).drop j=l.drop j:=by
 apply Zw;intro k;rw[T9,T9,TP (by omega)]
theorem yG{α:Type}{g:α->AV}{xs:List α}{i:Nat}{x:α}(h:xs[i]?=some x):(xs.map g).drop i=g x::(xs.drop (i+1)).map g:=by
 rw[<- Zk,vf h,UE]
namespace Tk
def aco (k:Nat):List Int:=TG (4-k) (-1)++[-1, -1, -1]
structure oR (h:List Int)(k p:Nat)(t:List Nat)(tc:List Int):Prop where
 len:tc.length=11
 pre:tc.take (4+p)=h++t.map λn:Nat=>(n:Int)
 tl:tc.drop (4+k)=aco k
theorem oR.all{h:List Int}{k:Nat}{t:List Nat}{tc:List Int}(ht:t.length=k)(n:oR h k k t tc):tc=eg h t:=by
 have:=UR (4+k) tc;rw[n.pre,n.tl]at this;rw[<- this];unfold eg lq aco;rw[ht];simp[SC]
theorem oR.back{h:List Int}{k p:Nat}{t:List Nat}{n:Nat}{tc:List Int}(h4:h.length=4)(ht:t.length=p)(q:oR h k (p+1) (t++[n]) tc):oR h k p t tc:=by
 refine⟨q.len, ?_,q.tl⟩;have e:tc.take (4+p)=(tc.take (4+(p+1))).take (4+p):=by rw[US];congr 1;omega
 rw[e,q.pre,Tv,<- SC,Tq (by simp[h4,ht]),SW (by simp[h4,ht])]
theorem oR.next{h:List Int}{k p:Nat}{t:List Nat}{n:Nat}{tc:List Int}(hp:p<k)(hk:k<=4)(q:oR h k p t tc):oR h k (p+1) (t++[n]) (tc.set (4+p) (n:Int)):=by
 refine⟨by rw[TF];exact q.len, ?_, ?_⟩
 ·rw[show 4+(p+1)=(4+p)+1 by omega,MS (by rw[q.len];omega),q.pre];simp
 ·rw[OQ (by omega)];exact q.tl
theorem amM{h:List Int}{q:Nat}{qs:List Nat}{u:Nat}{t:List Nat}:(kP (q::qs) u t).map (eg h)=(SX 9).flatMap λn=>if u.testBit n|| !q.testBit n then[]else(kP qs (u|||2^n) (t++[n])).map (eg h):=by
 rw[kP,U3];congr 1;funext n;split<;>rfl
end Tk
section
variable {lv:Bool}
def s7 (yv:AV)(N ir:Nat)(ps:List Nat)(tc:List Int):List aa:=[.cells [yv] 132, .cells (tc.map iv) 86, .cells (ps.map λn=>wv n) 80, .cells [.fn (.func 107) [] [.op ir 0, .op N 0, .op (N+1) 0, .op (N+2) 0, .op (N+3) 0]] 157]
theorem agU{x:ai}{h ps N ir:_}{yv pv:AV}{S:Type}{f:S->List Int->dD S}{Gf:S->List aa}{I:S->Prop}{A:List Int->Prop}(hx:x.Ok)(h4:h.length=4)(hY:jP lv SD yv f Gf N I A pv)(hr:∀σ L,(Gf σ++L)[ir]?=some (.cells x.l 76))(sQ:ps=x.pieces.map (bZ h)++TG (4-x.pieces.length) 0):
  ∀(d p u:Nat)(t:List Nat)(tc:List Int)(σ:S)(M:List aa)(k kp:AV->List aa->Prop),d+p=x.pieces.length->u<65536->t.length=p->oR h x.pieces.length p t tc->I σ->(∀a∈(kP ((x.pieces.map (bZ h)).drop p) u t).map (eg h),A a)->
   (∀eG,oR h x.pieces.length p t eG->cX Gf pv k kp (s7 yv N ir ps eG++M) (bF f ((kP ((x.pieces.map (bZ h)).drop p) u t).map (eg h)) σ))->
   bi lv SD 107 (Gf σ++(s7 yv N ir ps tc++M)) [iv p,wv u, .op ir 0, .op N 0, .op (N+1) 0, .op (N+2) 0, .op (N+3) 0] k kp:=by
 intro d;induction d with
 |zero=>
  intro p u t tc σ M k kp JD hu ht hT hI hA hk;refine bI (rs:=[.tmp 9]) (nt:=47) Zm λhH tT=> ?_;simp only[bp,SS];have bQ:x.l=[iv x.first,iv x.hours,iv x.am,ej x.seen,bk x.pieces,bk x.aB]:=rfl;have g0:∀(σ:S)(L:List aa),(Gf σ++L)[N]?=L[0]?:=λσ L=>hY.get σ L 0;have g1:∀(σ:S)(L:List aa),(Gf σ++L)[N+1]?=L[1]?:=λσ L=>hY.get σ L 1;have dQ:p=x.pieces.length:=by omega
  have vE:(x.pieces.map (bZ h)).drop p=[]:=TK (by simp;omega);rw[vE,kP]at hA hk;rw[Yk]at hA hk;rw[Mw]at hk;have xC:tc=eg h t:=by subst dQ;exact hT.all ht
  have j_:(tc.map iv).length=11:=by rw[Tj,hT.len]
  refine ak ?_;(repeat apply iA);refine NV ?_;refine aj ?_;simp only[seval,hr,bQ,bk];refine aC ?_;refine⟨λhc=> ?_,λhc=>by exfalso;simp at hc;omega⟩;refine aj ?_;simp only[seval,g0,g1,s7,j_];rw[SW (i:=11) (l:=tc.map iv) (by rw[j_];exact SO _)];rw[<- xC]at hA hk;have aI:=hk tc hT;refine wR (hY.call σ tc (s7 yv N ir ps tc++M) _ _ hI (hA _ (by simp)) ?_);cases hf:f σ tc with
  |go σ'=>
   rw[hf]at aI;simp only[cX]at aI⊢;(try simp only[seval]);refine a_ ?_;exact bY aI
  |stop σ'=>
   rw[hf]at aI;simp only[cX]at aI⊢;(try simp only[seval]);refine a_ ?_;exact bY aI
  |bad σ'=>
   rw[hf]at aI;simp only[cX]at aI⊢;exact bY aI
 |succ d ih=>
  intro p u t tc σ M k kp JD hu ht hT hI hA hk;refine bI (rs:=[.tmp 9]) (nt:=47) Zm λhH tT=> ?_;simp only[bp,SS];have bQ:x.l=[iv x.first,iv x.hours,iv x.am,ej x.seen,bk x.pieces,bk x.aB]:=rfl;have g1:∀(σ:S)(L:List aa),(Gf σ++L)[N+1]?=L[1]?:=λσ L=>hY.get σ L 1;have g2:∀(σ:S)(L:List aa),(Gf σ++L)[N+2]?=L[2]?:=λσ L=>hY.get σ L 2;have g3:∀(σ:S)(L:List aa),(Gf σ++L)[N+3]?=L[3]?:=λσ L=>hY.get σ L 3;have s1:∀(σ:S)(L:List aa) x,(Gf σ++L).set (N+1) x=Gf σ++L.set 1 x:=λσ L x=>hY.set σ L 1 x;have oC:=hx.dI;have Fg:p<4:=by omega
  obtain⟨y,hy⟩:=cG (xs:=x.pieces) (i:=p) (by omega);have uq:(x.pieces.map (bZ h))[p]?=some (bZ h y):=by rw[Ti,hy];rfl
  have jl:ps[p]?=some (bZ h y):=by rw[sQ,SY (by simp;omega)];exact uq
  have mf:bZ h y<65536:=VH (Pm h y) (by decide);have aE:¬(p:Int)=(x.pieces.length:Int):=by omega
  rw[vf uq,amM]at hA hk;generalize hg:(λn=>if u.testBit n|| !(bZ h y).testBit n then[]else(kP ((x.pieces.map (bZ h)).drop (p+1)) (u|||2^n) (t++[n])).map (eg h))=g at hA hk;refine ak ?_;(repeat apply iA);refine NV ?_;refine aj ?_;simp only[seval,hr,bQ,bk];refine aC ?_;refine⟨λhc=>by exfalso;exact aE (by simpa using hc),λhc=> ?_⟩;refine aP ?_;(repeat apply iA);refine NR ?_;simp only[seval];refine ak ?_;refine cN ?_;refine wN (measure λm:Nat×S×List Int=>9-m.1).wf (λm=>[(20,iv (m.1:Nat))]) (λm=>Gf m.2.1++(s7 yv N ir ps m.2.2++M)) (λm=>m.1<=9/\bF f ((SX m.1).flatMap g) σ= .go m.2.1/\oR h x.pieces.length p t m.2.2) (0,σ,tc) (λ_ _=>rfl) (by intro p hp;simp at hp;subst hp;exact⟨_,rfl,Wk.refl _⟩) rfl (λ_ _=>by simp[s7,hY.len]) ⟨by omega,rfl,hT⟩ (λcm dF m ay R hR=> ?_);obtain⟨i,τ,tq⟩:=m;obtain⟨hi,bK,lF⟩:=ay;replace hi:i<=9:=hi;replace bK:bF f ((SX i).flatMap g) σ= .go τ:=bK;replace lF:oR h x.pieces.length p t tq:=lF;refine ak ?_;refine aC ?_;refine⟨λhc=> ?_,λhc=> ?_⟩
  ·have bE:i<9:=(by omega);have bX:SE.wrap ((i:Int)+1)=((i+1:Nat):Int):=(by rw[bD _ (by omega)];rfl);have ry:=IX g bE;have sS:=IY g i;have Bz:I τ:=Ab (A:=A) hY.inv _ σ τ (λa ha=>hA a (by rw[ry];exact Tb _ ha)) hI bK;have b4:(0<=(p:Int)/\(p:Int)<4)=True:=(by simp;omega);have C5:(u.testBit i|| !(bZ h y).testBit i)=true->g i=[]:=λe=>(by rw[<- hg];exact if_pos e);have I5:(u.testBit i|| !(bZ h y).testBit i)=false->g i=(kP ((x.pieces.map (bZ h)).drop (p+1)) (u|||2^i) (t++[i])).map (eg h):=λe=>(by rw[<- hg];exact if_neg (by rw[e];simp));refine aP ?_;refine ak ?_;refine aj ?_;simp only[seval,g2,s7,b4,yG jl];refine aL ((w5 hu ?_));(try simp only[seval,g2,s7,b4,yG jl]);refine w7 (λh2=> ?_) (λh2=> ?_)
   ·(try simp only[seval,g2,s7,b4,yG jl]);refine aL ((w5 mf ?_));(try simp only[seval]);refine aC ?_;refine⟨λh3=> ?_,λh3=> ?_⟩
    ·have aM:=C5 (by rw[h2];simpa using h3);refine cq ?_;refine aj ?_;simp only[seval,bX];exact hR _ ⟨(i+1,τ,tq),(by show 9-(i+1)<9-i;omega),⟨by omega,by rw[sS,aM,SI];exact bK,lF⟩,dR⟩
    ·have aM:=I5 (by rw[h2];simpa using h3);have j_:(tq.map iv).length=11:=(by rw[Tj,lF.len]);have HR:4+p<tq.length:=(by rw[lF.len];omega);have FE:SE.wrap ((p:Int)+1)=((p+1:Nat):Int):=(by rw[bD _ (by omega)];rfl);refine aP ?_;refine aj ?_;simp only[seval,g1,s1,s7,b4];refine⟨by omega, ?_⟩;rw[wh HR];refine eS 6 ?_;simp only[seval,g3,FE];refine iH (wv (u|||2^i)) (bT (tR hu (show i<16 by omega) ⟨rfl,rfl⟩)) ?_;rw[FE];have lP:u|||2^i<65536:=pA hu (wn (by omega));refine aL ((ih (p+1) (u|||2^i) (t++[i]) (tq.set (4+p) (i:Int)) τ M _ _ (by omega) lP (by simp[ht]) (lF.next (by omega) oC) Bz (λa ha=>hA a (by rw[ry,aM];exact SZ _ (Tb _ ha))) (λeG sC=> ?_)));have BC:=sC.back h4 ht;have zC:bF f ((SX 9).flatMap g) σ=match bF f (g i) τ with
       | .go s'=>bF f ((TU (i+1) (9-(i+1))).flatMap g) s'
       |r=>r:=by
      rw[ry,qu,bK];exact qu f (g i) _ τ
     rw[<- aM];have aI:=hk eG BC;rw[zC]at aI;cases hf:bF f (g i) τ with
     |go τ'=>
      simp only[cX];(try simp only[seval]);refine aC ?_;refine aP ?_;refine aj ?_;simp only[seval,bX];exact hR _ ⟨(i+1,τ',eG),(by show 9-(i+1)<9-i;omega),⟨by omega,by rw[sS,qu,bK];exact hf,BC⟩,dR⟩
     |stop τ'=>
      rw[hf]at aI;simp only[cX]at aI⊢;(try simp only[seval]);refine aC ?_;refine ak ?_;refine a_ ?_;exact bY aI
     |bad τ'=>
      rw[hf]at aI;simp only[cX]at aI⊢;exact bY aI
   ·(try simp only[seval]);refine aC ?_;have aM:=C5 (by rw[show u.testBit i=true by simpa using h2];rfl);refine cq ?_;refine aj ?_;simp only[seval,bX];exact hR _ ⟨(i+1,τ,tq),(by show 9-(i+1)<9-i;omega),⟨by omega,by rw[sS,aM,SI];exact bK,lF⟩,dR⟩
  ·have dK:i=9:=(by omega);subst dK;have aI:=hk tq lF;rw[bK]at aI;refine cq ?_;refine ak ?_;refine a_ ?_;exact bY aI
end
open Go.Conc Go.Proofs Go.Gg.Tk
theorem MG{α:Type}{g:α->AV}{xs:List α}{i:Nat}{y:α}(h:i<xs.length):(xs.map g).take i++[g y]++(xs.map g).drop (i+1)=(xs.set i y).map g:=by
 rw[List.map_set,List.set_eq_take_append_cons_drop,if_pos (by simpa using h)];simp
namespace Tk
def pL (l:List Nat)(i:Nat):List Nat:=l.take i++TG (4-i) 0
theorem afc{l:List Nat}{i q:Nat}(h:l[i]?=some q)(hl:l.length<=4):(pL l i).set i q=pL l (i+1):=by
 have hi:=eU h;unfold pL;rw[Uy _ _ (by simp;omega),show i-(l.take i).length=0 by simp;omega,show 4-i=(4-(i+1))+1 by omega,VN,TM,VP,h];simp
theorem afb{l:List Nat}{i:Nat}(hi:i<=l.length)(hl:l.length<=4):(pL l i).length=4:=by simp[pL];omega
theorem afa{l:List Nat}:pL l l.length=l++TG (4-l.length) 0:=by simp[pL]
end Tk
theorem Rg{H L:List aa}{c c':aa}(h:bL (H++(L++[c])))(hc:∀n,eR n c'):bL (H++(L++[c'])):=λz hz=>by
 have hl:(H++(L++[c'])).length=(H++(L++[c])).length:=by simp
 rw[hl];rcases SN.1 hz with h'|h'
 ·exact h z (Tb _ h')
 ·rcases SN.1 h' with h'|h'
  ·exact h z (SZ _ (Tb _ h'))
  ·rw[S5.1 h'];exact hc _
theorem aaQ(l:List Nat)(t n:Nat):eR n (.cells (l.map λn=>wv n) t):=by
 intro a ha;obtain⟨x,_,rfl⟩:=Th.1 ha;exact .val _
theorem am0(l:List Int)(t n:Nat):eR n (.cells (l.map iv) t):=by
 intro a ha;obtain⟨x,_,rfl⟩:=Th.1 ha;exact .val _
section
variable {lv:Bool}
theorem ahH{H:List aa}{k kp:AV->List aa->Prop}{x:ai}{h:List Int}(hk:k (.fn (.func 106) [] [.op (H.length+1) 0, .op H.length 0]) (H++[.cells x.l 76, .cells (h.map iv) 83])):bi lv SD 92 H [x.av, .agg (h.map iv)] k kp:=by
 refine bI (rs:=[.tmp 4]) (nt:=6) Tryz.f92 λhH hA=> ?_;simp only[bp,SS,ai.av];refine ak ?_;refine aj ?_;simp only[seval,TS,Um,T5,TD];refine a_ ?_;exact bY hk
theorem agT{x:ai}{h:List Int}{N ir ih:Nat}{yv pv:AV}{S:Type}{f:S->List Int->dD S}{Gf:S->List aa}{I:S->Prop}{A:List Int->Prop}{σ:S}{k kp:AV->List aa->Prop}(hx:x.Ok)(hh:jz h)(hY:jP lv SD yv f Gf N I A pv)(hr:∀σ L,(Gf σ++L)[ir]?=some (.cells x.l 76))(hi:∀σ L,(Gf σ++L)[ih]?=some (.cells (h.map iv) 83))
  (me:∀n,Lt n pv) (hI:I σ) (hA:∀a∈(gp x h).map (eg h),A a) (hk:gv Gf pv k kp [] (bF f ((gp x h).map (eg h)) σ)):bi lv SD 106 (Gf σ) [yv, .op ih 0, .op ir 0] k kp:=by
 refine bI (rs:=[]) (nt:=45) Tryz.f106 λhH tT=> ?_;simp only[bp,SS];have hN:=hY.len σ;have oC:=hx.dI;have bQ:x.l=[iv x.first,iv x.hours,iv x.am,ej x.seen,bk x.pieces,bk x.aB]:=rfl;obtain⟨a,b,c,d,rfl,ha,hb,hc,hd,hs⟩:=hh.out;have okH:∀L:List aa,(∀z∈L,∀n,eR n z)->bL (Gf σ++L):=λL hL z hz=>by
  rcases SN.1 hz with h|h
  ·exact(hH z h).mono (by simp)
  ·exact hL z h _
 refine aj ?_;simp only[seval,hY.parts];refine aj ?_;simp only[seval,hi];refine ak ?_;refine cN ?_;refine gM 4 (λi:Nat=>[(13,iv i)]) (λi=>Gf σ++[.cells [yv] 132, .cells ((jf [a,b,c,d,0,0,0,0,0,0,0] 4 i (-1)).map iv) 86]) (λi=>True) (λ_ _=>rfl) (by simp only[seval];simp[bB,Wk.refl]) rfl (λ_ _ _=>by simp) trivial (λcm dF i cw _ R hR=> ?_);refine ak ?_;refine aC ?_;refine⟨λhc=> ?_,λhc=> ?_⟩
 ·have bE:i<4:=by omega
  have b4:(0<=(i:Int)/\(i:Int)<4)=True:=by simp;omega
  have bX:SE.wrap ((i:Int)+1)=((i+1:Nat):Int):=by rw[bD _ (by omega)];rfl
  have ma:(jf [a,b,c,d,0,0,0,0,0,0,0] 4 i (-1)).length=11:=Eg (by show 4+i<=11;omega);have mb:((jf [a,b,c,d,0,0,0,0,0,0,0] 4 i (-1)).map iv).length=11:=by rw[Tj,ma]
  refine aP ?_;refine ak ?_;refine aj ?_;simp only[seval,b4,mb];refine⟨by omega, ?_⟩;rw[wh (show 4+i<(jf [a,b,c,d,0,0,0,0,0,0,0] 4 i (-1)).length by omega),IM (by show 4+i<11;omega)];refine aj ?_;simp only[seval,bX];exact hR _ ⟨bE,trivial,dR⟩
 have:i=4:=by omega
 subst this;clear hc cw;refine cq ?_;refine ak ?_;rw[show jf [a,b,c,d,0,0,0,0,0,0,0] 4 4 (-1)=[a,b,c,d, -1, -1, -1, -1,0,0,0]from rfl];refine cN ?_;refine gM 3 (λi:Nat=>[(20,iv i)]) (λi=>Gf σ++[.cells [yv] 132, .cells ((jf [a,b,c,d, -1, -1, -1, -1,0,0,0] 8 i (-1)).map iv) 86]) (λi=>True) (λ_ _=>rfl) (by simp only[seval];simp[bB,Wk.refl]) rfl (λ_ _ _=>by simp) trivial (λcm dF i cw _ R hR=> ?_);refine ak ?_;refine aC ?_;refine⟨λhc=> ?_,λhc=> ?_⟩
 ·have bE:i<3:=by omega
  have b4:(0<=(i:Int)/\(i:Int)<3)=True:=by simp;omega
  have bX:SE.wrap ((i:Int)+1)=((i+1:Nat):Int):=by rw[bD _ (by omega)];rfl
  have ma:(jf [a,b,c,d, -1, -1, -1, -1,0,0,0] 8 i (-1)).length=11:=Eg (by show 8+i<=11;omega);have mb:((jf [a,b,c,d, -1, -1, -1, -1,0,0,0] 8 i (-1)).map iv).length=11:=by rw[Tj,ma]
  refine aP ?_;refine ak ?_;refine aj ?_;simp only[seval,b4,mb];refine⟨by omega, ?_⟩;rw[wh (show 8+i<(jf [a,b,c,d, -1, -1, -1, -1,0,0,0] 8 i (-1)).length by omega),IM (by show 8+i<11;omega)];refine aj ?_;simp only[seval,bX];exact hR _ ⟨bE,trivial,dR⟩
 have:i=3:=by omega
 subst this;clear hc cw;refine cq ?_;rw[show jf [a,b,c,d, -1, -1, -1, -1,0,0,0] 8 3 (-1)=[a,b,c,d, -1, -1, -1, -1, -1, -1, -1]from rfl];refine ak ?_;refine aj ?_;simp only[seval,hr,bQ,bk];refine cN ?_;refine gM x.pieces.length (λi:Nat=>[(31,iv i)]) (λi=>Gf σ++[.cells [yv] 132, .cells ([a,b,c,d, -1, -1, -1, -1, -1, -1, -1].map iv) 86, .cells ((pL (x.pieces.map (bZ [a,b,c,d])) i).map λn=>wv n) 80]) (λi=>True) (λ_ _=>rfl) (by simp only[seval];simp[bB,Wk.refl]) rfl (λ_ _ _=>by simp) trivial (λcm dF i cw _ R hR=> ?_);refine ak ?_;refine aC ?_;refine⟨λhc=> ?_,λhc=> ?_⟩
 ·have bE:i<x.pieces.length:=by omega
  obtain⟨y,hy⟩:=cG bE;have uq:(x.pieces.map (bZ [a,b,c,d]))[i]?=some (bZ [a,b,c,d] y):=by rw[Ti,hy];rfl
  have b4:(0<=(i:Int)/\(i:Int)<4)=True:=by simp;omega
  have bX:SE.wrap ((i:Int)+1)=((i+1:Nat):Int):=by rw[bD _ (by omega)];rfl
  have cP:(pL (x.pieces.map (bZ [a,b,c,d])) i).length=4:=afb (by simp;omega) (by simpa using oC);have vC:((pL (x.pieces.map (bZ [a,b,c,d])) i).map λn=>wv n).length=4:=by rw[Tj,cP]
  refine aP ?_;refine aj ?_;simp only[seval,GG hy,jQ bE];refine aj ?_;simp only[seval,hi,b4];refine aL ((Ef (h:=[a,b,c,d]) (y:=y) hh ?_));(try simp only[seval,b4,vC]);refine⟨by omega, ?_⟩;rw[MG (g:=λn=>wv n) (show i<(pL (x.pieces.map (bZ [a,b,c,d])) i).length by omega),afc uq (by simpa using oC)];refine aj ?_;simp only[seval,bX];exact hR _ ⟨bE,trivial,Aa (oE rfl rfl) (by simp only[seval];simp[bB,Wk.refl]) (Rg (L:=[_,_]) cm (aaQ _ _)) (by simp[eK])⟩
 have:i=x.pieces.length:=by omega
 subst this;clear hc cw;refine cq ?_;refine ak ?_;refine aj ?_;simp only[seval,TS,Um,T5,TD];refine ak ?_;have sQ:pL (x.pieces.map (bZ [a,b,c,d])) x.pieces.length=x.pieces.map (bZ [a,b,c,d])++TG (4-x.pieces.length) 0:=by
  have:=afa (l:=x.pieces.map (bZ [a,b,c,d]));simpa using this
 refine aL (?_);rw[hN];have rH:∀n,Lt n (.aK []):=λn=>by simp[iV]
 have hT0:∀eG,oR [a,b,c,d] x.pieces.length 0 [] eG->True:=λ_ _=>trivial;refine agU (x:=x) (h:=[a,b,c,d]) hx rfl hY hr sQ x.pieces.length 0 0 [] [a,b,c,d, -1, -1, -1, -1, -1, -1, -1] σ [] _ _ rfl (by decide) rfl ⟨rfl,rfl, ?_⟩ hI hA (λeG sC=> ?_)
 ·have:x.pieces.length=0\/x.pieces.length=1\/x.pieces.length=2\/x.pieces.length=3\/x.pieces.length=4:=by omega
  rcases this with e|e|e|e|e<;>rw[e]<;>rfl
 change cX Gf pv _ _ _ (bF f ((gp x [a,b,c,d]).map (eg [a,b,c,d])) σ);cases hf:bF f ((gp x [a,b,c,d]).map (eg [a,b,c,d])) σ with
 |go s=>
  rw[hf]at hk;simp only[cX,gv]at hk⊢;rw[SI]at hk;(try simp only[seval]);rw[<- hN];exact uH hY hH rH hk
 |stop s=>
  rw[hf]at hk;simp only[cX,gv]at hk⊢;rw[SI]at hk;(try simp only[seval]);rw[<- hN];exact uH hY hH rH hk
 |bad s=>
  rw[hf]at hk;simp only[cX,gv]at hk⊢;rw[SI]at hk;rw[<- hN];exact uH hY hH me hk
end
open Go.Conc Go.Proofs Go.Gg.Tk
namespace Tk
structure nY (h:List Int)(ns:List Nat)(k s:Nat)(o:List Nat)(tc:List Int):Prop where
 len:tc.length=11
 pre:tc.take (8+s)=h++lq 4 ns++o.map λn:Nat=>(n:Int)
 tl:tc.drop (8+k)=TG (3-k) (-1)
theorem nY.all{h:List Int}{ns:List Nat}{k:Nat}{o:List Nat}{tc:List Int}(ho:o.length=k)(n:nY h ns k k o tc):tc=dB h ns o:=by
 have:=UR (8+k) tc;rw[n.pre,n.tl]at this;rw[<- this];unfold dB
 conv=>rhs;unfold lq
 rw[ho,SC];rfl
theorem zZ{k:Nat}{l:List Nat}(h:l.length<=k):(lq k l).length=k:=by simp[lq];omega
theorem nY.back{h:List Int}{ns:List Nat}{k s:Nat}{o:List Nat}{n:Nat}{tc:List Int}(h4:h.length=4)(hn:ns.length<=4)(ho:o.length=s)(q:nY h ns k (s+1) (o++[n]) tc):nY h ns k s o tc:=by
 refine⟨q.len, ?_,q.tl⟩;have e:tc.take (8+s)=(tc.take (8+(s+1))).take (8+s):=by rw[US];congr 1;omega
 have hp:=zZ hn;rw[e,q.pre,Tv,<- SC,Tq (by simp[h4,ho,hp];omega),SW (by simp[h4,ho,hp];omega)]
theorem nY.next{h:List Int}{ns:List Nat}{k s:Nat}{o:List Nat}{n:Nat}{tc:List Int}(hp:s<k)(hk:k<=3)(q:nY h ns k s o tc):nY h ns k (s+1) (o++[n]) (tc.set (8+s) (n:Int)):=by
 refine⟨by rw[TF];exact q.len, ?_, ?_⟩
 ·rw[show 8+(s+1)=(8+s)+1 by omega,MS (by rw[q.len];omega),q.pre];simp
 ·rw[OQ (by omega)];exact q.tl
theorem nY.num{h:List Int}{ns:List Nat}{k s p:Nat}{o:List Nat}{tc:List Int}(h4:h.length=4)(hn:ns.length<=4)(hp:p<ns.length)(q:nY h ns k s o tc):tc[4+p]?=some ((ns.getD p 0:Nat):Int):=by
 have h1:(tc.take (8+s))[4+p]?=some ((ns.getD p 0:Nat):Int):=by
  rw[q.pre,SC,Tg (by omega),h4,show 4+p-4=p by omega,SY (by rw[zZ hn];omega)];unfold lq;rw[SY (by simpa using hp),Ti,SF,SV hp];rfl
 rwa [TY,if_pos (by omega)]at h1
theorem ane{h:List Int}{ns:List Nat}{k q:Nat}{qs:List Nat}{u:Nat}{o:List Nat}:(mu k ns (q::qs) u o).map (dB h ns)=(SX k).flatMap λp=>if u.testBit p|| !q.testBit (ns.getD p 0)then[]else(mu k ns qs (u|||2^p) (o++[p])).map (dB h ns):=by
 rw[mu,U3];congr 1;funext n;split<;>rfl
end Tk
open Go.Conc Go.Proofs Go.Gg.Tk
section
variable {lv:Bool}
def xS (yv:AV)(N ir it is:Nat):List aa:=[.cells [yv] 132, .cells [.fn (.func 109) [] [.op ir 0, .op N 0, .op it 0, .op is 0, .op (N+1) 0]] 157]
theorem agW{x:ai}{h:List Int}{ns qs:List Nat}{N ir it is:Nat}{yv pv:AV}{S:Type}{f:S->List Int->dD S}{Gf:List Int->S->List aa}{I:S->Prop}{A:List Int->Prop}(hx:x.Ok)(h4:h.length=4)(ji:ns.length=x.pieces.length)(hY:∀tc,jP lv SD yv f (Gf tc) N I A pv)(hr:∀tc σ L,(Gf tc σ++L)[ir]?=some (.cells x.l 76))
  (ht:∀tc σ L,(Gf tc σ++L)[it]?=some (.cells (tc.map iv) 86)) (di:∀tc eG σ L,(Gf tc σ++L).set it (.cells (eG.map iv) 86)=Gf eG σ++L) (hs:∀tc σ L,(Gf tc σ++L)[is]?=some (.cells (qs.map λn=>wv n) 81)) (zu:∃r,qs=x.aB.map (bZ h)++r) (xy:qs.length=3):
  ∀(d s u:Nat)(o:List Nat)(tc:List Int)(σ:S)(M:List aa)(k kp:AV->List aa->Prop),d+s=x.aB.length->u<65536->o.length=s->nY h ns x.aB.length s o tc->I σ->(∀a∈(mu x.pieces.length ns ((x.aB.map (bZ h)).drop s) u o).map (dB h ns),A a)->
   (∀eG,nY h ns x.aB.length s o eG->cX (Gf eG) pv k kp (xS yv N ir it is++M) (bF f ((mu x.pieces.length ns ((x.aB.map (bZ h)).drop s) u o).map (dB h ns)) σ))->
   bi lv SD 109 (Gf tc σ++(xS yv N ir it is++M)) [iv s,wv u, .op ir 0, .op N 0, .op it 0, .op is 0, .op (N+1) 0] k kp:=by
 intro d;induction d with
 |zero=>
  intro s u o tc σ M k kp o6 hu ho hT hI hA hk;refine bI (rs:=[.tmp 9]) (nt:=54) Zl λhH tT=> ?_;simp only[bp,SS];have bQ:x.l=[iv x.first,iv x.hours,iv x.am,ej x.seen,bk x.pieces,bk x.aB]:=rfl;have g0:∀(tc:List Int)(σ:S)(L:List aa),(Gf tc σ++L)[N]?=L[0]?:=λtc σ L=>(hY tc).get σ L 0;have dQ:s=x.aB.length:=by omega
  have vE:(x.aB.map (bZ h)).drop s=[]:=TK (by simp;omega);rw[vE,mu]at hA hk;rw[Yk]at hA hk;rw[Mw]at hk;have xC:tc=dB h ns o:=by subst dQ;exact hT.all ho
  have j_:(tc.map iv).length=11:=by rw[Tj,hT.len]
  refine ak ?_;refine aj ?_;simp only[seval,hr,bQ,bk];refine aC ?_;refine⟨λhc=> ?_,λhc=>by exfalso;simp at hc;omega⟩;refine aj ?_;simp only[seval,g0,ht,xS,j_];rw[SW (i:=11) (l:=tc.map iv) (by rw[j_];exact SO _)];rw[<- xC]at hA hk;have aI:=hk tc hT;refine wR ((hY tc).call σ tc (xS yv N ir it is++M) _ _ hI (hA _ (by simp)) ?_);cases hf:f σ tc with
  |go σ'=>
   rw[hf]at aI;simp only[cX]at aI⊢;(try simp only[seval]);refine a_ ?_;exact bY aI
  |stop σ'=>
   rw[hf]at aI;simp only[cX]at aI⊢;(try simp only[seval]);refine a_ ?_;exact bY aI
  |bad σ'=>
   rw[hf]at aI;simp only[cX]at aI⊢;exact bY aI
 |succ d ihd=>
  intro s u o tc σ M k kp o6 hu ho hT hI hA hk;refine bI (rs:=[.tmp 9]) (nt:=54) Zl λhH tT=> ?_;simp only[bp,SS];have bQ:x.l=[iv x.first,iv x.hours,iv x.am,ej x.seen,bk x.pieces,bk x.aB]:=rfl;have g1:∀(tc:List Int)(σ:S)(L:List aa),(Gf tc σ++L)[N+1]?=L[1]?:=λtc σ L=>(hY tc).get σ L 1;have oC:=hx.dI;have xA:=hx.fD;obtain⟨y,hy⟩:=cG (xs:=x.aB) (i:=s) (by omega);have uq:(x.aB.map (bZ h))[s]?=some (bZ h y):=by rw[Ti,hy];rfl
  have jl:qs[s]?=some (bZ h y):=by obtain⟨r,e⟩:=zu;rw[e,SY (by simp;omega)];exact uq
  have mf:bZ h y<65536:=VH (Pm h y) (by decide);have aE:¬(s:Int)=(x.aB.length:Int):=by omega
  rw[vf uq,ane]at hA hk;generalize hg:(λp=>if u.testBit p|| !(bZ h y).testBit (ns.getD p 0)then[]else(mu x.pieces.length ns ((x.aB.map (bZ h)).drop (s+1)) (u|||2^p) (o++[p])).map (dB h ns))=g at hA hk;refine ak ?_;refine aj ?_;simp only[seval,hr,bQ,bk];refine aC ?_;refine⟨λhc=>by exfalso;exact aE (by simpa using hc),λhc=> ?_⟩;refine aP ?_;refine aj ?_;simp only[seval,hr,bQ,bk];refine cN ?_;refine wN (measure λm:Nat×S×List Int=>x.pieces.length-m.1).wf (λm=>[(24,iv (m.1:Nat))]) (λm=>Gf m.2.2 m.2.1++(xS yv N ir it is++M)) (λm=>m.1<=x.pieces.length/\bF f ((SX m.1).flatMap g) σ= .go m.2.1/\nY h ns x.aB.length s o m.2.2) (0,σ,tc) (λ_ _=>rfl) (by intro p hp;simp at hp;subst hp;exact⟨_,rfl,Wk.refl _⟩) rfl (λ_ _=>by simp[xS,(hY _).len]) ⟨by omega,rfl,hT⟩ (λcm dF m ay R hR=> ?_);obtain⟨i,τ,tq⟩:=m;obtain⟨hi,bK,lF⟩:=ay;replace hi:i<=x.pieces.length:=hi;replace bK:bF f ((SX i).flatMap g) σ= .go τ:=bK;replace lF:nY h ns x.aB.length s o tq:=lF;refine ak ?_;refine aC ?_;refine⟨λhc=> ?_,λhc=> ?_⟩
  ·have bE:i<x.pieces.length:=(by omega);have bX:SE.wrap ((i:Int)+1)=((i+1:Nat):Int):=(by rw[bD _ (by omega)];rfl);have hws:SE.wrap ((s:Int)+1)=((s+1:Nat):Int):=(by rw[bD _ (by omega)];rfl);have ry:=IX g bE;have sS:=IY g i;have Bz:I τ:=Ab (A:=A) (hY tc).inv _ σ τ (λa ha=>hA a (by rw[ry];exact Tb _ ha)) hI bK;have b3:(0<=(s:Int)/\(s:Int)<3)=True:=(by simp;omega);have b4:(0<=(i:Int)/\(i:Int)<4)=True:=(by simp;omega);have C5:(u.testBit i|| !(bZ h y).testBit (ns.getD i 0))=true->g i=[]:=λe=>(by rw[<- hg];exact if_pos e);have I5:(u.testBit i|| !(bZ h y).testBit (ns.getD i 0))=false->g i=(mu x.pieces.length ns ((x.aB.map (bZ h)).drop (s+1)) (u|||2^i) (o++[i])).map (dB h ns):=λe=>(by rw[<- hg];exact if_neg (by rw[e];simp));have Re:=lF.num h4 (by omega) (show i<ns.length by omega);refine aP ?_;refine ak ?_;refine eS 14 ?_;simp only[seval,ht,hs,b3,b4,yG jl,j7 Re];refine iH (bv (u.testBit i)) (bT (w5 hu ⟨rfl,rfl⟩)) ?_;(try simp only[seval]);refine w7 (λh2=> ?_) (λh2=> ?_)
   ·(try simp only[seval,ht,hs,b3,b4,yG jl,j7 Re]);refine iH (bv ((bZ h y).testBit (ns.getD i 0))) (bT (w5 mf ⟨rfl,rfl⟩)) ?_;(try simp only[seval]);refine aC ?_;refine⟨λh3=> ?_,λh3=> ?_⟩
    ·have aM:=C5 (by rw[h2];simpa using h3);refine cq ?_;refine aj ?_;simp only[seval,bX];exact hR _ ⟨(i+1,τ,tq),(by show x.pieces.length-(i+1)<x.pieces.length-i;omega),⟨by omega,by rw[sS,aM,SI];exact bK,lF⟩,dR⟩
    ·have aM:=I5 (by rw[h2];simpa using h3);have j_:(tq.map iv).length=11:=(by rw[Tj,lF.len]);have HR:8+s<tq.length:=(by rw[lF.len];omega);refine aP ?_;refine aj ?_;simp only[seval,ht,b3,j_];refine⟨by omega, ?_⟩;rw[wh HR,di];refine eS 6 ?_;simp only[seval,g1,xS];refine iH (wv (u|||2^i)) (bT (tR hu (show i<16 by omega) ⟨rfl,rfl⟩)) ?_;rw[hws];have lP:u|||2^i<65536:=pA hu (wn (by omega));refine aL ((ihd (s+1) (u|||2^i) (o++[i]) (tq.set (8+s) (i:Int)) τ M _ _ (by omega) lP (by simp[ho]) (lF.next (by omega) xA) Bz (λa ha=>hA a (by rw[ry,aM];exact SZ _ (Tb _ ha))) (λeG sC=> ?_)));have BC:=sC.back h4 (by omega) ho;have zC:bF f ((SX x.pieces.length).flatMap g) σ=match bF f (g i) τ with
       | .go s'=>bF f ((TU (i+1) (x.pieces.length-(i+1))).flatMap g) s'
       |r=>r:=by
      rw[ry,qu,bK];exact qu f (g i) _ τ
     rw[<- aM];have aI:=hk eG BC;rw[zC]at aI;cases hf:bF f (g i) τ with
     |go τ'=>
      simp only[cX];(try simp only[seval]);refine aC ?_;refine aP ?_;refine aj ?_;simp only[seval,bX];exact hR _ ⟨(i+1,τ',eG),(by show x.pieces.length-(i+1)<x.pieces.length-i;omega),⟨by omega,by rw[sS,qu,bK];exact hf,BC⟩,dR⟩
     |stop τ'=>
      rw[hf]at aI;simp only[cX]at aI⊢;(try simp only[seval]);refine aC ?_;refine ak ?_;refine a_ ?_;exact bY aI
     |bad τ'=>
      rw[hf]at aI;simp only[cX]at aI⊢;exact bY aI
   ·(try simp only[seval]);refine aC ?_;have aM:=C5 (by rw[show u.testBit i=true by simpa using h2];rfl);refine cq ?_;refine aj ?_;simp only[seval,bX];exact hR _ ⟨(i+1,τ,tq),(by show x.pieces.length-(i+1)<x.pieces.length-i;omega),⟨by omega,by rw[sS,aM,SI];exact bK,lF⟩,dR⟩
  ·have dK:i=x.pieces.length:=(by omega);subst dK;have aI:=hk tq lF;rw[bK]at aI;refine cq ?_;refine ak ?_;refine a_ ?_;exact bY aI
theorem ahI{H:List aa}{k kp:AV->List aa->Prop}{x:ai}{tc:List Int}{qs:List Nat}(hk:k (.fn (.func 108) [] [.op H.length 0, .op (H.length+1) 0, .op (H.length+2) 0]) (H++[.cells x.l 76, .cells (tc.map iv) 86, .cells (qs.map λn=>wv n) 81])):bi lv SD 93 H [x.av, .agg (tc.map iv), .agg (qs.map λn=>wv n)] k kp:=by
 refine bI (rs:=[.tmp 6]) (nt:=8) Tryz.f93 λhH hA=> ?_;simp only[bp,SS,ai.av];refine ak ?_;refine aj ?_;simp only[seval,TS,Um,T5,TD];refine a_ ?_;exact bY hk
theorem agV{x:ai}{h:List Int}{ns qs:List Nat}{N ir it is:Nat}{yv pv:AV}{S:Type}{f:S->List Int->dD S}{Gf:List Int->S->List aa}{I:S->Prop}{A:List Int->Prop}{tc:List Int}{σ:S}{k kp:AV->List aa->Prop}(hx:x.Ok)(h4:h.length=4)(ji:ns.length=x.pieces.length)(hY:∀tc,jP lv SD yv f (Gf tc) N I A pv)(hr:∀tc σ L,(Gf tc σ++L)[ir]?=some (.cells x.l 76))
  (ht:∀tc σ L,(Gf tc σ++L)[it]?=some (.cells (tc.map iv) 86)) (di:∀tc eG σ L,(Gf tc σ++L).set it (.cells (eG.map iv) 86)=Gf eG σ++L) (hs:∀tc σ L,(Gf tc σ++L)[is]?=some (.cells (qs.map λn=>wv n) 81)) (zu:∃r,qs=x.aB.map (bZ h)++r) (xy:qs.length=3)
  (ay:∀m tc eG σ,(∀z∈Gf tc σ,eR m z)->∀z∈Gf eG σ,eR m z) (me:∀n,Lt n pv) (xC:tc=eg h ns) (hI:I σ) (hA:∀a∈(iu x h ns).map (dB h ns),A a) (hk:∀eG,eG.length=11->gv (Gf eG) pv k kp [] (bF f ((iu x h ns).map (dB h ns)) σ)):bi lv SD 108 (Gf tc σ) [yv, .op ir 0, .op it 0, .op is 0] k kp:=by
 refine bI (rs:=[]) (nt:=9) Tryz.f108 λhH tT=> ?_;simp only[bp,SS];have hN:=(hY tc).len σ;have oC:=hx.dI;have xA:=hx.fD;refine aj ?_;simp only[seval,(hY tc).parts];refine ak ?_;refine aj ?_;simp only[seval,TS,Um,T5,TD];refine ak ?_;refine aL (?_);rw[hN];have rH:∀n,Lt n (.aK []):=λn=>by simp[iV]
 have dQ:=zZ (k:=4) (l:=ns) (by omega);have cut:∀(eG:List Int)(σ':S)(L:List aa)(a:AV)(k:AV->List aa->Prop),(∀n,Lt n a)->k a (Gf eG σ')->cy (Gf tc σ).length (Gf eG σ'++L) a k:=λeG σ' L a k ha aI=>by
  refine jT (H':=Gf eG σ') (Wk.refl _) rfl (by rw[(hY eG).len,(hY tc).len];exact SO _) ?_ (ha _) aI;intro z hz;have h1:∀z∈Gf eG σ,eR N z:=ay N tc eG σ (λw hw=>by have:=hH w hw;rwa [hN]at this);rw[(hY eG).len];exact(hY eG).ok N σ σ' h1 z hz
 refine agW (x:=x) (h:=h) (ns:=ns) (qs:=qs) hx h4 ji hY hr ht di hs zu xy x.aB.length 0 0 [] tc σ [] _ _ rfl (by decide) rfl ⟨?_, ?_, ?_⟩ hI hA (λeG sC=> ?_)
 ·rw[xC];simp[eg,h4,dQ]
 ·rw[xC];unfold eg;rw[List.map_nil,SI,Tq (by simp[h4,dQ]),SW (by simp[h4,dQ])]
 ·rw[xC];unfold eg;rw[U4,TK (by simp[h4,dQ]),Up];have:(h++lq 4 ns).length=8:=by simp[h4,dQ]
  rw[this];have:x.aB.length=0\/x.aB.length=1\/x.aB.length=2\/x.aB.length=3:=by omega
  rcases this with e|e|e|e<;>rw[e]<;>rfl
 have hk:=hk eG sC.len;change cX (Gf eG) pv _ _ _ (bF f ((iu x h ns).map (dB h ns)) σ);cases hf:bF f ((iu x h ns).map (dB h ns)) σ with
 |go s=>
  rw[hf]at hk;simp only[cX,gv]at hk⊢;rw[SI]at hk;(try simp only[seval]);rw[<- hN];exact cut _ _ _ _ _ rH hk
 |stop s=>
  rw[hf]at hk;simp only[cX,gv]at hk⊢;rw[SI]at hk;(try simp only[seval]);rw[<- hN];exact cut _ _ _ _ _ rH hk
 |bad s=>
  rw[hf]at hk;simp only[cX,gv]at hk⊢;rw[SI]at hk;rw[<- hN];exact cut _ _ _ _ _ me hk
end
section
variable {lv:Bool}{P:Program}{s:AS}{ms:List Nat}{bs:List Deferred}{nt:Nat}
theorem aeU{f:Operand}{ps:Array Tmp}{bM body:Code}{fv:AV}{Φ:ao->AS->List Nat->Prop}(hf:s.ev f=some fv)
  (h:∀(l fn:Nat)(T:List (Nat×AV))(ag bo:Code),T=s.T->ag=bM->bo=body->ja lv P fv (s.H++[.obj (.deferred (some [])), .loop l .ready none fn T nt ps ag bo s.H.length]) [.fn (.yield l) [] []]
   (λ_ H'=>∃st pe fL T' jp gJ gw fE gz,H'[s.H.length+1]?=some (.loop l st pe fL T' jp gJ gw fE gz)/\st≠ .busy/\sf Φ ⟨s.T,H'.set (s.H.length+1) .gone⟩ (s.H.length::ms) pe)
   (λpv H'=>Φ (.panic pv) ⟨s.T,H'⟩ (s.H.length::ms))):mB lv P nt (.rangeFunc f ps bM body) s ms Φ:=aeT hf λl fn=>h l fn _ _ _ rfl rfl rfl
theorem HP{f:Operand}{ps:Array Tmp}{bM body:Code}{fv:AV}{Φ:ao->AS->List Nat->Prop}(hf:s.ev f=some fv)
  (h:∀(l fn:Nat)(T:List (Nat×AV))(ag bo:Code),T=s.T->ag=bM->bo=body->ja lv P fv (s.H++[.obj (.deferred (some [])), .loop l .ready none fn T nt ps ag bo s.H.length]) [.fn (.yield l) [] []]
   (λ_ H'=>∃st pe fL T' jp gJ gw fE gz,H'[s.H.length+1]?=some (.loop l st pe fL T' jp gJ gw fE gz)/\st≠ .busy/\sf Φ ⟨s.T,H'.set (s.H.length+1) .gone⟩ (s.H.length::ms) pe)
   (λpv H'=>Φ (.panic pv) ⟨s.T,H'⟩ (s.H.length::ms))):kA lv P nt bs (.rangeFunc f ps bM body) s ms Φ:=aeX hf λl fn=>h l fn _ _ _ rfl rfl rfl
theorem DY{f:Operand}{ps:Array Tmp}{bM body:Code}{fv:AV}{Φ:ao->AS->Prop}{l0:Nat}(FK:Nat){IZ LJ df:Nat}{ML:LoopState}{L4:Option Code}{T0:List (Nat×AV)}{Mm:Array Tmp}{HI HU:Code}(hf:s.ev f=some fv)(h0:s.H[FK]?=some (.loop l0 ML L4 IZ T0 LJ Mm HI HU df))
  (h:∀(l fn:Nat)(T:List (Nat×AV))(ag bo:Code),T=s.T->ag=bM->bo=body->ja lv P fv (s.H++[.loop l .ready none fn T nt ps ag bo df]) [.fn (.yield l) [] []]
   (λ_ H'=>∃st pe fL T' jp gJ gw fE gz,H'[s.H.length]?=some (.loop l st pe fL T' jp gJ gw fE gz)/\st≠ .busy/\tD Φ ⟨s.T,H'.set s.H.length .gone⟩ pe)
   (λpv H'=>Φ (.panic pv) ⟨s.T,H'⟩)):aY lv P (some l0) nt (.rangeFunc f ps bM body) s Φ:=aeI hf h0 λl fn=>h l fn _ _ _ rfl rfl rfl
end
section
variable {P:Program}
theorem Gq(Φ:ao->AS->List Nat->Prop)(s:AS)(ms:List Nat):sf Φ s ms none=Φ .normal s ms:=by rw[sf]
theorem anC(Φ:ao->AS->List Nat->Prop)(s:AS)(ms:List Nat):sf Φ s ms (some .ret)=Φ .ret s ms:=by rw[sf]
theorem Gr(Φ:ao->AS->Prop)(s:AS):tD Φ s none=Φ .normal s:=by rw[tD]
theorem anE(Φ:ao->AS->Prop)(s:AS):tD Φ s (some .ret)=Φ .ret s:=by rw[tD]
theorem anD(Φ:ao->AS->Prop)(s:AS)(i:Nat):tD Φ s (some (.exit i))=Φ (.exit i) s:=by rw[tD]
theorem afg(id:Nat)(Φ:ao->AS->List Nat->Prop)(s:AS)(ms:List Nat):ao.pM id Φ .ret s ms=Φ .ret s ms:=by rw[ao.pM];simp
theorem aff(id:Nat)(Φ:ao->AS->List Nat->Prop)(pv:AV)(s:AS)(ms:List Nat):ao.pM id Φ (.panic pv) s ms=Φ (.panic pv) s ms:=by rw[ao.pM];simp
theorem apR(Φ:ao->AS->List Nat->Prop)(pv:AV)(s:AS)(ms:List Nat):ao.uL Φ (.panic pv) s ms=Φ (.panic pv) s ms:=by rw[ao.uL];simp
theorem aqx(K:AS->List Nat->Prop)(Φ:ao->AS->List Nat->Prop)(pv:AV)(s:AS)(ms:List Nat):ao.rR K Φ (.panic pv) s ms=Φ (.panic pv) s ms:=by rw[ao.rR];simp
theorem aia(rs:List ResultVar)(n:Nat)(k kp:AV->List aa->Prop)(s:AS)(ms:List Nat):r6 P rs n k kp .normal s ms=an (iN ms s.H) λH'=>an (hZ P ⟨s.T,H'⟩ rs) λl=>cy n H' (iY l) k:=by rw[r6]
theorem aib(rs:List ResultVar)(n:Nat)(k kp:AV->List aa->Prop)(pv:AV)(s:AS)(ms:List Nat):r6 P rs n k kp (.panic pv) s ms=an (iN ms s.H) λH'=>cy n H' pv kp:=by rw[r6]
attribute [seval] afg aff apR aqx aia aib
end
inductive Lp where
 |ready
 |ret
 |exit (i:Nat)
 |busy
def Lp.st:Lp->LoopState
 | .ready=> .ready
 | .ret=> .done
 | .exit _=> .done
 | .busy=> .busy
def Lp.pe:Lp->Option Code
 | .ready=>none
 | .ret=>some .ret
 | .exit i=>some (.exit i)
 | .busy=>none
namespace Tk
def dD.map {S T:Type}(g:S->T):dD S->dD T
 | .go s=> .go (g s)
 | .stop s=> .stop (g s)
 | .bad s=> .bad (g s)
def dD.fin {S:Type}:dD S->Bool×S
 | .go s=>(false,s)
 | .stop s=>(false,s)
 | .bad s=>(true,s)
end Tk
theorem Mt{S:Type}{Gf:S->List aa}{pv:AV}{k kp:AV->List aa->Prop}{M:List aa}{r r':dD S}(h:r.fin=r'.fin)(hk:gv Gf pv k kp M r):gv Gf pv k kp M r':=by
 cases r<;>cases r'<;>simp only[dD.fin,UH]at h<;>first
  |(obtain⟨_,rfl⟩:=h;exact hk)
  |(exact absurd h.1 (by decide))
end Go.Gg
namespace Go.Gg.Tk
open Go.Gg
def iZ {S:Type}(f:S->List Int->dD S)(deep:Int)(m:S×Lp)(b:List Int):dD (S×Lp):=match f m.1 b with
 | .go σ=>if deep=0 then .stop (σ, .ret)else if deep=1 then .stop (σ, .exit 3)else .go (σ, .ready)
 | .stop σ=> .stop (σ, .ret)
 | .bad σ=> .bad (σ, .busy)
def kU {S:Type}:dD (S×Lp)->dD (S×Lp)
 | .go m=> .go (m.1, .ready)
 | .stop (σ, .ret)=> .stop (σ, .ret)
 | .stop (σ,_)=> .go (σ, .ready)
 | .bad m=> .bad (m.1, .busy)
def pD {S:Type}(f:S->List Int->dD S)(deep:Int)(L:List Int->List (List Int))(m:S×Lp)(a:List Int):dD (S×Lp):=kU (bF (iZ f deep) (L a) (m.1, .ready))
def rK (deep:Int)(ll:List (List (List Int))):List (List Int):=if deep=0 then ll.flatten.take 1 else if deep=1 then(ll.map (·.take 1)).flatten else ll.flatten
theorem aqL{S:Type}{f:S->List Int->dD S}{σ:S}{l:Lp}:∀(M:List (List Int)),bF (iZ f 0) M (σ,l)=match M with
  |[]=> .go (σ,l)
  |b::_=>match f σ b with
   | .go τ=> .stop (τ, .ret)
   | .stop τ=> .stop (τ, .ret)
   | .bad τ=> .bad (τ, .busy)
 |[]=>rfl
 |b::M=>by
  simp only[bF,iZ];cases f σ b<;>simp
theorem aqM{S:Type}{f:S->List Int->dD S}{σ:S}{l:Lp}:∀(M:List (List Int)),bF (iZ f 1) M (σ,l)=match M with
  |[]=> .go (σ,l)
  |b::_=>match f σ b with
   | .go τ=> .stop (τ, .exit 3)
   | .stop τ=> .stop (τ, .ret)
   | .bad τ=> .bad (τ, .busy)
 |[]=>rfl
 |b::M=>by
  simp only[bF,iZ];cases f σ b<;>simp
theorem acF{S:Type}{f:S->List Int->dD S}{deep:Int}(h0:deep≠0)(h1:deep≠1):∀(M:List (List Int))(σ:S),bF (iZ f deep) M (σ, .ready)=match bF f M σ with
  | .go τ=> .go (τ, .ready)
  | .stop τ=> .stop (τ, .ret)
  | .bad τ=> .bad (τ, .busy)
 |[],σ=>rfl
 |b::M,σ=>by
  simp only[bF,iZ,h0,h1,if_false];cases f σ b with
  |go τ=>exact acF h0 h1 M τ
  |stop τ=>rfl
  |bad τ=>rfl
theorem acG{S:Type}{f:S->List Int->dD S}{deep:Int}{L:List Int->List (List Int)}:∀(l:List (List Int))(σ:S),((bF (pD f deep L) l (σ, .ready)).map Prod.fst).fin=(bF f (rK deep (l.map L)) σ).fin/\(∀m,bF (pD f deep L) l (σ, .ready)= .go m->m.2= .ready)
 |[],σ=>by
  have:rK deep (([]:List (List Int)).map L)=[]:=by
   unfold rK;by_cases h0:deep=0
   ·rw[if_pos h0];rfl
   ·by_cases h1:deep=1
    ·rw[if_neg h0,if_pos h1];rfl
    ·rw[if_neg h0,if_neg h1];rfl
  rw[this];exact⟨rfl,λm h=>by cases h;rfl⟩
 |a::l,σ=>by
  have ih:=acG (f:=f) (deep:=deep) (L:=L) l;by_cases h0:deep=0
  ·subst h0;have hp:rK 0 ((a::l).map L)=(L a++(l.map L).flatten).take 1:=rfl;have lg:rK 0 (l.map L)=((l.map L).flatten).take 1:=rfl;rw[hp];simp only[bF,pD,aqL];cases hL:L a with
   |nil=>
    simp only[kU,Up];rw[<- lg];exact ih σ
   |cons b M=>
    simp only[Vb,Vt,Zr];cases hf:f σ b with
    |go τ=>simp only[kU,bF,hf];exact⟨rfl,λm h=>by cases h⟩
    |stop τ=>simp only[kU,bF,hf];exact⟨rfl,λm h=>by cases h⟩
    |bad τ=>simp only[kU,bF,hf];exact⟨rfl,λm h=>by cases h⟩
  by_cases h1:deep=1
  ·subst h1;have hp:rK 1 ((a::l).map L)=(L a).take 1++rK 1 (l.map L):=rfl;rw[hp,qu];simp only[bF,pD,aqM];cases hL:L a with
   |nil=>
    simp only[kU,List.take_nil,bF];exact ih σ
   |cons b M=>
    simp only[Vt,Zr,bF];cases hf:f σ b with
    |go τ=>simp only[kU];exact ih τ
    |stop τ=>simp only[kU];exact⟨rfl,λm h=>by cases h⟩
    |bad τ=>simp only[kU];exact⟨rfl,λm h=>by cases h⟩
  ·have hp:rK deep ((a::l).map L)=L a++rK deep (l.map L):=(by unfold rK;rw[if_neg h0,if_neg h1,if_neg h0,if_neg h1];rfl);rw[hp,qu];simp only[bF,pD];rw[acF h0 h1];cases hf:bF f (L a) σ with
   |go τ=>simp only[kU];exact ih τ
   |stop τ=>simp only[kU];exact⟨rfl,λm h=>by cases h⟩
   |bad τ=>simp only[kU];exact⟨rfl,λm h=>by cases h⟩
theorem Mx{S α:Type}{F:S->α->dD S}:∀{l:List α}{s s':S},bF F l s= .stop s'->∃t a,F t a= .stop s'
 |[],s,s',h=>by cases h
 |a::l,s,s',h=>by
  simp only[bF]at h;cases hf:F s a with
  |go t=>rw[hf]at h;exact Mx h
  |stop t=>rw[hf]at h;cases h;exact⟨s,a,hf⟩
  |bad t=>rw[hf]at h;cases h
theorem aqK{S:Type}{f:S->List Int->dD S}{deep:Int}{L:List Int->List (List Int)}{m m':S×Lp}{a:List Int}(h:pD f deep L m a= .stop m'):m'.2= .ret:=by
 unfold pD at h;generalize bF (iZ f deep) (L a) (m.1, .ready)=r at h;cases r with
 |go q=>cases h
 |bad q=>cases h
 |stop q=>
  obtain⟨s,lp⟩:=q;cases lp<;>cases h;rfl
theorem aqO{S:Type}{f:S->List Int->dD S}{deep:Int}{m m':S×Lp}{a:List Int}(h:iZ f deep m a= .stop m'):m'.2= .ret\/m'.2= .exit 3:=by
 unfold iZ at h;cases hf:f m.1 a with
 |go q=>
  rw[hf]at h;dsimp only at h;by_cases h0:deep=0
  ·rw[if_pos h0]at h;cases h;exact .inl rfl
  ·rw[if_neg h0]at h;by_cases h1:deep=1
   ·rw[if_pos h1]at h;cases h;exact .inr rfl
   ·rw[if_neg h1]at h;cases h
 |stop q=>rw[hf]at h;cases h;exact .inl rfl
 |bad q=>rw[hf]at h;cases h
theorem aqN{S:Type}{f:S->List Int->dD S}{deep:Int}{m m':S×Lp}{a:List Int}(h:iZ f deep m a= .go m'):m'.2= .ready:=by
 unfold iZ at h;cases hf:f m.1 a with
 |go q=>
  rw[hf]at h;dsimp only at h;by_cases h0:deep=0
  ·rw[if_pos h0]at h;cases h
  ·rw[if_neg h0]at h;by_cases h1:deep=1
   ·rw[if_pos h1]at h;cases h
   ·rw[if_neg h1]at h;cases h;rfl
 |stop q=>rw[hf]at h;cases h
 |bad q=>rw[hf]at h;cases h
theorem abp{S α:Type}{F:S->α->dD S}{J:S->Prop}{A:α->Prop}(hi:∀s a s',J s->A a->F s a= .go s'->J s'):∀{l:List α}{s s':S},(∀a∈l,A a)->J s->bF F l s= .stop s'->∃t a,J t/\A a/\F t a= .stop s'
 |[],s,s',_,_,h=>by cases h
 |a::l,s,s',ha,hs,h=>by
  simp only[bF]at h;cases hf:F s a with
  |go t=>rw[hf]at h;exact abp hi (λb hb=>ha b (by simp[hb])) (hi s a t hs (ha a (by simp)) hf) h
  |stop t=>rw[hf]at h;cases h;exact⟨s,a,hs,ha a (by simp),hf⟩
  |bad t=>rw[hf]at h;cases h
theorem Da{S:Type}{f:S->List Int->dD S}{deep:Int}{I:S->Prop}{A:List Int->Prop}(hi:∀s a s',I s->A a->f s a= .go s'->I s'){m m':S×Lp}{a:List Int}(hm:I m.1)(ha:A a)(h:iZ f deep m a= .go m'\/iZ f deep m a= .stop m'/\m'.2≠ .ret):I m'.1:=by
 unfold iZ at h;cases hf:f m.1 a with
 |go q=>
  have hq:=hi _ _ _ hm ha hf;rw[hf]at h;dsimp only at h;by_cases h0:deep=0
  ·rw[if_pos h0]at h;rcases h with h|⟨h,h2⟩
   ·cases h
   ·cases h;exact hq
  ·rw[if_neg h0]at h;by_cases h1:deep=1
   ·rw[if_pos h1]at h;rcases h with h|⟨h,h2⟩
    ·cases h
    ·cases h;exact hq
   ·rw[if_neg h1]at h;rcases h with h|⟨h,h2⟩
    ·cases h;exact hq
    ·cases h
 |stop q=>
  rw[hf]at h;rcases h with h|⟨h,h2⟩
  ·cases h
  ·cases h;exact absurd rfl h2
 |bad q=>
  rw[hf]at h;rcases h with h|⟨h,h2⟩
  ·cases h
  ·cases h
theorem ad4{S:Type}{f:S->List Int->dD S}{deep:Int}{I:S->Prop}{A:List Int->Prop}(hi:∀s a s',I s->A a->f s a= .go s'->I s'){l:List (List Int)}{σ:S}{m:S×Lp}(hl:∀a∈l,A a)(hs:I σ)(h:kU (bF (iZ f deep) l (σ, .ready))= .go m):I m.1/\m.2= .ready:=by
 cases hr:bF (iZ f deep) l (σ, .ready)with
 |go q=>
  rw[hr]at h;cases h;exact⟨Ab (f:=iZ f deep) (s':=q) (I:=λm:S×Lp=>I m.1) (A:=A) (λs a s' h1 h2 h3=>Da hi h1 h2 (.inl h3)) l _ hl hs hr,rfl⟩
 |stop q=>
  obtain⟨t,a,h1,h2,h3⟩:=abp (J:=λm:S×Lp=>I m.1) (A:=A) (λs a s' h1 h2 h3=>Da hi h1 h2 (.inl h3)) hl hs hr;rw[hr]at h;obtain⟨q1,q2⟩:=q;cases q2 with
  |ret=>cases h
  |ready=>cases h;exact⟨Da (m':=(q1, .ready)) hi h1 h2 (.inr ⟨h3,by simp⟩),rfl⟩
  |exit i=>cases h;exact⟨Da (m':=(q1, .exit i)) hi h1 h2 (.inr ⟨h3,by simp⟩),rfl⟩
  |busy=>cases h;exact⟨Da (m':=(q1, .busy)) hi h1 h2 (.inr ⟨h3,by simp⟩),rfl⟩
 |bad q=>rw[hr]at h;cases h
end Go.Gg.Tk
namespace Go.Gg
open Go.Conc Go.Proofs Go.Gg.Tk
namespace Tk
def nh (l:List Nat)(i:Nat):List Nat:=l.take i++TG (3-i) 0
theorem ae9{l:List Nat}{i q:Nat}(h:l[i]?=some q)(hl:l.length<=3):(nh l i).set i q=nh l (i+1):=by
 have hi:=eU h;unfold nh;rw[Uy _ _ (by simp;omega),show i-(l.take i).length=0 by simp;omega,show 3-i=(3-(i+1))+1 by omega,VN,TM,VP,h];simp
theorem N4{l:List Nat}{i:Nat}(hi:i<=l.length)(hl:l.length<=3):(nh l i).length=3:=by simp[nh];omega
theorem ae8{l:List Nat}:nh l l.length=l++TG (3-l.length) 0:=by simp[nh]
theorem aaL:∀{qs:List Nat}{u:Nat}{t ns:List Nat},ns∈kP qs u t->ns.length=t.length+qs.length
 |[],u,t,ns,h=>by
  simp only[kP,S5]at h;subst h;rfl
 |q::qs,u,t,ns,h=>by
  simp only[kP,S4]at h;obtain⟨n,_,h⟩:=h;split at h
  ·cases h
  ·have:=aaL h;simp at this⊢;omega
theorem LK{x:ai}{h:List Int}{ns:List Nat}(hm:ns∈gp x h):ns.length=x.pieces.length:=by
 have:=aaL hm;simpa using this
def F8 (k:Nat)(a:List Int):List Nat:=((a.drop 4).take k).map Xp
theorem amK{h:List Int}{ns:List Nat}(h4:h.length=4):F8 ns.length (eg h ns)=ns:=by
 unfold F8 eg lq;rw[SC,U4,TK (by omega),h4,Up,UP,WS,SC,Tq (by simp),SW (by simp),Xh]
 conv=>rhs;rw[<- List.map_id ns]
 exact U9 λn _=>by simp
def uv (x:ai)(h:List Int)(a:List Int):List (List Int):=(iu x h (F8 x.pieces.length a)).map (dB h (F8 x.pieces.length a))
theorem K0{x:ai}{h:List Int}{ns:List Nat}(h4:h.length=4)(hn:ns.length=x.pieces.length):uv x h (eg h ns)=(iu x h ns).map (dB h ns):=by
 unfold uv;rw[<- hn,amK h4]
theorem aqT{x:ai}{h:List Int}{deep:Int}(h4:h.length=4):jv x deep h=rK deep (((gp x h).map (eg h)).map (uv x h)):=by
 rw[Xh];have:(gp x h).map (uv x h∘eg h)=(gp x h).map λns=>(iu x h ns).map λos=>dB h ns os:=U9 λns hm=>K0 h4 (LK hm);rw[this];rfl
end Tk
section
variable {lv:Bool}
theorem II{H:List aa}{k kp:AV->List aa->Prop}{x:ai}{h:List Int}{deep:Int}(hk:k (.fn (.func 91) [] [.op H.length 0, .op (H.length+1) 0, .op (H.length+2) 0]) (H++[.cells x.l 76, .cells (h.map iv) 83, .cells [iv deep] 3])):bi lv SD 66 H [x.av, .agg (h.map iv),iv deep] k kp:=by
 refine bI (rs:=[.tmp 6]) (nt:=8) Tryz.f66 λhH hA=> ?_;simp only[bp,SS,ai.av];refine ak ?_;refine aj ?_;simp only[seval,TS,Um,T5,TD];refine a_ ?_;exact bY hk
theorem IL{x:ai}{h:List Int}{deep:Int}{N ir ih id:Nat}{yv pv:AV}{S:Type}{f:S->List Int->dD S}{Gf:S->List aa}{I:S->Prop}{A:List Int->Prop}{σ:S}{k kp:AV->List aa->Prop}(hx:x.Ok)(hh:jz h)(hY:jP lv SD yv f Gf N I A pv)(hr:∀σ L,(Gf σ++L)[ir]?=some (.cells x.l 76))(hi:∀σ L,(Gf σ++L)[ih]?=some (.cells (h.map iv) 83))(hd:∀σ L,(Gf σ++L)[id]?=some (.cells [iv deep] 3))
  (me:∀n,Lt n pv) (hI:I σ) (pQ:∀a,A a->a.length=11) (hA:∀ns∈gp x h,∀a∈(iu x h ns).map (dB h ns),A a) (hk:gv Gf pv k kp [] (bF f (jv x deep h) σ)):bi lv SD 91 (Gf σ) [yv, .op ir 0, .op ih 0, .op id 0] k kp:=by
 refine Ps (rs:=[]) (nt:=44) F.f91 rfl rfl rfl (by simp) λhH tT=> ?_;simp only[bp,SS];have hN:=hY.len σ;have xA:=hx.fD;have bQ:x.l=[iv x.first,iv x.hours,iv x.am,ej x.seen,bk x.pieces,bk x.aB]:=rfl;have nv:(h.map iv).length=4:=by rw[Tj,hh.len]
 refine ng ?_;refine aj ?_;simp only[seval,hY.parts];refine aeV ?_;refine ng ?_;refine ak ?_;refine HO ?_;refine ng ?_;refine aj ?_;simp only[seval,hr,bQ,bk];refine HN ?_;refine cN ?_;refine gM x.aB.length (λi:Nat=>[(14,iv i)]) (λi=>Gf σ++[.cells [yv] 132, .cells ((nh (x.aB.map (bZ h)) i).map λn=>wv n) 81]) (λi=>True) (λ_ _=>rfl) (by simp only[seval];simp[bB,Wk.refl]) rfl (λ_ _ _=>by simp) trivial (λcm dF i cw _ R hR=> ?_);refine ak ?_;refine aC ?_;refine⟨λhc=> ?_,λhc=> ?_⟩
 ·have bE:i<x.aB.length:=by omega
  obtain⟨y,hy⟩:=cG bE;have uq:(x.aB.map (bZ h))[i]?=some (bZ h y):=by rw[Ti,hy];rfl
  have b3:(0<=(i:Int)/\(i:Int)<3)=True:=by simp;omega
  have bX:SE.wrap ((i:Int)+1)=((i+1:Nat):Int):=by rw[bD _ (by omega)];rfl
  have cP:(nh (x.aB.map (bZ h)) i).length=3:=N4 (by simp;omega) (by simpa using xA);have vC:((nh (x.aB.map (bZ h)) i).map λn=>wv n).length=3:=by rw[Tj,cP]
  refine aP ?_;refine aj ?_;simp only[seval,GG hy,jQ bE];refine aj ?_;simp only[seval,hi,nv];rw[SW (i:=4) (l:=h.map iv) (by rw[nv];exact SO _)];refine aL ((Ef (h:=h) (y:=y) hh ?_));(try simp only[seval,b3,vC]);refine⟨by omega, ?_⟩;rw[MG (g:=λn=>wv n) (show i<(nh (x.aB.map (bZ h)) i).length by omega),ae9 uq (by simpa using xA)];refine aj ?_;simp only[seval,bX];exact hR _ ⟨bE,trivial,Aa (oE rfl rfl) (by simp only[seval];simp[bB,Wk.refl]) (Rg (L:=[_]) cm (aaQ _ _)) (by simp[eK])⟩
 have:i=x.aB.length:=by omega
 subst this;clear hc cw;refine cq ?_;have zu:∃r,nh (x.aB.map (bZ h)) x.aB.length=x.aB.map (bZ h)++r:=⟨_,by
  have:=ae8 (l:=x.aB.map (bZ h));simpa using this⟩
 have xy:(nh (x.aB.map (bZ h)) x.aB.length).length=3:=N4 (by simp) (by simpa using xA);have Kw:((nh (x.aB.map (bZ h)) x.aB.length).map λn=>wv n).length=3:=by rw[Tj,xy]
 generalize nh (x.aB.map (bZ h)) x.aB.length=qs at zu xy Kw;refine ng ?_;(repeat apply iA);refine NR ?_;simp only[seval];refine ng ?_;refine aj ?_;simp only[seval,hr,bQ,hi,nv];rw[SW (i:=4) (l:=h.map iv) (by rw[nv];exact SO _)];refine aL ((ahH (x:=x) (h:=h) ?_));(try simp only[seval]);refine aeS ?_;refine aeU (by rfl) λl fn T ag bo hT xd nz=> ?_;(try simp only[seval]);rw[hN]at hT⊢;have h4:=hh.len;have aiN:jP lv SD (.fn (.yield l) [] []) (pD f deep (uv x h)) (λm:S×Lp=>Gf m.1++[.cells [yv] 132, .cells (qs.map λn=>wv n) 81, .cells x.l 76, .cells (h.map iv) 83, .obj (.deferred (some [])), .loop l m.2.st m.2.pe fn T 44 #[28] ag bo (N+4)]) (N+6) (λm=>I m.1/\m.2= .ready) (λa=>∃ns∈gp x h,a=eg h ns) pv:=by
  have g3:∀(σ:S)(L:List aa),(Gf σ++L)[N+1]?=L[1]?:=λσ L=>hY.get σ L 1;have g5:∀(σ:S)(L:List aa),(Gf σ++L)[N+5]?=L[5]?:=λσ L=>hY.get σ L 5;have s5:∀(σ:S)(L:List aa) y,(Gf σ++L).set (N+5) y=Gf σ++L.set 5 y:=λσ L y=>hY.set σ L 5 y;refine⟨λm a M k kp hm ha dM=> ?_,λm a m' hm ha he=> ?_,λm=>by simp[hY.len],λq m m' hz z ft=> ?_,rfl,rfl,rfl⟩
  ·obtain⟨σ,lp⟩:=m;obtain⟨Je,g_⟩:=hm;replace Je:I σ:=Je;replace g_:lp= .ready:=g_;subst g_;obtain⟨ns,ji,rfl⟩:=ha;have jY:=LK ji;have qh:(eg h ns).length=11:=(by simp[eg,h4,zZ (k:=4) (l:=ns) (by have:=hx.dI;omega)]);have zB:((eg h ns).map iv).length=11:=(by rw[Tj,qh]);obtain⟨Lo,kZ⟩:∃Lo,Lo=aa.loop l .busy none fn T 44 #[28] ag bo (N+4):=⟨_,rfl⟩;obtain⟨P1,dw⟩:∃P1:S->List aa,∀σ,P1 σ=Gf σ++([.cells [yv] 132, .cells (qs.map λn=>wv n) 81, .cells x.l 76, .cells (h.map iv) 83, .obj (.deferred (some [])),Lo]++M):=⟨_,λ_=>rfl⟩;have eN:∀σ,(P1 σ).length=N+6+M.length:=λσ=>(by rw[dw];simp[hY.len];omega);have pg:∀(σ:S)(L:List aa)(i:Nat),i<6->(P1 σ++L)[N+i]?=[aa.cells [yv] 132, .cells (qs.map λn=>wv n) 81, .cells x.l 76, .cells (h.map iv) 83, .obj (.deferred (some [])),Lo][i]?:=λσ L i JW=>by
    rw[dw,SC,hY.get,SC,SY (by simpa using JW)]
   have pr:∀(σ:S)(L:List aa),(P1 σ++L)[ir]?=some (.cells x.l 76):=λσ L=>(by rw[dw,SC];exact hr σ _);have pd:∀(σ:S)(L:List aa),(P1 σ++L)[id]?=some (.cells [iv deep] 3):=λσ L=>(by rw[dw,SC];exact hd σ _);have pb:∀(σ:S)(L:List aa)(i:Nat),(P1 σ++L)[N+6+M.length+i]?=L[i]?:=λσ L i=>(by rw[<- eN σ,aS]);have wb:∀(σ:S)(L:List aa),(P1 σ++L)[N+6+M.length]?=L[0]?:=λσ L=>pb σ L 0;have pg1:∀(σ:S)(L:List aa),(P1 σ++L)[N+1]?=some (.cells (qs.map λn=>wv n) 81):=λσ L=>pg σ L 1 (by omega);have pg0:∀(σ:S)(L:List aa),(P1 σ++L)[N]?=some (.cells [yv] 132):=λσ L=>pg σ L 0 (by omega);have Qq:∀(τ:S)(lp:Lp),bL (Gf σ++(([aa.cells [yv] 132, .cells (qs.map λn=>wv n) 81, .cells x.l 76, .cells (h.map iv) 83, .obj (.deferred (some [])), .loop l .ready none fn T 44 #[28] ag bo (N+4)]:List aa)++M))->bL (Gf τ++(([aa.cells [yv] 132, .cells (qs.map λn=>wv n) 81, .cells x.l 76, .cells (h.map iv) 83, .obj (.deferred (some [])), .loop l lp.st lp.pe fn T 44 #[28] ag bo (N+4)]:List aa)++M)):=λτ lp ik z hz=>by
    have hlen:(Gf τ++(([aa.cells [yv] 132, .cells (qs.map λn=>wv n) 81, .cells x.l 76, .cells (h.map iv) 83, .obj (.deferred (some [])), .loop l lp.st lp.pe fn T 44 #[28] ag bo (N+4)]:List aa)++M)).length=(Gf σ++(([aa.cells [yv] 132, .cells (qs.map λn=>wv n) 81, .cells x.l 76, .cells (h.map iv) 83, .obj (.deferred (some [])), .loop l .ready none fn T 44 #[28] ag bo (N+4)]:List aa)++M)).length:=(by simp[hY.len]);have hl:=ik (.loop l .ready none fn T 44 #[28] ag bo (N+4)) (by simp);rw[hlen];rcases SN.1 hz with h'|h'
    ·exact hY.ok _ σ τ (λw hw=>ik w (Tb _ hw)) z h'
    ·rcases SN.1 h' with h'|h'
     ·simp only[SK,SU,or_false]at h';rcases h' with rfl|rfl|rfl|rfl|rfl|rfl
      ·exact ik _ (by simp)
      ·exact ik _ (by simp)
      ·exact ik _ (by simp)
      ·exact ik _ (by simp)
      ·exact ik _ (by simp)
      ·exact hl
     ·exact ik z (SZ _ (SZ _ h'))
   have IN:bL (Gf σ++(([aa.cells [yv] 132, .cells (qs.map λn=>wv n) 81, .cells x.l 76, .cells (h.map iv) 83, .obj (.deferred (some [])), .loop l .ready none fn T 44 #[28] ag bo (N+4)]:List aa)++M))->∀(τ:S)(lp:Lp)(b':Bool)(TT:List (Nat×AV))(L:List aa),k (bv b') ((Gf τ++[.cells [yv] 132, .cells (qs.map λn=>wv n) 81, .cells x.l 76, .cells (h.map iv) 83, .obj (.deferred (some [])), .loop l lp.st lp.pe fn T 44 #[28] ag bo (N+4)])++M)->oS (N+5) (N+6+M.length) k lp.st lp.pe b' ⟨TT,P1 τ++L⟩:=λik τ lp b' TT L dM=>by
    refine⟨l, .busy,none,fn,T,44,#[28],ag,bo,N+4,by show (P1 τ++L)[_]?=_;rw[pg τ _ 5 (by omega),kZ];rfl, ?_⟩;show cy (N+6+M.length) ((P1 τ++L).set _ _) _ k;rw[dw,SC,s5];rw[SC]at dM;exact jT (G:=L) (Wk.refl _) (by simp) (by simp[hY.len];omega) (Qq τ lp ik) (.val _) dM
   have ahX:bL (Gf σ++(([aa.cells [yv] 132, .cells (qs.map λn=>wv n) 81, .cells x.l 76, .cells (h.map iv) 83, .obj (.deferred (some [])), .loop l .ready none fn T 44 #[28] ag bo (N+4)]:List aa)++M))->∀(τ:S)(L:List aa),kp pv ((Gf τ++[.cells [yv] 132, .cells (qs.map λn=>wv n) 81, .cells x.l 76, .cells (h.map iv) 83, .obj (.deferred (some [])), .loop l Lp.busy.st Lp.busy.pe fn T 44 #[28] ag bo (N+4)])++M)->cy (N+6+M.length) (P1 τ++L) pv kp:=λik τ L dM=>by
    rw[SC]at dM;rw[dw,kZ];exact jT (G:=L) (Wk.refl _) rfl (by simp[hY.len];omega) (Qq τ .busy ik) (me _) dM
   subst hT xd nz;rw[SC];refine vb (id:=N+5) (by rw[g5];rfl) rfl (by kernel_rfl) λog I_=> ?_;simp only[rV];have vF:Ud 11 [iv 0,iv 0,iv 0,iv 0,iv 0,iv 0,iv 0,iv 0,iv 0,iv 0,iv 0]=[]:=rfl;refine aj ?_;simp only[seval,qh,vF];unfold tE;refine⟨none,fn,_,44,#[28],_,_,_,by rw[g5];rfl, ?_⟩;dsimp only;rw[s5];simp only[Un,TM];rw[<- kZ];have w9:(Gf σ).length+(M.length+1+1+1+1+1+1)=N+6+M.length:=(by rw[hY.len];omega);rw[w9];have xn:∀z:aa,Gf σ++aa.cells [yv] 132::aa.cells (UK (λn=>wv n) qs) 81::aa.cells x.l 76::aa.cells (UK iv h) 83::aa.obj (ZU (some []))::Lo::(M++[z])=P1 σ++[z]:=λz=>(by rw[dw];simp);rw[xn];refine aj ?_;simp only[seval,pr,bQ,wb,pg1,zB,qh,Kw,xy];rw[SW (i:=11) (l:=(eg h ns).map iv) (by rw[zB];exact SO _),SW (i:=3) (l:=qs.map λn=>wv n) (by rw[Kw];exact SO _)];refine aL ((ahI (x:=x) (tc:=eg h ns) (qs:=qs) ?_));(try simp only[seval]);refine cN ?_;have p7:∀(σ:S)(a b c d:aa),(P1 σ++[a,b,c,d]).length=N+6+M.length+4:=λσ a b c d=>(by simp[eN]);refine DY (N+5) (by rfl) (by show (P1 σ++_)[N+5]?=_;rw[pg σ _ 5 (by omega),kZ];rfl) λl2 eZ T2 gL gN oh xe xf=> ?_;simp only[seval];rw[eN]at oh⊢;have zP:∀(σ τ:S)(L L':List aa),L'.length=L.length->(∀q,(∀z∈L,eR q z)->∀z∈L',eR q z)->bL (P1 σ++L)->bL (P1 τ++L'):=λσ τ L L' hl hL hH z hz=>by
    have hlen:(P1 τ++L').length=(P1 σ++L).length:=(by simp[eN,hl]);rw[hlen];rcases SN.1 hz with h'|h'
    ·rw[dw]at h';rcases SN.1 h' with h'|h'
     ·exact hY.ok _ σ τ (λw hw=>hH w (Tb _ (by rw[dw];exact Tb _ hw))) z h'
     ·exact hH z (Tb _ (by rw[dw];exact SZ _ h'))
    ·exact hL _ (λw hw=>hH w (SZ _ hw)) z h'
   have xc:∀tc:List Int,jP lv SD (.fn (.yield l2) [] []) (iZ f deep) (λm:S×Lp=>P1 m.1++[.cells ((eg h ns).map iv) 86, .cells x.l 76, .cells (tc.map iv) 86, .cells (qs.map λn=>wv n) 81, .loop l2 m.2.st m.2.pe eZ T2 44 #[33] gL gN (N+4)]) (N+6+M.length+5) (λm=>I m.1/\m.2= .ready) A pv:=λtc=>by
    refine⟨λm b M2 k2 xI hm hb lf=> ?_,λm b m' hm hb he=> ?_,λm=>by simp[eN],λq m m' hz z ft=> ?_,rfl,rfl,rfl⟩
    ·obtain⟨σ',lp⟩:=m;obtain⟨Jf,g_⟩:=hm;replace Jf:I σ':=Jf;replace g_:lp= .ready:=g_;subst g_;have cP:b.length=11:=pQ b hb;have vC:(b.map iv).length=11:=(by rw[Tj,cP]);obtain⟨pH,sB⟩:∃Lo,Lo=aa.loop l2 .busy none eZ T2 44 #[33] gL gN (N+4):=⟨_,rfl⟩;obtain⟨Q1,gB⟩:∃Q1:S->List aa,∀σ,Q1 σ=P1 σ++([.cells ((eg h ns).map iv) 86, .cells x.l 76, .cells (tc.map iv) 86, .cells (qs.map λn=>wv n) 81,pH]++M2):=⟨_,λ_=>rfl⟩;obtain⟨C,hC⟩:∃C,C=N+6+M.length+5+M2.length:=⟨_,rfl⟩;have Jl:∀σ,(Q1 σ).length=C:=λσ=>(by rw[gB,hC];simp[eN];omega);have lW:∀(σ:S)(L:List aa),(P1 σ++L)[N+6+M.length+4]?=L[4]?:=λσ L=>pb σ L 4;have pC:∀(σ:S)(L:List aa)(y:aa),(P1 σ++L).set (N+6+M.length+4) y=P1 σ++L.set 4 y:=λσ L y=>(by rw[<- eN σ,de]);have qN:∀(σ:S)(L:List aa),(Q1 σ++L)[N]?=some (.cells [yv] 132):=λσ L=>(by rw[gB,SC];exact pg0 σ _);have qd:∀(σ:S)(L:List aa),(Q1 σ++L)[id]?=some (.cells [iv deep] 3):=λσ L=>(by rw[gB,SC];exact pd σ _);have q4:∀(σ:S)(L:List aa),(Q1 σ++L)[N+6+M.length+4]?=some pH:=λσ L=>(by rw[gB,SC,lW];rfl);have qc:∀(σ:S)(L:List aa),(Q1 σ++L)[C]?=L[0]?:=λσ L=>(by rw[<- Jl σ];exact aS _ L 0);have Mq:∀(σ:S)(L:List aa)(y:aa),(Q1 σ++L).set (N+6+M.length+4) y=(P1 σ++([.cells ((eg h ns).map iv) 86, .cells x.l 76, .cells (tc.map iv) 86, .cells (qs.map λn=>wv n) 81,y]++M2))++L:=λσ L y=>(by rw[gB,SC,pC];simp);obtain⟨Mz,Ey⟩:∃Mz:List aa,∀σ,Q1 σ++[.cells (b.map iv) 86]=Gf σ++Mz:=⟨_,λσ=>by rw[gB,dw,SC,SC]⟩;have fj:∀(τ:S)(lp:Lp),bL (P1 σ'++([.cells ((eg h ns).map iv) 86, .cells x.l 76, .cells (tc.map iv) 86, .cells (qs.map λn=>wv n) 81, .loop l2 .ready none eZ T2 44 #[33] gL gN (N+4)]++M2))->bL (P1 τ++([.cells ((eg h ns).map iv) 86, .cells x.l 76, .cells (tc.map iv) 86, .cells (qs.map λn=>wv n) 81, .loop l2 lp.st lp.pe eZ T2 44 #[33] gL gN (N+4)]++M2)):=λτ lp ik=>zP σ' τ _ _ (by simp) (λq hz z ft=>by
      have hl:=hz (.loop l2 .ready none eZ T2 44 #[33] gL gN (N+4)) (by simp);rcases SN.1 ft with h'|h'
      ·simp only[SK,SU,or_false]at h';rcases h' with rfl|rfl|rfl|rfl|rfl
       ·exact hz _ (by simp)
       ·exact hz _ (by simp)
       ·exact hz _ (by simp)
       ·exact hz _ (by simp)
       ·exact hl
      ·exact hz _ (SZ _ h')) ik
     have gG:cX (λm:S×Lp=>P1 m.1++[.cells ((eg h ns).map iv) 86, .cells x.l 76, .cells (tc.map iv) 86, .cells (qs.map λn=>wv n) 81, .loop l2 m.2.st m.2.pe eZ T2 44 #[33] gL gN (N+4)]) pv k2 xI M2 (iZ f deep (σ', .ready) b):=lf;have JJ:∀z:aa,P1 σ'++(aa.cells (UK iv (eg h ns)) 86::aa.cells x.l 76::aa.cells (UK iv tc) 86::aa.cells (UK (λn=>wv n) qs) 81::pH::(M2++[z]))=Q1 σ'++[z]:=λz=>(by rw[gB];simp);have Ei:bL (P1 σ'++([.cells ((eg h ns).map iv) 86, .cells x.l 76, .cells (tc.map iv) 86, .cells (qs.map λn=>wv n) 81, .loop l2 .ready none eZ T2 44 #[33] gL gN (N+4)]++M2))->∀(τ:S)(lp:Lp)(b':Bool)(TT:List (Nat×AV)),k2 (bv b') ((P1 τ++[.cells ((eg h ns).map iv) 86, .cells x.l 76, .cells (tc.map iv) 86, .cells (qs.map λn=>wv n) 81, .loop l2 lp.st lp.pe eZ T2 44 #[33] gL gN (N+4)])++M2)->oS (N+6+M.length+4) C k2 lp.st lp.pe b' ⟨TT,Gf τ++Mz⟩:=λik τ lp b' TT dM=>by
      refine⟨l2, .busy,none,eZ,T2,44,#[33],gL,gN,N+4,by show (Gf τ++Mz)[_]?=_;rw[<- Ey,q4,sB], ?_⟩;show cy C ((Gf τ++Mz).set _ _) _ k2;rw[<- Ey,Mq];rw[SC]at dM;exact jT (G:=[.cells (b.map iv) 86]) (Wk.refl _) rfl (by rw[hC];simp[eN];omega) (fj τ lp ik) (.val _) dM
     have ahW:bL (P1 σ'++([.cells ((eg h ns).map iv) 86, .cells x.l 76, .cells (tc.map iv) 86, .cells (qs.map λn=>wv n) 81, .loop l2 .ready none eZ T2 44 #[33] gL gN (N+4)]++M2))->∀τ:S,xI pv ((P1 τ++[.cells ((eg h ns).map iv) 86, .cells x.l 76, .cells (tc.map iv) 86, .cells (qs.map λn=>wv n) 81, .loop l2 Lp.busy.st Lp.busy.pe eZ T2 44 #[33] gL gN (N+4)])++M2)->cy C (Gf τ++Mz) pv xI:=λik τ dM=>by
      rw[<- Ey,gB,sB];rw[SC]at dM;exact jT (G:=[.cells (b.map iv) 86]) (Wk.refl _) rfl (by rw[hC];simp[eN];omega) (fj τ .busy ik) (me _) dM
     subst oh xe xf;rw[SC];refine vb (id:=N+6+M.length+4) (by rw[lW];rfl) rfl (by kernel_rfl) λqY Ja=> ?_;simp only[rV];refine aj ?_;simp only[seval,cP,vF];unfold tE;refine⟨none,eZ,_,44,#[33],_,_,_,by rw[lW];rfl, ?_⟩;dsimp only;rw[pC];simp only[Un,TM];rw[<- sB];have Bt:(P1 σ').length+(M2.length+1+1+1+1+1)=C:=(by rw[eN,hC];omega);rw[Bt,JJ];refine aj ?_;simp only[seval,qN,qc,cP,vC];rw[SW (i:=11) (l:=b.map iv) (by rw[vC];exact SO _),Ey];refine wR (hY.call σ' b Mz _ _ Jf hb ?_);unfold iZ at gG;rw[show f (σ',Lp.ready).1 b=f σ' b from rfl]at gG;cases hf:f σ' b with
     |go τ=>
      rw[hf]at gG;dsimp only at gG;simp only[cX];(try simp only[seval,hd]);refine aC ?_;refine⟨λh0=> ?_,λh0=> ?_⟩
      ·replace h0:deep=0:=(by simpa using h0);rw[if_pos h0]at gG;simp only[cX]at gG;refine a_ ?_;exact Ei qY τ .ret false _ gG
      ·replace h0:¬deep=0:=(by simpa using h0);rw[if_neg h0]at gG;refine aP ?_;refine aj ?_;simp only[seval,hd];refine aC ?_;refine⟨λh1=> ?_,λh1=> ?_⟩
       ·replace h1:deep=1:=(by simpa using h1);rw[if_pos h1]at gG;simp only[cX]at gG;refine cq ?_;exact Ei qY τ (.exit 3) false _ gG
       ·replace h1:¬deep=1:=(by simpa using h1);rw[if_neg h1]at gG;simp only[cX]at gG;refine aP ?_;exact Ei qY τ .ready true _ gG
     |stop τ=>
      rw[hf]at gG;dsimp only at gG;simp only[cX]at gG⊢;(try simp only[seval]);refine aC ?_;refine a_ ?_;exact Ei qY τ .ret false _ gG
     |bad τ=>
      rw[hf]at gG;dsimp only at gG;simp only[cX]at gG⊢;exact ahW qY τ gG
    ·obtain⟨σ',lp⟩:=m;obtain⟨τ,CI⟩:=m';unfold iZ at he;have hi:=(hY.inv σ' b τ hm.1 hb);cases hf:f σ' b with
     |go τ'=>
      rw[show f (σ',lp).1 b=f σ' b from rfl,hf]at he;dsimp only at he;by_cases h0:deep=0
      ·rw[if_pos h0]at he;cases he
      ·rw[if_neg h0]at he;by_cases h1:deep=1
       ·rw[if_pos h1]at he;cases he
       ·rw[if_neg h1]at he;cases he;exact⟨hi hf,rfl⟩
     |stop τ'=>rw[show f (σ',lp).1 b=f σ' b from rfl,hf]at he;cases he
     |bad τ'=>rw[show f (σ',lp).1 b=f σ' b from rfl,hf]at he;cases he
    ·rcases SN.1 ft with h'|h'
     ·rw[dw]at h';rcases SN.1 h' with h'|h'
      ·exact hY.ok q m.1 m'.1 (λw hw=>hz w (Tb _ (by rw[dw];exact Tb _ hw))) z h'
      ·exact hz z (Tb _ (by rw[dw];exact SZ _ h'))
     ·have hl:=hz _ (SZ _ (S_ (i:=4) rfl));simp only[SK,SU,or_false]at h';rcases h' with rfl|rfl|rfl|rfl|rfl
      ·exact hz _ (SZ _ (by simp))
      ·exact hz _ (SZ _ (by simp))
      ·exact hz _ (SZ _ (by simp))
      ·exact hz _ (SZ _ (by simp))
      ·exact hl
   have e1:pD f deep (uv x h) (σ, .ready) (eg h ns)=kU (bF (iZ f deep) ((iu x h ns).map (dB h ns)) (σ, .ready)):=(by unfold pD;rw[K0 h4 jY]);rw[e1]at dM;refine bT (agV (x:=x) (h:=h) (ns:=ns) (qs:=qs) (N:=N+6+M.length+5) (ir:=N+6+M.length+1) (it:=N+6+M.length+2) (is:=N+6+M.length+3) (tc:=eg h ns) (σ:=(σ,Lp.ready)) hx h4 jY xc (λtc m L=> ?_) (λtc m L=> ?_) (λtc eG m L=> ?_) (λtc m L=> ?_) zu xy (λq tc eG m hz z ft=> ?_) me rfl ⟨Je,rfl⟩ (hA ns ji) (λeG asF=> ?_))
   ·rw[SC];exact pb _ _ 1
   ·rw[SC];exact pb _ _ 2
   ·rw[SC,<- eN m.1,de,SC];rfl
   ·rw[SC];exact pb _ _ 3
   ·rcases SN.1 ft with h'|h'
    ·exact hz z (Tb _ h')
    ·simp only[SK,SU,or_false]at h';rcases h' with rfl|rfl|rfl|rfl|rfl
     ·exact hz _ (by simp)
     ·exact hz _ (by simp)
     ·exact am0 _ _ _
     ·exact hz _ (by simp)
     ·exact hz _ (by simp)
   have lW:∀(σ:S)(L:List aa),(P1 σ++L)[N+6+M.length+4]?=L[4]?:=λσ L=>pb σ L 4;have pC:∀(σ:S)(L:List aa)(y:aa),(P1 σ++L).set (N+6+M.length+4) y=P1 σ++L.set 4 y:=λσ L y=>(by rw[<- eN σ,de]);cases cw:bF (iZ f deep) ((iu x h ns).map (dB h ns)) (σ, .ready)with
   |go m=>
    obtain⟨τ,lp⟩:=m;have g_:lp= .ready:=Ab (I:=λm:S×Lp=>m.2= .ready) (A:=λ_=>True) (λs a s' _ _ e=>aqN e) _ _ _ (λ_ _=>trivial) rfl cw;subst g_;rw[cw]at dM;simp only[kU,cX]at dM;simp only[gv,SI];refine⟨.ready,none,_,_,_,_,_,_,_,by rw[lW];rfl,by decide, ?_⟩;rw[pC,Gr];(try simp only[seval]);exact IN og τ .ready true _ _ dM
   |stop m=>
    obtain⟨τ,lp⟩:=m;have g_:lp= .ret\/lp= .exit 3:=by
     obtain⟨_,_,q⟩:=Mx cw;exact aqO q
    rw[cw]at dM;rcases g_ with rfl|rfl
    ·simp only[kU,cX]at dM;simp only[gv,SI];refine⟨.done,some .ret,_,_,_,_,_,_,_,by rw[lW];rfl,by decide, ?_⟩;rw[pC,anE];(try simp only[seval]);exact IN og τ .ret false _ _ dM
    ·simp only[kU,cX]at dM;simp only[gv,SI];refine⟨.done,some (.exit 3),_,_,_,_,_,_,_,by rw[lW];rfl,by decide, ?_⟩;rw[pC,anD];(try simp only[seval]);exact IN og τ .ready true _ _ dM
   |bad m=>
    obtain⟨τ,lp⟩:=m;rw[cw]at dM;simp only[kU,cX]at dM;simp only[gv,SI];exact ahX og τ _ dM
  ·obtain⟨σ',lp⟩:=m;obtain⟨τ,CI⟩:=m';obtain⟨ns,ji,rfl⟩:=ha;have e1:pD f deep (uv x h) (σ',lp) (eg h ns)=kU (bF (iZ f deep) ((iu x h ns).map (dB h ns)) (σ', .ready)):=(by unfold pD;rw[K0 h4 (LK ji)]);rw[e1]at he;exact ad4 hY.inv (hA ns ji) hm.1 he
  ·rcases SN.1 ft with h'|h'
   ·exact hY.ok q m.1 m'.1 (λw hw=>hz w (Tb _ hw)) z h'
   ·have hl:=hz _ (SZ _ (S_ (i:=5) rfl));simp only[SK,SU,or_false]at h';rcases h' with rfl|rfl|rfl|rfl|rfl|rfl
    ·exact hz _ (SZ _ (by simp))
    ·exact hz _ (SZ _ (by simp))
    ·exact hz _ (SZ _ (by simp))
    ·exact hz _ (SZ _ (by simp))
    ·exact hz _ (SZ _ (by simp))
    ·exact hl
 obtain⟨eA,ul⟩:=acG (f:=f) (deep:=deep) (L:=uv x h) ((gp x h).map (eg h)) σ;rw[<- aqT h4]at eA;have g4:∀(σ:S)(L:List aa),(Gf σ++L)[N+4]?=L[4]?:=λσ L=>hY.get σ L 4;have g5:∀(σ:S)(L:List aa),(Gf σ++L)[N+4+1]?=L[5]?:=λσ L=>hY.get σ L 5;have s4:∀(σ:S)(L:List aa) y,(Gf σ++L).set (N+4) y=Gf σ++L.set 4 y:=λσ L y=>hY.set σ L 4 y;have s5:∀(σ:S)(L:List aa) y,(Gf σ++L).set (N+4+1) y=Gf σ++L.set 5 y:=λσ L y=>hY.set σ L 5 y;have rH:∀n,Lt n (.aK []):=λn=>by simp[iV]
 refine bT (agT (x:=x) (h:=h) (N:=N+6) (ir:=N+2) (ih:=N+3) (σ:=(σ,Lp.ready)) hx hh aiN (λm L=> ?_) (λm L=> ?_) me ⟨hI,rfl⟩ (λa ha=> ?_) ?_)
 ·rw[SC,hY.get m.1 _ 2];rfl
 ·rw[SC,hY.get m.1 _ 3];rfl
 ·obtain⟨ns,h1,rfl⟩:=Th.1 ha;exact⟨ns,h1,rfl⟩
 cases bK:bF (pD f deep (uv x h)) ((gp x h).map (eg h)) (σ, .ready)with
 |go m=>
  obtain⟨σ',lp⟩:=m;have g_:lp= .ready:=ul _ bK;subst g_;rw[bK]at eA;have aI:=Mt (r':= .go σ') eA.symm hk;simp only[gv,SI]at aI⊢;refine⟨.ready,none,_,_,_,_,_,_,_,by rw[g5];rfl,by decide, ?_⟩;rw[s5];simp only[Un,TM];rw[Gq];(try simp only[seval]);rw[yM (by rw[g4];rfl),yN,s4];(try simp only[seval]);rw[<- hN];exact uH hY hH rH aI
 |stop m=>
  obtain⟨σ',lp⟩:=m;have g_:lp= .ret:=by
   obtain⟨_,_,q⟩:=Mx bK;exact aqK q
  subst g_;rw[bK]at eA;have aI:=Mt (r':= .stop σ') eA.symm hk;simp only[gv,SI]at aI⊢;refine⟨.done,some .ret,_,_,_,_,_,_,_,by rw[g5];rfl,by decide, ?_⟩;rw[s5];simp only[Un,TM];rw[anC];(try simp only[seval]);rw[yM (by rw[g4];rfl),yN,s4];(try simp only[seval]);rw[<- hN];exact uH hY hH rH aI
 |bad m=>
  obtain⟨σ',lp⟩:=m;rw[bK]at eA;have aI:=Mt (r':= .bad σ') eA.symm hk;simp only[gv,SI]at aI⊢;rw[yM (by rw[g4];rfl),yN,s4];rw[v_,<- hN];exact uH hY hH me aI
end
open Go.Conc Go.Proofs Go.Gg.Tk
namespace Tk
def mK (x y:Int):Int:=if x<y then -1 else if y<x then 1 else 0
def n_:List Int->List Int->Int
 |a::l,b::m=>if mK a b≠0 then mK a b else n_ l m
 |[],[]=>0
 |[],_::_=> -1
 |_::_,[]=>1
def so (a b:List Int):Bool:=if a.take 4=b.take 4 then(if n_ ((a.drop 4).take 4) ((b.drop 4).take 4)≠0 then decide (n_ ((a.drop 4).take 4) ((b.drop 4).take 4)<0)else decide (n_ (a.drop 8) (b.drop 8)<0))else decide (n_ (a.take 4) (b.take 4)<0)
end Tk
theorem Ed{ca pa ra:List AV}{xs:List Int}{o i:Nat}{x:Int}(hc:ca=pa++(xs.map iv++ra))(ho:pa.length=o)(h:xs[i]?=some x):ca.drop (o+i)=iv x::((xs.drop (i+1)).map iv++ra):=by
 subst hc ho;rw[U4,TK (by omega),Up,show pa.length+i-pa.length=i by omega,U4,j7 h,show i-(xs.map iv).length=0 by have:=eU h;simp;omega,WS];rfl
section
variable {lv:Bool}{H:List aa}{k kp:AV->List aa->Prop}
theorem O7{x:Int}(hk:k (bv false) H):bi lv SD 143 H [iv x] k kp:=by
 refine bI (rs:=[.tmp 2]) (nt:=6) Tryz.f143 λhH hA=> ?_;simp only[bp,SS];refine ak ?_;refine aj ?_;simp only[seval,bne_self_eq_false];refine a_ ?_;refine bY ?_;simpa using hk
theorem agZ{x y:Int}(hk:k (iv (mK x y)) H):bi lv SD 142 H [iv x,iv y] k kp:=by
 refine bI (rs:=[.tmp 4]) (nt:=20) Tryz.f142 λhH hA=> ?_;simp only[bp,SS];refine ak ?_;refine ak ?_;refine aL ((O7 ?_));(try simp only[seval]);refine ak ?_;refine aL ((O7 ?_));(try simp only[seval]);refine ak ?_;refine aC ?_;refine aP ?_;refine ak ?_;refine aC ?_;refine aP ?_;refine ak ?_;refine aC ?_;refine⟨λh=> ?_,λh=> ?_⟩
 ·refine ak ?_;refine a_ ?_;rw[mK,if_pos h]at hk;exact bY hk
 ·refine aP ?_;refine ak ?_;refine aC ?_;refine⟨λh2=> ?_,λh2=> ?_⟩
  ·refine ak ?_;refine a_ ?_;rw[mK,if_neg h,if_pos h2]at hk;exact bY hk
  ·refine aP ?_;refine ak ?_;refine a_ ?_;rw[mK,if_neg h,if_neg h2]at hk;exact bY hk
theorem IB{xs ys:List Int}{ia oa ib ob ta tb:Nat}{ca cb pa ra pb rb:List AV}(ha:H[ia]?=some (.cells ca ta))(hb:H[ib]?=some (.cells cb tb))(hca:ca=pa++(xs.map iv++ra))(Ks:pa.length=oa)(hcb:cb=pb++(ys.map iv++rb))(hpb:pb.length=ob)(hl:ys.length=xs.length)(h4:xs.length<=4)(hk:k (iv (n_ xs ys)) H):
  bi lv SD 138 H [.bJ ia oa xs.length xs.length, .bJ ib ob ys.length ys.length] k kp:=by
 refine bI (rs:=[.tmp 4]) (nt:=36) Tryz.f138 λhH hA=> ?_;simp only[bp,SS];refine ak ?_;refine ak ?_;refine cN ?_;refine wM xs.length (λi:Nat=>[(11,iv i)]) (λ_=>H) (λi=>n_ xs ys=n_ (xs.drop i) (ys.drop i)) rfl (λcm dF i cw hI R hR=> ?_);refine ak ?_;refine aC ?_;refine⟨λh=> ?_,λh=> ?_⟩
 ·have bE:i<xs.length:=by omega
  obtain⟨x,hx⟩:=cG bE;obtain⟨y,hy⟩:=cG (xs:=ys) (i:=i) (by omega);have bX:SE.wrap ((i:Int)+1)=((i+1:Nat):Int):=by rw[bD _ (by omega)];rfl
  have lj:n_ xs ys=if mK x y≠0 then mK x y else n_ (xs.drop (i+1)) (ys.drop (i+1)):=by rw[hI,vf hx,vf hy,n_]
  refine aP ?_;refine aj ?_;simp only[seval,ha,jQ bE,Ed hca Ks hx];refine ak ?_;refine aC ?_;refine⟨λh2=>by exfalso;omega,λh2=> ?_⟩;refine aP ?_;refine aj ?_;simp only[seval,hb,jQ (show i<ys.length by omega),Ed hcb hpb hy];refine ak ?_;refine aL ((agZ ?_));(try simp only[seval]);refine ak ?_;refine aC ?_;refine⟨λh3=> ?_,λh3=> ?_⟩
  ·refine ak ?_;refine a_ ?_;rw[lj,if_pos (by simpa using h3)]at hk;exact bY hk
  ·refine aP ?_;refine aj ?_;simp only[seval,bX];refine hR _ ⟨bE, ?_,dR⟩;rw[lj,if_neg (by simpa using h3)]
 ·have dK:i=xs.length:=by omega
  subst dK;refine cq ?_;refine aj ?_;simp only[seval,hl];refine aC ?_;refine⟨λh2=>by exfalso;omega,λh2=> ?_⟩;refine aP ?_;refine ak ?_;refine a_ ?_;rw[hI,List.drop_length,TK (VW hl),n_]at hk;exact bY hk
theorem F.De:SD.underlying 83=some (.array 4 3):=by kernel_rfl
theorem F.u3:SD.underlying 3=some (.int .i64):=by kernel_rfl
theorem adO{P:Program}{t e:TypeId}{k0:IntKind}{n:Nat}{xs ys:List Int}(ht:P.underlying t=some (.array n e))(he:P.underlying e=some (.int k0))(hs:(P.info? e).map (·.size)=some 1)(hg:P.eqGuardType P.depth t=false)(hx:xs.length=n)(hy:ys.length=n)(k:AV->Prop):
  du P .neq t (.agg (xs.map iv)) (.agg (ys.map iv)) k=k (bv (!(xs==ys))):=by
 obtain⟨i,hi,hs⟩:=Tl.1 hs;have vT:=aci ht he hi hs hx hy;have e:du P .neq t (.agg (xs.map iv)) (.agg (ys.map iv)) k=((Vk= .eql\/Vk= .neq)/\an (AV.raw (.agg (xs.map iv))) λX=>an (AV.raw (.agg (ys.map iv))) λY=>wX X Y=true/\P.eqGuardType P.depth t=false/\∃e,cJ P (Wa t X Y) e/\k (.val (.bool (if Vk== .neq then !e else e)))):=rfl;rw[e,uF,uF,v_,v_];apply propext;constructor
 ·rintro⟨_,_,_,b,h1,h2⟩
  rw[vT.uniq h1];exact h2
 ·intro h;exact⟨.inr rfl,rfl,hg,_,vT,h⟩
theorem F.R0:(SD.info? 3).map (·.size)=some 1:=by kernel_rfl
theorem F.g83:SD.eqGuardType SD.depth 83=false:=by kernel_rfl
theorem agX{a b:List Int}(ha:a.length=11)(hb:b.length=11)(hk:k (bv (so a b)) H):bi lv SD 128 H [.agg (a.map iv), .agg (b.map iv)] k kp:=by
 refine bI (rs:=[.tmp 4]) (nt:=32) Tryz.f128 λhH hA=> ?_;simp only[bp,SS];have ham:(a.map iv).length=11:=by rw[Tj,ha]
 have vC:(b.map iv).length=11:=by rw[Tj,hb]
 have ea:a.map iv=(a.take 4).map iv++(((a.drop 4).take 4).map iv++(a.drop 8).map iv):=by
  rw[<- Tv,<- Tv];congr 1;have:(a.drop 4).take 4++a.drop 8=a.drop 4:=by
   conv=>rhs;rw[<- UR 4 (a.drop 4)]
   rw[Zd]
  rw[this,UR]
 have eb:b.map iv=(b.take 4).map iv++(((b.drop 4).take 4).map iv++(b.drop 8).map iv):=by
  rw[<- Tv,<- Tv];congr 1;have:(b.drop 4).take 4++b.drop 8=b.drop 4:=by
   conv=>rhs;rw[<- UR 4 (b.drop 4)]
   rw[Zd]
  rw[this,UR]
 refine ak ?_;refine aj ?_;simp only[seval,ham,vC,ha,hb];have Fx:(a.take 4).length=4:=by simp[ha]
 have KJ:(b.take 4).length=4:=by simp[hb]
 have KH:((a.drop 4).take 4).length=4:=by simp[ha]
 have RH:((b.drop 4).take 4).length=4:=by simp[hb]
 have KI:(a.drop 8).length=3:=by simp[ha]
 have RI:(b.drop 8).length=3:=by simp[hb]
 rw[<- Vy,<- Vy,adO F.De F.u3 F.R0 F.g83 Fx KJ];refine aC ?_;refine⟨λh=> ?_,λh=> ?_⟩
 ·refine eS 4 ?_;simp only[seval];have c1:=λk kp=>IB (lv:=lv) (k:=k) (kp:=kp) (H:=H++[.cells (a.map iv) 86, .cells (b.map iv) 86]) (xs:=a.take 4) (ys:=b.take 4) (ia:=H.length) (ib:=H.length+1) (oa:=0) (ob:=0) (pa:=[]) (pb:=[]) (aS H _ 0) (aS H _ 1) ea rfl eb rfl (by rw[Fx,KJ]) (by rw[Fx];exact SO _);simp only[Fx,KJ]at c1;refine aL ((c1 _ _ ?_));(try simp only[seval]);refine a_ ?_;rw[so,if_neg (by simpa using h)]at hk;exact lB hH hk
 ·have h:=(by simpa using h:a.take 4=b.take 4);rw[so,if_pos h]at hk;refine aP ?_;refine eS 4 ?_;simp only[seval];have c2:=λk kp=>IB (lv:=lv) (k:=k) (kp:=kp) (H:=H++[.cells (a.map iv) 86, .cells (b.map iv) 86]) (xs:=(a.drop 4).take 4) (ys:=(b.drop 4).take 4) (ia:=H.length) (ib:=H.length+1) (oa:=4) (ob:=4) (pa:=(a.take 4).map iv) (pb:=(b.take 4).map iv) (aS H _ 0) (aS H _ 1) ea (by simp[ha]) eb (by simp[hb]) (by rw[KH,RH]) (by rw[KH];exact SO _);simp only[KH,RH]at c2;refine aL ((c2 _ _ ?_));(try simp only[seval]);refine ak ?_;refine aC ?_;refine⟨λh2=> ?_,λh2=> ?_⟩
  ·refine ak ?_;refine a_ ?_;rw[if_pos (by simpa using h2)]at hk;exact lB hH hk
  ·refine aP ?_;rw[if_neg (by simpa using h2)]at hk;refine eS 4 ?_;simp only[seval];have c3:=λk kp=>IB (lv:=lv) (k:=k) (kp:=kp) (H:=H++[.cells (a.map iv) 86, .cells (b.map iv) 86]) (xs:=a.drop 8) (ys:=b.drop 8) (ia:=H.length) (ib:=H.length+1) (oa:=8) (ob:=8) (pa:=(a.take 4).map iv++((a.drop 4).take 4).map iv) (pb:=(b.take 4).map iv++((b.drop 4).take 4).map iv) (ra:=[]) (rb:=[]) (aS H _ 0) (aS H _ 1) (by rw[ea];simp) (by simp[ha]) (by rw[eb];simp) (by simp[hb]) (by rw[KI,RI]) (by rw[KI];omega);simp only[KI,RI]at c3;refine aL ((c3 _ _ ?_));(try simp only[seval]);refine a_ ?_;exact lB hH hk
end
open Go.Conc Go.Proofs Go.Gg.Tk
theorem F5{α:Type}{g:α->AV}{ca pa ra:List AV}{xs:List α}{o i:Nat}{x:α}(hc:ca=pa++(xs.map g++ra))(ho:pa.length=o)(h:xs[i]?=some x):ca.drop (o+i)=g x::((xs.drop (i+1)).map g++ra):=by
 subst hc ho;rw[U4,TK (by omega),Up,show pa.length+i-pa.length=i by omega,U4,yG h,show i-(xs.map g).length=0 by have:=eU h;simp;omega,WS];rfl
theorem F6{α:Type}{g:α->AV}{ca pa ra:List AV}{xs:List α}{o i:Nat}{y:α}(hc:ca=pa++(xs.map g++ra))(ho:pa.length=o)(h:i<xs.length):ca.take (o+i)++[g y]++ca.drop (o+i+1)=pa++((xs.set i y).map g++ra):=by
 subst hc ho;have h1:(pa++(xs.map g++ra)).take (pa.length+i)=pa++(xs.map g).take i:=by
  rw[List.take_append,SW (by omega),show pa.length+i-pa.length=i by omega,Tq (by simp;omega)]
 have h2:(pa++(xs.map g++ra)).drop (pa.length+i+1)=(xs.map g).drop (i+1)++ra:=by
  rw[U4,TK (by omega),Up,show pa.length+i+1-pa.length=i+1 by omega,VJ (by simp;omega)]
 rw[h1,h2,<- MG h];simp[SC]
namespace Tk
def Kn.l (F:Kn)(mp:Nat):List AV:=bv F.has:: .mp mp::(F.aA.map (λn=>wv n)++(F.hours.map (λn=>wv n)++(F.less.map (λn=>wv n)++(F.aV.map (λn=>wv n)++F.first.map iv))))
structure bP (F:Kn):Prop where
 aA:F.aA.length=4
 hours:F.hours.length=4
 less:F.less.length=4
 aV:F.aV.length=3
 first:F.first.length=11
 mr:∀n∈F.aA,n<65536
 mL:∀n∈F.hours,n<65536
 mV:∀n∈F.less,n<65536
 lU:∀n∈F.aV,n<65536
 h4:∀h∈F.aH,h.length=4
theorem Kn.len{F:Kn}(h:bP F)(mp:Nat):(F.l mp).length=28:=by simp[Kn.l,h.aA,h.hours,h.less,h.aV,h.first]
theorem Kn.F_{F:Kn}{mp p n:Nat}(h:F.aA[p]?=some n):(F.l mp).drop (2+p)=wv n::((F.aA.drop (p+1)).map (λn=>wv n)++(F.hours.map (λn=>wv n)++(F.less.map (λn=>wv n)++(F.aV.map (λn=>wv n)++F.first.map iv)))):=F5 (pa:=[bv F.has, .mp mp]) rfl rfl h
theorem Kn.aaN{F:Kn}{mp p v:Nat}(h:p<F.aA.length):(F.l mp).take (2+p)++[wv v]++(F.l mp).drop (2+p+1)=({F with aA:=F.aA.set p v}:Kn).l mp:=F6 (g:=λn=>wv n) (pa:=[bv F.has, .mp mp]) rfl rfl h
theorem Kn.Kq{F:Kn}(k:bP F){mp p n:Nat}(h:F.hours[p]?=some n):(F.l mp).drop (6+p)=wv n::((F.hours.drop (p+1)).map (λn=>wv n)++(F.less.map (λn=>wv n)++(F.aV.map (λn=>wv n)++F.first.map iv))):=F5 (pa:=bv F.has:: .mp mp::F.aA.map (λn=>wv n)) rfl (by simp[k.aA]) h
theorem Kn.Rl{F:Kn}(k:bP F){mp p v:Nat}(h:p<F.hours.length):(F.l mp).take (6+p)++[wv v]++(F.l mp).drop (6+p+1)=({F with hours:=F.hours.set p v}:Kn).l mp:=F6 (g:=λn=>wv n) (pa:=bv F.has:: .mp mp::F.aA.map (λn=>wv n)) rfl (by simp[k.aA]) h
theorem Kn.Lr{F:Kn}(k:bP F){mp p n:Nat}(h:F.less[p]?=some n):(F.l mp).drop (10+p)=wv n::((F.less.drop (p+1)).map (λn=>wv n)++(F.aV.map (λn=>wv n)++F.first.map iv)):=F5 (pa:=bv F.has:: .mp mp::(F.aA.map (λn=>wv n)++F.hours.map (λn=>wv n))) (by simp[Kn.l]) (by simp[k.aA,k.hours]) h
theorem Kn.Sz{F:Kn}(k:bP F){mp p v:Nat}(h:p<F.less.length):(F.l mp).take (10+p)++[wv v]++(F.l mp).drop (10+p+1)=({F with less:=F.less.set p v}:Kn).l mp:=by
 have:=F6 (g:=λn=>wv n) (ca:=F.l mp) (y:=v) (pa:=bv F.has:: .mp mp::(F.aA.map (λn=>wv n)++F.hours.map (λn=>wv n))) (ra:=F.aV.map (λn=>wv n)++F.first.map iv) (by simp[Kn.l]) (show _=10 by simp[k.aA,k.hours]) h;rw[this];simp[Kn.l]
theorem Kn.CW{F:Kn}(k:bP F){mp p n:Nat}(h:F.aV[p]?=some n):(F.l mp).drop (14+p)=wv n::((F.aV.drop (p+1)).map (λn=>wv n)++F.first.map iv):=F5 (pa:=bv F.has:: .mp mp::(F.aA.map (λn=>wv n)++(F.hours.map (λn=>wv n)++F.less.map (λn=>wv n)))) (by simp[Kn.l]) (by simp[k.aA,k.hours,k.less]) h
theorem Kn.aa4{F:Kn}(k:bP F){mp p v:Nat}(h:p<F.aV.length):(F.l mp).take (14+p)++[wv v]++(F.l mp).drop (14+p+1)=({F with aV:=F.aV.set p v}:Kn).l mp:=by
 have:=F6 (g:=λn=>wv n) (ca:=F.l mp) (y:=v) (pa:=bv F.has:: .mp mp::(F.aA.map (λn=>wv n)++(F.hours.map (λn=>wv n)++F.less.map (λn=>wv n)))) (ra:=F.first.map iv) (by simp[Kn.l]) (show _=14 by simp[k.aA,k.hours,k.less]) h;rw[this];simp[Kn.l]
theorem Kn.Bp{F:Kn}{mp:Nat}:(F.l mp)[0]?=some (bv F.has):=rfl
theorem Kn.af9{F:Kn}{mp:Nat}:(F.l mp).drop 1= .mp mp::(F.aA.map (λn=>wv n)++(F.hours.map (λn=>wv n)++(F.less.map (λn=>wv n)++(F.aV.map (λn=>wv n)++F.first.map iv)))):=rfl
theorem Kn.apn{F:Kn}{mp:Nat}:(F.l mp).take 0++[bv true]++(F.l mp).drop (0+1)=({F with has:=true}:Kn).l mp:=rfl
theorem Kn.abH{F:Kn}(k:bP F){mp:Nat}{t:List Int}(ht:t.length=11):(F.l mp).take 17++t.map iv++(F.l mp).drop (17+11)=({F with first:=t}:Kn).l mp:=by
 have e:F.l mp=(bv F.has:: .mp mp::(F.aA.map (λn=>wv n)++(F.hours.map (λn=>wv n)++(F.less.map (λn=>wv n)++F.aV.map (λn=>wv n)))))++F.first.map iv:=by simp[Kn.l]
 have hl:(bv F.has::AV.mp mp::(F.aA.map (λn=>wv n)++(F.hours.map (λn=>wv n)++(F.less.map (λn=>wv n)++F.aV.map (λn=>wv n))))).length=17:=by simp[k.aA,k.hours,k.less,k.aV]
 rw[TK (by rw[Kn.len k];omega),e,Tq (by omega),SW (by omega),SI];simp[Kn.l]
structure iL (x:ai)(t:List Int):Prop where
 len:t.length=11
 bH:jz (t.take 4)
 num:∀p,p<x.pieces.length->∃n:Nat,t[4+p]?=some (n:Int)/\n<9/\0<=ju (t.take 4) (n+t.getD 0 0)
 own:∀s,s<x.aB.length->∃o:Nat,t[8+s]?=some (o:Int)/\o<4
end Tk
def setH (hs:List (List Int)):aa:= .obj (.map (hs.zipIdx.map dN).toArray hs.length)
theorem qw{H:List aa}{i:Nat}{x:aa}(h:H[i]?=some x):H.set i x=H:=by
 apply Zw;intro j;rw[UD];split
 ·rename_i e;subst e;rw[if_pos (eU h)];exact h.symm
 ·rfl
theorem uK{H L:List aa}{i:Nat}{x:aa}(h:i<H.length):(H++L).set i x=H.set i x++L:=WQ _ _ h
section
variable {lv:Bool}{H:List aa}{k kp:AV->List aa->Prop}
theorem N2{F:Kn}{t:List Int}(h:bP F)(ht:t.length=11):bP (iM F t):=by
 unfold iM;split
 ·exact h
 ·exact⟨h.aA,h.hours,h.less,h.aV,ht,h.mr,h.mL,h.mV,h.lU,h.h4⟩
theorem CJ{l:List Nat}{i v:Nat}(h:∀n∈l,n<65536)(hv:v<65536):∀n∈l.set i v,n<65536:=λn hn=>by
 rcases Uu hn with h'|rfl
 ·exact h n h'
 ·exact hv
theorem Tk.bP.GD{G:Kn}(h:bP G){i v:Nat}(hv:v<65536):bP {G with aV:=G.aV.set i v}:=⟨h.aA,h.hours,h.less,by simp[h.aV],h.first,h.mr,h.mL,h.mV,CJ h.lU hv,h.h4⟩
theorem Tk.bP.abM{G:Kn}(h:bP G){i v:Nat}(hv:v<65536):bP {G with aA:=G.aA.set i v}:=⟨by simp[h.aA],h.hours,h.less,h.aV,h.first,CJ h.mr hv,h.mL,h.mV,h.lU,h.h4⟩
theorem Tk.bP.abK{G:Kn}(h:bP G){i v:Nat}(hv:v<65536):bP {G with hours:=G.hours.set i v}:=⟨h.aA,by simp[h.hours],h.less,h.aV,h.first,h.mr,CJ h.mL hv,h.mV,h.lU,h.h4⟩
theorem Tk.bP.abL{G:Kn}(h:bP G){i v:Nat}(hv:v<65536):bP {G with less:=G.less.set i v}:=⟨h.aA,h.hours,by simp[h.less],h.aV,h.first,h.mr,h.mL,CJ h.mV hv,h.lU,h.h4⟩
theorem DO{l:List Nat}{i n v:Nat}(h:l[i]?=some n):oT l i v=l.set i (n|||2^v):=by
 unfold oT;rw[SF,h];rfl
theorem abJ(hs:List (List Int)):setH hs= .obj (.map (hs.zipIdx.map dN).toArray hs.length):=rfl
theorem abI(hs:List (List Int))(h:List Int):setH (hs++[h])= .obj (.map ((hs.zipIdx++[(h,hs.length)]).map dN).toArray (hs.length+1)):=by
 rw[abJ,List.zipIdx_append,SQ];simp
theorem Aq{α:Type}{l:List α}{y:α×Nat}(h:y∈l.zipIdx):y.1∈l:=by
 obtain⟨a,b⟩:=y;have:=List.mem_zipIdx h;simp at this;rw[this.2];exact VM _
theorem IP{x:List Int}{hs:List (List Int)}:(pO x hs.zipIdx 0=none/\x∉hs)\/(∃i b,pO x hs.zipIdx 0=some (i, .bool true)/\hs.zipIdx[i]?=some (x,b)/\x∈hs):=by
 cases h:pO x hs.zipIdx 0 with
 |none=>
  refine .inl ⟨rfl,λhm=> ?_⟩;obtain⟨i,hi⟩:=Uz.1 hm;have:(x,i)∈hs.zipIdx:=Uz.2 ⟨i,by rw[List.getElem?_zipIdx,hi];simp⟩;exact Pj h _ this rfl
 |some p=>
  obtain⟨i,v⟩:=p;obtain⟨b,_,h2,rfl⟩:=Pk h;rw[Y1]at h2;exact .inr ⟨i,b,rfl,h2,Aq (y:=(x,b)) (S_ h2)⟩
theorem F.i3:∃i,SD.info? 3=some i/\i.size=1:=by
 obtain⟨i,h1,h2⟩:=Tl.1 F.R0;exact⟨i,h1,h2⟩
theorem uI{H L:List aa}{i:Nat}{z:aa}(h:i<H.length):(H.set i z++L)[i]?=some z:=by
 rw[SY (by simpa using h),UD,if_pos rfl,if_pos h]
theorem uJ{H L:List aa}{i:Nat}{z y:aa}(h:i<H.length):(H.set i z++L).set i y=H.set i y++L:=by
 rw[uK (by simpa using h),Wu]
theorem ahM{x:ai}{t:List Int}{deep:Int}{fp mp:Nat}{Q:Kn}(hx:x.Ok)(ht:iL x t)(hQ:bP Q)(mb:fp≠mp)(hf:H[fp]?=some (.cells (Q.l mp) 88))(hm:H[mp]?=some (setH Q.aH))(hk:k (.aK []) ((H.set fp (.cells ((eF x deep Q t).l mp) 88)).set mp (setH (eF x deep Q t).aH))):bi lv SD 99 H [.op fp 0,x.av, .agg (t.map iv),iv deep] k kp:=by
 refine bI (rs:=[]) (nt:=135) Tryz.f99 λhH hA=> ?_;simp only[bp,SS,ai.av];have j_:=ht.len;have I7:(t.map iv).length=11:=by rw[Tj,j_]
 have ma:=eU hf;have B4:=eU hm;have QU:=Kn.len hQ mp;have bQ:x.l=[iv x.first,iv x.hours,iv x.am,ej x.seen,bk x.pieces,bk x.aB]:=rfl;have dz:∀(L:List aa) i,(H++L)[H.length+i]?=L[i]?:=λL i=>aS H L i;obtain⟨R1,pS⟩:∃R1,R1=iM Q t:=⟨_,rfl⟩;have nw:bP R1:=by rw[pS];exact N2 hQ j_
 have BB:R1.aH=Q.aH:=by rw[pS];unfold iM;split<;>rfl
 obtain⟨H1,lE⟩:∃H1,H1=H.set fp (.cells (R1.l mp) 88):=⟨_,rfl⟩;have cU:H1.length=H.length:=by rw[lE,TF]
 have w8:H1[fp]?=some (.cells (R1.l mp) 88):=by rw[lE,UD,if_pos rfl,if_pos ma]
 have Er:H1[mp]?=some (setH R1.aH):=by rw[lE,TP mb,BB];exact hm
 have aj3:∀G:Kn,∀hs:List (List Int),bL ((H1.set fp (.cells (G.l mp) 88)).set mp (setH hs)):=λG hs=>by
  have hl:((H1.set fp (.cells (G.l mp) 88)).set mp (setH hs)).length=H.length:=by rw[TF,TF,cU]
  intro z hz;rw[hl];rcases Uu hz with hz|rfl
  ·rcases Uu hz with hz|rfl
   ·rw[lE]at hz;rcases Uu hz with hz|rfl
    ·exact hH z hz
    ·intro a ha;simp only[Kn.l,SK,SN,Th]at ha;rcases ha with rfl|rfl|⟨_,_,rfl⟩|⟨_,_,rfl⟩|⟨_,_,rfl⟩|⟨_,_,rfl⟩|⟨_,_,rfl⟩
     ·exact .val _
     ·exact .mp (by omega)
     all_goals exact .val _
   ·intro a ha;simp only[Kn.l,SK,SN,Th]at ha;rcases ha with rfl|rfl|⟨_,_,rfl⟩|⟨_,_,rfl⟩|⟨_,_,rfl⟩|⟨_,_,rfl⟩|⟨_,_,rfl⟩
    ·exact .val _
    ·exact .mp (by omega)
    all_goals exact .val _
  ·trivial
 have gZ:k (.aK []) ((H1.set fp (.cells ((eF x deep Q t).l mp) 88)).set mp (setH (eF x deep Q t).aH)):=by rw[lE,Wu];exact hk
 have eA:∀(G:Kn)(hs:List (List Int))(L:List aa),eF x deep Q t=G->G.aH=hs->cy H1.length ((H1.set fp (.cells (G.l mp) 88)).set mp (setH hs)++L) (.aK []) k:=λG hs L hG gD=>by
  subst hG gD;exact jT (Wk.refl _) rfl (by rw[TF,TF,cU];exact SO _) (aj3 _ _) (by simp[iV]) gZ
 have aF:eF x deep Q t=(if deep=2 then{R1 with aV:=mX t x.aB.length R1.aV}else if deep=0 then{R1 with aH:=iG R1.aH (t.take 4)}else{R1 with aA:=rI t x.pieces.length R1.aA,hours:=vR t x.pieces.length R1.hours,less:=xL t x.pieces.length x.pieces.length R1.less}):=by rw[pS];rfl
 rw[aF]at eA;clear hk gZ aF;refine ak ?_;refine aj ?_;simp only[seval,ey hf,Kn.Bp];refine aC ?_;refine⟨λhc=> ?ga,λhc=> ?gb⟩
 case' ga=>
  have e1:R1={Q with has:=true,first:=t}:=by rw[pS];unfold iM;rw[hc];rfl
  have eH:∀L:List aa,(H++L).set fp (.cells (({Q with has:=true}:Kn).l mp) 88)=H.set fp (.cells (({Q with has:=true}:Kn).l mp) 88)++L:=λL=>uK ma;have EA:bP {Q with has:=true}:=⟨hQ.aA,hQ.hours,hQ.less,hQ.aV,hQ.first,hQ.mr,hQ.mL,hQ.mV,hQ.lU,hQ.h4⟩;have ajH:=Kn.len EA mp;have Gz:=Kn.abH EA (mp:=mp) (t:=t) j_;have zA:T_ 11 (t.map iv)=t.map iv:=SW (by omega);have ajr:∀(z:aa)(L:List aa),(H.set fp z++L)[H.length+1]?=L[1]?:=λz L=>by have:=aS (H.set fp z) L 1;rwa [TF]at this
  refine qM [5,8] [0,1,2,3,4,5,6,7,8] [⟨0,false,[],[]⟩,⟨1,false,[],[([5],[5])]⟩,⟨2,false,[],[([5],[5])]⟩,⟨3,false,[],[]⟩,⟨4,false,[],[]⟩,⟨5,true,[5],[]⟩,⟨6,false,[5],[]⟩,⟨7,false,[5],[]⟩,⟨8,true,[5,8],[]⟩] (λD=>bif isDone 8 D then H1++[.cells x.l 76, .cells (t.map iv) 86]else bif isDone 5 D then H.set fp (.cells (({Q with has:=true}:Kn).l mp) 88)++[.cells x.l 76, .cells (t.map iv) 86]else H++[.cells x.l 76, .cells (t.map iv) 86]) ?_;simp only[seval,ey hf,uI ma,uJ ma,uK ma,QU,ajH,j_,I7,zA,ajr];have eL:(AV.val (.bool true)::(T_ 16 (Ud 1 (Q.l mp))++t.map iv++Ud 27 (Ud 1 (Q.l mp))))=R1.l mp:=by rw[e1];exact Gz
  refine⟨by rfl,by rw[T8,QU];omega,by rw[eL,lE], ?_⟩;rw[eL,<- lE,<- cU]
 case' gb=>
  have e1:R1=Q:=by rw[pS];unfold iM;rw[hc];rfl
  have Ir:H1=H:=by rw[lE,e1];exact qw hf
  refine aP ?_;rw[<- Ir]
 all_goals
  clear hc e1;have lI:fp<H1.length:=by omega
  have aT:∀(L:List aa),(H1++L)[H1.length]?=L[0]?:=λL=>aS H1 L 0;have cZ:∀(L:List aa),(H1++L)[H1.length+1]?=L[1]?:=λL=>aS H1 L 1;have dV:∀(z:aa)(L:List aa),(H1.set fp z++L)[H1.length]?=L[0]?:=λz L=>by have:=aS (H1.set fp z) L 0;rwa [TF]at this
  have dW:∀(z:aa)(L:List aa),(H1.set fp z++L)[H1.length+1]?=L[1]?:=λz L=>by have:=aS (H1.set fp z) L 1;rwa [TF]at this
  have Fq:∀G:Kn,G.aH=R1.aH->(H1.set fp (.cells (G.l mp) 88)).set mp (setH R1.aH)=H1.set fp (.cells (G.l mp) 88):=λG _=>qw (by rw[TP mb];exact Er);refine ak ?_;refine ak ?_;refine aC ?_;refine⟨λh2=> ?_,λh2=> ?_⟩
  ·
   replace h2:deep=2:=(by simpa using h2);have xA:=hx.fD;rw[if_pos h2]at eA;refine aj ?_;simp only[seval,aT,bQ,bk];refine cN ?_;refine gM x.aB.length (λi:Nat=>[(30,iv i)]) (λi=>H1.set fp (.cells (({R1 with aV:=mX t i R1.aV}:Kn).l mp) 88)++[.cells x.l 76, .cells (t.map iv) 86]) (λi=>bP {R1 with aV:=mX t i R1.aV}) (λ_ _=>rfl) (by simp only[seval];simp[bB,Wk.refl]) (by rw[show ({R1 with aV:=mX t 0 R1.aV}:Kn)=R1 from rfl,qw w8];rfl) (λ_ _ _=>by simp) nw (λcm dF i cw ay R hR=> ?_);refine ak ?_;refine aC ?_;refine⟨λh3=> ?_,λh3=> ?_⟩
   ·have bE:i<x.aB.length:=(by omega);obtain⟨o,ho,ho4⟩:=ht.own i bE;have qi:rP t i=o:=(by unfold rP;rw[SF,ho];rfl);obtain⟨n,hn⟩:=cG (xs:=mX t i R1.aV) (i:=i) (by have:=ay.aV;simp only at this;omega);have B6:n<65536:=ay.lU n (S_ hn);have b3:(0<=(i:Int)/\(i:Int)<3)=True:=(by simp;omega);have bX:SE.wrap ((i:Int)+1)=((i+1:Nat):Int):=(by rw[bD _ (by omega)];rfl);have zp:=Kn.CW ay (mp:=mp) (p:=i) (n:=n) hn;have sQ:=Kn.aa4 ay (mp:=mp) (p:=i) (v:=n|||2^o) (eU hn);have dQ:=Kn.len ay mp;refine aP ?_;refine ak ?_;refine eS 15 ?_;simp only[seval,dW,uI lI,uJ lI,b3,zp,j7 ho];refine iH (wv (n|||2^o)) (bT (tR B6 (show o<16 by omega) ⟨rfl,rfl⟩)) ?_;(try simp only[seval,uI lI,uJ lI,b3,dQ]);refine⟨by omega, ?_⟩;rw[sQ];refine aj ?_;simp only[seval,bX];have dc:mX t (i+1) R1.aV=(mX t i R1.aV).set i (n|||2^o):=(by rw[mX,qi,DO hn]);refine hR _ ⟨bE, ?_, ?_⟩
    ·rw[dc];exact ay.GD (pA B6 (wn (by omega)))
    ·rw[dc];exact dR
   ·have dK:i=x.aB.length:=(by omega);subst dK;have:=eA _ R1.aH [.cells x.l 76, .cells (t.map iv) 86] rfl rfl;rw[Fq {R1 with aV:=mX t x.aB.length R1.aV} rfl]at this;refine cq ?_;refine a_ ?_;exact this
  ·replace h2:¬deep=2:=(by simpa using h2);rw[if_neg h2]at eA;refine ak ?_;refine aC ?_;refine⟨λh3=> ?_,λh3=> ?_⟩
   ·
    replace h3:deep=0:=(by simpa using h3);rw[if_pos h3]at eA;have Cl:(t.take 4).length=4:=(by simp[j_]);have jX:∀L:List aa,(H1++L)[mp]?=some (.obj (.map (R1.aH.zipIdx.map dN).toArray R1.aH.length)):=λL=>ey Er;have hfp:∀L:List aa,(H1++L)[fp]?=some (.cells (R1.l mp) 88):=λL=>ey w8;have Q9:mp<H1.length:=(by omega);obtain⟨i3,pX,pq⟩:=F.i3;have I8:∀y∈R1.aH.zipIdx,y.1.length=4:=λy hy=>nw.h4 _ (Aq hy);have EP:=ack (ts:=R1.aH.zipIdx) F.De F.u3 pX pq Cl I8;have EK:=λb=>acg (b:=b) (k:= .i64) (d:=9998) F.De F.u3 pX pq Cl;refine eS 6 ?_;simp only[seval,hfp,cZ,jX,Kn.af9,j_,I7];rw[<- Vy];refine eC (uF _) (eC rfl ⟨EK _,_,EP, ?_, ?_⟩)
    ·intro i v xq;rcases IP (x:=t.take 4) (hs:=R1.aH)with⟨h,_⟩|⟨i',b,h,h2,_⟩
     ·rw[h]at xq;cases xq
     ·rw[h]at xq;cases xq;rw[Ti,h2];exact ao3 _
    ·rcases IP (x:=t.take 4) (hs:=R1.aH)with⟨h,hn⟩|⟨i',b,h,h2,hn⟩
     ·rw[h,abd,uK Q9];have:=eA _ _ [.cells x.l 76, .cells (t.map iv) 86] rfl rfl;rw[show iG R1.aH (t.take 4)=R1.aH++[t.take 4] by rw[iG,if_neg hn],abI]at this;rw[show H1.set fp (.cells (({R1 with aH:=R1.aH++[t.take 4]}:Kn).l mp) 88)=H1 from qw w8]at this;refine a_ ?_;exact this
     ·rw[h,anN h2,uK Q9];have:=eA _ _ [.cells x.l 76, .cells (t.map iv) 86] rfl rfl;rw[show iG R1.aH (t.take 4)=R1.aH by rw[iG,if_pos hn],abJ]at this;rw[show H1.set fp (.cells (({R1 with aH:=R1.aH}:Kn).l mp) 88)=H1 from qw w8]at this;refine a_ ?_;exact this
   ·
    replace h3:¬deep=0:=(by simpa using h3);rw[if_neg h3]at eA;refine aP ?_;have oC:=hx.dI;obtain⟨P,hP⟩:∃P:Nat->Kn,∀p,P p={R1 with aA:=rI t p R1.aA,hours:=vR t p R1.hours,less:=xL t x.pieces.length p R1.less}:=⟨_,λ_=>rfl⟩;obtain⟨P',Ez⟩:∃P':Nat->Nat->Kn,∀p q,P' p q={R1 with aA:=rI t (p+1) R1.aA,hours:=vR t (p+1) R1.hours,less:=v5 t p q (xL t x.pieces.length p R1.less)}:=⟨_,λ_ _=>rfl⟩;have P0:P 0=R1:=(by rw[hP];rfl);have hPs:∀p,P' p x.pieces.length=P (p+1):=λp=>(by rw[hP,Ez];rfl);refine aj ?_;simp only[seval,aT,bQ,bk];refine cN ?_;refine gM x.pieces.length (λi:Nat=>[(62,iv i)]) (λi=>H1.set fp (.cells ((P i).l mp) 88)++[.cells x.l 76, .cells (t.map iv) 86]) (λi=>bP (P i)) (λ_ _=>rfl) (by simp only[seval];simp[bB,Wk.refl]) (by rw[P0,qw w8];rfl) (λ_ _ _=>by simp) (by rw[P0];exact nw) (λcm dF p cw ay R hR=> ?_);refine ak ?_;refine aC ?_;refine⟨λh=> ?_,λh=> ?_⟩
    ·have dQ:p<x.pieces.length:=(by omega);obtain⟨o,ho,ho9,qi⟩:=ht.num p dQ;obtain⟨n,hn⟩:=cG (xs:=(P p).aA) (i:=p) (by have:=ay.aA;omega);obtain⟨m,gh⟩:=cG (xs:=(P p).hours) (i:=p) (by have:=ay.hours;omega);have B6:n<65536:=ay.mr n (S_ hn);have Q2:m<65536:=ay.mL m (S_ gh);have b4:(0<=(p:Int)/\(p:Int)<4)=True:=(by simp;omega);have bX:SE.wrap ((p:Int)+1)=((p+1:Nat):Int):=(by rw[bD _ (by omega)];rfl);have zp:=Kn.F_ (mp:=mp) hn;have sQ:=Kn.aaN (mp:=mp) (p:=p) (v:=n|||2^o) (eU hn);have Rt:=Kn.len ay mp;have kJ:my t p=o:=(by unfold my;rw[SF,ho];rfl);refine aP ?_;refine ak ?_;refine eS 15 ?_;simp only[seval,dW,uI lI,uJ lI,b4,zp,j7 ho];refine iH (wv (n|||2^o)) (bT (tR B6 (show o<16 by omega) ⟨rfl,rfl⟩)) ?_;(try simp only[seval,uI lI,uJ lI,b4,Rt]);refine⟨by omega, ?_⟩;rw[sQ];obtain⟨c0,xg⟩:=cG (xs:=t) (i:=0) (by omega);have EI:t.getD 0 0=c0:=(by rw[SF,xg];rfl);rw[EI]at qi;have Ql:c0∈t.take 4:=by
      match t,j_,xg with
      |a::t',_,xg=>cases xg;simp
     have pc:=ht.bH.lo c0 Ql;have EU:=ht.bH.hi c0 Ql;have gH:SE.wrap ((o:Int)+c0)=(o:Int)+c0:=bD _ (by omega);have aiZ:(t.map iv)[0]?=some (iv c0):=(by rw[Ti,xg];rfl);obtain⟨u,hu⟩:=Int.eq_ofNat_of_zero_le qi;have hu4:u<4:=by
      have h5:ju (t.take 4) ((o:Int)+c0)<0+(t.take 4).length:=acB;rw[ht.bH.len,hu]at h5;omega
     have hth:C9 t p=u:=by
      unfold C9;rw[SF,ho,EI];simp only[S6];rw[hu];rfl
     obtain⟨G1,Bw⟩:∃G1,G1=({P p with aA:=(P p).aA.set p (n|||2^o)}:Kn):=⟨_,rfl⟩;have Bx:bP G1:=(by rw[Bw];exact ay.abM (pA B6 (wn (by omega))));have J_:G1.hours[p]?=some m:=(by rw[Bw];exact gh);rw[<- Bw];have Rs:=Kn.Kq Bx (mp:=mp) J_;have Rv:=Kn.Rl Bx (mp:=mp) (p:=p) (v:=m|||2^u) (eU J_);have Ru:=Kn.len Bx mp;refine eS 22 ?_;simp only[seval,dW,uI lI,uJ lI,b4,Rs,j7 ho,I7,j_,gH];rw[<- Vy];refine eC aiZ ?_;(try simp only[seval,gH]);refine iH (iv u) (bT (Pg (h:=t.take 4) (n:=(o:Int)+c0) ht.bH.len ⟨by rw[hu],rfl⟩)) ?_;refine iH (wv (m|||2^u)) (bT (tR Q2 (show u<16 by omega) ⟨rfl,rfl⟩)) ?_;(try simp only[seval,uI lI,uJ lI,b4,Ru]);refine⟨by omega, ?_⟩;rw[Rv];have Jk:({G1 with hours:=G1.hours.set p (m|||2^u)}:Kn)=P' p 0:=by
      rw[Bw,Ez];simp only[hP]at hn gh⊢;rw[rI,kJ,DO hn,vR,hth,DO gh];rfl
     have aiM:bP (P' p 0):=(by rw[<- Jk];exact Bx.abK (pA Q2 (wn (by omega))));rw[Jk];clear sQ zp Rt Bx J_ Rs Rv Ru Jk Bw hn gh ay;refine aj ?_;simp only[seval,dV,bQ,bk];refine cN ?_;refine gM x.pieces.length (λi:Nat=>[(108,iv i)]) (λi=>H1.set fp (.cells ((P' p i).l mp) 88)++[.cells x.l 76, .cells (t.map iv) 86]) (λi=>bP (P' p i)) (λ_ _=>rfl) (by simp only[seval];simp[bB,Wk.refl]) rfl (λ_ _ _=>by simp) aiM (λEv asp q Fo pk R' P3=> ?_);refine ak ?_;refine aC ?_;refine⟨λh=> ?_,λh=> ?_⟩
     ·have mf:q<x.pieces.length:=(by omega);obtain⟨o2,Rf,asA,_⟩:=ht.num q mf;have b4q:(0<=(q:Int)/\(q:Int)<4)=True:=(by simp;omega);have vV:SE.wrap ((q:Int)+1)=((q+1:Nat):Int):=(by rw[bD _ (by omega)];rfl);have dc:P' p (q+1)={P' p q with less:=if o<o2 then oT (P' p q).less p q else(P' p q).less}:=by
       rw[Ez,Ez,v5];simp only[SF,ho,Rf,S6];by_cases hlt:o<o2
       ·rw[if_pos (by omega),if_pos hlt]
       ·rw[if_neg (by omega),if_neg hlt]
      refine aP ?_;refine ak ?_;refine eS 8 ?_;simp only[seval,dW,b4,b4q,j7 ho,j7 Rf];refine aC ?_;refine⟨λh=> ?_,λh=> ?_⟩
      ·have hlt:o<o2:=(by simpa using h);rw[if_pos hlt]at dc;obtain⟨v,hv⟩:=cG (xs:=(P' p q).less) (i:=p) (by have:=pk.less;omega);have FA:v<65536:=pk.mV v (S_ hv);have aj9:=Kn.Lr pk (mp:=mp) hv;have akd:=Kn.Sz pk (mp:=mp) (p:=p) (v:=v|||2^q) (eU hv);have akc:=Kn.len pk mp;rw[DO hv]at dc;refine eS 12 ?_;simp only[seval,uI lI,uJ lI,b4,aj9];refine iH (wv (v|||2^q)) (bT (tR FA (show q<16 by omega) ⟨rfl,rfl⟩)) ?_;(try simp only[seval,uI lI,uJ lI,b4,akc]);refine⟨by omega, ?_⟩;rw[akd,<- dc];refine aj ?_;simp only[seval,vV];refine P3 _ ⟨mf, ?_, ?_⟩
       ·rw[dc];exact pk.abL (pA FA (wn (by omega)))
       ·exact dR
      ·have hlt:¬o<o2:=(by simpa using h);rw[if_neg hlt]at dc;refine aP ?_;refine aj ?_;simp only[seval,vV];rw[show ({P' p q with less:=(P' p q).less}:Kn)=P' p q from rfl]at dc;refine P3 _ ⟨mf, ?_, ?_⟩
       ·rw[dc];exact pk
       ·rw[dc];exact dR
     ·have hqe:q=x.pieces.length:=(by omega);subst hqe;rw[hPs]at pk⊢;refine cq ?_;refine aj ?_;simp only[seval,bX];exact hR _ ⟨dQ,pk,dR⟩
    ·have dq:p=x.pieces.length:=(by omega);subst dq;have:=eA _ R1.aH [.cells x.l 76, .cells (t.map iv) 86] rfl rfl;rw[<- hP,Fq (P _) (by rw[hP])]at this;refine cq ?_;exact this
end
open Go.Conc Go.Proofs Go.Gg.Tk
namespace Tk
def gS (F:Kn)(hs:List (List Int))(G:Kn):Kn:=if G.has then⟨true,hs.foldl iG F.aH,lT F.aA G.aA,lT F.hours G.hours,lT F.less G.less,lT F.aV G.aV,if F.has=false\/so G.first F.first then G.first else F.first⟩else F
def nR (l m:List Nat):Nat->List Nat
 |0=>l
 |i+1=>(nR l m i).set i ((nR l m i).getD i 0|||m.getD i 0)
end Tk
theorem Gj{l m:List Nat}{i a b:Nat}(ha:(nR l m i)[i]?=some a)(hb:m[i]?=some b):nR l m (i+1)=(nR l m i).set i (a|||b):=by
 rw[nR,SF,SF,ha,hb];rfl
theorem am8{l m:List Nat}(h:l.length=m.length){i:Nat}(hi:i<=l.length):nR l m i=lT (l.take i) (m.take i)++l.drop i:=by
 induction i with
 |zero=>simp[nR,lT]
 |succ i ih=>
  have hl:i<l.length:=by omega
  have hm:i<m.length:=by omega
  have e1:(lT (l.take i) (m.take i)).length=i:=by simp[lT];omega
  have e2:(nR l m i).getD i 0=l[i]:=by
   rw[ih (by omega),SF,Tg (by omega),e1];simp[hl]
  rw[nR,e2,ih (by omega),Uy _ _ (by omega),e1,UP,SF,SV hm,S6,TR hl,TM,Vh,Vh,SV hl,SV hm,X0,X0];unfold lT;rw[List.zipWith_append (by simp;omega)];simp
theorem Gi{l m:List Nat}(h:l.length=m.length){n:Nat}(hn:l.length=n):nR l m n=lT l m:=by
 subst hn;rw[am8 h (SO _),h,TE,TK (by omega),SI,<- h,TE]
theorem agQ{lv:Bool}{H:List aa}{k kp:AV->List aa->Prop}{fp mp mg:Nat}{Q G:Kn}(hQ:bP Q)(hG:bP G)(mb:fp≠mp)(rh:mg≠mp)(hf:H[fp]?=some (.cells (Q.l mp) 88))(hm:H[mp]?=some (setH Q.aH))(hg:H[mg]?=some (setH G.aH))(vO:G.aH.Nodup)(hk:∀hs:List (List Int),hs.Perm G.aH->k (.aK []) ((H.set fp (.cells ((gS Q hs G).l mp) 88)).set mp (setH (gS Q hs G).aH))):bi lv SD 102 H [.op fp 0, .agg (G.l mg)] k kp:=by
 refine bI (rs:=[]) (nt:=121) Tryz.f102 λhH hA=> ?_;simp only[bp,SS];have ma:=eU hf;have B4:=eU hm;have ow:=eU hg;have EQ:=Kn.len hG mg;have Fl:=Kn.len hQ mp;have sI:(G.l mg).drop 17=G.first.map iv:=by
  have e:G.l mg=(bv G.has:: .mp mg::(G.aA.map (λn=>wv n)++(G.hours.map (λn=>wv n)++(G.less.map (λn=>wv n)++G.aV.map (λn=>wv n)))))++G.first.map iv:=by simp[Kn.l]
  rw[e,VJ (by simp[hG.aA,hG.hours,hG.less,hG.aV]),TK (by simp[hG.aA,hG.hours,hG.less,hG.aV])];rfl
 refine ak ?_;refine aj ?_;simp only[seval,Kn.Bp];refine aC ?_;refine⟨λh=> ?_,λh=> ?_⟩
 ·
  have JP:G.has=false:=by simpa using h
  have:=hk G.aH (Ze _);rw[gS,JP]at this;simp only[TC,if_false]at this;rw[qw hf,qw hm]at this;refine a_ ?_;exact je hH (Wk.refl _) (by simp[iV]) this
 ·have JP:G.has=true:=by simpa using h
  refine aP ?_;obtain⟨R1,pS⟩:∃R1,R1=(if Q.has=false\/so G.first Q.first=true then{Q with first:=G.first}else Q):=⟨_,rfl⟩;have nw:bP R1:=by
   rw[pS];split
   ·exact⟨hQ.aA,hQ.hours,hQ.less,hQ.aV,hG.first,hQ.mr,hQ.mL,hQ.mV,hQ.lU,hQ.h4⟩
   ·exact hQ
  have BB:R1.aH=Q.aH:=by rw[pS];split<;>rfl
  obtain⟨H1,lE⟩:∃H1,H1=H.set fp (.cells (R1.l mp) 88):=⟨_,rfl⟩;have aT:∀(L:List aa),(H++L)[H.length]?=L[0]?:=λL=>aS H L 0;have dV:∀(z:aa)(L:List aa),(H.set fp z++L)[H.length]?=L[0]?:=λz L=>by have:=aS (H.set fp z) L 0;rwa [TF]at this
  have j_:=hG.first;have zA:T_ 11 (G.first.map iv)=G.first.map iv:=SW (by rw[Tj];omega);have Gz:T_ 17 (Q.l mp)++G.first.map iv++Ud 28 (Q.l mp)=({Q with first:=G.first}:Kn).l mp:=Kn.abH hQ j_;have Rw:(Q.l mp).drop 17=Q.first.map iv:=by
   have e:Q.l mp=(bv Q.has:: .mp mp::(Q.aA.map (λn=>wv n)++(Q.hours.map (λn=>wv n)++(Q.less.map (λn=>wv n)++Q.aV.map (λn=>wv n)))))++Q.first.map iv:=(by simp[Kn.l]);rw[e,VJ (by simp[hQ.aA,hQ.hours,hQ.less,hQ.aV]),TK (by simp[hQ.aA,hQ.hours,hQ.less,hQ.aV])];rfl
  have RL:T_ 11 (Q.first.map iv)=Q.first.map iv:=SW (by rw[Tj,hQ.first];exact SO _);have cU:H1.length=H.length:=by rw[lE,TF]
  cases Fj:Q.has
  case' true=>
   refine eS 12 ?_;simp only[seval,ey hf,Kn.Bp,Fj,aT,sI,Rw,EQ,Fl,zA,RL];refine⟨by omega,by have:=hQ.first;omega, ?_⟩;refine aL ((agX hG.first hQ.first ?_));(try simp only[seval]);refine aC ?_;refine⟨λhb=> ?tt,λhb=> ?tf⟩
  case' false=>
   refine eS 12 ?_;simp only[seval,ey hf,Kn.Bp,Fj,aT,sI,Rw,EQ,Fl,zA,RL];refine aC ?_
  case' tt=>
   have e1:R1={Q with first:=G.first}:=(by rw[pS,if_pos (.inr hb)]);refine aj ?_;simp only[seval,ey hf,aT,sI,EQ,Fl,zA,j_,uK ma];rw[Gz,<- e1,<- lE,<- cU]
  case' tf=>
   have e1:R1=Q:=(by rw[pS,if_neg (by rw[Fj,hb];simp)]);have Ir:H1=H:=(by rw[lE,e1];exact qw hf);refine aP ?_;rw[<- Ir]
  case' false=>
   have e1:R1={Q with first:=G.first}:=(by rw[pS,if_pos (.inl Fj)]);refine aj ?_;simp only[seval,ey hf,aT,sI,EQ,Fl,zA,j_,uK ma];rw[Gz,<- e1,<- lE,<- cU]
  all_goals
   clear e1;have lI:fp<H1.length:=(by omega);have w8:H1[fp]?=some (.cells (R1.l mp) 88):=(by rw[lE,UD,if_pos rfl,if_pos ma]);have Er:H1[mp]?=some (setH R1.aH):=(by rw[lE,TP mb,BB];exact hm);have QA:fp≠mg:=λe=>(by subst e;rw[hf]at hg;cases hg);have h1g:H1[mg]?=some (setH G.aH):=(by rw[lE,TP QA];exact hg);obtain⟨R2,xa⟩:∃R2,R2=({R1 with has:=true}:Kn):=⟨_,rfl⟩;have eL:AV.val (.bool true)::Ud 1 (R1.l mp)=R2.l mp:=(by rw[xa];rfl);have Jm:R2.aH=Q.aH:=(by rw[xa];exact BB);have tV:bP R2:=(by rw[xa];exact⟨nw.aA,nw.hours,nw.less,nw.aV,nw.first,nw.mr,nw.mL,nw.mV,nw.lU,nw.h4⟩);refine aj ?_;simp only[seval,ey w8,uK lI,Kn.apn];refine⟨by have:=Kn.len nw mp;omega, ?_⟩;rw[eL];obtain⟨B,hB⟩:∃B:Kn->List (List Int)->List aa,∀K hs,B K hs=(H1.set fp (.cells (K.l mp) 88)).set mp (setH hs):=⟨_,λ_ _=>rfl⟩;have ba:∀K hs,(B K hs).length=H1.length:=λK hs=>(by rw[hB,TF,TF]);have PS:∀K hs (L:List aa),(B K hs++L)[mp]?=some (.obj (.map (hs.zipIdx.map dN).toArray hs.length)):=λK hs L=>by
    rw[SY (by rw[ba];omega),hB,UD,if_pos rfl,if_pos (by rw[TF];omega)];rfl
   have Et:∀K hs (L:List aa),(B K hs++L)[mg]?=some (.obj (.map (G.aH.zipIdx.map dN).toArray G.aH.length)):=λK hs L=>by
    rw[SY (by rw[ba];omega),hB,TP (λe=>rh e.symm),TP QA,h1g];rfl
   have aN:∀K hs (L:List aa),(B K hs++L)[fp]?=some (.cells (K.l mp) 88):=λK hs L=>by
    rw[SY (by rw[ba];omega),hB,TP (λe=>mb e.symm),UD,if_pos rfl,if_pos (by omega)]
   have aiK:∀K hs po (L:List aa),(B K hs++L).set mp (setH po)=B K po++L:=λK hs po L=>by
    rw[WQ _ _ (by rw[ba];omega),hB,hB,Wu]
   have Eu:∀K hs K' (L:List aa),(B K hs++L).set fp (.cells (K'.l mp) 88)=B K' hs++L:=λK hs K' L=>by
    rw[WQ _ _ (by rw[ba];omega),hB,hB,List.set_comm _ _ (λe=>mb e.symm),Wu]
   have PT:H1.set fp (.cells (R2.l mp) 88)=B R2 R2.aH:=by
    rw[hB];symm;exact qw (by rw[TP mb,Er,Jm,BB])
   have aT:∀K hs (L:List aa),(B K hs++L)[H1.length]?=L[0]?:=λK hs L=>(by rw[<- ba K hs];exact aS _ L 0);have cZ:∀K hs (L:List aa),(B K hs++L)[H1.length+1]?=L[1]?:=λK hs L=>(by rw[<- ba K hs];exact aS _ L 1);have iB:∀K hs (L:List aa),(B K hs++L)[H1.length+2]?=L[2]?:=λK hs L=>(by rw[<- ba K hs];exact aS _ L 2);have JM:(G.l mg).drop 1= .mp mg::((G.l mg).drop 2):=rfl;have PY:∀K:Kn,(K.l mp).drop 1= .mp mp::((K.l mp).drop 2):=λ_=>rfl;have cx:∀(K:Kn)(hs:List (List Int)),bL (B K hs):=λK hs=>by
    intro z hz;rw[ba];rw[hB]at hz;rcases Uu hz with hz|rfl
    ·rcases Uu hz with hz|rfl
     ·rw[lE]at hz;rcases Uu hz with hz|rfl
      ·exact cU▸hH z hz
      ·intro a ha;simp only[Kn.l,SK,SN,Th]at ha;rcases ha with rfl|rfl|⟨_,_,rfl⟩|⟨_,_,rfl⟩|⟨_,_,rfl⟩|⟨_,_,rfl⟩|⟨_,_,rfl⟩
       ·exact .val _
       ·exact .mp (by omega)
       all_goals exact .val _
     ·intro a ha;simp only[Kn.l,SK,SN,Th]at ha;rcases ha with rfl|rfl|⟨_,_,rfl⟩|⟨_,_,rfl⟩|⟨_,_,rfl⟩|⟨_,_,rfl⟩|⟨_,_,rfl⟩
      ·exact .val _
      ·exact .mp (by omega)
      all_goals exact .val _
    ·trivial
   have eA:∀(hs:List (List Int))(K:Kn)(L:List aa),hs.Perm G.aH->gS Q hs G=K->cy H1.length (B K K.aH++L) (.aK []) k:=λhs K L hp hK=>by
    have:=hk hs hp;rw[hK]at this;subst hK;refine jT (Wk.refl _) rfl (by rw[ba];exact SO _) (cx _ _) (by simp[iV]) ?_;rw[hB,lE,Wu];exact this
   rw[PT];clear hk PT;refine aj ?_;simp only[seval,aT,JM,Et];rw[ba];have Qi:∀K hs (L:List aa) z,(B K hs++L).set (H1.length+1) z=B K hs++L.set 1 z:=λK hs L z=>by
    rw[Uy _ _ (by rw[ba];omega),ba,Ve]
   have aiY:∀K hs (L:List aa) z,(B K hs++L).set (H1.length+2) z=B K hs++L.set 2 z:=λK hs L z=>by
    rw[Uy _ _ (by rw[ba];omega),ba,Ve]
   obtain⟨ts,di⟩:∃ts,ts=G.aH.zipIdx:=⟨_,rfl⟩;obtain⟨ck,y9⟩:∃ck,ck=G.aH.length:=⟨_,rfl⟩;rw[<- di,<- y9]at Et;rw[<- y9];have hb:∀y∈ts,y.2<ck:=λy hy=>(by rw[di]at hy;have:=List.snd_lt_add_of_mem_zipIdx hy;omega);have vP:(ts.map (·.2)).Nodup:=(by rw[di,show (λy:List Int×Nat=>y.2)=Prod.snd from rfl,List.zipIdx_map_snd];exact List.nodup_range');have h4:∀y∈ts,y.1.length=4:=λy hy=>(by rw[di]at hy;exact hG.h4 _ (Aq hy));have fO:=HV ts ck hb;have zD:ts.map (·.1)=G.aH:=(by rw[di,show (λy:List Int×Nat=>y.1)=Prod.fst from rfl,List.zipIdx_map_fst]);clear di;obtain⟨ac,ED⟩:∃ac:List (List Int×Nat)->List (List Int),∀vs,ac vs=vs.foldl (λa y=>iG a y.1) R2.aH:=⟨_,λ_=>rfl⟩;have Qb:ac []=R2.aH:=(by rw[ED];rfl);have Jn:∀vs y,ac (vs++[y])=iG (ac vs) y.1:=λvs y=>(by rw[ED,ED,Xj];rfl);obtain⟨i3,pX,pq⟩:=F.i3;refine cN ?_;refine wN (measure λvs:List (List Int×Nat)=>ts.length-vs.length).wf (λvs=>[]) (λvs=>B R2 (ac vs)++[.cells (G.l mg) 88, .iter mg ck (vs.map (·.2)).toArray ck]) (λvs=>(vs.map (·.2)).Nodup/\(∀y∈vs,y∈ts)/\∀h∈ac vs,h.length=4) [] (λ_ _=>rfl) (by simp) (by rw[Qb];rfl) (λ_ _=>by simp[ba]) ⟨by simp,by simp,by rw[Qb,Jm];exact hQ.h4⟩ (λcm dF vs ay R hR=> ?_);refine aj ?_;simp only[seval,cZ,Et,Qi];refine⟨fO.elim .inl (λh=> .inr (.inl h)),λe he hn=> ?_,λhs=> ?_⟩
   ·obtain⟨y,hy,rfl⟩:∃y∈ts,dN y=e:=(by simpa using he);refine aC ?_;refine aP ?_;refine cN ?_;have oZ:=h4 y hy;have BL:(dN y).born=y.2:=rfl;have hlen:(y.1.map iv).length=4:=(by simp[oZ]);have BS:Ud 4 [AV.val (SG SE 0),AV.val (SG SE 0),AV.val (SG SE 0),AV.val (SG SE 0)]=[]:=rfl;refine aj ?_;simp only[seval,cZ,Et,Qi,aiY,iB,ba,Array.back?_push,BL,IQ vP hy,LO,oZ,hlen,BS];refine eS 10 ?_;simp only[seval,aN,PY,PS,iB,hlen,oZ];have RJ:T_ 4 (y.1.map iv)=y.1.map iv:=SW (by omega);have I8:∀z∈(ac vs).zipIdx,z.1.length=4:=λz hz=>ay.2.2 _ (Aq hz);have EP:=ack (ts:=(ac vs).zipIdx) F.De F.u3 pX pq oZ I8;have EK:=λb=>acg (b:=b) (k:= .i64) (d:=9998) F.De F.u3 pX pq oZ;have zq:((vs.map (·.2)).toArray.push y.2)=((vs++[y]).map (·.2)).toArray:=(by simp);have Ct:y.2∉vs.map (·.2):=(by simpa[dN]using hn);have oB:((vs++[y]).map (·.2)).Nodup/\(∀z∈vs++[y],z∈ts)/\∀h∈ac (vs++[y]),h.length=4:=by
     refine⟨?_,λz hz=> ?_,λh hh=> ?_⟩
     ·rw[Tv,UC];refine⟨ay.1,by simp,λa ha b hb=> ?_⟩;simp at hb;subst hb;intro e;subst e;exact Ct ha
     ·rcases SN.1 hz with h|h
      ·exact ay.2.1 z h
      ·rw[S5.1 h];exact hy
     ·rw[Jn,iG]at hh;split at hh
      ·exact ay.2.2 _ hh
      ·rcases SN.1 hh with h'|h'
       ·exact ay.2.2 _ h'
       ·rw[S5.1 h'];exact oZ
    have hlen:vs.length<ts.length:=by
     have h1:(vs++[y]).Nodup:=zM _ oB.1;have:=h1.length_le_of_subset oB.2.1;simp at this;omega
    have pn:ts.length-(vs++[y]).length<ts.length-vs.length:=(by simp;omega);have zm:∀sn,bL (B R2 (ac (vs++[y]))++[aa.cells (G.l mg) 88,aa.iter mg ck sn ck]):=λsn z hz=>by
     rcases SN.1 hz with h|h
     ·exact(cx _ _ z h).mono (by simp)
     ·have Jd:∀a∈G.l mg,Lt H1.length a:=λa ha=>by
       simp only[Kn.l,SK,SN,Th]at ha;rcases ha with rfl|rfl|⟨_,_,rfl⟩|⟨_,_,rfl⟩|⟨_,_,rfl⟩|⟨_,_,rfl⟩|⟨_,_,rfl⟩
       ·exact .val _
       ·exact .mp (by omega)
       all_goals exact .val _
      simp only[SK,SU,or_false]at h;rcases h with rfl|rfl
      ·intro a ha;exact(Jd a ha).mono (by simp[ba])
      ·show mg<_;simp[ba];omega
    rw[RJ];refine eC F.Nw (eC (uF _) ⟨EK _,_,EP, ?_⟩);rcases IP (x:=y.1) (hs:=ac vs)with⟨h,B8⟩|⟨i',b,h,h2,B8⟩
    ·rw[h];(try simp only[seval,AV.found]);refine ak ?_;refine aC ?_;refine eS 5 ?_;simp only[seval,aN,PY,PS,iB,hlen,oZ];rw[RJ];refine eC (uF _) (eC rfl ⟨EK _,_,EP, ?_, ?_⟩)
     ·intro i v xq;rw[h]at xq;cases xq
     ·rw[h,abd,<- abI,aiK,show ac vs++[y.1]=ac (vs++[y]) by rw[Jn,iG,if_neg B8],zq];refine hR _ ⟨vs++[y],pn,oB, ?_⟩;exact Aa (oE rfl rfl) (by simp only[seval]<;>simp[bB,Wk.refl]) (zm _) (by simp[eK])
    ·rw[h];(try simp only[seval,AV.found]);refine ak ?_;refine aC ?_;refine aP ?_;rw[show ac vs=ac (vs++[y]) by rw[Jn,iG,if_pos B8],zq];refine hR _ ⟨vs++[y],pn,oB, ?_⟩;exact Aa (oE rfl rfl) (by simp only[seval]<;>simp[bB,Wk.refl]) (zm _) (by simp[eK])
   ·have hp:vs.Perm ts:=MA ay.1 vP ay.2.1 λy hy=>by
     have:=hs (dN y) (by simp;exact⟨y.1,y.2,hy,rfl⟩) (hb y hy);simpa[dN]using this
    refine aC ?_;refine cq ?_;obtain⟨K,hK⟩:∃K:Nat->Nat->Kn,∀i j,K i j={R2 with aA:=nR R2.aA G.aA i,hours:=nR R2.hours G.hours i,less:=nR R2.less G.less i,aV:=nR R2.aV G.aV j}:=⟨_,λ_ _=>rfl⟩;have PX:K 0 0=R2:=(by rw[hK];rfl);refine ak ?_;refine cN ?_;refine gM 4 (λi:Nat=>[(57,iv i)]) (λi=>B (K i 0) (ac vs)++[.cells (G.l mg) 88, .iter mg ck (vs.map (·.2)).toArray ck]) (λi=>bP (K i 0)) (λ_ _=>rfl) (by simp only[seval];simp[bB,Wk.refl]) (by rw[PX]) (λ_ _ _=>by simp[ba]) (by rw[PX];exact tV) (λasm asq i cw uj R hR=> ?_);refine ak ?_;refine aC ?_;refine⟨λh=> ?_,λh=> ?_⟩
    ·have bE:i<4:=(by omega);obtain⟨a1,qZ⟩:=cG (xs:=(K i 0).aA) (i:=i) (by have:=uj.aA;omega);obtain⟨a2,BD⟩:=cG (xs:=(K i 0).hours) (i:=i) (by have:=uj.hours;omega);obtain⟨a3,EC⟩:=cG (xs:=(K i 0).less) (i:=i) (by have:=uj.less;omega);obtain⟨c1,dl⟩:=cG (xs:=G.aA) (i:=i) (by have:=hG.aA;omega);obtain⟨c2,cT⟩:=cG (xs:=G.hours) (i:=i) (by have:=hG.hours;omega);obtain⟨c3,d_⟩:=cG (xs:=G.less) (i:=i) (by have:=hG.less;omega);have CC:=uj.mr _ (S_ qZ);have Sm:=uj.mL _ (S_ BD);have Sn:=uj.mV _ (S_ EC);have CE:=hG.mr _ (S_ dl);have Sq:=hG.mL _ (S_ cT);have Sr:=hG.mV _ (S_ d_);have b4:(0<=(i:Int)/\(i:Int)<4)=True:=(by simp;omega);have bX:SE.wrap ((i:Int)+1)=((i+1:Nat):Int):=(by rw[bD _ (by omega)];rfl);refine aP ?_;refine ak ?_;obtain⟨Ka,BA⟩:∃Ka,Ka=({K i 0 with aA:=(K i 0).aA.set i (a1|||c1)}:Kn):=⟨_,rfl⟩;have Ga:bP Ka:=(by rw[BA];exact uj.abM (pA CC CE));have sa:=Kn.aaN (F:=K i 0) (mp:=mp) (p:=i) (v:=a1|||c1) (eU qZ);rw[<- BA]at sa;refine eS 13 ?_;simp only[seval,aN,aT,b4,Kn.F_ qZ,Kn.F_ dl,AY,Gk CC CE,Kn.len uj mp];refine⟨by omega, ?_⟩;rw[sa,Eu];obtain⟨Kb,Ew⟩:∃Kb,Kb=({Ka with hours:=Ka.hours.set i (a2|||c2)}:Kn):=⟨_,rfl⟩;have Gb:bP Kb:=(by rw[Ew];exact Ga.abK (pA Sm Sq));have vw:Ka.hours[i]?=some a2:=(by rw[BA];exact BD);have sb:=Kn.Rl Ga (mp:=mp) (p:=i) (v:=a2|||c2) (eU vw);rw[<- Ew]at sb;refine eS 13 ?_;simp only[seval,aN,aT,b4,Kn.Kq Ga vw,Kn.Kq hG cT,AY,Gk Sm Sq,Kn.len Ga mp];refine⟨by omega, ?_⟩;rw[sb,Eu];have EG:Kb.less[i]?=some a3:=(by rw[Ew,BA];exact EC);have sc:=Kn.Sz Gb (mp:=mp) (p:=i) (v:=a3|||c3) (eU EG);have w_:({Kb with less:=Kb.less.set i (a3|||c3)}:Kn)=K (i+1) 0:=by
      rw[Ew,BA,hK (i+1)];simp only[hK]at qZ BD EC⊢;rw[Gj qZ dl,Gj BD cT,Gj EC d_]
     have LQ:bP (K (i+1) 0):=(by rw[<- w_];exact Gb.abL (pA Sn Sr));rw[w_]at sc;refine eS 13 ?_;simp only[seval,aN,aT,b4,Kn.Lr Gb EG,Kn.Lr hG d_,AY,Gk Sn Sr,Kn.len Gb mp];refine⟨by omega, ?_⟩;rw[sc,Eu];refine aj ?_;simp only[seval,bX];exact hR _ ⟨bE,LQ,dR⟩
    ·have dK:i=4:=(by omega);subst dK;refine cq ?_;refine ak ?_;refine cN ?_;refine gM 3 (λi:Nat=>[(103,iv i)]) (λj=>B (K 4 j) (ac vs)++[.cells (G.l mg) 88, .iter mg ck (vs.map (·.2)).toArray ck]) (λj=>bP (K 4 j)) (λ_ _=>rfl) (by simp only[seval];simp[bB,Wk.refl]) rfl (λ_ _ _=>by simp[ba]) uj (λasn asr j o_ zn R hR=> ?_);refine ak ?_;refine aC ?_;refine⟨λh=> ?_,λh=> ?_⟩
     ·have fy:j<3:=(by omega);obtain⟨a1,qZ⟩:=cG (xs:=(K 4 j).aV) (i:=j) (by have:=zn.aV;omega);obtain⟨c1,dl⟩:=cG (xs:=G.aV) (i:=j) (by have:=hG.aV;omega);have CC:=zn.lU _ (S_ qZ);have CE:=hG.lU _ (S_ dl);have b3:(0<=(j:Int)/\(j:Int)<3)=True:=(by simp;omega);have bX:SE.wrap ((j:Int)+1)=((j+1:Nat):Int):=(by rw[bD _ (by omega)];rfl);refine aP ?_;refine ak ?_;have sa:=Kn.aa4 zn (mp:=mp) (p:=j) (v:=a1|||c1) (eU qZ);have w_:({K 4 j with aV:=(K 4 j).aV.set j (a1|||c1)}:Kn)=K 4 (j+1):=by
       rw[hK 4 (j+1)];simp only[hK]at qZ⊢;rw[Gj qZ dl]
      have LQ:bP (K 4 (j+1)):=(by rw[<- w_];exact zn.GD (pA CC CE));rw[w_]at sa;refine eS 13 ?_;simp only[seval,aN,aT,b3,Kn.CW zn qZ,Kn.CW hG dl,AY,Gk CC CE,Kn.len zn mp];refine⟨by omega, ?_⟩;rw[sa,Eu];refine aj ?_;simp only[seval,bX];exact hR _ ⟨fy,LQ,dR⟩
     ·have J4:j=3:=(by omega);subst J4;refine cq ?_;have Cc:(vs.map (·.1)).Perm G.aH:=by
       have:=hp.map (·.1);rw[zD]at this;exact this
      have aiP:ac vs=(vs.map (·.1)).foldl iG Q.aH:=(by rw[ED,Jm,List.foldl_map]);have hJ:gS Q (vs.map (·.1)) G={K 4 3 with aH:=ac vs}:=by
       have e2:R2=⟨true,Q.aH,Q.aA,Q.hours,Q.less,Q.aV,if Q.has=false\/so G.first Q.first=true then G.first else Q.first⟩:=by
        rw[xa,pS];split<;>rfl
       rw[gS,if_pos JP,hK,Gi (by rw[tV.aA,hG.aA]) tV.aA,Gi (by rw[tV.hours,hG.hours]) tV.hours,Gi (by rw[tV.less,hG.less]) tV.less,Gi (by rw[tV.aV,hG.aV]) tV.aV,aiP,e2]
      have:=eA (vs.map (·.1)) _ [.cells (G.l mg) 88, .iter mg ck (vs.map (·.2)).toArray ck] Cc hJ;rw[show B ({K 4 3 with aH:=ac vs}:Kn) (ac vs)=B (K 4 3) (ac vs) by rw[hB,hB];rfl]at this;exact this
open Go.Conc Go.Proofs Go.Gg.Tk
namespace Tk
theorem A2{l:List Nat}{i v:Nat}:(oT l i v).length=l.length:=by simp[oT]
theorem DR{l:List Nat}{i v:Nat}(h:∀n∈l,n<65536)(hv:v<16):∀n∈oT l i v,n<65536:=by
 refine CJ h (pA ?_ (wn hv));rw[SF];cases hi:l[i]?with
 |none=>exact(by decide:0<65536)
 |some a=>exact h _ (S_ hi)
theorem aqj{x:ai}{t:List Int}(ht:iL x t){p:Nat}(hp:p<x.pieces.length):my t p<16:=by
 obtain⟨n,h1,h2,_⟩:=ht.num p hp;unfold my;rw[SF,h1];show n<16;omega
theorem aqi{t:List Int}(h:t.length=11){p:Nat}:C9 t p<16:=by
 unfold C9;have h5:ju (t.take 4) (t.getD (4+p) 0+t.getD 0 0)<0+(t.take 4).length:=acB;have:(t.take 4).length=4:=by simp[h]
 omega
theorem aqk{x:ai}{t:List Int}(ht:iL x t){s:Nat}(hs:s<x.aB.length):rP t s<16:=by
 obtain⟨n,h1,h2⟩:=ht.own s hs;unfold rP;rw[SF,h1];show n<16;omega
theorem aa3{x:ai}{t:List Int}(ht:iL x t){l:List Nat}(hl:∀n∈l,n<65536):∀{s:Nat},s<=x.aB.length->(mX t s l).length=l.length/\∀n∈mX t s l,n<65536
 |0,_=>⟨rfl,hl⟩
 |s+1,h=>by
  obtain⟨h1,h2⟩:=aa3 ht hl (s:=s) (by omega);exact⟨A2.trans h1,DR h2 (aqk ht (by omega))⟩
theorem aaJ{x:ai}{t:List Int}(ht:iL x t){l:List Nat}(hl:∀n∈l,n<65536):∀{s:Nat},s<=x.pieces.length->(rI t s l).length=l.length/\∀n∈rI t s l,n<65536
 |0,_=>⟨rfl,hl⟩
 |s+1,h=>by
  obtain⟨h1,h2⟩:=aaJ ht hl (s:=s) (by omega);exact⟨A2.trans h1,DR h2 (aqj ht (by omega))⟩
theorem Rk{t:List Int}(ht:t.length=11){l:List Nat}(hl:∀n∈l,n<65536):∀{s:Nat},(vR t s l).length=l.length/\∀n∈vR t s l,n<65536
 |0=>⟨rfl,hl⟩
 |s+1=>by
  obtain⟨h1,h2⟩:=Rk ht hl (s:=s);exact⟨A2.trans h1,DR h2 (aqi ht)⟩
theorem Sy{t:List Int}{p:Nat}{l:List Nat}(hl:∀n∈l,n<65536):∀{q:Nat},q<=4->(v5 t p q l).length=l.length/\∀n∈v5 t p q l,n<65536
 |0,_=>⟨rfl,hl⟩
 |q+1,h=>by
  obtain⟨h1,h2⟩:=Sy hl (q:=q) (t:=t) (p:=p) (by omega);unfold v5;split
  ·exact⟨A2.trans h1,DR h2 (by omega)⟩
  ·exact⟨h1,h2⟩
theorem Sx{t:List Int}{k:Nat}(hk:k<=4){l:List Nat}(hl:∀n∈l,n<65536):∀{p:Nat},(xL t k p l).length=l.length/\∀n∈xL t k p l,n<65536
 |0=>⟨rfl,hl⟩
 |p+1=>by
  obtain⟨h1,h2⟩:=Sx hk hl (p:=p) (t:=t);obtain⟨h3,h4⟩:=Sy h2 (t:=t) (p:=p) hk;exact⟨h3.trans h1,h4⟩
theorem aba{hs:List (List Int)}{h:List Int}(h1:∀y∈hs,y.length=4)(h2:h.length=4):∀y∈iG hs h,y.length=4:=λy hy=>by
 unfold iG at hy;split at hy
 ·exact h1 y hy
 ·rcases SN.1 hy with h'|h'
  ·exact h1 y h'
  ·rw[S5.1 h'];exact h2
theorem MR{x:ai}{deep:Int}{Q:Kn}{t:List Int}(hx:x.Ok)(ht:iL x t)(hQ:bP Q):bP (eF x deep Q t):=by
 have hB:=N2 hQ ht.len;unfold eF;dsimp only;generalize iM Q t=R at hB;split
 ·obtain⟨h1,h2⟩:=aa3 ht hB.lU (SO _);exact⟨hB.aA,hB.hours,hB.less,h1.trans hB.aV,hB.first,hB.mr,hB.mL,hB.mV,h2,hB.h4⟩
 ·split
  ·exact⟨hB.aA,hB.hours,hB.less,hB.aV,hB.first,hB.mr,hB.mL,hB.mV,hB.lU,aba hB.h4 (by simp[ht.len])⟩
  ·obtain⟨h1,h2⟩:=aaJ ht hB.mr (SO _);obtain⟨h3,h4⟩:=Rk ht.len hB.mL (s:=x.pieces.length);obtain⟨h5,h6⟩:=Sx (t:=t) hx.dI hB.mV (p:=x.pieces.length);exact⟨h1.trans hB.aA,h3.trans hB.hours,h5.trans hB.less,hB.aV,hB.first,h2,h4,h6,hB.lU,hB.h4⟩
theorem GQ{x:ai}{deep:Int}{h t:List Int}(ht:t∈jv x deep h):∃ns∈gp x h,t∈(iu x h ns).map (dB h ns):=by
 have key:t∈((gp x h).map λns=>(iu x h ns).map λos=>dB h ns os).flatten:=by
  unfold jv at ht;dsimp only at ht;split at ht
  ·exact VL ht
  ·split at ht
   ·obtain⟨l,h1,h2⟩:=W7.1 ht;obtain⟨m,h3,rfl⟩:=Th.1 h1;exact W7.2 ⟨m,h3,VL h2⟩
   ·exact ht
 obtain⟨l,h1,h2⟩:=W7.1 key;obtain⟨ns,h3,rfl⟩:=Th.1 h1;exact⟨ns,h3,h2⟩
theorem CB:bP Kn.zero:=by
 have h0:∀k:Nat,∀n∈TG k 0,n<65536:=λk n h=>by rw[(W6.1 h).2];decide
 exact⟨rfl,rfl,rfl,rfl,rfl,h0 4,h0 4,h0 4,h0 3,λh hh=>by cases hh⟩
theorem I0{x:ai}{deep:Int}(hx:x.Ok):∀{ts:List (List Int)}{Q:Kn},(∀t∈ts,iL x t)->bP Q->bP (ts.foldl (eF x deep) Q)
 |[],Q,_,h=>h
 |t::ts,Q,ht,h=>by rw[Ux];exact I0 hx (λu hu=>ht u (by simp[hu])) (MR hx (ht t (by simp)) h)
end Tk
theorem xH{K:Kn}{mp m:Nat}(h:mp<m):∀a∈K.l mp,Lt m a:=λa ha=>by
 simp only[Kn.l,SK,SN,Th]at ha;rcases ha with rfl|rfl|⟨_,_,rfl⟩|⟨_,_,rfl⟩|⟨_,_,rfl⟩|⟨_,_,rfl⟩|⟨_,_,rfl⟩
 ·exact .val _
 ·exact .mp h
 all_goals exact .val _
theorem FQ{K:Kn}{mp m:Nat}(h:∀a∈K.l mp,Lt m a):mp<m:=by
 cases h (.mp mp) (by simp[Kn.l]);assumption
def cs:Code->Code
 | .seq _ c=>c
 |_=> .skip
def cf:Code->Code
 | .seq c _=>c
 |_=> .skip
noncomputable def Sg:Code:=ZG.body.getD .skip
def ux (x:ai)(bh:Nat)(deep:Int)(c:Nat)(w:Value):List (Nat×AV):=[(12, .fn (.func 86) [] [.op 2 0, .op 3 0]),(5, .op 1 0),(0, .val w),(1, .rp x.l),(2, .rp [iv bh]),(3, .rp [iv deep]),(4, .rp [.val (.chan (some c))])]
def vX (x:ai)(bh:Nat)(K:Kn):List aa:=[setH K.aH, .cells (K.l 0) 88, .cells x.l 76, .cells [iv bh] 3]
theorem ak8{lv:Bool}{x:ai}{bh c:Nat}{w:Value}{deep:Int}{bs:List Deferred}(hx:x.Ok)(kJ:bh<=3)(hA:∀h∈kH x bh,jz h/\∀ns∈gp x h,∀a∈(iu x h ns).map (dB h ns),iL x a)(Φ:ao->AS->List Nat->Prop)(hΦ:Φ .normal ⟨ux x bh deep c w,vX x bh (gT x deep bh)++[.obj (.deferred (some [])), .gone]⟩ [4]):
  kA lv SD 25 bs (cs (cf (cs (cs Sg)))) ⟨ux x bh deep c w,vX x bh Kn.zero⟩ [] Φ:=by
 unfold Sg ZG;dsimp only[S6,cs,cf];refine wO ?_;refine HP (by rfl) λl fn T ag bo hT xd nz=> ?_;(try simp only[seval,vX]);simp only[ux,iv]at hT;have bQ:x.l=[iv x.first,iv x.hours,iv x.am,ej x.seen,bk x.pieces,bk x.aB]:=rfl;obtain⟨Gf,tU⟩:∃Gf:Kn->List aa,∀K,Gf K=[setH K.aH, .cells (K.l 0) 88, .cells x.l 76, .cells [iv bh] 3, .obj (.deferred (some [])), .loop l .ready none fn T 25 #[13] ag bo 4]:=⟨_,λ_=>rfl⟩;have Jd:∀K,(Gf K).length=6:=λK=>by rw[tU];rfl
 have aiL:∀m K K',(∀z∈Gf K,eR m z)->∀z∈Gf K',eR m z:=λm K K' hz z ft=>by
  rw[tU]at hz ft;have h1:=hz (.cells (K.l 0) 88) (by simp);simp only[SK,SU,or_false]at ft;rcases ft with rfl|rfl|rfl|rfl|rfl|rfl
  ·trivial
  ·exact xH (FQ h1)
  ·exact hz _ (by simp)
  ·exact hz _ (by simp)
  ·exact hz _ (by simp)
  ·exact hz _ (by simp)
 have hY:jP lv SD (.fn (.yield l) [] []) (λK h=> .go ((jv x deep h).foldl (eF x deep) K)) Gf 6 bP (λh=>jz h/\∀ns∈gp x h,∀a∈(iu x h ns).map (dB h ns),iL x a) (.aK []):=by
  refine⟨λK h M k kp hK ha dM=> ?_,λK h K' hK ha he=> ?_,Jd,aiL,rfl,rfl,rfl⟩
  ·obtain⟨ox,Cm⟩:=ha;have h4:=ox.len;have nv:(h.map iv).length=4:=(by rw[Tj,h4]);obtain⟨Lo,kZ⟩:∃Lo,Lo=aa.loop l .busy none fn T 25 #[13] ag bo 4:=⟨_,rfl⟩;obtain⟨P1,dw⟩:∃P1:Kn->List aa,∀K,P1 K=[setH K.aH, .cells (K.l 0) 88, .cells x.l 76, .cells [iv bh] 3, .obj (.deferred (some [])),Lo]++M:=⟨_,λ_=>rfl⟩;have eN:∀K,(P1 K).length=6+M.length:=λK=>(by rw[dw];simp;omega);have pg:∀(K:Kn)(L:List aa)(i:Nat),i<6->(P1 K++L)[i]?=[setH K.aH,aa.cells (K.l 0) 88, .cells x.l 76, .cells [iv bh] 3, .obj (.deferred (some [])),Lo][i]?:=λK L i JW=>by
    rw[dw,SC,SY (by simpa using JW)]
   have pb:∀(K:Kn)(L:List aa)(i:Nat),(P1 K++L)[6+M.length+i]?=L[i]?:=λK L i=>(by rw[<- eN K,aS]);have wb:∀(K:Kn)(L:List aa),(P1 K++L)[6+M.length]?=L[0]?:=λK L=>pb K L 0;have pC:∀(K:Kn)(L:List aa)(y:aa),(P1 K++L).set (6+M.length+4) y=P1 K++L.set 4 y:=λK L y=>(by rw[<- eN K,de]);have s5:∀(K:Kn)(L:List aa) y,(P1 K++L).set 5 y=[setH K.aH, .cells (K.l 0) 88, .cells x.l 76, .cells [iv bh] 3, .obj (.deferred (some [])),y]++M++L:=λK L y=>(by rw[dw];rfl);have zP:∀(K K':Kn)(L L':List aa),L'.length=L.length->(∀q,(∀z∈L,eR q z)->∀z∈L',eR q z)->bL (P1 K++L)->bL (P1 K'++L'):=λK K' L L' hl hL hH z hz=>by
    have hlen:(P1 K'++L').length=(P1 K++L).length:=(by simp[eN,hl]);rw[hlen];rcases SN.1 hz with h'|h'
    ·rw[dw]at h';rcases SN.1 h' with h'|h'
     ·have h1:=hH (.cells (K.l 0) 88) (by rw[dw];simp);have hq:∀w∈[setH K.aH,aa.cells (K.l 0) 88, .cells x.l 76, .cells [iv bh] 3, .obj (.deferred (some [])),Lo],eR (P1 K++L).length w:=λw hw=>hH w (by rw[dw,SC];exact Tb _ hw);simp only[SK,SU,or_false]at h';rcases h' with rfl|rfl|rfl|rfl|rfl|rfl
      ·trivial
      ·exact xH (FQ h1)
      ·exact hq _ (by simp)
      ·exact hq _ (by simp)
      ·exact hq _ (by simp)
      ·exact hq _ (by simp)
     ·exact hH z (by rw[dw];simp[h'])
    ·exact hL _ (λw hw=>hH w (SZ _ hw)) z h'
   simp only[cX]at dM;rw[tU]at dM;rw[tU];subst hT xd nz;refine vb (id:=5) (by rfl) rfl (by kernel_rfl) λog I_=> ?_;simp only[rV];have vF:Ud 4 [iv 0,iv 0,iv 0,iv 0]=[]:=rfl;refine aj ?_;simp only[seval,ux,h4,vF];unfold tE;refine⟨none,fn,_,25,#[13],_,_,_,by rfl, ?_⟩;dsimp only;simp only[Un,TM];rw[<- kZ];have w9:M.length+1+1+1+1+1+1=6+M.length:=(by omega);rw[w9];have xn:∀z:aa,(setH K.aH::aa.cells (K.l 0) 88::aa.cells x.l 76::aa.cells [AV.val (SG SE ↑bh)] 3::aa.obj (ZU (some []))::Lo::(M++[z]))=P1 K++[z]:=λz=>(by rw[dw];rfl);rw[xn];refine aj ?_;simp only[seval,bQ,wb,h4,nv];rw[SW (i:=4) (l:=h.map iv) (by rw[nv];exact SO _)];refine aL ((II (x:=x) (h:=h) (deep:=deep) ?_));(try simp only[seval]);refine cN ?_;have p7:∀(K:Kn)(a b c d:aa),(P1 K++[a,b,c,d]).length=6+M.length+4:=λK a b c d=>(by simp[eN]);refine DY 5 (by rfl) (by show (P1 K++_)[5]?=_;rw[pg K _ 5 (by omega),kZ];rfl) λl2 eZ T2 gL gN oh xe xf=> ?_;simp only[seval];rw[eN]at oh⊢;have xc:jP lv SD (.fn (.yield l2) [] []) (λK t=> .go (eF x deep K t)) (λK=>P1 K++[.cells (h.map iv) 83, .cells x.l 76, .cells (h.map iv) 83, .cells [iv deep] 3, .loop l2 .ready none eZ T2 25 #[18] gL gN 4]) (6+M.length+5) bP (iL x) (.aK []):=by
    refine⟨λK' t M2 k2 xI Jg ht lf=> ?_,λK' t AB Jg ht he=> ?_,λK'=>by simp[eN],λq K' AB hz z ft=> ?_,rfl,rfl,rfl⟩
    ·have qh:=ht.len;have zB:(t.map iv).length=11:=(by rw[Tj,qh]);obtain⟨pH,sB⟩:∃Lo,Lo=aa.loop l2 .busy none eZ T2 25 #[18] gL gN 4:=⟨_,rfl⟩;obtain⟨Q1,gB⟩:∃Q1:Kn->List aa,∀K,Q1 K=P1 K++([.cells (h.map iv) 83, .cells x.l 76, .cells (h.map iv) 83, .cells [iv deep] 3,pH]++M2):=⟨_,λ_=>rfl⟩;obtain⟨C,hC⟩:∃C,C=6+M.length+5+M2.length:=⟨_,rfl⟩;have Jl:∀K,(Q1 K).length=C:=λK=>(by rw[gB,hC];simp[eN];omega);have lW:∀(K:Kn)(L:List aa),(P1 K++L)[6+M.length+4]?=L[4]?:=λK L=>pb K L 4;have q0:∀(K:Kn)(L:List aa),(Q1 K++L)[0]?=some (setH K.aH):=λK L=>(by rw[gB,SC];exact pg K _ 0 (by omega));have q1:∀(K:Kn)(L:List aa),(Q1 K++L)[1]?=some (.cells (K.l 0) 88):=λK L=>(by rw[gB,SC];exact pg K _ 1 (by omega));have q4:∀(K:Kn)(L:List aa),(Q1 K++L)[6+M.length+4]?=some pH:=λK L=>(by rw[gB,SC,lW];rfl);have qc:∀(K:Kn)(L:List aa),(Q1 K++L)[C]?=L[0]?:=λK L=>(by rw[<- Jl K];exact aS _ L 0);have Mq:∀(K:Kn)(L:List aa)(y:aa),(Q1 K++L).set (6+M.length+4) y=(P1 K++([.cells (h.map iv) 83, .cells x.l 76, .cells (h.map iv) 83, .cells [iv deep] 3,y]++M2))++L:=λK L y=>(by rw[gB,SC,pC];simp);have aon:∀(K K':Kn)(L:List aa),((Q1 K++L).set 1 (.cells (K'.l 0) 88)).set 0 (setH K'.aH)=Q1 K'++L:=λK K' L=>(by rw[gB,gB,dw,dw];rfl);have fj:∀(AB:Kn),bL (P1 K'++([.cells (h.map iv) 83, .cells x.l 76, .cells (h.map iv) 83, .cells [iv deep] 3, .loop l2 .ready none eZ T2 25 #[18] gL gN 4]++M2))->bL (P1 AB++([.cells (h.map iv) 83, .cells x.l 76, .cells (h.map iv) 83, .cells [iv deep] 3, .loop l2 .ready none eZ T2 25 #[18] gL gN 4]++M2)):=λAB ik=>zP K' AB _ _ rfl (λq hz=>hz) ik;simp only[cX]at lf;have JJ:∀z:aa,P1 K'++(aa.cells (UK iv h) 83::aa.cells x.l 76::aa.cells (UK iv h) 83::aa.cells [AV.val (SG SE deep)] 3::pH::(M2++[z]))=Q1 K'++[z]:=λz=>(by rw[gB];simp[iv]);subst oh xe xf;rw[SC];refine vb (id:=6+M.length+4) (by rw[lW];rfl) rfl (by kernel_rfl) λqY Ja=> ?_;simp only[rV];have BR:Ud 11 [iv 0,iv 0,iv 0,iv 0,iv 0,iv 0,iv 0,iv 0,iv 0,iv 0,iv 0]=[]:=rfl;refine aj ?_;simp only[seval,qh,BR];unfold tE;refine⟨none,eZ,_,25,#[18],_,_,_,by rw[lW];rfl, ?_⟩;dsimp only;rw[pC];simp only[Un,TM];rw[<- sB];have Bt:(P1 K').length+(M2.length+1+1+1+1+1)=C:=(by rw[eN,hC];omega);rw[Bt];have iR:∀z:aa,(P1 K'++aa.cells (UK iv h) 83::aa.cells x.l 76::aa.cells (UK iv h) 83::aa.cells [AV.val (SG SE deep)] 3::pH::(M2++[z]))=Q1 K'++[z]:=JJ;rw[iR];refine aj ?_;simp only[seval,bQ,qc,qh,zB];rw[SW (i:=11) (l:=t.map iv) (by rw[zB];exact SO _)];refine aL ((ahM (x:=x) (t:=t) (deep:=deep) (fp:=1) (mp:=0) (Q:=K') hx ht Jg (by decide) (q1 K' _) (q0 K' _) ?_));rw[aon];(try simp only[seval]);show oS _ _ _ _ _ _ _;refine⟨l2, .busy,none,eZ,_,25,#[18],_,_,4,by show (Q1 _++_)[_]?=_;rw[q4,sB], ?_⟩;show cy C ((Q1 _++_).set _ _) _ k2;rw[Mq];rw[SC]at lf;exact jT (G:=[.cells (t.map iv) 86]) (Wk.refl _) rfl (by rw[hC];simp[eN];omega) (fj _ qY) (.val _) lf
    ·cases he;exact MR hx ht Jg
    ·rcases SN.1 ft with h'|h'
     ·have h1:=hz (.cells (K'.l 0) 88) (by rw[dw];simp);rw[dw]at h';rcases SN.1 h' with h'|h'
      ·simp only[SK,SU,or_false]at h';rcases h' with rfl|rfl|rfl|rfl|rfl|rfl
       ·trivial
       ·exact xH (FQ h1)
       all_goals exact hz _ (by rw[dw];simp)
      ·exact hz z (by rw[dw];simp[h'])
     ·exact hz z (SZ _ h')
   refine bT (IL (x:=x) (h:=h) (deep:=deep) (ir:=6+M.length+1) (ih:=6+M.length+1+1) (id:=6+M.length+1+2) (σ:=K) hx ox xc (λK L=> ?_) (λK L=> ?_) (λK L=> ?_) (λn=>by simp[iV]) hK (λa ha=>ha.len) Cm ?_)
   ·rw[SC];exact pb _ _ 1
   ·rw[SC];exact pb _ _ 2
   ·rw[SC];exact pb _ _ 3
   rw[CY (g:=eF x deep) (λ_ _=>rfl)];simp only[gv,SI];have lW:∀(K:Kn)(L:List aa),(P1 K++L)[6+M.length+4]?=L[4]?:=λK L=>pb K L 4;refine⟨.ready,none,_,_,_,_,_,_,_,by rw[lW];rfl,by decide, ?_⟩;rw[pC,Gr];(try simp only[seval]);show oS _ _ _ _ _ _ _;have aso:=kZ;refine⟨l, .busy,none,fn,_,25,#[13],_,_,4,by show (P1 _++_)[_]?=_;rw[pg _ _ 5 (by omega),kZ];rfl, ?_⟩;show cy (6+M.length) ((P1 _++_).set _ _) _ k;rw[s5];refine jT (G:=[.cells (h.map iv) 83, .cells x.l 76, .cells (h.map iv) 83, .cells [iv deep] 3, .gone]) (Wk.refl _) rfl (by simp;omega) ?_ (.val _) dM;intro z hz;have h1:=og (.cells (K.l 0) 88) (by simp);have hlen:∀(y:aa),([setH (Zc (eF x deep) K (jv x deep h)).aH,aa.cells ((Zc (eF x deep) K (jv x deep h)).l 0) 88, .cells x.l 76, .cells [iv bh] 3, .obj (.deferred (some [])),y]++M).length=(setH K.aH::aa.cells (K.l 0) 88::aa.cells x.l 76:: .cells [iv bh] 3:: .obj (.deferred (some []))::y::M).length:=λy=>rfl;rcases SN.1 hz with h'|h'
   ·simp only[SK,SU,or_false]at h';rcases h' with rfl|rfl|rfl|rfl|rfl|rfl
    ·trivial
    ·exact xH (FQ h1)
    all_goals exact og _ (by simp)
   ·exact og z (by simp[h'])
  ·cases he;exact I0 hx (λt ht=>by obtain⟨ns,h1,h2⟩:=GQ ht;exact ha.2 ns h1 t h2) hK
 have hgo:bF (λK h=>dD.go ((jv x deep h).foldl (eF x deep) K)) (kH x bh) Kn.zero= .go (gT x deep bh):=by
  rw[CY (g:=λK h=>(jv x deep h).foldl (eF x deep) K) (λ_ _=>rfl),gT,List.foldl_flatMap]
 refine HW (by kernel_rfl) ?_;have e0:=tU Kn.zero;simp only[iv]at e0;rw[<- e0];refine IJ (lv:=lv) (x:=x) (bh:=bh) (N:=6) (ir:=2) (it:=3) (σ:=Kn.zero) hx hY (λK L=>by rw[tU];rfl) (λK L=>by rw[tU];rfl) kJ (λn=>by simp[iV]) CB hA ?_;rw[hgo];simp only[gv,SI];refine⟨.ready,none,_,_,_,_,_,_,_,by rw[tU];rfl,by decide, ?_⟩;rw[tU,Gq];exact hΦ
open Go.Conc
inductive Ht where
 |z
 |s (f:World->Ht)
inductive Az:Ht->Ht->Prop where
 |mk (f:World->Ht) (w:World):Az (f w) (.s f)
theorem akH:WellFounded Az:=by
 refine⟨λh=> ?_⟩;induction h with
 |z=>exact⟨_,λy hy=>by cases hy⟩
 |s f ih=>exact⟨_,λy hy=>by cases hy with|mk _ w=>exact ih w⟩
inductive lz (P:Program):Ht->View->Goroutine->Prop where
 |step {f:World->Ht} {V V₁:View} {g:Goroutine} (G':World->Goroutine) (W':World->World) (E':World->Array Event) (V':World->View) (hs:g.status= .running) (hg:ep V V₁)
   (h1:∀w,Sat V₁ w->stepG P false g w= .go (G' w) (W' w) (E' w)) (h2:∀w,Sat V₁ w->dg V₁ w (V' w) (W' w) (E' w)) (h3:∀w,Sat V₁ w->lz P (f w) (V' w) (G' w)):lz P (.s f) V g
 |send {h:Ht} {V V₁:View} {g:Goroutine} (c Wg:Nat) (sp:Spec) (S:List Spec) (v z:Value) (B:Nat->Bool) (hs:g.status= .running) (hg:ep V V₁) (hr:V₁.role= .work c Wg (sp::S)) (hd:V₁.deaf=0) (ho:g.offers=none)
   (h1:∀w,Sat V₁ w->stepG P false g w= .comm g #[scase c v z] true .send w #[]) (h2:sp v V₁.ab (λb=>if B b then V₁.own b else none))
   (h3:lz P h {V₁ with own:=λb=>if B b then none else V₁.own b,role:= .work c Wg S} (TO g undef)):lz P (.s λ_=>h) V g
 |done {V V₁:View} {g:Goroutine} (c Wg:Nat) (hg:ep V V₁) (hr:V₁.role= .work c Wg []) (hd:V₁.deaf=0) (h1:Dx P Wg g):lz P (.s λ_=> .z) V g
 |slip {h:Ht} {V V₁:View} {g g':Goroutine} (c Wg:Nat) (hs:g.status= .running) (hg:ep V V₁) (hr:V₁.role= .work c Wg []) (h1:∀w st,Sat V₁ w->WgAt P Wg w st 0->stepG P false g w= .go g' w #[]) (h3:lz P h V₁ g'):lz P (.s λ_=>h) V g
theorem lz.running{P:Program}{h:Ht}{V:View}{g:Goroutine}(k:lz P h V g):g.status= .running:=by
 cases k with
 |step _ _ _ _ hs=>exact hs
 |send _ _ _ _ _ _ _ hs=>exact hs
 |done _ _ _ _ _ h1=>exact h1.1
 |slip _ _ hs=>exact hs
open Classical in
theorem ard(P:Program):yd P false (λV g=>∃h,lz P h V g)where
 step V g hs h:=by
  have hc:∀w,∃h' g' w' es V',Sat V w->stepG P false g w= .go g' w' es/\dg V w V' w' es/\lz P h' V' g':=by
   intro w;by_cases hw:Sat V w
   ·obtain⟨g',w',es,V',h1,h2,h',h3⟩:=h w hw;exact⟨h',g',w',es,V',λ_=>⟨h1,h2,h3⟩⟩
   ·exact⟨.z,g,w,#[],V,λx=>absurd x hw⟩
  have o4:=λw=>(hc w).choose_spec.choose_spec.choose_spec.choose_spec.choose_spec;exact⟨.s λw=>(hc w).choose, .step (λw=>(hc w).choose_spec.choose) (λw=>(hc w).choose_spec.choose_spec.choose) (λw=>(hc w).choose_spec.choose_spec.choose_spec.choose)
   (λw=>(hc w).choose_spec.choose_spec.choose_spec.choose_spec.choose) hs (ep.refl V) (λw hw=>(o4 w hw).1) (λw hw=>(o4 w hw).2.1) (λw hw=>(o4 w hw).2.2)⟩
 ghost V V' g hg h:=by
  obtain⟨h,hk⟩:=h;cases hk with
  |step a b c d e f x y z=>exact⟨_, .step a b c d e (hg.trans f) x y z⟩
  |send a b c d e f m n o p q r s t u=>exact⟨_, .send a b c d e f m n (hg.trans o) p q r s t u⟩
  |done a b o p q r=>exact⟨_, .done a b (hg.trans o) p q r⟩
  |slip a b f o p q r=>exact⟨_, .slip a b f (hg.trans o) p q r⟩
 send V g c Wg sp S v z B h1 h2 h3 h4 h5 h6 h7:=by
  obtain⟨h,hk⟩:=h7;exact⟨_, .send c Wg sp S v z B h3 (ep.refl V) h1 h2 h4 h5 h6 hk⟩
 done V g c Wg h1 h2 h3:=⟨_, .done c Wg (ep.refl V) h1 h2 h3⟩
 slip V g g' c Wg h1 h2 h3 h4:=by
  obtain⟨h,hk⟩:=h4;exact⟨_, .slip c Wg h2 (ep.refl V) h1 h3 hk⟩
structure yo where
 a:Nat
 h:Ht
 n:Nat
def qH:yo->yo->Prop:=λx y=>x.a<y.a\/(x.a=y.a/\(Az x.h y.h\/(x.h=y.h/\x.n<y.n)))
theorem aos:WellFounded qH:=by
 refine⟨λ⟨a,h,n⟩=> ?_⟩;induction a using XC generalizing h n with
 |_ a iha=>
  induction h using akH.induction generalizing n with
  |_ h ihh=>
   induction n using XC with
   |_ n KY=>
    refine⟨_,λ⟨a',h',n'⟩ hlt=> ?_⟩;rcases hlt with x|⟨rfl,x|⟨rfl,x⟩⟩
    ·exact iha a' x h' n'
    ·exact ihh h' x n'
    ·exact KY n' x
def AK (N:Nat)(f' f:Nat->yo):Prop:=∃i,i<N/\qH (f' i) (f i)/\∀j,j≠i->f' j=f j
theorem apw(N:Nat):WellFounded (AK N):=by
 refine⟨?_⟩;induction N with
 |zero=>intro f;exact⟨_,λf' ⟨i,hi,_⟩=>by omega⟩
 |succ N ih=>
  have key:∀x:yo,∀f,f N=x->Acc (AK (N+1)) f:=by
   intro x;induction x using aos.induction with
   |_ x ihx=>
    intro f hf;have inner:∀f,Acc (AK N) f->f N=x->Acc (AK (N+1)) f:=by
     intro f ha;induction ha with
     |intro f _ KX=>
      intro hf;refine⟨_,λf' ⟨i,hi,hlt,ho⟩=> ?_⟩;by_cases fH:i=N
      ·subst fH;exact ihx (f' i) (hf▸hlt) f' rfl
      ·exact KX f' ⟨i,by omega,hlt,ho⟩ ((ho N (Ne.symm fH)).trans hf)
    exact inner f (ih f) hf
  exactλf=>key (f N) f rfl
def AG (N:Nat)(x y:(Nat->yo)×Nat):Prop:=AK N x.1 y.1\/(x.1=y.1/\x.2<y.2)
theorem aau(N:Nat):WellFounded (AG N):=by
 refine⟨λ⟨f,n⟩=> ?_⟩;induction f using(apw N).induction generalizing n with
 |_ f KX=>
  induction n using XC with
  |_ n KY=>
   refine⟨_,λ⟨f',n'⟩ hlt=> ?_⟩;rcases hlt with x|⟨x,y⟩
   ·exact KX f' x n'
   ·have x':f'=f:=x;subst x';exact KY n' y
open Go.ConcN
structure TI (t:Trace)(B N:Nat)(rd wr:Nat->Loc->Prop)(Sh:Loc->Prop)(act:Nat->Prop)(ic:Nat):Prop where
 nr:∀said,¬Race said t
 low:∀op∈t,op.act.low B
 gs:∀op∈t,op.g<N
 norel:∀op∈t,∀a,op.act≠ .mark (.release a)
 kr:∀i,i<N->∀l,rd i l->PermW t i l
 kw:∀i,i<N->∀l,wr i l->Perm t i l
 sp:∀idx a,touchAt t idx=some a->Sh a.loc->(a.kind= .plain->∀i,act i->Knows t i idx)/\(a.kind= .said->Knows t ic idx)
def Fit (B:Nat)(rd wr:Nat->Loc->Prop)(Sh:Loc->Prop)(act:Nat->Prop)(ic i:Nat)(x:Touch):Prop:=
 (Sh x.loc/\x.kind= .atomic/\act i)\/(Sh x.loc/\x.kind= .said/\i=ic/\act i)\/(¬Sh x.loc/\(wr i x.loc\/(rd i x.loc/\x.write=false)\/¬x.loc.low B))
theorem amd{B:Nat}{m:MemAct}(h:m.low B){x:Touch}(hx:m.touch?=some x):x.loc.low B:=by
 cases m with
 |access e=>simp only[VD,Te]at hx;subst hx;exact h
 |mark m=>cases m<;>simp[VD]at hx<;>(subst hx;exact h)
 |_=>simp[VD]at hx
theorem MX{t:Trace}{B:Nat}(h:∀op∈t,op.act.low B){idx:Nat}{a:Touch}(ha:touchAt t idx=some a):a.loc.low B:=by
 obtain⟨x,hx,FF⟩:=touch_of ha;exact amd (h x (mem_of_getElem? hx)) FF
theorem Ak{t u:Trace}{idx:Nat}{a:Touch}(h:touchAt (t++u) idx=some a):touchAt t idx=some a\/(t.size<=idx/\∃op∈u,(t++u)[idx]?=some op/\op.act.touch?=some a):=by
 obtain⟨x,hx,FF⟩:=touch_of h;rcases getElem?_append_cases hx with⟨_,jJ⟩|⟨hi,hu⟩
 ·exact .inl (by rw[touchAt_of jJ];exact FF)
 ·exact .inr ⟨hi,x,hu,hx,FF⟩
theorem TI.app{t:Trace}{B N B':Nat}{rd wr rd' wr':Nat->Loc->Prop}{Sh:Loc->Prop}{act:Nat->Prop}{ic:Nat}(h:TI t B N rd wr Sh act ic){u:Trace}{i:Nat}(hi:i<N)(hu:∀op∈u,op.g=i)
  (hf:∀op∈u,∀x,op.act.touch?=some x->Fit B rd wr Sh act ic i x) (hl:∀op∈u,op.act.low B') (hB:B<=B') (hn:∀op∈u,∀a,op.act≠ .mark (.release a))
  (Ky:∀j l,j≠i->rd' j l->rd j l) (qk:∀j l,j≠i->wr' j l->wr j l) (hri:∀l,rd' i l->l.low B->rd i l\/wr i l) (uo:∀l,wr' i l->l.low B->wr i l)
  (ex:∀l j,j≠i->(wr i l->¬rd j l/\¬wr j l)/\(rd i l->¬wr j l)) (GH:∀l j,Sh l->¬rd j l/\¬wr j l) (aag:∀j l,rd j l\/wr j l->l.low B):
  TI (t++u) B' N rd' wr' Sh act ic where
 nr said:=by
  refine noRace_append (h.nr said) hu λidx a ha op au b hb hc=> ?_;have bc:=hc;obtain⟨cU,_,J8,p7⟩:=hc;rcases hf op au b hb with⟨h1,h2,h3⟩|⟨h1,h2,h3,h4⟩|⟨_,h2|⟨h2,h3⟩|h2⟩
  ·rw[h2]at p7;rcases p7 with x|x|⟨_,_,x⟩
   ·exact(h.sp idx a ha (cU▸h1)).1 x i h3
   ·cases x
   ·cases x
  ·rw[h2]at p7;rcases p7 with x|x|⟨_,x,_⟩
   ·exact(h.sp idx a ha (cU▸h1)).1 x i h4
   ·cases x
   ·rw[h3];exact(h.sp idx a ha (cU▸h1)).2 x
  ·exact h.kw i hi _ h2 idx a ha cU
  ·exact h.kr i hi _ h2 idx a ha cU (by rw[h3]at J8;simpa using J8)
  ·exact absurd (cU▸MX h.low ha) h2
 low op au:=(Uf.1 au).elim (λx=>Yu hB (h.low op x)) (hl op)
 gs op au:=(Uf.1 au).elim (h.gs op) (λx=>by rw[hu op x];exact hi)
 norel op au:=(Uf.1 au).elim (h.norel op) (hn op)
 kr j hj l um:=by
  by_cases cp:j=i
  ·subst cp;intro idx a ha gP hw;rcases Ak ha with gC|⟨_,op,au,c9,hx⟩
   ·have im:l.low B:=gP▸MX h.low gC;rcases hri l um im with x|x
    ·exact(h.kr j hj l x idx a gC gP hw).app u
    ·exact(h.kw j hj l x idx a gC gP).app u
   ·have:=knows_own c9;rwa [hu op au]at this
  ·have Cg:=Ky j l cp um;refine(h.kr j hj l Cg).app λop au b hb cP hw=> ?_;exfalso;rcases hf op au b hb with⟨h1,_⟩|⟨h1,_⟩|⟨_,h2|⟨_,h3⟩|h2⟩
   ·exact(GH l j (cP▸h1)).1 Cg
   ·exact(GH l j (cP▸h1)).1 Cg
   ·exact((ex l j cp).1 (cP▸h2)).1 Cg
   ·rw[h3]at hw;cases hw
   ·exact h2 (cP▸aag j l (.inl Cg))
 kw j hj l rC:=by
  by_cases cp:j=i
  ·subst cp;intro idx a ha gP;rcases Ak ha with gC|⟨_,op,au,c9,hx⟩
   ·exact(h.kw j hj l (uo l rC (gP▸MX h.low gC)) idx a gC gP).app u
   ·have:=knows_own c9;rwa [hu op au]at this
  ·have nN:=qk j l cp rC;refine(h.kw j hj l nN).app λop au b hb cP=> ?_;exfalso;rcases hf op au b hb with⟨h1,_⟩|⟨h1,_⟩|⟨_,h2|⟨h2,_⟩|h2⟩
   ·exact(GH l j (cP▸h1)).2 nN
   ·exact(GH l j (cP▸h1)).2 nN
   ·exact((ex l j cp).1 (cP▸h2)).2 nN
   ·exact(ex l j cp).2 (cP▸h2) nN
   ·exact h2 (cP▸aag j l (.inr nN))
 sp idx a ha ee:=by
  rcases Ak ha with gC|⟨_,op,au,c9,hx⟩
  ·exact⟨λhp j hj=>((h.sp idx a gC ee).1 hp j hj).app u,λhp=>((h.sp idx a gC ee).2 hp).app u⟩
  ·rcases hf op au a hx with⟨_,h2,_⟩|⟨_,h2,h3,_⟩|⟨h1,_⟩
   ·exact⟨λhp=>absurd (h2.symm.trans hp) (by simp),λhp=>absurd (h2.symm.trans hp) (by simp)⟩
   ·refine⟨λhp=>absurd (h2.symm.trans hp) (by simp),λ_=> ?_⟩;have:=knows_own c9;rw[hu op au,h3]at this;exact this
   ·exact absurd ee h1
theorem TI.weaken{t:Trace}{B N B':Nat}{rd wr rd' wr':Nat->Loc->Prop}{Sh Nu:Loc->Prop}{act act':Nat->Prop}{ic kK:Nat}(h:TI t B N rd wr Sh act ic)(hB:B<=B')
  (Ky:∀i l,i<N->rd' i l->rd i l\/wr i l) (qk:∀i l,i<N->wr' i l->wr i l)
  (xB:∀idx a,touchAt t idx=some a->Nu a.loc->(a.kind= .plain->∀i,act' i->Knows t i idx)/\(a.kind= .said->Knows t kK idx)):TI t B' N rd' wr' Nu act' kK:=
 ⟨h.nr,λop au=>Yu hB (h.low op au),h.gs,h.norel,λi hi l x=>(Ky i l hi x).elim (h.kr i hi l) (λy=>PermW.of (h.kw i hi l y)),λi hi l x=>h.kw i hi l (qk i l hi x),xB⟩
theorem amJ{t u:Trace}(h:∀said,¬Race said t)(hn:∀op∈u,op.act.touch?=none):∀said,¬Race said (t++u):=by
 intro said
 rintro⟨i,j,kq,⟨a,b,ha,hb,hc⟩,n1,n2⟩
 have old:∀{k:Nat}{x:Touch},((t++u).act? k).bind (·.touch?)=some x->k<t.size/\(t.act? k).bind (·.touch?)=some x:=by
  intro k x hx;obtain⟨y,hy,KR⟩:=touch_of hx;rcases getElem?_append_cases hy with⟨hk,mj⟩|⟨_,hyu⟩
  ·exact⟨hk,by simp[Trace.act?,mj,KR]⟩
  ·rw[hn y hyu]at KR;cases KR
 exact h said ⟨i,j,kq,⟨a,b,(old ha).2,(old hb).2,hc⟩,λe=>n1 (hb_app u e),λe=>n2 (hb_app u e)⟩
theorem Al{t u:Trace}(hn:∀op∈u,op.act.touch?=none){idx:Nat}{a:Touch}(h:touchAt (t++u) idx=some a):touchAt t idx=some a:=by
 rcases Ak h with h|⟨_,op,au,_,hx⟩
 ·exact h
 ·rw[hn op au]at hx;cases hx
theorem TI.mute{t:Trace}{B N N':Nat}{rd wr rd' wr':Nat->Loc->Prop}{Sh:Loc->Prop}{act act':Nat->Prop}{ic kK:Nat}(h:TI t B N rd wr Sh act ic){u:Trace}(hn:∀op∈u,op.act.touch?=none)(hl:∀op∈u,op.act.low B)(hg:∀op∈u,op.g<N')(hN:N<=N')
  (rq:∀op∈u,∀a,op.act≠ .mark (.release a))
  (kr:∀i,i<N'->∀l,rd' i l->∀idx a,touchAt t idx=some a->a.loc=l->a.write=true->Knows (t++u) i idx) (kw:∀i,i<N'->∀l,wr' i l->∀idx a,touchAt t idx=some a->a.loc=l->Knows (t++u) i idx)
  (sp:∀idx a,touchAt t idx=some a->Sh a.loc->(a.kind= .plain->∀i,act' i->Knows (t++u) i idx)/\(a.kind= .said->Knows (t++u) kK idx)):TI (t++u) B N' rd' wr' Sh act' kK:=
 ⟨amJ h.nr hn,λop au=>(Uf.1 au).elim (h.low op) (hl op),λop au=>(Uf.1 au).elim (λx=>Ta (h.gs op x) hN) (hg op),λop au=>(Uf.1 au).elim (h.norel op) (rq op),
  λi hi l x idx a ha=>kr i hi l x idx a (Al hn ha),λi hi l x idx a ha=>kw i hi l x idx a (Al hn ha),λidx a ha=>sp idx a (Al hn ha)⟩
theorem qU{t u:Trace}{k:Nat}{x:MemOp}(h:u[k]?=some x):(t++u)[t.size+k]?=some x:=by
 rw[Xn (by omega)];simpa using h
theorem heard_new{t u:Trace}{k g:Nat}{x:MemOp}(h:u[k]?=some x)(hx:x.g=g)(hd:(t++u).deaf g (t.size+k)=0):(t++u).heard (t.size+k):=⟨g,by simp[VQ,qU h,hx],hd⟩
def still (m:MemAct):Prop:=m≠ .mark .disable/\m≠ .mark .enable
theorem H_{g d:Nat}{y:MemOp}(h:still y.act):deafStep g d y=d:=by
 unfold deafStep;obtain⟨_,_,_,act⟩:=y;cases act with
 |mark m=>cases m<;>first|rfl|exact absurd rfl h.1|exact absurd rfl h.2
 |_=>rfl
theorem tN{t u:Trace}{g:Nat}(hs:∀op∈u,still op.act):∀{k:Nat},k<=u.size->(t++u).deaf g (t.size+k)=Deaf t g:=by
 intro k;induction k with
 |zero=>intro _;exact deaf_old (SO _)
 |succ k ih=>
  intro hk;have hlt:k<u.size:=by omega
  have hy:u[k]?=some u[k]:=SJ hlt;have e:=deaf_succ (g:=g) (qU (t:=t) hy);rw[show t.size+(k+1)=t.size+k+1 from rfl,e,ih (by omega),H_ (hs _ (Xd hlt))]
theorem Deaf_still{t u:Trace}{g:Nat}(hs:∀op∈u,still op.act):Deaf (t++u) g=Deaf t g:=by
 have:=tN (t:=t) (g:=g) hs (SO u.size);unfold Deaf;rw[WV];exact this
theorem amq{t u:Trace}{k c s:Nat}{x0 x1 x2 x3:MemOp}(hu:u=#[x0,x1,x2,x3]) (h0:x0.g=k/\x0.act= .send c s) (h1:still x1.act) (h2:still x2.act) (h3:x3.g=0/\x3.act= .recvDone c s) (dk:Deaf t k=0) (d0:Deaf t 0=0) {idx:Nat} (h:Knows t k idx):Knows (t++u) 0 idx:=by
 have hs:∀op∈u,still op.act:=by
  subst hu;intro op au;simp only[Tx,SK,SU,or_false]at au;rcases au with rfl|rfl|rfl|rfl
  ·rw[h0.2];exact⟨by simp,by simp⟩
  ·exact h1
  ·exact h2
  ·rw[h3.2];exact⟨by simp,by simp⟩
 have e0:u[0]?=some x0:=by subst hu;rfl
 have e3:u[3]?=some x3:=by subst hu;rfl
 have aW:u.size=4:=by subst hu;rfl
 have g0:=qU (t:=t) e0;have g3:=qU (t:=t) e3;have hh0:(t++u).heard (t.size+0):=heard_new e0 h0.1 (by rw[tN hs (by omega)];exact dk);have QD:(t++u).heard (t.size+3):=heard_new e3 h3.1 (by rw[tN hs (by omega)];exact d0);have hb:HappensBefore (t++u) idx (t.size+0):=h.hb_new (by omega) g0 h0.1;exact⟨_,x3,g3,h3.1, .inr (hb.trans (.single (.inr ⟨.handOver (c:=c) (k:=s) (by rw[act?_of g0,h0.2]) (by rw[act?_of g3,h3.2]),hh0,QD⟩)))⟩
theorem adY{t:Trace}{a:Addr}{r q i:Nat}{y:MemOp}(hr:t.act? r=some (.mark (.releaseMerge a)))(hh:t.heard r)(hn:∀op∈t,∀a,op.act≠ .mark (.release a))(hy:y.g=q/\y.act= .mark (.acquire a))(hd:Deaf t q=0)(hb:Before t i r):Knows (t++#[y]) q i:=by
 have e:(#[y]:Trace)[0]?=some y:=rfl;have g:=qU (t:=t) e;have um:=lt_of_act? hr;have aQ:∀op∈(#[y]:Trace),still op.act:=by
  intro op au;simp only[Tx,SK,SU,or_false]at au;subst au;rw[hy.2];exact⟨by simp,by simp⟩
 have JV:(t++#[y]).heard (t.size+0):=heard_new e hy.1 (by rw[tN aQ (by simp)];exact hd);refine⟨_,y,g,hy.1, .inr ((hb.app #[y]).hb (.single (.inr ⟨.marked (a:=a) (by omega) (.inr (by rw[act?_old um];exact hr)) (by rw[act?_of g,hy.2]) (λk gZ cx e'=> ?_),(heard_old um).2 hh,JV⟩)))⟩;obtain⟨op,ho,hoa⟩:=Tl.1 e';rcases getElem?_append_cases ho with⟨_,bf⟩|⟨hk,_⟩
 ·exact hn op (mem_of_getElem? bf) a hoa
 ·omega
theorem afE{t:Trace}{c p q i:Nat}{y:MemOp}(hp:t.act? p=some (.close c))(hh:t.heard p)(hy:y.g=q/\y.act= .recvClosed c)(hd:Deaf t q=0)(hb:Before t i p):Knows (t++#[y]) q i:=by
 have e:(#[y]:Trace)[0]?=some y:=rfl;have g:=qU (t:=t) e;have dQ:=lt_of_act? hp;have aQ:∀op∈(#[y]:Trace),still op.act:=by
  intro op au;simp only[Tx,SK,SU,or_false]at au;subst au;rw[hy.2];exact⟨by simp,by simp⟩
 have JV:(t++#[y]).heard (t.size+0):=heard_new e hy.1 (by rw[tN aQ (by simp)];exact hd);exact⟨_,y,g,hy.1, .inr ((hb.app #[y]).hb (.single (.inr ⟨.closed (c:=c) (by rw[act?_old dQ];exact hp) (by rw[act?_of g,hy.2]),(heard_old dQ).2 hh,JV⟩)))⟩
def jN (U V:View):Prop:=∀b,U.own b≠none->V.own b=none/\∀o,V.ab b o≠none->U.ab b o≠none
def gV (V:View):Loc->Prop
 | .cell a=>V.own a.block≠none\/V.ab a.block a.off≠none
 | .obj r=>V.own r≠none
 |_=>False
def jO (V:View):Loc->Prop
 | .cell a=>V.own a.block≠none/\V.ab a.block a.off=none
 | .obj r=>V.own r≠none
 |_=>False
theorem jO.rd{V:View}:∀{l:Loc},jO V l->gV V l
 | .cell _,h=> .inl h.1
 | .obj _,h=>h
theorem dg.others{V V' U:View}{w w':World}{es:Array Event}(s:dg V w V' w' es)(hV:Sat V w)(h:Sat U w)(d:jN V U):Sat U w':=by
 refine⟨λb o v e=> ?_,λb x e=> ?_⟩
 ·have hc:=h.ab b o v e;have hb:=h.Cx e;cases ho:V.own b with
  |none=>
   have:=s.frame b hb ho;simp only[Uj,this]at hc⊢;exact hc
  |some x=>
   have hp:=(d b (by rw[ho];simp)).2 o (by rw[e];simp);cases hi:V.ab b o with
   |none=>exact absurd hi hp
   |some v'=>
    have e1:=hV.ab b o v' hi;rw[hc]at e1;cases e1;exact s.sat.ab b o v (s.ab b o v hi)
 ·have hb:=h.lt e;have ho:V.own b=none:=by
   cases ho:V.own b with
   |none=>rfl
   |some y=>rw[(d b (by rw[ho];simp)).1]at e;cases e
  rw[s.frame b hb ho];exact h.own b x e
theorem dg.ve{V V' U:View}{w w':World}{es:Array Event}(s:dg V w V' w' es)(h:Sat U w)(d:jN V U)(d':jN U V):jN V' U/\jN U V':=by
 have key:∀b,V'.own b≠none->V.own b≠none\/w.heap.size<=b:=by
  intro b hb;by_cases hlt:b<w.heap.size
  ·exact .inl λe=>hb (s.own b hlt e)
  ·exact .inr (by omega)
 refine⟨λb hb=> ?_,λb hb=> ?_⟩
 ·rcases key b hb with x|x
  ·refine⟨(d b x).1,λo ho=> ?_⟩;have:=(d b x).2 o ho;cases e:V.ab b o with
   |none=>exact absurd e this
   |some v=>rw[s.ab b o v e];simp
  ·have:=h.fresh x;exact⟨this.1,λo ho=>absurd (this.2 o) ho⟩
 ·have hlt:b<w.heap.size:=by
   cases e:U.own b with
   |none=>exact absurd e hb
   |some x=>exact h.lt e
  refine⟨?_,λo ho=> ?_⟩
  ·exact s.own b hlt (d' b hb).1
  ·cases e:V'.ab b o with
   |none=>exact absurd e ho
   |some v=>
    rcases s.kL b o v e with x|x|x
    ·exact(d' b hb).2 o (by rw[x];simp)
    ·exact absurd (d' b hb).1 x
    ·omega
theorem ep.ve{V V' U:View}(g:ep V V')(d:jN V U)(d':jN U V):jN V' U/\jN U V':=by
 refine⟨λb hb=> ?_,λb hb=>⟨g.own b (d' b hb).1,λo ho=> ?_⟩⟩
 ·have x:V.own b≠none:=λe=>hb (g.own b e);refine⟨(d b x).1,λo ho=> ?_⟩;cases e:V.ab b o with
  |none=>exact absurd e ((d b x).2 o ho)
  |some v=>rw[g.ab b o v e];simp
 ·cases e:V'.ab b o with
  |none=>exact absurd e ho
  |some v=>
   rcases g.kL b o v e with x|x
   ·exact(d' b hb).2 o (by rw[x];simp)
   ·exact absurd (d' b hb).1 x
theorem ep.rd{V V':View}(g:ep V V'):∀{l:Loc},gV V' l->gV V l
 | .cell a,h=>by
  rcases h with h|h
  ·exact .inl λe=>h (g.own _ e)
  ·cases e:V'.ab a.block a.off with
   |none=>exact absurd e h
   |some v=>exact(g.kL _ _ _ e).elim (λx=> .inr (by rw[x];simp)) .inl
 | .obj _,h=>λe=>h (g.own _ e)
theorem ep.wr{V V':View}(g:ep V V'):∀{l:Loc},jO V' l->jO V l
 | .cell a,h=>⟨λe=>h.1 (g.own _ e),by
  cases e:V.ab a.block a.off with
  |none=>rfl
  |some v=>exact absurd (g.ab _ _ _ e) (by rw[h.2];simp)⟩
 | .obj _,h=>λe=>h (g.own _ e)
theorem gV.low{V:View}{w:World}(h:Sat V w):∀{l:Loc},gV V l->l.low w.heap.size
 | .cell a,x=>by
  rcases x with x|x
  ·cases e:V.own a.block with
   |none=>exact absurd e x
   |some y=>exact h.lt e
  ·cases e:V.ab a.block a.off with
   |none=>exact absurd e x
   |some y=>exact h.Cx e
 | .obj r,x=>by
  cases e:V.own r with
  |none=>exact absurd e x
  |some y=>exact h.lt e
theorem dg.rd{V V':View}{w w':World}{es:Array Event}(s:dg V w V' w' es):∀{l:Loc},gV V' l->l.low w.heap.size->gV V l
 | .cell a,h,hl=>by
  have eV:a.block<w.heap.size:=hl;rcases h with h|h
  ·exact .inl λe=>h (s.own _ eV e)
  ·cases e:V'.ab a.block a.off with
   |none=>exact absurd e h
   |some v=>
    rcases s.kL _ _ _ e with x|x|x
    ·exact .inr (by rw[x];simp)
    ·exact .inl x
    ·omega
 | .obj r,h,hl=>λe=>h (s.own _ hl e)
theorem dg.wr{V V':View}{w w':World}{es:Array Event}(s:dg V w V' w' es):∀{l:Loc},jO V' l->l.low w.heap.size->jO V l
 | .cell a,h,hl=>⟨λe=>h.1 (s.own _ hl e),by
  cases e:V.ab a.block a.off with
  |none=>rfl
  |some v=>exact absurd (s.ab _ _ _ e) (by rw[h.2];simp)⟩
 | .obj r,h,hl=>λe=>h (s.own _ hl e)
theorem afZ{U V:View}(d:jN U V)(d':jN V U)(l:Loc):(jO U l->¬gV V l/\¬jO V l)/\(gV U l->¬jO V l):=by
 cases l with
 |cell a=>
  refine⟨λh=> ?_,λh=> ?_⟩
  ·have:=d _ h.1;refine⟨λx=> ?_,λx=>x.1 this.1⟩;rcases x with x|x
   ·exact x this.1
   ·exact this.2 _ x h.2
  ·intro x;have:=d' _ x.1;rcases h with h|h
   ·exact h this.1
   ·exact this.2 _ h x.2
 |obj r=>exact⟨λh=>⟨λx=>x (d r h).1,λx=>x (d r h).1⟩,λh x=>h (d' r x).1⟩
 |_=>exact⟨λh=>h.elim,λh=>h.elim⟩
def qI (c Wg:Nat):Loc->Prop
 | .cell a=>a.block=Wg
 | .obj r=>r=c
 |_=>False
structure Core (VV:Nat->View)(N:Nat)(w:World)(t:Trace)(Sh:Loc->Prop)(act:Nat->Prop)(ic n0:Nat)(W0:World):Prop where
 sat:∀i,i<N->Sat (VV i) w
 dT:∀i j,i<N->j<N->i≠j->jN (VV i) (VV j)
 ti:TI t w.heap.size N (λi l=>i<N/\gV (VV i) l/\¬Sh l) (λi l=>i<N/\jO (VV i) l/\¬Sh l) Sh act ic
 tape:w.tape=W0.tape
 os:w.os=W0.os
 out:w.output=W0.output
 old:∀b,b<n0->w.heap[b]?=W0.heap[b]?
 jq:∀i,i<N->∀b,b<n0->(VV i).own b=none
 n0:n0<=w.heap.size
def upd {α:Type}(f:Nat->α)(i:Nat)(x:α):Nat->α:=λj=>if j=i then x else f j
theorem bx{α:Type}(f:Nat->α)(i:Nat)(x:α):upd f i x i=x:=by simp[upd]
theorem aZ{α:Type}(f:Nat->α){i j:Nat}(x:α)(h:j≠i):upd f i x j=f j:=by simp[upd,h]
section
variable {VV:Nat->View}{N:Nat}{w w':World}{t:Trace}{Sh:Loc->Prop}{act:Nat->Prop}{ic n0 i:Nat}{W0:World}
theorem Core.draw(h:Core VV N w t Sh act ic n0 W0)(d:Nat):Core VV N (w.at d) t Sh act ic n0 W0:=
 ⟨λi hi=>⟨(h.sat i hi).ab,(h.sat i hi).own⟩,h.dT,h.ti,h.tape,h.os,h.out,h.old,h.jq,h.n0⟩
theorem Ix{V:View}{B:Nat}{e:Event}(he:m8 V B e){x:Touch}(hx:(Tm e).touch?=some x):(jO V x.loc\/(gV V x.loc/\x.write=false)\/¬x.loc.low B)/\
  (∀c,V.role.chan=some c->x.loc≠ .obj c)/\(∀Wg a,V.role.group=some Wg->x.loc= .cell a->a.block=Wg->x.kind≠ .plain):=by
 obtain⟨l,wr,s⟩:=e;cases l with
 |cell a=>
  simp only[ofEvent_cell0,VD,Te]at hx;subst hx;cases wr with
  |false=>
   refine⟨?_,λc _=>by simp,λWg a' hr ha hb=> ?_⟩
   ·rcases he.1 with h|h|h
    ·exact .inr (.inr (by show ¬a.block<B;omega))
    ·exact .inr (.inl ⟨.inl h,rfl⟩)
    ·exact .inr (.inl ⟨.inr h,rfl⟩)
   ·cases ha;rcases he.2 with h|h
    ·subst h;simp
    ·subst hb;exact absurd hr h
  |true=>
   refine⟨?_,λc _=>by simp,λWg a' hr ha hb=> ?_⟩
   ·rcases he.1 with h|h
    ·exact .inr (.inr (by show ¬a.block<B;omega))
    ·exact .inl h
   ·cases ha;rcases he.2 with h|h
    ·subst h;simp
    ·subst hb;exact absurd hr h
 |obj r=>
  obtain⟨⟨rfl,h2⟩,h3⟩:=he;have e1:Tm ⟨.obj r,wr,false⟩= .access ⟨.obj r,wr,false⟩:=by cases wr<;>rfl
  rw[e1]at hx;simp only[VD,Te]at hx;subst hx;refine⟨?_,λc hc e=> ?_,λWg a _ ha=>by cases ha⟩
  ·rcases h2 with h|h
   ·exact .inr (.inr (by show ¬r<B;omega))
   ·exact .inl h
  ·cases e;exact h3 hc
 |mark m=>
  have e1:Tm ⟨.mark m,wr,s⟩= .mark m:=by cases wr<;>cases s<;>rfl
  rw[e1]at hx;cases m<;>simp only[VD,Te,reduceCtorEq]at hx
  all_goals
   subst hx;refine⟨?_,λc _=>by simp,λWg a' _ _ _=>by simp⟩;have kj:mE V B _:=he;rcases kj with h|h
   ·exact .inr (.inr (by simp only[Loc.low];omega))
   ·exact .inl h
 |_=>exact he.elim
theorem Core.O4(h:Core VV N w t Sh act ic n0 W0)(l:Loc){i j:Nat}(hi:i<N)(hj:j≠i):
  ((i<N/\jO (VV i) l/\¬Sh l)->¬(j<N/\gV (VV j) l/\¬Sh l)/\¬(j<N/\jO (VV j) l/\¬Sh l))/\((i<N/\gV (VV i) l/\¬Sh l)->¬(j<N/\jO (VV j) l/\¬Sh l)):=by
 by_cases BZ:j<N
 ·have:=afZ (h.dT i j hi BZ (Ne.symm hj)) (h.dT j i BZ hi hj) l;exact⟨λ⟨_,x,_⟩=>⟨λ⟨_,y,_⟩=>(this.1 x).1 y,λ⟨_,y,_⟩=>(this.1 x).2 y⟩,λ⟨_,x,_⟩ ⟨_,y,_⟩=>this.2 x y⟩
 ·exact⟨λ_=>⟨λ⟨y,_⟩=>BZ y,λ⟨y,_⟩=>BZ y⟩,λ_ ⟨y,_⟩=>BZ y⟩
theorem Core.step(h:Core VV N w t Sh act ic n0 W0)(hi:i<N){V':View}{es:Array Event}(s:dg (VV i) w V' w' es)
  (ee:∀e∈es,∀x,(Tm e).touch?=some x->Sh x.loc->(x.kind= .atomic/\act i)\/(x.kind= .said/\i=ic/\act i)) (fn:FuncId) (pos:String):
  Core (upd VV i V') N w' (t++S8 i fn pos es) Sh act ic n0 W0 where
 sat j hj:=by
  by_cases cp:j=i
  ·subst cp;rw[bx];exact s.sat
  ·rw[aZ _ _ cp];exact s.others (h.sat i hi) (h.sat j hj) (h.dT i j hi hj (Ne.symm cp))
 dT a b ha hb fN:=by
  by_cases ny:a=i
  ·subst ny;have vA:b≠a:=Ne.symm fN;rw[bx,aZ _ _ vA];exact(s.ve (h.sat b hb) (h.dT a b ha hb fN) (h.dT b a hb ha vA)).1
  ·by_cases iP:b=i
   ·subst iP;rw[bx,aZ _ _ ny];exact(s.ve (h.sat a ha) (h.dT b a hb ha (Ne.symm fN)) (h.dT a b ha hb fN)).2
   ·rw[aZ _ _ ny,aZ _ _ iP];exact h.dT a b ha hb fN
 ti:=by
  refine h.ti.app hi (λop au=>by obtain⟨e,_,rfl⟩:=TB au;rfl) (λop au x hx=> ?_) (λop au=>by obtain⟨e,he,rfl⟩:=TB au;exact s.low e he) s.size (λop au a=> ?_)
   (λj l hj ⟨x,y⟩=>by rw[aZ _ _ hj]at y;exact⟨x,y⟩) (λj l hj ⟨x,y⟩=>by rw[aZ _ _ hj]at y;exact⟨x,y⟩)
   (λl ⟨x,y,z⟩ hl=>by rw[bx]at y;exact .inl ⟨x,s.rd y hl,z⟩) (λl ⟨x,y,z⟩ hl=>by rw[bx]at y;exact⟨x,s.wr y hl,z⟩)
   (λl j hj=>h.O4 l hi hj) (λl j hs=>⟨λx=>x.2.2 hs,λx=>x.2.2 hs⟩) (λj l x=>x.elim (λy=>gV.low (h.sat j y.1) y.2.1) (λy=>gV.low (h.sat j y.1) y.2.1.rd))
  ·obtain⟨e,he,rfl⟩:=TB au;by_cases hs:Sh x.loc
   ·rcases ee e he x hx hs with⟨a,b⟩|⟨a,b,c⟩
    ·exact .inl ⟨hs,a,b⟩
    ·exact .inr (.inl ⟨hs,a,b,c⟩)
   ·refine .inr (.inr ⟨hs, ?_⟩);rcases(Ix (s.fx e he) hx).1 with x'|⟨x',y⟩|x'
    ·exact .inl ⟨hi,x',hs⟩
    ·exact .inr (.inl ⟨⟨hi,x',hs⟩,y⟩)
    ·exact .inr (.inr x')
  ·obtain⟨e,he,rfl⟩:=TB au;intro e';have hk:=s.fx e he;obtain⟨l,wr,sy⟩:=e;cases l with
   |mark m=>
    have e1:Tm ⟨.mark m,wr,sy⟩= .mark m:=(by cases wr<;>cases sy<;>rfl);simp only[e1,Zo]at e';subst e';exact hk
   |cell a'=>simp[ofEvent_cell0]at e'
   |obj r=>cases wr<;>cases sy<;>simp[Tm]at e'
   |_=>exact hk
 tape:=s.tape.trans h.tape
 os:=s.os.trans h.os
 out:=s.output.trans h.out
 old b hb:=(s.frame b (Ta hb h.n0) (h.jq i hi b hb)).trans (h.old b hb)
 jq j hj b hb:=by
  by_cases cp:j=i
  ·subst cp;rw[bx];exact s.own b (Ta hb h.n0) (h.jq j hj b hb)
  ·rw[aZ _ _ cp];exact h.jq j hj b hb
 n0:=Ur h.n0 s.size
theorem Core.ghost(h:Core VV N w t Sh act ic n0 W0)(hi:i<N){V':View}(g:ep (VV i) V'):Core (upd VV i V') N w t Sh act ic n0 W0 where
 sat j hj:=by
  by_cases cp:j=i
  ·subst cp;rw[bx];exact g.sat _ (h.sat j hj)
  ·rw[aZ _ _ cp];exact h.sat j hj
 dT a b ha hb fN:=by
  by_cases ny:a=i
  ·subst ny;have vA:b≠a:=Ne.symm fN;rw[bx,aZ _ _ vA];exact(g.ve (h.dT a b ha hb fN) (h.dT b a hb ha vA)).1
  ·by_cases iP:b=i
   ·subst iP;rw[bx,aZ _ _ ny];exact(g.ve (h.dT b a hb ha (Ne.symm fN)) (h.dT a b ha hb fN)).2
   ·rw[aZ _ _ ny,aZ _ _ iP];exact h.dT a b ha hb fN
 ti:=h.ti.weaken (SO _) (λj l _ ⟨x,y,z⟩=>by
   by_cases cp:j=i
   ·subst cp;rw[bx]at y;exact .inl ⟨x,g.rd y,z⟩
   ·rw[aZ _ _ cp]at y;exact .inl ⟨x,y,z⟩) (λj l _ ⟨x,y,z⟩=>by
   by_cases cp:j=i
   ·subst cp;rw[bx]at y;exact⟨x,g.wr y,z⟩
   ·rw[aZ _ _ cp]at y;exact⟨x,y,z⟩) h.ti.sp
 tape:=h.tape
 os:=h.os
 out:=h.out
 old:=h.old
 jq j hj b hb:=by
  by_cases cp:j=i
  ·subst cp;rw[bx];exact g.own b (h.jq j hj b hb)
  ·rw[aZ _ _ cp];exact h.jq j hj b hb
 n0:=h.n0
def mD (V' V:View):Prop:=(∀b,V'.own b=none\/V'.own b=V.own b)/\(∀b o,V'.ab b o=none\/V'.ab b o=V.ab b o)/\(∀b,V'.own b≠none->∀o,V'.ab b o=V.ab b o)
theorem mD.sat{V V':View}(l:mD V' V){w:World}(h:Sat V w):Sat V' w:=
 ⟨λb o v e=>h.ab b o v (by rcases l.2.1 b o with x|x<;>rw[x]at e;cases e;exact e),λb x e=>h.own b x (by rcases l.1 b with y|y<;>rw[y]at e;cases e;exact e)⟩
theorem mD.rd{V V':View}(k:mD V' V):∀{l:Loc},gV V' l->gV V l
 | .cell a,h=>h.imp (λx y=>by rcases k.1 a.block with z|z;exact x z;exact x (z.trans y)) (λx y=>by rcases k.2.1 a.block a.off with z|z;exact x z;exact x (z.trans y))
 | .obj r,h=>λy=>by rcases k.1 r with z|z;exact h z;exact h (z.trans y)
theorem mD.wr{V V':View}(k:mD V' V):∀{l:Loc},jO V' l->jO V l
 | .cell a,h=>⟨λy=>by rcases k.1 a.block with z|z;exact h.1 z;exact h.1 (z.trans y),by rw[<- k.2.2 _ h.1];exact h.2⟩
 | .obj r,h=>λy=>by rcases k.1 r with z|z;exact h z;exact h (z.trans y)
theorem mD.ve{V V' U:View}(k:mD V' V)(d:jN V U)(d':jN U V):jN V' U/\jN U V':=by
 refine⟨λb hb=> ?_,λb hb=>⟨?_,λo ho=> ?_⟩⟩
 ·have x:V.own b≠none:=λy=>by rcases k.1 b with z|z;exact hb z;exact hb (z.trans y)
  exact⟨(d b x).1,λo ho=>by rw[k.2.2 b hb];exact(d b x).2 o ho⟩
 ·rcases k.1 b with z|z;exact z;exact z.trans (d' b hb).1
 ·exact(d' b hb).2 o λy=>by rcases k.2.1 b o with z|z;exact ho z;exact ho (z.trans y)
theorem Core.less(h:Core VV N w t Sh act ic n0 W0)(hi:i<N){V':View}(k:mD V' (VV i)):Core (upd VV i V') N w t Sh act ic n0 W0 where
 sat j hj:=by
  by_cases cp:j=i
  ·subst cp;rw[bx];exact k.sat (h.sat j hj)
  ·rw[aZ _ _ cp];exact h.sat j hj
 dT a b ha hb fN:=by
  by_cases ny:a=i
  ·subst ny;have vA:b≠a:=Ne.symm fN;rw[bx,aZ _ _ vA];exact(k.ve (h.dT a b ha hb fN) (h.dT b a hb ha vA)).1
  ·by_cases iP:b=i
   ·subst iP;rw[bx,aZ _ _ ny];exact(k.ve (h.dT b a hb ha (Ne.symm fN)) (h.dT a b ha hb fN)).2
   ·rw[aZ _ _ ny,aZ _ _ iP];exact h.dT a b ha hb fN
 ti:=h.ti.weaken (SO _) (λj l _ ⟨x,y,z⟩=>by
   by_cases cp:j=i
   ·subst cp;rw[bx]at y;exact .inl ⟨x,k.rd y,z⟩
   ·rw[aZ _ _ cp]at y;exact .inl ⟨x,y,z⟩) (λj l _ ⟨x,y,z⟩=>by
   by_cases cp:j=i
   ·subst cp;rw[bx]at y;exact⟨x,k.wr y,z⟩
   ·rw[aZ _ _ cp]at y;exact⟨x,y,z⟩) h.ti.sp
 tape:=h.tape
 os:=h.os
 out:=h.out
 old:=h.old
 jq j hj b hb:=by
  by_cases cp:j=i
  ·subst cp;rw[bx];rcases k.1 b with z|z;exact z;exact z.trans (h.jq j hj b hb)
  ·rw[aZ _ _ cp];exact h.jq j hj b hb
 n0:=h.n0
theorem Core.te(h:Core VV N w t Sh act ic n0 W0)(hi:i<N){es:Array Event}(cu:∀e∈es,∀x,(Tm e).touch?=some x->Fit w.heap.size (λi l=>i<N/\gV (VV i) l/\¬Sh l) (λi l=>i<N/\jO (VV i) l/\¬Sh l) Sh act ic i x)
  (im:∀e∈es,(Tm e).low w.heap.size) (rq:∀e∈es,∀a,Tm e≠ .mark (.release a)) (SB:Nat->Prop) (KC:∀b,SB b->n0<=b/\∀j,j<N->(VV j).own b=none/\∀o,(VV j).ab b o=none)
  (aW:w'.heap.size=w.heap.size) (jG:∀b,¬SB b->w'.heap[b]?=w.heap[b]?) (ht:w'.tape=w.tape) (ho:w'.os=w.os) (hu:w'.output=w.output) (fn:FuncId) (pos:String):
  Core VV N w' (t++S8 i fn pos es) Sh act ic n0 W0 where
 sat j hj:=by
  have hs:=h.sat j hj;refine⟨λb o v e=> ?_,λb x e=> ?_⟩
  ·have hb:¬SB b:=λx=>(by rw[((KC b x).2 j hj).2 o]at e;cases e);have:=hs.ab b o v e;simp only[Uj,jG b hb];exact this
  ·have hb:¬SB b:=λy=>(by rw[((KC b y).2 j hj).1]at e;cases e);rw[jG b hb];exact hs.own b x e
 dT:=h.dT
 ti:=by
  rw[aW];refine h.ti.app hi (λop au=>by obtain⟨e,_,rfl⟩:=TB au;rfl) (λop au x hx=>by obtain⟨e,he,rfl⟩:=TB au;exact cu e he x hx) (λop au=>by obtain⟨e,he,rfl⟩:=TB au;exact im e he) (SO _) (λop au a=>by obtain⟨e,he,rfl⟩:=TB au;exact rq e he a)
   (λj l _ x=>x) (λj l _ x=>x) (λl x _=> .inl x) (λl x _=>x) (λl j hj=>h.O4 l hi hj) (λl j hs=>⟨λx=>x.2.2 hs,λx=>x.2.2 hs⟩) (λj l x=>x.elim (λy=>gV.low (h.sat j y.1) y.2.1) (λy=>gV.low (h.sat j y.1) y.2.1.rd))
 tape:=ht.trans h.tape
 os:=ho.trans h.os
 out:=hu.trans h.out
 old b hb:=(jG b (λx=>by have:=(KC b x).1;omega)).trans (h.old b hb)
 jq:=h.jq
 n0:=by rw[aW];exact h.n0
theorem Core.quiet(h:Core VV N w t Sh act ic n0 W0)(hi:i<N){es:Array Event}(JI:∀e∈es,(Tm e).touch?=none/\(Tm e).low w.heap.size/\∀a,Tm e≠ .mark (.release a))(fn:FuncId)(pos:String):
  Core VV N w (t++S8 i fn pos es) Sh act ic n0 W0:=
 h.te hi (λe he x hx=>by rw[(JI e he).1]at hx;cases hx) (λe he=>(JI e he).2.1) (λe he=>(JI e he).2.2) (λ_=>False) (λb x=>x.elim) rfl (λ_ _=>rfl) rfl rfl rfl fn pos
theorem Core.role(h:Core VV N w t Sh act ic n0 W0)(hi:i<N){V':View}(h1:V'.ab=(VV i).ab)(h2:V'.own=(VV i).own):Core (upd VV i V') N w t Sh act ic n0 W0:=
 h.less hi ⟨λb=> .inr (by rw[h2]),λb o=> .inr (by rw[h1]),λb _ o=>by rw[h1]⟩
end
inductive GS where
 |gone (q:Nat)
 |work (j:Nat) (h:Ht) (V:View)
 |nT (j:Nat) (h:Ht) (V V':View) (g0:Goroutine) (v z:Value)
 |add (n:Nat)
 |load (n:Nat)
 |store (n:Nat)
 |mw (n:Nat)
 |head (k n:Nat)
 |l9 (v n:Nat)
 |said (n:Nat)
 |ij (n:Nat)
 |last (n:Nat)
 |acq (n:Nat)
 |look (n:Nat)
 |close (n:Nat)
def noView:View:={ab:=λ_ _=>none,own:=λ_=>none,deaf:=0,role:= .plain}
def GS.view (Im:cz):GS->View
 | .work _ _ V=>V
 | .nT _ _ V _ _ _ _=>V
 | .head .. | .l9 .. | .said _| .ij _| .last _| .acq _| .look _=>{noView with ab:=Im}
 |_=>noView
def GS.cnt:GS->Nat
 | .work .. | .nT .. | .add _=>1
 |_=>0
def GS.late:GS->Nat
 | .load _| .store _| .mw _=>1
 |_=>0
def GS.idx:GS->Option Nat
 | .work j _ _=>some j
 | .nT j _ _ _ _ _ _=>some j
 |_=>none
def GS.shape:GS->GS
 | .gone _=> .gone 0
 | .work j _ _=> .work j .z noView
 | .nT j _ _ _ _ _ _=> .work j .z noView
 | .add _=> .add 0
 | .load _=> .load 0
 | .store _=> .store 0
 | .mw _=> .mw 0
 | .head k _=> .head k 0
 | .l9 v _=> .l9 v 0
 | .said _=> .said 0
 | .ij _=> .ij 0
 | .last _=> .last 0
 | .acq _=> .acq 0
 | .look _=> .look 0
 | .close _=> .close 0
theorem GS.nj:∀K:GS,K.shape.cnt=K.cnt:=by intro K;cases K<;>rfl
theorem GS.mq:∀K:GS,K.shape.late=K.late:=by intro K;cases K<;>rfl
theorem GS.FL:∀K:GS,K.shape.idx=K.idx:=by intro K;cases K<;>rfl
def GS.ni:GS->Bool
 | .head .. | .l9 .. | .said _| .ij _| .last _| .acq _| .look _| .close _=>true
 |_=>false
theorem GS.Ol:∀K:GS,K.shape.ni=K.ni:=by intro K;cases K<;>rfl
def GS.da:GS->yo
 | .gone q=>⟨0, .z,q⟩
 | .work _ h V=>⟨11+2* (match V.role with| .work _ _ S=>S.length|_=>0),h,0⟩
 | .nT _ h V _ _ _ _=>⟨10+2* (match V.role with| .work _ _ S=>S.length|_=>0),h,0⟩
 | .add n=>⟨8, .z,n⟩
 | .load n=>⟨7, .z,n⟩
 | .store n=>⟨6, .z,n⟩
 | .mw n=>⟨5, .z,n⟩
 | .head k n=>⟨100+3* k, .z,n⟩
 | .l9 v n=>⟨102+3* v, .z,n⟩
 | .said n=>⟨60, .z,n⟩
 | .ij n=>⟨50, .z,n⟩
 | .last n=>⟨40, .z,n⟩
 | .acq n=>⟨30, .z,n⟩
 | .look n=>⟨20, .z,n⟩
 | .close n=>⟨15, .z,n⟩
section
variable (P:Program)(c Wg:Nat)(Im:cz)(Ss:List (List Spec))
def Dn (v d:Nat)(g:Goroutine):Prop:=d=1/\g.status= .running/\
 (∃g',(∀w,WgAt P Wg w ((v:Int)* KK) 0->stepG P false g w= .go g' (w.setCell (eo Wg) (.int .u64 ((v:Int)* KK+1))) #[jd (eo Wg),kX (eo Wg)])/\∃n,ig P Wg (Do P Im c Wg) n 1 g')/\
 (∀u:Nat,u<v->∃g',(∀w,WgAt P Wg w ((u:Int)* KK) 0->stepG P false g w= .go g' w #[jd (eo Wg)])/\∃n,cR P (eQ P Im c Wg v) n 1 g')
theorem eQ.succ{k d:Nat}{g:Goroutine}(h:eQ P Im c Wg (k+1) d g):d=1/\g.status= .running/\∀v:Nat,v<=k->v<=4->∃g',(∀w,WgAt P Wg w ((v:Int)* KK) 0->stepG P false g w= .go g' w #[jd (eo Wg)])/\
  (v=0->∃n,ig P Wg (tr P Im c Wg) n 1 g')/\(v≠0->∃n,cR P (Dn P c Wg Im v) n 1 g'):=by
 rw[eQ]at h;exact h
theorem eQ.zero{d:Nat}{g:Goroutine}(h:eQ P Im c Wg 0 d g):False:=by
 rw[eQ]at h;exact h
def GS.is:GS->Nat->Goroutine->Prop
 | .gone q,d,g=>QuitsD P q d g
 | .work j h V,d,g=>d=V.deaf/\lz P h V g/\∃S,Ss[j]?=some S/\V.role= .work c Wg S
 | .nT j h V V' g0 v z,d,g=>d=0/\V.deaf=0/\g=parked g0 #[scase c v z] .send/\lz P h V' (TO g0 undef)/\∃sp S,∃B:Nat->Bool,Ss[j]?=some (sp::S)/\V.role= .work c Wg (sp::S)/\
   sp v V.ab (λb=>if B b then V.own b else none)/\V'={V with own:=λb=>if B b then none else V.own b,role:= .work c Wg S}
 | .add n,d,g=>cR P (Ax P Wg) n d g
 | .load n,d,g=>cR P (Dq P Wg) n d g
 | .store n,d,g=>cR P (Ds P Wg) n d g
 | .mw n,d,g=>cR P (Dr P Wg) n d g
 | .head k n,d,g=>cR P (eQ P Im c Wg k) n d g
 | .l9 v n,d,g=>cR P (Dn P c Wg Im v) n d g
 | .said n,d,g=>ig P Wg (Do P Im c Wg) n d g
 | .ij n,d,g=>cR P (Dp P Im c Wg) n d g\/(n=0/\∃g1,g={g1 with status:= .blocked}/\Dp P Im c Wg d g1)
 | .last n,d,g=>cR P (Hj P Im c Wg) n d g
 | .acq n,d,g=>ig P Wg (tr P Im c Wg) n d g
 | .look n,d,g=>cR P (Hk P Im c) n d g
 | .close n,d,g=>cR P (Hi P c) n d g
end
theorem cR.running{P:Program}{Stop:Nat->Goroutine->Prop}(hs:∀d g,Stop d g->g.status= .running):∀{n d:Nat}{g:Goroutine},cR P Stop n d g->g.status= .running
 |0,_,_,h=>hs _ _ h
 |_+1,_,_,h=>h.elim (hs _ _) (λx=>x.1)
theorem ig.running{P:Program}{Wg:Nat}{Stop:Nat->Goroutine->Prop}(hs:∀d g,Stop d g->g.status= .running):∀{n d:Nat}{g:Goroutine},ig P Wg Stop n d g->g.status= .running
 |0,_,_,h=>hs _ _ h
 |_+1,_,_,h=>h.elim (hs _ _) (λx=>x.1)
theorem Qx{P:Program}{Im:cz}{c Wg:Nat}:∀{k d:Nat}{g:Goroutine},eQ P Im c Wg k d g->g.status= .running
 |0,_,_,h=>(eQ.zero P c Wg Im h).elim
 |_+1,_,_,h=>(eQ.succ P c Wg Im h).2.1
theorem GS.runs{P:Program}{c Wg:Nat}{Im:cz}{Ss:List (List Spec)}{K:GS}{d:Nat}{g:Goroutine}(h:K.is P c Wg Im Ss d g):
  g.status= .running\/g.status= .finished/\(∃q,K= .gone q)\/(∃j h V V' g0 v z,K= .nT j h V V' g0 v z)\/((∃n,K= .ij n)/\g.status= .blocked/\g.offers=none):=by
 cases K with
 |gone q=>exact(YN h).elim .inl (λx=> .inr (.inl ⟨x,q,rfl⟩))
 |work j h' V=>exact .inl h.2.1.running
 |nT j h' V V' g0 v z=>exact .inr (.inr (.inl ⟨j,h',V,V',g0,v,z,rfl⟩))
 |add n=>exact .inl (cR.running (λd g x=>x.2.1) h)
 |load n=>exact .inl (cR.running (λd g x=>x.2.1) h)
 |store n=>exact .inl (cR.running (λd g x=>x.2.1) h)
 |mw n=>exact .inl (cR.running (λd g x=>x.2.1) h)
 |head k n=>exact .inl (cR.running (λd g x=>Qx x) h)
 |l9 v n=>exact .inl (cR.running (λd g x=>x.2.1) h)
 |said n=>exact .inl (ig.running (λd g x=>x.2.1) h)
 |ij n=>
  rcases h with h|⟨_,g1,rfl,h⟩
  ·exact .inl (cR.running (λd g x=>x.2.1) h)
  ·exact .inr (.inr (.inr ⟨⟨n,rfl⟩,rfl,h.2.2.1⟩))
 |last n=>exact .inl (cR.running (λd g x=>x.2.1) h)
 |acq n=>exact .inl (ig.running (λd g x=>x.2.1) h)
 |look n=>exact .inl (cR.running (λd g x=>x.2.1) h)
 |close n=>exact .inl (cR.running (λd g x=>x.2.1) h)
structure Rel (Wg:Nat)(t:Trace)(i r:Nat):Prop where
 act:t.act? r=some (.mark (.releaseMerge (eo Wg)))
 g:t.g? r=some i
 heard:t.heard r
theorem Rel.app{Wg:Nat}{t u:Trace}{i r:Nat}(h:Rel Wg t i r):Rel Wg (t++u) i r:=
 have hr:=lt_of_act? h.act
 ⟨by rw[act?_old hr];exact h.act,by rw[g?_old hr];exact h.g,(heard_old hr).2 h.heard⟩
inductive eI where
 |early
 |got
 |shut (p:Nat)
 deriving DecidableEq
def wz (Wg:Nat)(t:Trace)(K:Nat->GS)(ic:Nat):eI->Nat->Prop
 | .early,idx=>∃i,t.g? idx=some i/\0<i/\(((K i).idx.isSome=true)\/(i=ic)\/∃r,Rel Wg t i r/\idx<=r)
 | .got,idx=>Knows t ic idx
 | .shut p,idx=>Before t idx p
def Rest (Wg:Nat)(t:Trace)(K:Nat->GS)(ic:Nat)(st:Option eI):Prop:=
 ∀idx a,touchAt t idx=some a->a.loc.isMemory=true->Knows t 0 idx\/(a.kind= .atomic/\¬t.heard idx)\/∃s,st=some s/\wz Wg t K ic s idx
def Mode (P:Program)(c Wg N:Nat)(w:World)(gs:Array Goroutine)(t:Trace)(K:Nat->GS)(ic:Nat)(s:eI):Prop:=
 let cn:Nat:=sumTo N λi=>(K i).cnt;let la:Nat:=sumTo N λi=>(K i).late;let opn:=∃n,w.heap[c]?=some (.chan 0 #[] false n n false)
 (opn/\s= .early/\la=0/\cn<=4/\WgAt P Wg w ((cn:Int)* KK) 0/\((∃k,(K ic).shape= .head k 0/\cn<k)\/(∃v,(K ic).shape= .l9 v 0/\cn<=v/\0<v)))\/
 (opn/\s= .early/\la=0/\1<=cn/\cn<=4/\WgAt P Wg w ((cn:Int)* KK+1) 0/\((K ic).shape= .said 0\/(K ic).shape= .ij 0))\/
 (opn/\s= .early/\la=1/\cn=0/\((K ic).shape= .said 0\/(K ic).shape= .ij 0)/\(∀i,i<N->((K i).shape= .load 0\/(K i).shape= .store 0)->WgAt P Wg w 1 0)/\(∀i,i<N->(K i).shape= .mw 0->WgAt P Wg w 0 0))\/
 (opn/\s= .early/\la=0/\cn=0/\WgAt P Wg w 0 1/\(∀g,gs[ic]?=some g->g.status= .running)/\((K ic).shape= .said 0\/(K ic).shape= .ij 0))\/
 (opn/\s= .early/\la=0/\cn=0/\WgAt P Wg w 0 0/\((K ic).shape= .last 0\/(K ic).shape= .acq 0))\/
 (opn/\s= .got/\la=0/\cn=0/\((K ic).shape= .look 0\/(K ic).shape= .close 0))\/
 ((∃p n,s= .shut p/\t.act? p=some (.close c)/\t.heard p/\w.heap[c]?=some (.chan 0 #[] true n n false))/\la=0/\cn=0/\(K ic).shape= .gone 0)
def kC (gs:Array Goroutine)(g:Goroutine):Prop:=∃g0,gs[0]?=some g0/\g0.status= .running/\g0.frame=g.frame/\g0.callers=g.callers/\g0.dying=g.dying
def nX (gs:Array Goroutine)(g:Goroutine)(c:Nat):Prop:=∃g0 z,gs[0]?=some (parked g0 #[rcase c z] (.recv true))/\g0.frame=g.frame/\g0.callers=g.callers/\g0.dying=g.dying
structure Phase where
 c:Nat
 Wg:Nat
 Ss:List (List Spec)
 recv:Bool
def bG (V:View)(Im:cz)(K:Nat->GS):Nat->View:=λi=>if i=0 then V else(K i).view Im
structure Inv (P:Program)(n0:Nat)(W0:World)(V:View)(gs:Array Goroutine)(w:World)(t:Trace)(K:Nat->GS)(Im:cz)(ic:Nat)(ph:Option Phase)(st:Option eI):Prop where
 pos:0<gs.size
 k0:K 0= .gone 0
 d0:Deaf t 0=V.deaf
 «is» : ∀ i g, 0 < i -> gs[i]? = some g -> match ph with
  |some p=>(K i).is P p.c p.Wg Im p.Ss (Deaf t i) g
  |none=>∃q,K i= .gone q/\QuitsD P q (Deaf t i) g
 core:Core (bG V Im K) gs.size w t (match ph with|some p=>qI p.c p.Wg|none=>λ_=>False)
  (λi=>match ph with|some p=>if p.recv then 0<i/\i<gs.size/\((K i).idx.isSome=true\/i=ic\/(K i).cnt=1\/(K i).late=1)else i=0\/(i<gs.size/\(K i).idx.isSome=true)|none=>False) ic n0 W0
 rest:Rest (match ph with|some p=>p.Wg|none=>0) t K ic st
 phase:match ph with
  |none=>st=none
  |some p=>n0<=p.c/\n0<=p.Wg/\p.c≠p.Wg/\p.c<w.heap.size/\p.Wg<w.heap.size/\p.Ss.length<=4/\
   (∀i,0<i->((K i).view Im).own p.c=none/\(∀o,((K i).view Im).ab p.c o=none)/\((K i).view Im).own p.Wg=none/\(∀o,((K i).view Im).ab p.Wg o=none)/\((K i).ni=true->i=ic))/\
   (∀i i' j,0<i->i<gs.size->0<i'->i'<gs.size->(K i).idx=some j->(K i').idx=some j->i=i')/\
   (∀j S,p.Ss[j]?=some S->S≠[]->∃i,0<i/\i<gs.size/\(K i).idx=some j)/\
   (if p.recv then(V.own p.c=none/\(∀o,V.ab p.c o=none)/\V.own p.Wg=none/\(∀o,V.ab p.Wg o=none))/\0<ic/\ic<gs.size/\(∃s,st=some s/\Mode P p.c p.Wg gs.size w gs t K ic s)
    else V.own p.c=some (.chan 0 #[] false 0 0 false)/\ic=0/\st=some .early/\(∀i,0<i->i<gs.size->(K i).idx.isSome=true\/∃q,K i= .gone q)/\(∀S∈p.Ss,S≠[])/\(sumTo gs.size λi=>(K i).cnt)=p.Ss.length)
theorem Aj(K:Nat->GS)(k:GS)(φ:GS->Nat){i N:Nat}(hi:i<N):sumTo N (λa=>φ (upd K i k a))+φ (K i)=sumTo N (λa=>φ (K a))+φ k:=sumTo_upd K k φ hi
theorem lr(K:Nat->GS)(k:GS)(φ:GS->Nat){i N:Nat}(h:φ k=φ (K i)):sumTo N (λa=>φ (upd K i k a))=sumTo N (λa=>φ (K a)):=
 sumTo_congr λa _=>by by_cases ha:a=i;subst ha;rw[bx,h];rw[aZ _ _ ha]
theorem Core.A1{VV:Nat->View}{N:Nat}{w:World}{t:Trace}{Sh:Loc->Prop}{act act':Nat->Prop}{ic n0:Nat}{W0:World}(h:Core VV N w t Sh act ic n0 W0)(ha:∀i,act' i->act i):Core VV N w t Sh act' ic n0 W0:=
 ⟨h.sat,h.dT,h.ti.weaken (SO _) (λ_ _ _ x=> .inl x) (λ_ _ _ x=>x) (λidx a x y=>⟨λhp i hi=>(h.ti.sp idx a x y).1 hp i (ha i hi),(h.ti.sp idx a x y).2⟩),h.tape,h.os,h.out,h.old,h.jq,h.n0⟩
theorem Core.congr{VV DK:Nat->View}{N:Nat}{w:World}{t:Trace}{Sh:Loc->Prop}{act:Nat->Prop}{ic n0:Nat}{W0:World}(h:Core VV N w t Sh act ic n0 W0)(e:∀i,i<N->DK i=VV i):Core DK N w t Sh act ic n0 W0:=
 ⟨λi hi=>by rw[e i hi];exact h.sat i hi,λi j hi hj kq=>by rw[e i hi,e j hj];exact h.dT i j hi hj kq,
  h.ti.weaken (SO _) (λi l hi ⟨x,y,z⟩=> .inl ⟨x,by rw[<- e i hi];exact y,z⟩) (λi l hi ⟨x,y,z⟩=>⟨x,by rw[<- e i hi];exact y,z⟩) h.ti.sp,h.tape,h.os,h.out,h.old,λi hi b hb=>by rw[e i hi];exact h.jq i hi b hb,h.n0⟩
theorem MZ(V:View)(Im:cz)(K:Nat->GS){i:Nat}(hi:0<i)(k:GS):bG V Im (upd K i k)=upd (bG V Im K) i (k.view Im):=by
 funext j;by_cases hj:j=i
 ·subst hj;rw[bx];simp[bG,bx];omega
 ·rw[aZ _ _ hj];simp[bG,aZ _ _ hj]
theorem R_{P:Program}{c Wg:Nat}{Im:cz}{Ss:List (List Spec)}{k:GS}{d:Nat}{x g g':Goroutine}{w':World}(ho:(∃n,w'.heap[c]?=some (.chan 0 #[] false n n false))\/k.idx=none) (h:k.is P c Wg Im Ss d x):
  k.is P c Wg Im Ss d (woken P g g' w' x):=by
 rcases GS.runs h with hr|⟨hf,q,rfl⟩|⟨j,h',V,V',g0,v,z,rfl⟩|⟨⟨n,rfl⟩,hb,hof⟩
 ·rw[woken_run hr];exact h
 ·rw[woken_quitsD h];exact h
 ·rcases ho with⟨n,ho⟩|ho
  ·obtain⟨h1,h2,rfl,h4⟩:=h;rw[woken_send_open _ _ ho];exact⟨h1,h2,rfl,h4⟩
  ·cases ho
 ·rcases h with h|⟨hn,g1,rfl,h⟩
  ·rw[cR.running (λd g x=>x.2.1) h]at hb;cases hb
  ·unfold woken;split
   ·subst hn;refine .inl ?_;have e:({g1 with status:=ZM}:Goroutine).again w'=g1:=by
     obtain⟨f,cs,s,dy,o⟩:=g1;have h2:=h.2.1;have h3:=h.2.2.1;simp only at h2 h3;subst h2 h3;rfl
    rw[e];exact h
   ·exact .inr ⟨hn,g1,rfl,h⟩
theorem LC{P:Program}{gs:Array Goroutine}{g:Goroutine}{w':World}{i:Nat}{gi bC:Goroutine}(hi:0<i)(h:kC gs g):kC ((gs.map (woken P gi bC w')).setIfInBounds i bC) g:=by
 obtain⟨g0,h0,h1,h2⟩:=h;exact⟨g0,by rw[SR (by omega),VS,h0];simp[woken_run h1],h1,h2⟩
theorem L3{P:Program}{gs:Array Goroutine}{g:Goroutine}{w':World}{i c:Nat}{gi bC:Goroutine}(hi:0<i)(h:nX gs g c)(ho:∃n,w'.heap[c]?=some (.chan 0 #[] false n n false)):nX ((gs.map (woken P gi bC w')).setIfInBounds i bC) g c:=by
 obtain⟨g0,z,h0,h2⟩:=h;obtain⟨n,ho⟩:=ho;exact⟨g0,z,by rw[SR (by omega),VS,h0];simp[woken_recv_open _ _ ho],h2⟩
theorem anj{P:Program}{gs:Array Goroutine}{g:Goroutine}{w':World}{i c:Nat}{gi bC:Goroutine}(hi:0<i)(h:nX gs g c)(hw:mayWake P gi=true)(hs:bC.status= .running\/bC.status= .finished)(ho:∃n,w'.heap[c]?=some (.chan 0 #[] true n n false)):
  kC ((gs.map (woken P gi bC w')).setIfInBounds i bC) g:=by
 obtain⟨g0,z,h0,h2⟩:=h;obtain⟨n,ho⟩:=ho;refine⟨{parked g0 #[rcase c z] (.recv true)with status:= .running}, ?_,rfl,h2⟩;rw[SR (by omega),VS,h0];have:woken P gi bC w' (parked g0 #[rcase c z] (.recv true))={parked g0 #[rcase c z] (.recv true)with status:= .running}:=by
  unfold woken;have hc:(mayWake P gi&&bC.status != .blocked&&bC.status != .waiting)=true:=by rcases hs with hs|hs<;>simp[hw,hs]
  rw[if_pos hc,again_recv_closed ho]
 simp[this]
def ym (w:World)(c:Nat):Prop:=∃n,w.heap[c]?=some (.chan 0 #[] false n n false)
def Hw (gs gs':Array Goroutine)(w w':World)(g:Goroutine)(c:Nat):Prop:=(kC gs g->kC gs' g)/\(nX gs g c->ym w c->kC gs' g\/(nX gs' g c/\ym w' c))
def Calm (gs:Array Goroutine):Prop:=∀i x,0<i->gs[i]?=some x->x.status= .blocked->x.offers=none
def flag (gs:Array Goroutine)(ic:Nat):Nat:=if(gs[ic]?).any (·.status== .running)then 1 else 0
def jb (p:Phase)(N ic:Nat)(K:Nat->GS)(i:Nat):Prop:=if p.recv then 0<i/\i<N/\((K i).idx.isSome=true\/i=ic\/(K i).cnt=1\/(K i).late=1)else i=0\/(i<N/\(K i).idx.isSome=true)
section
variable {P:Program}{n0:Nat}{W0:World}{V:View}{gs:Array Goroutine}{w:World}{t:Trace}{K:Nat->GS}{Im:cz}{ic:Nat}{ph:Option Phase}{st:Option eI}
structure gK (P:Program)(n0:Nat)(W0:World)(V:View)(gs:Array Goroutine)(w:World)(sl:Option (Nat×Nat))(t:Trace)(K:Nat->GS)(Im:cz)(ic:Nat)(ph:Option Phase)(st:Option eI)(i:Nat):Prop where
 intro::
 as0:∃gs' w' ops K' st',runT P (crowd gs w sl) i=(.next (crowd gs' w' sl),ops)/\gs'.size=gs.size/\Inv P n0 W0 V gs' w' (t++ops) K' Im ic ph st'/\(∀g c,(∀p,ph=some p->p.c=c)->Hw gs gs' w w' g c)/\(∀g c,nX gs g c->Calm gs->Calm gs')/\
  AG gs.size ((λj=>(K' j).da),flag gs' ic) ((λj=>(K j).da),flag gs ic)
theorem getElem?_next{gi bC:Goroutine}{w':World}{i j:Nat}{x:Goroutine}(hlt:i<gs.size)(h:((gs.map (woken P gi bC w')).setIfInBounds i bC)[j]?=some x):(j=i/\x=bC)\/(j≠i/\∃y,gs[j]?=some y/\x=woken P gi bC w' y):=by
 by_cases cp:j=i
 ·subst cp;rw[S7 (by simpa using hlt)]at h;exact .inl ⟨rfl,(Vz h).symm⟩
 ·rw[SR (Ne.symm cp),VS]at h;obtain⟨y,hy,rfl⟩:=Tl.1 h;exact .inr ⟨cp,y,hy,rfl⟩
theorem Rest.app{Wg:Nat}{t u:Trace}{K K':Nat->GS}{ic:Nat}{s s':eI}(h:Rest Wg t K ic (some s))(hold:∀idx a,touchAt t idx=some a->wz Wg t K ic s idx->Knows (t++u) 0 idx\/wz Wg (t++u) K' ic s' idx)
  (vQ:∀idx a,t.size<=idx->(∃op∈u,(t++u)[idx]?=some op/\op.act.touch?=some a)->a.loc.isMemory=true->Knows (t++u) 0 idx\/(a.kind= .atomic/\¬(t++u).heard idx)\/wz Wg (t++u) K' ic s' idx):Rest Wg (t++u) K' ic (some s'):=by
 intro idx a ha hm;rcases Ak ha with gC|⟨hi,hx⟩
 ·obtain⟨op,au,_⟩:=touch_of gC;rcases h idx a gC hm with x|⟨x,y⟩|⟨s1,dW,x⟩
  ·exact .inl (x.app u)
  ·exact .inr (.inl ⟨x,λz=>y ((heard_old (lt_size_of_getElem? au)).1 z)⟩)
  ·cases dW;exact(hold idx a gC x).imp id λy=> .inr ⟨s',rfl,y⟩
 ·exact(vQ idx a hi hx hm).imp id (λy=>y.imp id λz=>⟨s',rfl,z⟩)
theorem wz.app{Wg:Nat}{t u:Trace}{K K':Nat->GS}{ic idx:Nat}{s:eI}(c9:idx<t.size)(h:wz Wg t K ic s idx)(hK:∀i,t.g? idx=some i->0<i->(K i).idx.isSome=true->(K' i).idx.isSome=true\/∃r,Rel Wg (t++u) i r/\idx<=r):wz Wg (t++u) K' ic s idx:=by
 cases s with
 |early=>
  obtain⟨i,hg,h0,hx⟩:=h;refine⟨i,by rw[g?_old c9];exact hg,h0, ?_⟩;rcases hx with x|x|⟨r,x,y⟩
  ·exact(hK i hg h0 x).imp id .inr
  ·exact .inr (.inl x)
  ·exact .inr (.inr ⟨r,x.app,y⟩)
 |got=>exact Knows.app u h
 |shut p=>exact Before.app u h
end
def rO (ph:Option Phase):Loc->Prop:=match ph with|some p=>qI p.c p.Wg|none=>λ_=>False
def nd (ph:Option Phase)(N ic:Nat)(K:Nat->GS):Nat->Prop:=λi=>match ph with|some p=>jb p N ic K i|none=>False
def Ao (ph:Option Phase):Nat:=match ph with|some p=>p.Wg|none=>0
section
variable {P:Program}{n0:Nat}{W0:World}{V:View}{gs:Array Goroutine}{w w':World}{sl:Option (Nat×Nat)}{t:Trace}{K:Nat->GS}{Im:cz}{ic:Nat}{ph:Option Phase}{st st':Option eI}
def yn (P:Program)(n0:Nat)(V:View)(gs:Array Goroutine)(w:World)(t:Trace)(K:Nat->GS)(Im:cz)(ic:Nat)(ph:Option Phase)(st:Option eI):Prop:=match ph with
  |none=>st=none
  |some p=>n0<=p.c/\n0<=p.Wg/\p.c≠p.Wg/\p.c<w.heap.size/\p.Wg<w.heap.size/\p.Ss.length<=4/\
   (∀i,0<i->((K i).view Im).own p.c=none/\(∀o,((K i).view Im).ab p.c o=none)/\((K i).view Im).own p.Wg=none/\(∀o,((K i).view Im).ab p.Wg o=none)/\((K i).ni=true->i=ic))/\
   (∀i i' j,0<i->i<gs.size->0<i'->i'<gs.size->(K i).idx=some j->(K i').idx=some j->i=i')/\
   (∀j S,p.Ss[j]?=some S->S≠[]->∃i,0<i/\i<gs.size/\(K i).idx=some j)/\
   (if p.recv then(V.own p.c=none/\(∀o,V.ab p.c o=none)/\V.own p.Wg=none/\(∀o,V.ab p.Wg o=none))/\0<ic/\ic<gs.size/\(∃s,st=some s/\Mode P p.c p.Wg gs.size w gs t K ic s)
    else V.own p.c=some (.chan 0 #[] false 0 0 false)/\ic=0/\st=some .early/\(∀i,0<i->i<gs.size->(K i).idx.isSome=true\/∃q,K i= .gone q)/\(∀S∈p.Ss,S≠[])/\(sumTo gs.size λi=>(K i).cnt)=p.Ss.length)
def AA (P:Program)(Im:cz)(ph:Option Phase)(k:GS)(d:Nat)(g:Goroutine):Prop:=match ph with
  |some p=>k.is P p.c p.Wg Im p.Ss d g
  |none=>∃q,k= .gone q/\QuitsD P q d g
theorem Inv.mk'(pos:0<gs.size)(k0:K 0= .gone 0)(d0:Deaf t 0=V.deaf)(dh:∀i g,0<i->gs[i]?=some g->AA P Im ph (K i) (Deaf t i) g)
  (hc:Core (bG V Im K) gs.size w t (rO ph) (nd ph gs.size ic K) ic n0 W0) (hr:Rest (Ao ph) t K ic st) (hp:yn P n0 V gs w t K Im ic ph st):Inv P n0 W0 V gs w t K Im ic ph st:=by
 cases ph with
 |none=>exact⟨pos,k0,d0,dh,hc,hr,hp⟩
 |some p=>exact⟨pos,k0,d0,dh,hc,hr,hp⟩
theorem Inv.out(h:Inv P n0 W0 V gs w t K Im ic ph st):(∀i g,0<i->gs[i]?=some g->AA P Im ph (K i) (Deaf t i) g)/\Core (bG V Im K) gs.size w t (rO ph) (nd ph gs.size ic K) ic n0 W0/\Rest (Ao ph) t K ic st/\yn P n0 V gs w t K Im ic ph st:=by
 cases ph with
 |none=>exact⟨h.is,h.core,h.rest,h.phase⟩
 |some p=>exact⟨h.is,h.core,h.rest,h.phase⟩
theorem afw{y:Goroutine}(hy:y.status= .blocked->y.offers=none):(y.again w').status= .blocked->(y.again w').offers=none:=by
 obtain⟨f,cs,s,d,o⟩:=y;unfold X9;cases s<;>cases o<;>simp_all
theorem afx{g g' y:Goroutine}(hy:y.status= .blocked->y.offers=none)(hb:(woken P g g' w' y).status= .blocked):(woken P g g' w' y).offers=none:=by
 unfold woken at hb⊢;split
 ·rename_i hh;rw[if_pos hh]at hb;exact afw hy hb
 ·rename_i hh;rw[if_neg hh]at hb;exact hy hb
theorem Inv.aaw(h:Inv P n0 W0 V gs w t K Im ic ph st){i:Nat}{gi bC:Goroutine}{es:Array Event}{k':GS}(hi:0<i)(aM:gs[i]?=some gi)(aQ:stepG P false gi w= .go bC w' es)
  (hk:AA P Im ph k' (deafBehind (Deaf t i) es) bC) (sF:bC.status= .blocked->bC.offers=none) (gQ:∀p,ph=some p->(∃n,w'.heap[p.c]?=some (.chan 0 #[] false n n false))\/(∀j,0<j->j<gs.size->j≠i->(K j).idx=none))
  (xj:Core (bG V Im (upd K i k')) gs.size w' (t++S8 i gi.frame.fn gi.frame.place es) (rO ph) (nd ph gs.size ic (upd K i k')) ic n0 W0)
  (lL:Rest (Ao ph) (t++S8 i gi.frame.fn gi.frame.place es) (upd K i k') ic st')
  (Ca:yn P n0 V ((gs.map (woken P gi bC w')).setIfInBounds i bC) w' (t++S8 i gi.frame.fn gi.frame.place es) (upd K i k') Im ic ph st')
  (jH:AG gs.size ((λj=>(upd K i k' j).da),flag ((gs.map (woken P gi bC w')).setIfInBounds i bC) ic) ((λj=>(K j).da),flag gs ic))
  (pf:∀g c,(∀p,ph=some p->p.c=c)->Hw gs ((gs.map (woken P gi bC w')).setIfInBounds i bC) w w' g c):gK P n0 W0 V gs w sl t K Im ic ph st i:=by
 have hlt:i<gs.size:=(SP.1 aM).1;have e9:(i==0)=false:=by simp;omega
 have aW:((gs.map (woken P gi bC w')).setIfInBounds i bC).size=gs.size:=by simp
 have Cj:∀op∈S8 i gi.frame.fn gi.frame.place es,op.g=i:=λop au=>by obtain⟨e,_,rfl⟩:=TB au;rfl
 refine⟨_,w',_,upd K i k',st',runT_crowd_go (P:=P) (sl:=sl) aM (by rw[e9];exact aQ),aW, ?_,pf, ?_,jH⟩
 rotate_left
 ·intro g c _ hc j x hj hx hb;rcases getElem?_next hlt hx with⟨_,rfl⟩|⟨_,y,hy,rfl⟩
  ·exact sF hb
  ·exact afx (hc j y hj hy) hb
 refine Inv.mk' (by rw[aW];exact h.pos) (by rw[aZ _ _ (by omega)];exact h.k0) ?_ (λj x hj hx=> ?_) (by rw[aW];exact xj) lL Ca
 ·rw[Deaf_other t (g:=0) (g':=i) (by omega) _ Cj];exact h.d0
 ·rcases getElem?_next hlt hx with⟨rfl,rfl⟩|⟨cp,y,hy,rfl⟩
  ·rw[bx,Deaf_own];exact hk
  ·rw[aZ _ _ cp,Deaf_other t (g:=j) (g':=i) (Ne.symm cp) _ Cj];have Cr:=h.out.1 j y hj hy;have J5:j<gs.size:=(SP.1 hy).1;cases ph with
   |none=>
    obtain⟨q,hq,mj⟩:=Cr;exact⟨q,hq,by rw[woken_quitsD mj];exact mj⟩
   |some p=>
    refine R_ ?_ Cr;rcases gQ p rfl with x|x
    ·exact .inl x
    ·exact .inr (x j hj J5 cp)
theorem Inv.next(h:Inv P n0 W0 V gs w t K Im ic ph st){i:Nat}{gi bC:Goroutine}{es:Array Event}{k':GS}(hi:0<i)(aM:gs[i]?=some gi)(aQ:stepG P false gi w= .go bC w' es)
  (hk:AA P Im ph k' (deafBehind (Deaf t i) es) bC) (sF:bC.status= .blocked->bC.offers=none) (gQ:∀p,ph=some p->(∃n,w'.heap[p.c]?=some (.chan 0 #[] false n n false))\/(∀j,0<j->j<gs.size->j≠i->(K j).idx=none))
  (xj:Core (bG V Im (upd K i k')) gs.size w' (t++S8 i gi.frame.fn gi.frame.place es) (rO ph) (nd ph gs.size ic (upd K i k')) ic n0 W0)
  (lL:Rest (Ao ph) (t++S8 i gi.frame.fn gi.frame.place es) (upd K i k') ic st')
  (Ca:yn P n0 V ((gs.map (woken P gi bC w')).setIfInBounds i bC) w' (t++S8 i gi.frame.fn gi.frame.place es) (upd K i k') Im ic ph st')
  (uk:qH k'.da (K i).da)
  (pf:∀g c,(∀p,ph=some p->p.c=c)->Hw gs ((gs.map (woken P gi bC w')).setIfInBounds i bC) w w' g c):gK P n0 W0 V gs w sl t K Im ic ph st i:=
 h.aaw hi aM aQ hk sF gQ xj lL Ca (.inl ⟨i,(SP.1 aM).1,by simpa only[bx]using uk,λj hj=>by show (upd K i k' j).da=(K j).da;rw[aZ _ _ hj]⟩) pf
theorem amA{B:Nat}{e:Event}(h:e.mute=true):(Tm e).touch?=none/\(Tm e).low B/\∀a,Tm e≠ .mark (.release a):=by
 refine⟨touch_mute h,low_mute h B,λa=> ?_⟩;obtain⟨l,wr,sy⟩:=e;cases l with
 |mark m=>cases m<;>cases wr<;>cases sy<;>simp_all[Tm,VU]
 |_=>simp[VU]at h
theorem Mode.keep{c Wg N:Nat}{gs':Array Goroutine}{u:Trace}{K':Nat->GS}{s:eI}(h:Mode P c Wg N w gs t K ic s)(hs:∀j,(K' j).shape=(K j).shape)(hc:w'.heap[c]?=w.heap[c]?)(hW:w'.heap[Wg]?=w.heap[Wg]?)
  (hr:(∀g,gs[ic]?=some g->g.status= .running)->∀g,gs'[ic]?=some g->g.status= .running):Mode P c Wg N w' gs' (t++u) K' ic s:=by
 have e1:sumTo N (λi=>(K' i).cnt)=sumTo N λi=>(K i).cnt:=sumTo_congr λi _=>by rw[<- GS.nj,hs i,GS.nj]
 have e2:sumTo N (λi=>(K' i).late)=sumTo N λi=>(K i).late:=sumTo_congr λi _=>by rw[<- GS.mq,hs i,GS.mq]
 have e3:∀st sm,WgAt P Wg w' st sm=WgAt P Wg w st sm:=λst sm=>by unfold WgAt;rw[hW]
 unfold Mode at h⊢;simp only[e1,e2,e3,hs,hc];rcases h with h|h|h|h|h|h|h
 ·exact .inl h
 ·exact .inr (.inl h)
 ·exact .inr (.inr (.inl h))
 ·exact .inr (.inr (.inr (.inl ⟨h.1,h.2.1,h.2.2.1,h.2.2.2.1,h.2.2.2.2.1,hr h.2.2.2.2.2.1,h.2.2.2.2.2.2⟩)))
 ·exact .inr (.inr (.inr (.inr (.inl h))))
 ·exact .inr (.inr (.inr (.inr (.inr (.inl h)))))
 ·obtain⟨⟨p,n,a,b,c',d⟩,e⟩:=h;exact .inr (.inr (.inr (.inr (.inr (.inr ⟨⟨p,n,a,by rw[act?_old (lt_of_act? b)];exact b,(heard_old (lt_of_act? b)).2 c',d⟩,e⟩)))))
theorem abq{i:Nat}{gi bC:Goroutine}(hlt:i<gs.size)(hg:bC.status= .running)(h:∀g,gs[ic]?=some g->g.status= .running):∀g,((gs.map (woken P gi bC w')).setIfInBounds i bC)[ic]?=some g->g.status= .running:=by
 intro g JL;rcases getElem?_next hlt JL with⟨_,rfl⟩|⟨_,y,hy,rfl⟩
 ·exact hg
 ·rw[woken_run (h y hy)];exact h y hy
theorem GS.R3{k:GS}(h:k.cnt=0):k.idx=none:=by
 cases k<;>first|rfl|(simp[GS.cnt]at h)
theorem Inv.opens(h:Inv P n0 W0 V gs w t K Im ic ph st){p:Phase}(hp:ph=some p):(∃n,w.heap[p.c]?=some (.chan 0 #[] false n n false))\/((∀j,0<j->j<gs.size->(K j).idx=none)/\(∃n,w.heap[p.c]?=some (.chan 0 #[] true n n false))/\p.recv=true):=by
 subst hp;obtain⟨_,hc,_,gR⟩:=h.out;obtain⟨_,_,_,_,_,_,_,_,_,hx⟩:=gR;by_cases hr:p.recv=true
 ·rw[if_pos hr]at hx;obtain⟨_,_,_,s,_,hm⟩:=hx;rcases hm with h|h|h|h|h|h|h
  ·exact .inl h.1
  ·exact .inl h.1
  ·exact .inl h.1
  ·exact .inl h.1
  ·exact .inl h.1
  ·exact .inl h.1
  ·obtain⟨⟨_,n,_,_,_,hn⟩,_,gX,_⟩:=h;refine .inr ⟨λj hj dp=> ?_,⟨n,hn⟩,hr⟩;have hle:(K j).cnt<=sumTo gs.size λi=>(K i).cnt:=le_sumTo (f:=λi=>(K i).cnt) dp;exact GS.R3 (by omega)
 ·rw[if_neg hr]at hx;have:=(hc.sat 0 h.pos).own p.c _ (by simp only[bG,if_true];exact hx.1);exact .inl ⟨0,this⟩
theorem Inv.slip(h:Inv P n0 W0 V gs w t K Im ic ph st){i:Nat}{gi bC:Goroutine}{es:Array Event}{k':GS}(hi:0<i)(aM:gs[i]?=some gi)(aQ:stepG P false gi w= .go bC w es)(jH:∀e∈es,e.mute=true)
  (hk:AA P Im ph k' (deafBehind (Deaf t i) es) bC) (sF:bC.status= .blocked->bC.offers=none) (ee:k'.shape=(K i).shape) (mi:k'.view Im=(K i).view Im) (bK:(K i).shape= .ij 0\/(K i).shape= .said 0->bC.status= .running) (uk:qH k'.da (K i).da):gK P n0 W0 V gs w sl t K Im ic ph st i:=by
 have hlt:i<gs.size:=(SP.1 aM).1;obtain⟨_,hc,hr,hp⟩:=h.out;have c9:∀j,((upd K i k') j).idx=(K j).idx:=λj=>by
  by_cases hj:j=i
  ·subst hj;rw[bx,<- GS.FL,ee,GS.FL]
  ·rw[aZ _ _ hj]
 have lM:∀j,((upd K i k') j).shape=(K j).shape:=λj=>by
  by_cases hj:j=i
  ·subst hj;rw[bx,ee]
  ·rw[aZ _ _ hj]
 have RR:∀j,((upd K i k') j).view Im=(K j).view Im:=λj=>by
  by_cases hj:j=i
  ·subst hj;rw[bx,mi]
  ·rw[aZ _ _ hj]
 have o1:∀j,((upd K i k') j).cnt=(K j).cnt:=λj=>by rw[<- GS.nj,lM,GS.nj]
 have vN:∀j,((upd K i k') j).late=(K j).late:=λj=>by rw[<- GS.mq,lM,GS.mq]
 refine h.next (st':=st) hi aM aQ hk sF (λp zo=>(h.opens zo).imp id λx j a b _=>x.1 j a b) ?_ ?_ ?_ uk ?_
 ·refine((hc.quiet hlt (λe he=>amA (jH e he)) gi.frame.fn gi.frame.place).congr λj hj=> ?_).A1 λj hj=> ?_
  ·simp only[bG,RR]
  ·cases ph with
   |none=>exact hj
   |some p=>simpa only[nd,jb,c9,o1,vN]using hj
 ·cases st with
  |none=>
   intro idx a ha hm;have gC:=Al (λop au=>by obtain⟨e,he,rfl⟩:=TB au;exact touch_mute (jH e he)) ha;obtain⟨op,au,_⟩:=touch_of gC;rcases hr idx a gC hm with x|⟨x,y⟩|⟨_,z,_⟩
   ·exact .inl (x.app _)
   ·exact .inr (.inl ⟨x,λz=>y ((heard_old (lt_size_of_getElem? au)).1 z)⟩)
   ·cases z
  |some s=>
   refine hr.app (λidx a ha hx=> .inr (hx.app (by obtain⟨op,au,_⟩:=touch_of ha;exact lt_size_of_getElem? au) λj _ _ hj=> .inl (by rw[c9];exact hj))) (λidx a _ ⟨op,au,_,hx⟩ _=> ?_);obtain⟨e,he,rfl⟩:=TB au;rw[touch_mute (jH e he)]at hx;cases hx
 ·cases ph with
  |none=>exact hp
  |some p=>
   obtain⟨a1,a2,a3,a4,a5,a6,a7,a8,a9,bS⟩:=hp;refine⟨a1,a2,a3,a4,a5,a6,λj hj=>by rw[RR,<- GS.Ol,lM,GS.Ol];exact a7 j hj,λj j' m b1 b2 b3 b4 b5 b6=>a8 j j' m b1 (by simpa using b2) b3 (by simpa using b4) (by rw[<- c9];exact b5) (by rw[<- c9];exact b6),λj S b1 b2=> ?_, ?_⟩
   ·obtain⟨m,c1,c2,c3⟩:=a9 j S b1 b2;exact⟨m,c1,by simpa using c2,by rw[c9];exact c3⟩
   ·split
    ·rename_i aJ;rw[if_pos aJ]at bS;obtain⟨c1,c2,c3,s,c4,c5⟩:=bS;refine⟨c1,c2,by simpa using c3,s,c4, ?_⟩;have aW:((gs.map (woken P gi bC w)).setIfInBounds i bC).size=gs.size:=(by simp);rw[aW];by_cases gf:i=ic/\bC.status≠ .running
     ·
      obtain⟨rfl,rq⟩:=gf;unfold Mode at c5⊢;have e1:sumTo gs.size (λj=>((upd K i k') j).cnt)=sumTo gs.size λj=>(K j).cnt:=sumTo_congr λj _=>o1 j;have e2:sumTo gs.size (λj=>((upd K i k') j).late)=sumTo gs.size λj=>(K j).late:=sumTo_congr λj _=>vN j;simp only[e1,e2,lM];rcases c5 with h|h|h|h|h|h|h
      ·exact .inl h
      ·exact .inr (.inl h)
      ·exact .inr (.inr (.inl h))
      ·exact absurd (bK h.2.2.2.2.2.2.symm) rq
      ·exact .inr (.inr (.inr (.inr (.inl h))))
      ·exact .inr (.inr (.inr (.inr (.inr (.inl h)))))
      ·obtain⟨⟨p,n,a,b,c',d⟩,e⟩:=h;exact .inr (.inr (.inr (.inr (.inr (.inr ⟨⟨p,n,a,by rw[act?_old (lt_of_act? b)];exact b,(heard_old (lt_of_act? b)).2 c',d⟩,e⟩)))))
     ·refine c5.keep lM rfl rfl λru g hg=> ?_;rcases getElem?_next hlt hg with⟨rfl,rfl⟩|⟨_,y,hy,rfl⟩
      ·exact To λx=>gf ⟨rfl,x⟩
      ·rw[woken_run (ru y hy)];exact ru y hy
    ·rename_i aJ;rw[if_neg aJ]at bS;refine⟨bS.1,bS.2.1,bS.2.2.1,λj b1 b2=> ?_,bS.2.2.2.2.1, ?_⟩
     rotate_left
     ·rw[show ((gs.map (woken P gi bC w)).setIfInBounds i bC).size=gs.size by simp,sumTo_congr λj _=>o1 j];exact bS.2.2.2.2.2
     rcases bS.2.2.2.1 j b1 (by simpa using b2)with x|⟨q,x⟩
     ·exact .inl (by rw[c9];exact x)
     ·by_cases hj:j=i
      ·subst hj;rw[bx];rw[x]at ee;cases k'<;>simp[GS.shape]at ee;exact .inr ⟨_,rfl⟩
      ·rw[aZ _ _ hj];exact .inr ⟨q,x⟩
 ·intro g c _;exact⟨LC hi,λjk ho=> .inr ⟨L3 hi jk ho,ho⟩⟩
end
section
variable {P:Program}{n0:Nat}{W0:World}{V:View}{gs:Array Goroutine}{w w':World}{sl:Option (Nat×Nat)}{t:Trace}{K:Nat->GS}{Im:cz}{ic:Nat}{p:Phase}{st st':Option eI}
def jy (p:Phase)(U:View):Prop:=U.own p.c=none/\(∀o,U.ab p.c o=none)/\U.own p.Wg=none/\(∀o,U.ab p.Wg o=none)
theorem jy.step{U U':View}{es:Array Event}(b:jy p U)(s:dg U w U' w' es)(hc:p.c<w.heap.size)(hW:p.Wg<w.heap.size):jy p U':=by
 have key:∀b,b<w.heap.size->U.own b=none->(∀o,U.ab b o=none)->U'.own b=none/\∀o,U'.ab b o=none:=by
  intro b hb ho hi;refine⟨s.own b hb ho,λo=> ?_⟩;cases e:U'.ab b o with
  |none=>rfl
  |some v=>
   rcases s.kL b o v e with x|x|x
   ·rw[hi o]at x;cases x
   ·exact absurd ho x
   ·omega
 have k1:=key p.c hc b.1 b.2.1;have k2:=key p.Wg hW b.2.2.1 b.2.2.2;exact⟨k1.1,k1.2,k2.1,k2.2⟩
theorem jy.zN{U:View}(b:jy p U){l:Loc}(h:gV U l):¬qI p.c p.Wg l:=by
 intro hs;cases l with
 |cell a=>
  have e:a.block=p.Wg:=hs;rcases h with h|h
  ·exact h (by rw[e];exact b.2.2.1)
  ·exact h (by rw[e];exact b.2.2.2 _)
 |obj r=>have e:r=p.c:=hs;exact h (by rw[e];exact b.1)
 |_=>exact hs
theorem jy.ghost{U U':View}(b:jy p U)(g:ep U U'):jy p U':=by
 have key:∀b,U.own b=none->(∀o,U.ab b o=none)->U'.own b=none/\∀o,U'.ab b o=none:=by
  intro b ho hi;refine⟨g.own b ho,λo=> ?_⟩;cases e:U'.ab b o with
  |none=>rfl
  |some v=>
   rcases g.kL b o v e with x|x
   ·rw[hi o]at x;cases x
   ·exact absurd ho x
 have k1:=key p.c b.1 b.2.1;have k2:=key p.Wg b.2.2.1 b.2.2.2;exact⟨k1.1,k1.2,k2.1,k2.2⟩
theorem afd:jy p noView:=⟨rfl,λ_=>rfl,rfl,λ_=>rfl⟩
theorem Inv.blind(h:Inv P n0 W0 V gs w t K Im ic (some p) st){i:Nat}(hi:0<i):jy p ((K i).view Im):=let x:=h.phase.2.2.2.2.2.2.1 i hi;⟨x.1,x.2.1,x.2.2.1,x.2.2.2.1⟩
theorem Inv.rQ(h:Inv P n0 W0 V gs w t K Im ic (some p) st){i:Nat}(hi:0<i)(hc:(K i).ni=true):i=ic:=(h.phase.2.2.2.2.2.2.1 i hi).2.2.2.2 hc
theorem Inv.low(h:Inv P n0 W0 V gs w t K Im ic (some p) st):p.c<w.heap.size/\p.Wg<w.heap.size:=⟨h.phase.2.2.2.1,h.phase.2.2.2.2.1⟩
theorem abP(hc:p.c<w.heap.size)(hW:p.Wg<w.heap.size){l:Loc}(h:qI p.c p.Wg l):l.low w.heap.size:=by
 cases l with
 |cell a=>show a.block<_;rw[show a.block=p.Wg from h];exact hW
 |obj r=>show r<_;rw[show r=p.c from h];exact hc
 |_=>exact h.elim
theorem Inv.afJ(h:Inv P n0 W0 V gs w t K Im ic (some p) st)(hr:p.recv=true){i:Nat}(hlt:i<gs.size)(hk:(K i).cnt=1):∃s,WgAt P p.Wg w s 0:=by
 obtain⟨_,_,_,_,_,_,_,_,_,hx⟩:=h.phase;rw[if_pos hr]at hx;obtain⟨_,_,_,s,hs,hm⟩:=hx;have hle:(K i).cnt<=sumTo gs.size λi=>(K i).cnt:=le_sumTo (f:=λi=>(K i).cnt) hlt;rcases hm with h|h|h|h|h|h|h
 ·exact⟨_,h.2.2.2.2.1⟩
 ·exact⟨_,h.2.2.2.2.2.1⟩
 ·have:=h.2.2.2.1;omega
 ·have:=h.2.2.2.1;omega
 ·have:=h.2.2.2.1;omega
 ·have:=h.2.2.2.1;omega
 ·have:=h.2.2.1;omega
theorem Inv.NB(h:Inv P n0 W0 V gs w t K Im ic (some p) st)(hr:p.recv=true){n:Nat}(hk:K ic= .acq n\/K ic= .said n):∃x y,WgAt P p.Wg w x y:=by
 obtain⟨_,_,_,_,_,_,_,_,_,hx⟩:=h.phase;rw[if_pos hr]at hx;obtain⟨_,_,_,s,hs,hm⟩:=hx;unfold Mode at hm;rcases hm with h|h|h|h|h|h|h
 ·exact⟨_,_,h.2.2.2.2.1⟩
 ·exact⟨_,_,h.2.2.2.2.2.1⟩
 ·have key:∀N,0<(sumTo N λi=>(K i).late)->∃i,i<N/\(K i).late≠0:=by
   intro N;induction N with
   |zero=>intro h;exact absurd h (by simp[sumTo])
   |succ N ih=>
    intro h;by_cases h0:(K N).late=0
    ·simp only[sumTo,h0]at h;obtain⟨i,hi,hl⟩:=ih (by omega);exact⟨i,by omega,hl⟩
    ·exact⟨N,by omega,h0⟩
  have:=key gs.size (by have:=h.2.2.1;omega);obtain⟨i,hi,hl⟩:=this;cases kY:K i<;>rw[kY]at hl<;>first
   |exact⟨_,_,h.2.2.2.2.2.1 i hi (by rw[kY];exact .inl rfl)⟩
   |exact⟨_,_,h.2.2.2.2.2.1 i hi (by rw[kY];exact .inr rfl)⟩
   |exact⟨_,_,h.2.2.2.2.2.2 i hi (by rw[kY];rfl)⟩
   |exact absurd rfl hl
 ·exact⟨_,_,h.2.2.2.2.1⟩
 ·exact⟨_,_,h.2.2.2.2.1⟩
 ·exfalso;rcases hk with hk|hk<;>rw[hk]at h<;>rcases h.2.2.2.2 with h|h<;>cases h
 ·exfalso;rcases hk with hk|hk<;>rw[hk]at h<;>cases h.2.2.2
theorem Inv.counted(h:Inv P n0 W0 V gs w t K Im ic (some p) st){i:Nat}(_hi:0<i)(hlt:i<gs.size)(hk:(K i).cnt=1):(∃n,w.heap[p.c]?=some (.chan 0 #[] false n n false))/\st=some .early:=by
 have gR:=h.phase;obtain⟨_,_,_,_,_,_,_,_,_,hx⟩:=gR;by_cases hr:p.recv=true
 ·rw[if_pos hr]at hx;obtain⟨_,_,_,s,hs,hm⟩:=hx;have hle:(K i).cnt<=sumTo gs.size λi=>(K i).cnt:=le_sumTo (f:=λi=>(K i).cnt) hlt;rcases hm with h|h|h|h|h|h|h
  ·exact⟨h.1,by rw[hs,h.2.1]⟩
  ·exact⟨h.1,by rw[hs,h.2.1]⟩
  ·exact⟨h.1,by rw[hs,h.2.1]⟩
  ·exact⟨h.1,by rw[hs,h.2.1]⟩
  ·exact⟨h.1,by rw[hs,h.2.1]⟩
  ·have:=h.2.2.2.1;omega
  ·have:=h.2.2.1;omega
 ·rw[if_neg hr]at hx;have:=(h.core.sat 0 h.pos).own p.c _ (by simp only[bG,if_true];exact hx.1);exact⟨⟨0,this⟩,hx.2.2.1⟩
theorem Inv.L6(h:Inv P n0 W0 V gs w t K Im ic (some p) st){i:Nat}{k':GS}{gs':Array Goroutine}{t':Trace}(aW:gs'.size=gs.size)(gD:w.heap.size<=w'.heap.size)(hb:jy p (k'.view Im))(xh:k'.ni=true->i=ic)
  (c9:k'.idx=(K i).idx\/(k'.idx=none/\∀j,(K i).idx=some j->p.Ss[j]?=some []))
  (eA:if p.recv then∃s,st'=some s/\Mode P p.c p.Wg gs.size w' gs' t' (upd K i k') ic s
    else st'=some .early/\k'.idx.isSome=true/\k'.cnt=(K i).cnt):yn P n0 V gs' w' t' (upd K i k') Im ic (some p) st':=by
 obtain⟨a1,a2,a3,a4,a5,a6,a7,a8,a9,bS⟩:=h.phase;have sK:∀j m,((upd K i k') j).idx=some m->(K j).idx=some m:=by
  intro j m hj;by_cases cp:j=i
  ·subst cp;rw[bx]at hj;rcases c9 with x|⟨x,_⟩
   ·rw[<- x];exact hj
   ·rw[x]at hj;cases hj
  ·rw[aZ _ _ cp]at hj;exact hj
 refine⟨a1,a2,a3,Ta a4 gD,Ta a5 gD,a6,λj hj=> ?_,λj j' m b1 b2 b3 b4 b5 b6=>a8 j j' m b1 (aW▸b2) b3 (aW▸b4) (sK _ _ b5) (sK _ _ b6),λj S b1 b2=> ?_, ?_⟩
 ·by_cases cp:j=i
  ·subst cp;rw[bx];exact⟨hb.1,hb.2.1,hb.2.2.1,hb.2.2.2,xh⟩
  ·rw[aZ _ _ cp];exact a7 j hj
 ·obtain⟨m,c1,c2,c3⟩:=a9 j S b1 b2;refine⟨m,c1,by rw[aW];exact c2, ?_⟩;by_cases cV:m=i
  ·subst cV;rw[bx];rcases c9 with x|⟨_,x⟩
   ·rw[x];exact c3
   ·have:=x j c3;rw[this]at b1;cases b1;exact absurd rfl b2
  ·rw[aZ _ _ cV];exact c3
 ·split
  ·rename_i aJ;rw[if_pos aJ]at bS eA;obtain⟨c1,c2,c3,_⟩:=bS;exact⟨c1,c2,by rw[aW];exact c3,by rw[aW];exact eA⟩
  ·rename_i aJ;rw[if_neg aJ]at bS eA;obtain⟨c1,c2,_,c4,c5⟩:=bS;refine⟨c1,c2,eA.1,λj b1 b2=> ?_,c5.1,by rw[aW,lr K k' GS.cnt eA.2.2];exact c5.2⟩;by_cases cp:j=i
   ·subst cp;rw[bx];exact .inl eA.2.1
   ·rw[aZ _ _ cp];exact c4 j b1 (aW▸b2)
theorem Inv.acS(h:Inv P n0 W0 V gs w t K Im ic (some p) st){i j:Nat}{gi bC:Goroutine}{es:Array Event}{hh h':Ht}{Vi V':View}(hi:0<i)(aM:gs[i]?=some gi)(hK:K i= .work j hh Vi)(aQ:stepG P false gi w= .go bC w' es)
  (s:dg Vi w V' w' es) (hk:lz P h' V' bC) (mc:Az h' hh):gK P n0 W0 V gs w sl t K Im ic (some p) st i:=by
 have hlt:i<gs.size:=(SP.1 aM).1;have dh:=h.is i gi hi aM;simp only[hK,GS.is]at dh;obtain⟨hd,_,S,hS,jm⟩:=dh;have gX:(K i).cnt=1:=by rw[hK];rfl
 obtain⟨⟨n,gQ⟩,lh⟩:=h.counted hi hlt gX;have im:=h.low;have cP:jy p Vi:=by have:=h.blind hi;rw[hK]at this;exact this
 have aiX:=cP.step s im.1 im.2;have mi:bG V Im K i=Vi:=by simp[bG,hK,GS.view];omega
 have fi:w'.heap[p.c]?=w.heap[p.c]?:=s.frame p.c im.1 cP.1;have hWh:w'.heap[p.Wg]?=w.heap[p.Wg]?:=s.frame p.Wg im.2 cP.2.2.1;have lM:∀m,((upd K i (.work j h' V')) m).shape=(K m).shape:=λm=>by
  by_cases hm:m=i
  ·subst hm;rw[bx,hK];rfl
  ·rw[aZ _ _ hm]
 have c9:∀m,((upd K i (.work j h' V')) m).idx=(K m).idx:=λm=>by rw[<- GS.FL,lM,GS.FL]
 have o1:∀m,((upd K i (.work j h' V')) m).cnt=(K m).cnt:=λm=>by rw[<- GS.nj,lM,GS.nj]
 have vN:∀m,((upd K i (.work j h' V')) m).late=(K m).late:=λm=>by rw[<- GS.mq,lM,GS.mq]
 have b8:V'.role=Vi.role:=s.role;refine h.next (k':= .work j h' V') (st':=st) hi aM aQ ⟨by rw[hd,s.deaf],hk,S,hS,b8.trans jm⟩ (λx=>by rw[hk.running]at x;cases x) (λq hq=>by cases hq;exact .inl ⟨n,by rw[fi];exact gQ⟩) ?_ ?_ ?_ ?_ ?_
 ·rw[MZ V Im K hi];refine(Core.step (V':=V') h.core hlt (by rw[mi];exact s) (λe he x hx hs=> ?_) gi.frame.fn gi.frame.place).A1 λm hm=> ?_
  ·exfalso;rcases(Ix (s.fx e he) hx).1 with y|⟨y,_⟩|y
   ·exact cP.zN y.rd hs
   ·exact cP.zN y hs
   ·exact y (abP im.1 im.2 hs)
  ·simpa only[nd,jb,c9,o1,vN]using hm
 ·rw[lh];have hr:Rest (Ao (some p)) t K ic st:=h.out.2.2.1;rw[lh]at hr;refine hr.app (λidx a ha hx=> .inr (hx.app (by obtain⟨op,au,_⟩:=touch_of ha;exact lt_size_of_getElem? au) λm _ _ hm=> .inl (by rw[c9];exact hm))) (λidx a _ ⟨op,au,xo,_⟩ _=> .inr (.inr ⟨i, ?_,hi, .inl ?_⟩))
  ·obtain⟨e,_,rfl⟩:=TB au;simp[VQ,xo]
  ·rw[bx];rfl
 ·refine h.L6 (by simp) s.size aiX (λx=>by cases x) (.inl (by rw[hK];rfl)) ?_;have hx:=h.phase.2.2.2.2.2.2.2.2.2;split
  ·rename_i aJ;rw[if_pos aJ]at hx;obtain⟨_,_,_,s',po,hm⟩:=hx;exact⟨s',po,hm.keep lM fi hWh λru=>abq hlt hk.running ru⟩
  ·exact⟨lh,rfl,by rw[hK];rfl⟩
 ·rw[hK];refine .inr ⟨by simp[GS.da,b8], .inl mc⟩
 ·intro g c JB;have ho:ym w' c:=⟨n,by rw[<- JB p rfl,fi];exact gQ⟩;exact⟨LC hi,λjk _=> .inr ⟨L3 hi jk ho,ho⟩⟩
end
def nO (V:View)(I':cz)(O':AI)(r:m_):View:=
 {V with ab:=λb o=>match V.ab b o with|some x=>some x|none=>I' b o,own:=λb=>match V.own b with|some x=>some x|none=>O' b,role:=r}
def lV (B:Nat->Bool)(U:View):AI:=λb=>if B b then U.own b else none
def lR (B:Nat->Bool)(U:View)(r:m_):View:={U with own:=λb=>if B b then none else U.own b,role:=r}
section
variable {P:Program}{n0:Nat}{W0:World}{V:View}{gs gs':Array Goroutine}{w w':World}{sl:Option (Nat×Nat)}{t:Trace}{K:Nat->GS}{Im:cz}{ic:Nat}{p:Phase}{st:Option eI}
theorem aaP{k:GS}{d:Nat}{x:Goroutine}(h:k.is P p.c p.Wg Im p.Ss d x)(r:Nat):offersAt x r false=[]:=by
 rcases GS.runs h with hr|⟨hf,_⟩|⟨j,h',V,V',g0,v,z,rfl⟩|⟨_,hb,ho⟩
 ·exact offersAt_of_not_blocked (by rw[hr];simp) r false
 ·exact offersAt_of_not_blocked (by rw[hf];simp) r false
 ·obtain⟨_,_,rfl,_⟩:=h;exact offersAt_parked_send' _ _ _ _ _ _
 ·unfold offersAt;simp[hb,ho]
theorem amj{g:Goroutine}(h:kC gs g){x:Goroutine}(hx:gs[0]?=some x)(r:Nat)(s:Bool):offersAt x r s=[]:=by
 obtain⟨g0,h0,h1,_⟩:=h;rw[h0]at hx;cases hx;exact offersAt_of_not_blocked (by rw[h1];simp) r s
theorem Inv.arj(h:Inv P n0 W0 V gs w t K Im ic (some p) st){g:Goroutine}(hm:kC gs g){i j:Nat}{gi:Goroutine}{hh h':Ht}{Vi V₁:View}{sp:Spec}{S:List Spec}{v z:Value}{B:Nat->Bool}(hi:0<i)(aM:gs[i]?=some gi)
  (hK:K i= .work j hh Vi) (hg:ep Vi V₁) (hr:V₁.role= .work p.c p.Wg (sp::S)) (hd:V₁.deaf=0) (aQ:stepG P false gi w= .comm gi #[scase p.c v z] true .send w #[])
  (xB:sp v V₁.ab (lV B V₁)) (hk:lz P h' (lR B V₁ (.work p.c p.Wg S)) (TO gi undef)):gK P n0 W0 V gs w sl t K Im ic (some p) st i:=by
 have hlt:i<gs.size:=(SP.1 aM).1;have dh:=h.is i gi hi aM;simp only[hK,GS.is]at dh;obtain⟨bz,_,S',hS,jm⟩:=dh;have gX:(K i).cnt=1:=by rw[hK];rfl
 obtain⟨⟨n,gQ⟩,lh⟩:=h.counted hi hlt gX;have e9:(i==0)=false:=by simp;omega
 have er:m_.work p.c p.Wg S'= .work p.c p.Wg (sp::S):=by rw[<- jm,<- hg.role,hr]
 cases er;let k':GS:= .nT j h' V₁ (lR B V₁ (.work p.c p.Wg S)) gi v z;have hw:=crowd_waits (P:=P) (sl:=sl) (i:=i) aM (by rw[e9];exact aQ) (λcc jg=>by
  simp only[Tx,SK,SU,or_false]at jg;subst jg;refine ways_send_none gQ (by simp) (partners_nil λm x hx=> ?_);rcases getElem?_stand gs i m x hx with⟨_,rfl⟩|⟨_,jJ⟩
  ·exact offersAt_ph _ _
  ·rcases UF m with rfl|iT
   ·exact amj hm jJ _ _
   ·exact aaP (h.is m x iT jJ) _)
 have mi:bG V Im K i=Vi:=by simp[bG,hK,GS.view];omega
 have cP:jy p Vi:=by have:=h.blind hi;rw[hK]at this;exact this
 have c9:∀m,((upd K i k') m).idx=(K m).idx:=λm=>by
  by_cases hm:m=i
  ·subst hm;rw[bx,hK];rfl
  ·rw[aZ _ _ hm]
 have lM:∀m,((upd K i k') m).shape=(K m).shape:=λm=>by
  by_cases hm:m=i
  ·subst hm;rw[bx,hK];rfl
  ·rw[aZ _ _ hm]
 have o1:∀m,((upd K i k') m).cnt=(K m).cnt:=λm=>by rw[<- GS.nj,lM,GS.nj]
 have vN:∀m,((upd K i k') m).late=(K m).late:=λm=>by rw[<- GS.mq,lM,GS.mq]
 have e0:t++S8 i gi.frame.fn gi.frame.place #[]=t:=by simp[S8]
 have aW:(gs.setIfInBounds i (parked gi #[scase p.c v z] .send)).size=gs.size:=by simp
 refine⟨_,w,_,upd K i k',st,hw,aW, ?_,λg' c _=>⟨λ⟨g0,a,b⟩=>⟨g0,by rw[SR (by omega)];exact a,b⟩,λ⟨g0,z',a,b⟩ ho=> .inr ⟨⟨g0,z',by rw[SR (by omega)];exact a,b⟩,ho⟩⟩,λg' c ⟨g1,z',a,_⟩ _=>(by obtain⟨g0,h0,h1,_⟩:=hm;rw[a]at h0;cases h0;cases h1),
  .inl ⟨i,hlt, ?_,λm hm=>by show (upd K i k' m).da=(K m).da;rw[aZ _ _ hm]⟩⟩
 ·rw[e0];refine Inv.mk' (by rw[aW];exact h.pos) (by rw[aZ _ _ (by omega)];exact h.k0) h.d0 (λm x hm hx=> ?_) ?_ ?_ ?_
  ·by_cases cV:m=i
   ·subst cV;rw[S7 hlt]at hx;cases hx;rw[bx];exact⟨by rw[bz,<- hg.deaf,hd],hd,rfl,hk,sp,S,B,hS,hr,xB,rfl⟩
   ·rw[SR (Ne.symm cV)]at hx;rw[aZ _ _ cV];exact h.is m x hm hx
  ·rw[aW,MZ V Im K hi];exact(Core.ghost (V':=V₁) h.core hlt (by rw[mi];exact hg)).A1 λm hm=>by simpa only[nd,jb,c9,o1,vN]using hm
  ·have hr:Rest (Ao (some p)) t K ic st:=h.out.2.2.1;rw[lh]at hr⊢;have:=hr.app (u:=#[]) (K':=upd K i k') (s':= .early) (λidx a ha hx=> .inr (hx.app (by obtain⟨op,au,_⟩:=touch_of ha;exact lt_size_of_getElem? au) λm _ _ hm=> .inl (by rw[c9];exact hm))) (λidx a _ ⟨op,au,_⟩ _=>by simp at au);simpa using this
  ·refine h.L6 aW (SO _) (cP.ghost hg) (λx=>by cases x) (.inl (by rw[hK];rfl)) ?_;have hx:=h.phase.2.2.2.2.2.2.2.2.2;split
   ·rename_i aJ;rw[if_pos aJ]at hx;obtain⟨_,gE,_,s',po,gh⟩:=hx;refine⟨s',po, ?_⟩;have:=gh.keep (w':=w) (gs':=gs.setIfInBounds i (parked gi #[scase p.c v z] .send)) (u:=#[]) lM rfl rfl λru x hx=>by
     by_cases gf:ic=i
     ·subst gf;exfalso;unfold Mode at gh;have aE:∀s:GS,(K ic).shape=s->s= .work j .z noView:=λs e=>(by rw[<- e,hK];rfl);rcases gh with h|h|h|h|h|h|h
      ·rcases h.2.2.2.2.2 with⟨_,e,_⟩|⟨_,e,_⟩<;>cases aE _ e
      ·rcases h.2.2.2.2.2.2 with e|e<;>cases aE _ e
      ·rcases h.2.2.2.2.1 with e|e<;>cases aE _ e
      ·rcases h.2.2.2.2.2.2 with e|e<;>cases aE _ e
      ·rcases h.2.2.2.2.2 with e|e<;>cases aE _ e
      ·rcases h.2.2.2.2 with e|e<;>cases aE _ e
      ·cases aE _ h.2.2.2
     ·rw[SR (Ne.symm gf)]at hx;exact ru x hx
    simpa using this
   ·exact⟨lh,rfl,by rw[hK];rfl⟩
 ·show qH (upd K i k' i).da (K i).da;rw[hK];refine .inl ?_;simp only[bx,k',GS.da,hr,jm];omega
theorem Mode.alh{c Wg N:Nat}{u:Trace}{K':Nat->GS}{s:eI}(h:Mode P c Wg N w gs t K ic s)(gX:1<=sumTo N λi=>(K i).cnt)(hs:∀j,(K' j).shape=(K j).shape)(ho:∃n,w'.heap[c]?=some (.chan 0 #[] false n n false)) (hW:w'.heap[Wg]?=w.heap[Wg]?):Mode P c Wg N w' gs' (t++u) K' ic s:=by
 have e1:sumTo N (λi=>(K' i).cnt)=sumTo N λi=>(K i).cnt:=sumTo_congr λi _=>by rw[<- GS.nj,hs i,GS.nj]
 have e2:sumTo N (λi=>(K' i).late)=sumTo N λi=>(K i).late:=sumTo_congr λi _=>by rw[<- GS.mq,hs i,GS.mq]
 have e3:∀st sm,WgAt P Wg w' st sm=WgAt P Wg w st sm:=λst sm=>by unfold WgAt;rw[hW]
 unfold Mode at h⊢;simp only[e1,e2,e3,hs];rcases h with h|h|h|h|h|h|h
 ·exact .inl ⟨ho,h.2⟩
 ·exact .inr (.inl ⟨ho,h.2⟩)
 ·have:=h.2.2.2.1;omega
 ·have:=h.2.2.2.1;omega
 ·have:=h.2.2.2.1;omega
 ·have:=h.2.2.2.1;omega
 ·have:=h.2.2.1;omega
theorem Inv.met(h:Inv P n0 W0 V gs w t K Im ic (some p) st)(aJ:p.recv=true)(iO:V.deaf=0){i j:Nat}{h':Ht}{V₁:View}{gi:Goroutine}{sp:Spec}{S:List Spec}{B:Nat->Bool}(hi:0<i)(hlt:i<gs.size)
  (xp:(K i).idx=some j) (hg:ep ((K i).view Im) V₁) (hr:V₁.role= .work p.c p.Wg (sp::S)) (hd:V₁.deaf=0) (ou:Deaf t i=0) (hS:p.Ss[j]?=some (sp::S))
  (hk:lz P h' (lR B V₁ (.work p.c p.Wg S)) (TO gi undef)) (aW:gs'.size=gs.size) (aM:gs'[i]?=some (TO gi undef)) (hgo:∀m,m≠i->0<m->gs'[m]?=gs[m]?)
  {u:Trace} {x0 x1 x2 x3:MemOp} (hu:u=#[x0,x1,x2,x3]) {s:Nat} (h0:x0.g=i/\x0.act= .send p.c s) (h1:x1.g=0/\x1.act= .recv p.c s 0) (h2:x2.g=i/\x2.act= .sendDone p.c s) (h3:x3.g=0/\x3.act= .recvDone p.c s)
  (bX:w'.heap.size=w.heap.size) (gH:∀b,b≠p.c->w'.heap[b]?=w.heap[b]?) (vV:∃n,w'.heap[p.c]?=some (.chan 0 #[] false n n false)) (FC:w'.tape=w.tape) (hw5:w'.os=w.os) (hw6:w'.output=w.output):
  (∀b,V.own b≠none->lV B V₁ b=none)/\(∀b o,V.own b≠none->V₁.ab b o≠none->V.ab b o≠none)/\
  Inv P n0 W0 (nO V V₁.ab (lV B V₁) (.recv p.c p.Wg (p.Ss.set j S))) gs' w' (t++u) (upd K i (.work j h' (lR B V₁ (.work p.c p.Wg S)))) Im ic (some {p with Ss:=p.Ss.set j S}) st:=by
 obtain⟨dh,hc,lL,gR⟩:=h.out;obtain⟨a1,a2,a3,a4,a5,a6,a7,a8,a9,bS⟩:=gR;rw[if_pos aJ]at bS;obtain⟨⟨c1,c2,c3,c4⟩,c5,c6,s',c7,c8⟩:=bS;have BI:jy p V:=⟨c1,c2,c3,c4⟩;have vz:=(h.blind hi).ghost hg;have mi:bG V Im K i=(K i).view Im:=by simp[bG];omega
 have cW:bG V Im K 0=V:=by simp[bG]
 have dl:Core (upd (bG V Im K) i V₁) gs.size w t (rO (some p)) (nd (some p) gs.size ic K) ic n0 W0:=hc.ghost hlt (by rw[mi];exact hg);have dW:Sat V₁ w:=by have:=dl.sat i hlt;rwa [bx]at this
 have dV:Sat V w:=by have:=dl.sat 0 h.pos;rwa [aZ _ _ (by omega),cW]at this
 have D8:jN V V₁:=by have:=dl.dT 0 i h.pos hlt (by omega);rwa [aZ _ _ (show 0≠i by omega),bx,cW]at this
 have OK:jN V₁ V:=by have:=dl.dT i 0 hlt h.pos (by omega);rwa [bx,aZ _ _ (show 0≠i by omega),cW]at this
 have ajo:∀b,V.own b≠none->lV B V₁ b=none:=λb hb=>by
  unfold lV;split
  ·exact(D8 b hb).1
  ·rfl
 refine⟨ajo,λb o hb=>(D8 b hb).2 o, ?_⟩;have jH:∀op∈u,op.act.touch?=none/\still op.act/\(op.g=0\/op.g=i)/\op.act.low w.heap.size/\∀a,op.act≠ .mark (.release a):=by
  intro op au;rw[hu]at au;simp only[Tx,SK,SU,or_false]at au;rcases au with rfl|rfl|rfl|rfl
  ·rw[h0.2,h0.1];exact⟨rfl,⟨by simp,by simp⟩, .inr rfl,a4,by simp⟩
  ·rw[h1.2,h1.1];exact⟨rfl,⟨by simp,by simp⟩, .inl rfl,a4,by simp⟩
  ·rw[h2.2,h2.1];exact⟨rfl,⟨by simp,by simp⟩, .inr rfl,a4,by simp⟩
  ·rw[h3.2,h3.1];exact⟨rfl,⟨by simp,by simp⟩, .inl rfl,a4,by simp⟩
 have nK:∀op∈u,still op.act:=λop au=>(jH op au).2.1;have ua:∀m,Deaf (t++u) m=Deaf t m:=λm=>Deaf_still nK;have d00:Deaf t 0=0:=by rw[h.d0,iO]
 have bA:∀idx,Knows t i idx->Knows (t++u) 0 idx:=λidx hx=>amq hu h0 (jH x1 (by rw[hu];simp)).2.1 (jH x2 (by rw[hu];simp)).2.1 h3 ou d00 hx;let k':GS:= .work j h' (lR B V₁ (.work p.c p.Wg S));let V':View:=nO V V₁.ab (lV B V₁) (.recv p.c p.Wg (p.Ss.set j S));have c9:∀m,((upd K i k') m).idx=(K m).idx:=λm=>by
  by_cases hm:m=i
  ·subst hm;rw[bx,xp];rfl
  ·rw[aZ _ _ hm]
 have ee:(K i).shape= .work j .z noView:=by
  cases kY:K i<;>rw[kY]at xp<;>simp[GS.idx]at xp
  ·subst xp;rfl
  ·subst xp;rfl
 have lM:∀m,((upd K i k') m).shape=(K m).shape:=λm=>by
  by_cases hm:m=i
  ·subst hm;rw[bx,ee];rfl
  ·rw[aZ _ _ hm]
 have o1:∀m,((upd K i k') m).cnt=(K m).cnt:=λm=>by rw[<- GS.nj,lM,GS.nj]
 have vN:∀m,((upd K i k') m).late=(K m).late:=λm=>by rw[<- GS.mq,lM,GS.mq]
 have gX:(K i).cnt=1:=by rw[<- GS.nj,ee];rfl
 have lh:=(h.counted hi hlt gX).2;have rU:bG V' Im (upd K i k') 0=V':=by simp[bG]
 have wq:bG V' Im (upd K i k') i=lR B V₁ (.work p.c p.Wg S):=by simp[bG,bx,k',GS.view];omega
 have ws:∀m,m≠0->m≠i->bG V' Im (upd K i k') m=upd (bG V Im K) i V₁ m:=λm h1 h2=>by simp[bG,aZ _ _ h2,h1]
 have CR:upd (bG V Im K) i V₁ 0=V:=by rw[aZ _ _ (by omega),cW]
 have v9:upd (bG V Im K) i V₁ i=V₁:=bx _ _ _;have kF:∀{U:View},jy p U->Sat U w->Sat U w':=λ{U} hb hs=>⟨λb o v e=>by
   have aE:b≠p.c:=λx=>(by rw[x,hb.2.1 o]at e;cases e);have:=hs.ab b o v e;simp only[Uj,gH b aE]at this⊢;exact this,λb x e=>by
   have aE:b≠p.c:=λy=>(by rw[y,hb.1]at e;cases e);rw[gH b aE];exact hs.own b x e⟩
 have akA:Sat V' w:=⟨λb o v e=>by
   simp only[V',nO]at e;split at e
   ·rename_i x hx;cases e;exact dV.ab b o _ hx
   ·exact dW.ab b o v e,λb x e=>by
   simp only[V',nO]at e;split at e
   ·rename_i y hy;cases e;exact dV.own b _ hy
   ·unfold lV at e;split at e
    ·exact dW.own b x e
    ·cases e⟩
 have BJ:jy p V':=⟨by simp[V',nO,c1,lV,vz.1],λo=>by simp[V',nO,c2,vz.2.1],by simp[V',nO,c3,lV,vz.2.2.1],λo=>by simp[V',nO,c4,vz.2.2.2]⟩;have hsK:Sat (lR B V₁ (.work p.c p.Wg S)) w:=⟨dW.ab,λb x e=>by
   simp only[lR]at e;split at e
   ·cases e
   ·exact dW.own b x e⟩
 have BH:jy p (lR B V₁ (.work p.c p.Wg S)):=⟨by simp[lR,vz.1],vz.2.1,by simp[lR,vz.2.2.1],vz.2.2.2⟩;have zU:∀b,V'.own b≠none->V.own b≠none\/(B b=true/\V₁.own b≠none):=λb hb=>by
  simp only[V',nO]at hb;split at hb
  ·rename_i y hy;exact .inl (by rw[hy];simp)
  ·unfold lV at hb;split at hb
   ·rename_i hB;exact .inr ⟨hB,hb⟩
   ·exact absurd rfl hb
 have us:∀b o,V'.ab b o≠none<->(V.ab b o≠none\/V₁.ab b o≠none):=λb o=>by
  simp only[V',nO];cases e:V.ab b o with
  |some x=>simp
  |none=>simp
 have zV:∀b,(lR B V₁ (.work p.c p.Wg S)).own b≠none->B b=false/\V₁.own b≠none:=λb hb=>by
  simp only[lR]at hb;split at hb
  ·exact absurd rfl hb
  ·rename_i hB;exact⟨by simpa using hB,hb⟩
 have xj:Core (bG V' Im (upd K i k')) gs.size w' (t++u) (rO (some p)) (nd (some p) gs.size ic K) ic n0 W0:=by
  refine⟨λm hm=> ?_,λa b ha hb fN=> ?_, ?_,FC.trans hc.tape,hw5.trans hc.os,hw6.trans hc.out,λb hb=>(gH b (by omega)).trans (hc.old b hb),λm hm b hb=> ?_,by rw[bX];exact hc.n0⟩
  ·by_cases iT:m=0
   ·subst iT;rw[rU];exact kF BJ akA
   ·by_cases cV:m=i
    ·subst cV;rw[wq];exact kF BH hsK
    ·rw[ws m iT cV,aZ _ _ cV];have:=hc.sat m hm;refine kF ?_ this;have e:bG V Im K m=(K m).view Im:=(by simp[bG,iT]);rw[e];exact h.blind (by omega)
  ·
   have dm:∀m,m<gs.size->m≠0->m≠i->jN (upd (bG V Im K) i V₁ m) V/\jN V (upd (bG V Im K) i V₁ m)/\jN (upd (bG V Im K) i V₁ m) V₁/\jN V₁ (upd (bG V Im K) i V₁ m):=λm hm h1 h2=>
    ⟨by have:=dl.dT m 0 hm h.pos h1;rwa [CR]at this,by have:=dl.dT 0 m h.pos hm (Ne.symm h1);rwa [CR]at this,by have:=dl.dT m i hm hlt h2;rwa [v9]at this,by have:=dl.dT i m hlt hm (Ne.symm h2);rwa [v9]at this⟩
   by_cases yT:a=0
   ·subst yT;by_cases iP:b=i
    ·subst iP;rw[rU,wq];intro q hq;rcases zU q hq with x|⟨hB,x⟩
     ·refine⟨?_,λo ho=>(us q o).2 (.inl ((D8 q x).2 o ho))⟩;simp only[lR];split
      ·rfl
      ·exact(D8 q x).1
     ·refine⟨by simp only[lR,hB,if_true],λo ho=>(us q o).2 (.inr ho)⟩
    ·have sE:b≠0:=Ne.symm fN;rw[rU,ws b sE iP];obtain⟨_,e2,_,e4⟩:=dm b hb sE iP;intro q hq;rcases zU q hq with x|⟨_,x⟩
     ·exact⟨(e2 q x).1,λo ho=>(us q o).2 (.inl ((e2 q x).2 o ho))⟩
     ·exact⟨(e4 q x).1,λo ho=>(us q o).2 (.inr ((e4 q x).2 o ho))⟩
   ·by_cases ny:a=i
    ·subst ny;by_cases sE:b=0
     ·subst sE;rw[rU,wq];intro q hq;obtain⟨hB,x⟩:=zV q hq;refine⟨?_,λo ho=> ?_⟩
      ·simp only[V',nO,(OK q x).1,lV,hB];rfl
      ·rcases(us q o).1 ho with y|y
       ·exact(OK q x).2 o y
       ·exact y
     ·rw[wq,ws b sE (Ne.symm fN)];obtain⟨_,_,_,e4⟩:=dm b hb sE (Ne.symm fN);intro q hq;exact e4 q (zV q hq).2
    ·rw[ws a yT ny];obtain⟨e1,e2,e3,e4⟩:=dm a ha yT ny;by_cases sE:b=0
     ·subst sE;rw[rU];intro q hq;refine⟨?_,λo ho=>((us q o).1 ho).elim ((e1 q hq).2 o) ((e3 q hq).2 o)⟩;simp only[V',nO,(e1 q hq).1,lV,(e3 q hq).1,ite_self]
     ·by_cases iP:b=i
      ·subst iP;rw[wq];intro q hq;refine⟨?_,(e3 q hq).2⟩;simp only[lR,(e3 q hq).1,ite_self]
      ·rw[ws b sE iP];exact dl.dT a b ha hb fN
  ·rw[bX];refine dl.ti.mute (λop au=>(jH op au).1) (λop au=>(jH op au).2.2.2.1) (λop au=>((jH op au).2.2.1).elim (λx=>by rw[x];exact h.pos) (λx=>by rw[x];exact hlt)) (SO _) (λop au=>(jH op au).2.2.2.2) (λm hm l hl idx a ha gP qk=> ?_) (λm hm l hl idx a ha gP=> ?_) (λidx a ha ee=>⟨λhp m hm=>((dl.ti.sp idx a ha ee).1 hp m hm).app u,λhp=>((dl.ti.sp idx a ha ee).2 hp).app u⟩)
   ·obtain⟨_,cU,nF⟩:=hl;by_cases iT:m=0
    ·subst iT;rw[rU]at cU;have:gV V l\/gV V₁ l:=by
      cases l with
      |cell a'=>
       rcases cU with x|x
       ·exact(zU _ x).imp .inl (λy=> .inl y.2)
       ·exact((us _ _).1 x).imp .inr .inr
      |obj r=>exact(zU _ cU).imp id (λy=>y.2)
      |_=>exact cU.elim
     rcases this with x|x
     ·exact(dl.ti.kr 0 h.pos l ⟨h.pos,by rw[CR];exact x,nF⟩ idx a ha gP qk).app u
     ·exact bA idx (dl.ti.kr i hlt l ⟨hlt,by rw[v9];exact x,nF⟩ idx a ha gP qk)
    ·by_cases cV:m=i
     ·subst cV;rw[wq]at cU;have:gV V₁ l:=by
       cases l with
       |cell a'=>exact cU.imp (λx=>(zV _ x).2) id
       |obj r=>exact(zV _ cU).2
       |_=>exact cU.elim
      exact(dl.ti.kr m hm l ⟨hm,by rw[v9];exact this,nF⟩ idx a ha gP qk).app u
     ·rw[ws m iT cV]at cU;exact(dl.ti.kr m hm l ⟨hm,cU,nF⟩ idx a ha gP qk).app u
   ·obtain⟨_,cU,nF⟩:=hl;by_cases iT:m=0
    ·subst iT;rw[rU]at cU;have:jO V l\/jO V₁ l:=by
      cases l with
      |cell a'=>
       have f_:V.ab a'.block a'.off=none:=by
        cases e:V.ab a'.block a'.off with
        |none=>rfl
        |some x=>exact absurd cU.2 ((us _ _).2 (.inl (by rw[e];simp)))
       have ud:V₁.ab a'.block a'.off=none:=by
        cases e:V₁.ab a'.block a'.off with
        |none=>rfl
        |some x=>exact absurd cU.2 ((us _ _).2 (.inr (by rw[e];simp)))
       exact(zU _ cU.1).imp (λx=>⟨x,f_⟩) (λx=>⟨x.2,ud⟩)
      |obj r=>exact(zU _ cU).imp id (λy=>y.2)
      |_=>exact cU.elim
     rcases this with x|x
     ·exact(dl.ti.kw 0 h.pos l ⟨h.pos,by rw[CR];exact x,nF⟩ idx a ha gP).app u
     ·exact bA idx (dl.ti.kw i hlt l ⟨hlt,by rw[v9];exact x,nF⟩ idx a ha gP)
    ·by_cases cV:m=i
     ·subst cV;rw[wq]at cU;have:jO V₁ l:=by
       cases l with
       |cell a'=>exact⟨(zV _ cU.1).2,cU.2⟩
       |obj r=>exact(zV _ cU).2
       |_=>exact cU.elim
      exact(dl.ti.kw m hm l ⟨hm,by rw[v9];exact this,nF⟩ idx a ha gP).app u
     ·rw[ws m iT cV]at cU;exact(dl.ti.kw m hm l ⟨hm,cU,nF⟩ idx a ha gP).app u
  ·by_cases iT:m=0
   ·subst iT;rw[rU];have e1:=dl.jq 0 h.pos b hb;have e2:=dl.jq i hlt b hb;rw[CR]at e1;rw[v9]at e2;simp[V',nO,e1,lV,e2]
   ·by_cases cV:m=i
    ·subst cV;rw[wq];have e2:=dl.jq m hm b hb;rw[v9]at e2;simp[lR,e2]
    ·rw[ws m iT cV];exact dl.jq m hm b hb
 refine Inv.mk' (by rw[aW];exact h.pos) (by rw[aZ _ _ (by omega)];exact h.k0) (by rw[ua];exact h.d0) (λm x hm hx=> ?_) ?_ ?_ ?_
 ·show (upd K i k' m).is P p.c p.Wg Im (p.Ss.set j S) (Deaf (t++u) m) x;rw[ua];by_cases cV:m=i
  ·subst cV;rw[aM]at hx;cases hx;rw[bx];have fy:j<p.Ss.length:=(SM.1 hS).1;exact⟨by rw[ou];exact hd.symm,hk,S,by simp[Wv fy],rfl⟩
  ·rw[hgo m cV hm]at hx;rw[aZ _ _ cV];have zF:=dh m x hm hx;have B4:m<gs.size:=(SP.1 hx).1;have aE:(K m).idx≠some j:=λe=>cV (a8 m i j hm B4 hi hlt e xp);cases Jh:K m with
   |work j2 h2 V2=>
    rw[Jh]at zF aE;obtain⟨b1,b2,S2,b3,b4⟩:=zF;exact⟨b1,b2,S2,by rw[TP (λe=>aE (by rw[e];rfl))];exact b3,b4⟩
   |nT j2 h2 V2 V3 g2 v2 z2=>
    rw[Jh]at zF aE;obtain⟨b1,b2,b3,b4,sp2,S2,B2,b5,b6⟩:=zF;exact⟨b1,b2,b3,b4,sp2,S2,B2,by rw[TP (λe=>aE (by rw[e];rfl))];exact b5,b6⟩
   |_=>rw[Jh]at zF;exact zF
 ·rw[aW];refine xj.A1 λm hm=> ?_;have gh:jb p gs.size ic (upd K i k') m:=hm;show jb p gs.size ic K m;unfold jb at gh⊢;rw[c9,o1,vN]at gh;exact gh
 ·show Rest p.Wg (t++u) (upd K i k') ic st;have xz:Rest p.Wg t K ic st:=lL;rw[lh]at xz⊢;exact xz.app (λidx a ha hx=> .inr (hx.app (by obtain⟨op,au,_⟩:=touch_of ha;exact lt_size_of_getElem? au) λm _ _ hm=> .inl (by rw[c9];exact hm))) (λidx a _ ⟨op,au,_,hx⟩ _=>by rw[(jH op au).1]at hx;cases hx)
 ·refine⟨a1,a2,a3,by rw[bX];exact a4,by rw[bX];exact a5,by simpa using a6,λm hm=> ?_,λm m' q b1 b2 b3 b4 b5 b6=>a8 m m' q b1 (aW▸b2) b3 (aW▸b4) (by rw[<- c9];exact b5) (by rw[<- c9];exact b6),λq S2 b1 b2=> ?_, ?_⟩
  ·by_cases cV:m=i
   ·subst cV;rw[bx];exact⟨BH.1,BH.2.1,BH.2.2.1,BH.2.2.2,λx=>by cases x⟩
   ·rw[aZ _ _ cV];exact a7 m hm
  ·rw[aW];by_cases hq:q=j
   ·subst hq;exact⟨i,hi,hlt,by rw[c9];exact xp⟩
   ·have HQ:p.Ss[q]?=some S2:=by
     have:=b1;rwa [show ({p with Ss:=p.Ss.set j S}:Phase).Ss=p.Ss.set j S from rfl,TP (Ne.symm hq)]at this
    obtain⟨m,e1,e2,e3⟩:=a9 q S2 HQ b2;exact⟨m,e1,e2,by rw[c9];exact e3⟩
  ·show if p.recv=true then _ else _;rw[if_pos aJ];refine⟨⟨BJ.1,BJ.2.1,BJ.2.2.1,BJ.2.2.2⟩,c5,by rw[aW];exact c6,s',c7, ?_⟩;have hle:(K i).cnt<=sumTo gs.size λi=>(K i).cnt:=le_sumTo (f:=λi=>(K i).cnt) hlt;rw[aW];exact c8.alh (by omega) lM vV (gH _ (Ne.symm a3))
end
section
variable {P:Program}{n0:Nat}{W0:World}{V:View}{gs gs':Array Goroutine}{w w':World}{sl:Option (Nat×Nat)}{t:Trace}{K:Nat->GS}{Im:cz}{ic:Nat}{p:Phase}{st st':Option eI}
theorem Inv.te(h:Inv P n0 W0 V gs w t K Im ic (some p) st)(aJ:p.recv=true){i:Nat}{gi bC:Goroutine}{es:Array Event}{k':GS}{s':eI}(hi:0<i)(aM:gs[i]?=some gi)(aQ:stepG P false gi w= .go bC w' es)
  (hk:k'.is P p.c p.Wg Im p.Ss (deafBehind (Deaf t i) es) bC) (p9:mD (k'.view Im) ((K i).view Im))
  (xh:k'.ni=true->i=ic) (c9:k'.idx=none) (xo:∀j,(K i).idx=some j->p.Ss[j]?=some []/\∃r,Rel p.Wg (t++S8 i gi.frame.fn gi.frame.place es) i r/\t.size<=r)
  (kg:i=ic\/(K i).idx.isSome=true\/(K i).cnt=1\/(K i).late=1)
  (cu:∀e∈es,∀x,(Tm e).touch?=some x->(qI p.c p.Wg x.loc/\x.kind= .atomic)\/(qI p.c p.Wg x.loc/\x.kind= .said/\i=ic)\/(¬qI p.c p.Wg x.loc/\gV ((K i).view Im) x.loc/\x.write=false))
  (im:∀e∈es,(Tm e).low w.heap.size) (rq:∀e∈es,∀a,Tm e≠ .mark (.release a))
  (aW:w'.heap.size=w.heap.size) (jG:∀b,b≠p.c->b≠p.Wg->w'.heap[b]?=w.heap[b]?) (ht:w'.tape=w.tape) (ho:w'.os=w.os) (hu:w'.output=w.output)
  (xw:Mode P p.c p.Wg gs.size w' ((gs.map (woken P gi bC w')).setIfInBounds i bC) (t++S8 i gi.frame.fn gi.frame.place es) (upd K i k') ic s')
  (gQ:(∃n,w'.heap[p.c]?=some (.chan 0 #[] false n n false))\/((∀j,0<j->j<gs.size->j≠i->(K j).idx=none)/\∀g,nX gs g p.c->kC ((gs.map (woken P gi bC w')).setIfInBounds i bC) g))
  (lL:Rest p.Wg (t++S8 i gi.frame.fn gi.frame.place es) (upd K i k') ic (some s'))
  (jH:AG gs.size ((λj=>(upd K i k' j).da),flag ((gs.map (woken P gi bC w')).setIfInBounds i bC) ic) ((λj=>(K j).da),flag gs ic)):gK P n0 W0 V gs w sl t K Im ic (some p) st i:=by
 have hlt:i<gs.size:=(SP.1 aM).1;obtain⟨_,hc,_,hp⟩:=h.out;obtain⟨a1,a2,a3,a4,a5,a6,a7,a8,a9,bS⟩:=hp;rw[if_pos aJ]at bS;obtain⟨c1,c2,c3,_⟩:=bS;have qj:bG V Im K i=(K i).view Im:=by simp[bG];omega
 have BI:∀j,j<gs.size->jy p (bG V Im K j):=λj _=>by
  by_cases hj:j=0
  ·subst hj;rw[show bG V Im K 0=V by simp[bG]];exact⟨c1.1,c1.2.1,c1.2.2.1,c1.2.2.2⟩
  ·simp only[bG,hj,if_false];exact h.blind (by omega)
 have Qc:nd (some p) gs.size ic K i:=by
  show jb p gs.size ic K i;unfold jb;rw[if_pos aJ];exact⟨hi,hlt,by rcases kg with x|x|x|x;exact .inr (.inl x);exact .inl x;exact .inr (.inr (.inl x));exact .inr (.inr (.inr x))⟩
 refine h.aaw (st':=some s') hi aM aQ hk (λhb=> ?_) (λq hq=>by cases hq;exact gQ.imp id And.left) ?_ lL ?_ jH ?_
 ·rcases GS.runs hk with x|⟨x,_⟩|⟨_,_,_,_,_,_,_,e⟩|⟨_,_,x⟩
  ·rw[x]at hb;cases hb
  ·rw[x]at hb;cases hb
  ·rw[e]at c9;cases c9
  ·exact x
 ·rw[MZ V Im K hi];have ee:=hc.te hlt (es:=es) (w':=w') (λe he x hx=>by
    rcases cu e he x hx with⟨x1,x2⟩|⟨x1,x2,x3⟩|⟨x1,x2,x3⟩
    ·exact .inl ⟨x1,x2,Qc⟩
    ·exact .inr (.inl ⟨x1,x2,x3,Qc⟩)
    ·exact .inr (.inr ⟨x1, .inr (.inl ⟨⟨hlt,by rw[qj];exact x2,x1⟩,x3⟩)⟩)) im rq (λb=>b=p.c\/b=p.Wg)
   (λb hb=>by
    rcases hb with rfl|rfl
    ·exact⟨a1,λj hj=>⟨(BI j hj).1,(BI j hj).2.1⟩⟩
    ·exact⟨a2,λj hj=>⟨(BI j hj).2.2.1,(BI j hj).2.2.2⟩⟩) aW (λb hb=>jG b (λx=>hb (.inl x)) (λx=>hb (.inr x))) ht ho hu gi.frame.fn gi.frame.place
  refine(ee.less (V':=k'.view Im) hlt (by rw[qj];exact p9)).A1 λm hm=> ?_;have gh:jb p gs.size ic (upd K i k') m:=hm;show jb p gs.size ic K m;unfold jb at gh⊢;rw[if_pos aJ]at gh⊢;by_cases cV:m=i
  ·subst cV;exact⟨hi,hlt,by rcases kg with x|x|x|x;exact .inr (.inl x);exact .inl x;exact .inr (.inr (.inl x));exact .inr (.inr (.inr x))⟩
  ·rw[aZ _ _ cV]at gh;exact gh
 ·refine h.L6 (by simp) (by omega) ?_ xh (.inr ⟨c9,λj hj=>(xo j hj).1⟩) ?_
  ·have hb:=h.blind hi;exact⟨(p9.1 _).elim id (λx=>x.trans hb.1),λo=>(p9.2.1 _ o).elim id (λx=>x.trans (hb.2.1 o)),(p9.1 _).elim id (λx=>x.trans hb.2.2.1),λo=>(p9.2.1 _ o).elim id (λx=>x.trans (hb.2.2.2 o))⟩
  ·rw[if_pos aJ];exact⟨s',rfl,xw⟩
 ·intro g c JB;refine⟨LC hi,λjk _=> ?_⟩;rw[<- JB p rfl]at jk⊢;rcases gQ with x|⟨_,x⟩
  ·exact .inr ⟨L3 hi jk x,x⟩
  ·exact .inl (x g jk)
theorem Mode.alg{c Wg N:Nat}{u:Trace}{K':Nat->GS}{s:eI}(h:Mode P c Wg N w gs t K ic s)(e1:sumTo N (λi=>(K' i).cnt)=sumTo N λi=>(K i).cnt)(e2:sumTo N (λi=>(K' i).late)=sumTo N λi=>(K i).late)
  (e4:(K' ic).shape=(K ic).shape) (e5:∀i,i<N->((K' i).shape= .load 0\/(K' i).shape= .store 0)->((K i).shape= .load 0\/(K i).shape= .store 0)) (e6:∀i,i<N->(K' i).shape= .mw 0->(K i).shape= .mw 0) (hc:w'.heap[c]?=w.heap[c]?) (hW:w'.heap[Wg]?=w.heap[Wg]?)
  (hr:(∀g,gs[ic]?=some g->g.status= .running)->∀g,gs'[ic]?=some g->g.status= .running):Mode P c Wg N w' gs' (t++u) K' ic s:=by
 have e3:∀st sm,WgAt P Wg w' st sm=WgAt P Wg w st sm:=λst sm=>by unfold WgAt;rw[hW]
 unfold Mode at h⊢;simp only[e1,e2,e3,e4,hc];rcases h with h|h|h|h|h|h|h
 ·exact .inl h
 ·exact .inr (.inl h)
 ·exact .inr (.inr (.inl ⟨h.1,h.2.1,h.2.2.1,h.2.2.2.1,h.2.2.2.2.1,λi hi x=>h.2.2.2.2.2.1 i hi (e5 i hi x),λi hi x=>h.2.2.2.2.2.2 i hi (e6 i hi x)⟩))
 ·exact .inr (.inr (.inr (.inl ⟨h.1,h.2.1,h.2.2.1,h.2.2.2.1,h.2.2.2.2.1,hr h.2.2.2.2.2.1,h.2.2.2.2.2.2⟩)))
 ·exact .inr (.inr (.inr (.inr (.inl h))))
 ·exact .inr (.inr (.inr (.inr (.inr (.inl h)))))
 ·obtain⟨⟨p,n,a,b,c',d⟩,e⟩:=h;exact .inr (.inr (.inr (.inr (.inr (.inr ⟨⟨p,n,a,by rw[act?_old (lt_of_act? b)];exact b,(heard_old (lt_of_act? b)).2 c',d⟩,e⟩)))))
theorem Mode.waits{c Wg N:Nat}{s:eI}(h:Mode P c Wg N w gs t K ic s):(K ic).cnt=0/\(K ic).late=0:=by
 rw[<- GS.nj,<- GS.mq];rcases h with h|h|h|h|h|h|h
 ·rcases h.2.2.2.2.2 with⟨_,e,_⟩|⟨_,e,_⟩<;>rw[e]<;>exact⟨rfl,rfl⟩
 ·rcases h.2.2.2.2.2.2 with e|e<;>rw[e]<;>exact⟨rfl,rfl⟩
 ·rcases h.2.2.2.2.1 with e|e<;>rw[e]<;>exact⟨rfl,rfl⟩
 ·rcases h.2.2.2.2.2.2 with e|e<;>rw[e]<;>exact⟨rfl,rfl⟩
 ·rcases h.2.2.2.2.2 with e|e<;>rw[e]<;>exact⟨rfl,rfl⟩
 ·rcases h.2.2.2.2 with e|e<;>rw[e]<;>exact⟨rfl,rfl⟩
 ·rw[h.2.2.2];exact⟨rfl,rfl⟩
theorem xP{i:Nat}{k':GS}{a b:Nat}(hlt:i<gs.size)(hr:qH k'.da (K i).da):AG gs.size ((λj=>(upd K i k' j).da),a) ((λj=>(K j).da),b):=
 .inl ⟨i,hlt,by simpa only[bx]using hr,λj hj=>by show (upd K i k' j).da=(K j).da;rw[aZ _ _ hj]⟩
theorem Inv.mode(h:Inv P n0 W0 V gs w t K Im ic (some p) st)(aJ:p.recv=true):∃s,st=some s/\0<ic/\ic<gs.size/\Mode P p.c p.Wg gs.size w gs t K ic s:=by
 have hx:=h.phase.2.2.2.2.2.2.2.2.2;rw[if_pos aJ]at hx;obtain⟨_,h1,h2,s,h3,h4⟩:=hx;exact⟨s,h3,h1,h2,h4⟩
theorem ofEvents_one{i:Nat}{fn:FuncId}{pos:String}{e:Event}:S8 i fn pos #[e]=#[{g:=i,fn,pos,act:= .ofEvent e}]:=by simp[S8]
theorem Ou{t u:Trace}{g:Nat}:(t++u).deaf g t.size=Deaf t g:=deaf_old (SO _)
theorem FW(U:View):mD noView U:=⟨λ_=> .inl rfl,λ_ _=> .inl rfl,λb hb=>absurd rfl hb⟩
theorem Inv.release(h:Inv P n0 W0 V gs w t K Im ic (some p) st)(aJ:p.recv=true){i j:Nat}{gi:Goroutine}{hh:Ht}{Vi V₁:View}{c Wg:Nat}(hi:0<i)(aM:gs[i]?=some gi)(hK:K i= .work j hh Vi)(hg:ep Vi V₁)
  (hr:V₁.role= .work c Wg []) (hd:V₁.deaf=0) (hf:Dx P Wg gi):gK P n0 W0 V gs w sl t K Im ic (some p) st i:=by
 have hlt:i<gs.size:=(SP.1 aM).1;have dh:=h.is i gi hi aM;simp only[hK,GS.is]at dh;obtain⟨bz,_,S,hS,jm⟩:=dh;rw[hg.role,jm]at hr;cases hr;have gX:(K i).cnt=1:=by rw[hK];rfl
 obtain⟨⟨n,gQ⟩,lh⟩:=h.counted hi hlt gX;obtain⟨s,hs,gE,iS,hm⟩:=h.mode aJ;rw[lh]at hs;cases hs;obtain⟨bK,g',lj,m,dX⟩:=hf;have aE:i≠ic:=λe=>by have:=(Mode.waits hm).1;rw[<- e,gX]at this;cases this
 have aT:Deaf t i=0:=by rw[bz,<- hg.deaf,hd]
 have pn:Rel p.Wg (t++S8 i gi.frame.fn gi.frame.place #[j8 (.releaseMerge (eo p.Wg))]) i t.size:=by
  rw[ofEvents_one];have e:(#[({g:=i,fn:=gi.frame.fn,pos:=gi.frame.place,act:= .ofEvent (j8 (.releaseMerge (eo p.Wg)))}:MemOp)]:Trace)[0]?=some _:=rfl;have g0:=qU (t:=t) e;exact⟨act?_of g0,by simp[VQ,g0],heard_new e rfl (by rw[show t.size+0=t.size from rfl,Ou];exact aT)⟩
 have nI:∀e∈#[j8 (.releaseMerge (eo p.Wg))],e=j8 (.releaseMerge (eo p.Wg)):=λe he=>by simpa using he
 refine h.te aJ (k':= .add m) (s':= .early) hi aM (lj w) ?_ (by rw[hK];exact FW _) (λx=>by cases x) rfl (λj' iC=> ?_) (.inr (.inr (.inl gX))) (λe he x hx=> ?_) (λe he=> ?_) (λe he a=> ?_) rfl (λ_ _ _=>rfl) rfl rfl rfl ?_ (.inl ⟨n,gQ⟩) ?_ (xP hlt ?_)
 ·show cR P (Ax P p.Wg) m _ g';rw[aT];exact dX
 ·rw[hK]at iC;cases iC;exact⟨hS,t.size,pn,SO _⟩
 ·rw[nI e he]at hx;cases hx
 ·rw[nI e he];exact h.low.2
 ·rw[nI e he];simp[j8,Tm]
 ·refine hm.alg (lr K _ GS.cnt (by rw[gX];rfl)) (lr K _ GS.late (by rw[hK];rfl)) (by rw[aZ _ _ (Ne.symm aE)]) (λm hm=> ?_) (λm hm=> ?_) rfl rfl (abq hlt ?_)
  ·by_cases cV:m=i
   ·subst cV;rw[bx];intro x;rcases x with x|x<;>cases x
   ·rw[aZ _ _ cV];exact id
  ·by_cases cV:m=i
   ·subst cV;rw[bx];intro x;cases x
   ·rw[aZ _ _ cV];exact id
  ·exact cR.running (λd g x=>x.2.1) dX
 ·have hr:Rest p.Wg t K ic st:=h.out.2.2.1;rw[lh]at hr;refine hr.app (λidx a ha hx=> .inr (hx.app (by obtain⟨op,au,_⟩:=touch_of ha;exact lt_size_of_getElem? au) λm rh _ hm=> ?_)) (λidx a _ ⟨op,au,_,hx⟩ _=> ?_)
  ·by_cases cV:m=i
   ·subst cV;exact .inr ⟨t.size,pn,by obtain⟨op,au,_⟩:=touch_of ha;exact Nat.le_of_lt (lt_size_of_getElem? au)⟩
   ·rw[aZ _ _ cV];exact .inl hm
  ·rw[ofEvents_one]at au;simp only[Tx,SK,SU,or_false]at au;subst au;cases hx
 ·rw[hK];refine .inl ?_;simp only[GS.da,jm];omega
def Atom (a:Addr)(es:Array Event):Prop:=es=#[jd a]\/es=#[kX a]\/es=#[jd a,kX a]\/es=Ad a
theorem Atom.mem{a:Addr}{es:Array Event}(h:Atom a es){e:Event}(he:e∈es):e=jd a\/e=kX a\/e=j8 .disable\/e=j8 .enable:=by
 rcases h with rfl|rfl|rfl|rfl<;>simp only[Ad,Tx,SK,SU,or_false]at he
 ·exact .inl he
 ·exact .inr (.inl he)
 ·exact he.imp id .inl
 ·rcases he with x|x|x|x
  ·exact .inr (.inr (.inl x))
  ·exact .inl x
  ·exact .inr (.inl x)
  ·exact .inr (.inr (.inr x))
theorem Atom.behind{a:Addr}{es:Array Event}(h:Atom a es):deafBehind 1 es=1:=by
 rcases h with rfl|rfl|rfl|rfl<;>rfl
theorem Atom.touch{a:Addr}{es:Array Event}(h:Atom a es){e:Event}(he:e∈es){x:Touch}(hx:(Tm e).touch?=some x):x.loc= .cell a/\x.kind= .atomic:=by
 rcases h.mem he with rfl|rfl|rfl|rfl
 ·cases hx;exact⟨rfl,rfl⟩
 ·cases hx;exact⟨rfl,rfl⟩
 ·cases hx
 ·cases hx
theorem Atom.low{a:Addr}{es:Array Event}(h:Atom a es){n:Nat}(ha:a.block<n){e:Event}(he:e∈es):(Tm e).low n:=by
 rcases h.mem he with rfl|rfl|rfl|rfl
 ·exact ha
 ·exact ha
 ·trivial
 ·trivial
theorem Atom.norel{a:Addr}{es:Array Event}(h:Atom a es){e:Event}(he:e∈es)(b:Addr):Tm e≠ .mark (.release b):=by
 rcases h.mem he with rfl|rfl|rfl|rfl<;>simp[jd,kX,j8,Tm]
theorem Atom.aq5{a:Addr}{es:Array Event}(h:Atom a es){i:Nat}{fn:FuncId}{pos:String}(hd:Deaf t i=1){idx:Nat}{op:MemOp}{x:Touch}(c9:t.size<=idx)(au:(t++S8 i fn pos es)[idx]?=some op)(hx:op.act.touch?=some x):
  ¬(t++S8 i fn pos es).heard idx:=by
 obtain⟨k,rfl⟩:∃k,idx=t.size+k:=⟨idx-t.size,by omega⟩;have sN:(S8 i fn pos es)[k]?=some op:=by rw[Xn (by omega)]at au;simpa using au
 have aM:op.g=i:=by obtain⟨e,_,rfl⟩:=TB (mem_of_getElem? sN);rfl
 rintro⟨g,hg,hz⟩
 have:g=i:=by simp[VQ,au,aM]at hg;exact hg.symm
 subst this;have Ai:∀y:MemOp,y.act=Tm (jd a)\/y.act=Tm (kX a)->still y.act:=λy hy=>by rcases hy with e|e<;>rw[e]<;>exact⟨by simp[jd,kX,Tm],by simp[jd,kX,Tm]⟩
 rcases h with rfl|rfl|rfl|rfl
 ·have:=tN (t:=t) (u:=S8 g fn pos #[jd a]) (g:=g) (λop au=>by obtain⟨e,he,rfl⟩:=TB au;simp only[Tx,SK,SU,or_false]at he;subst he;exact Ai _ (.inl rfl)) (k:=k) (by have:=lt_size_of_getElem? sN;omega);omega
 ·have:=tN (t:=t) (u:=S8 g fn pos #[kX a]) (g:=g) (λop au=>by obtain⟨e,he,rfl⟩:=TB au;simp only[Tx,SK,SU,or_false]at he;subst he;exact Ai _ (.inr rfl)) (k:=k) (by have:=lt_size_of_getElem? sN;omega);omega
 ·have:=tN (t:=t) (u:=S8 g fn pos #[jd a,kX a]) (g:=g) (λop au=>by obtain⟨e,he,rfl⟩:=TB au;simp only[Tx,SK,SU,or_false]at he;rcases he with rfl|rfl;exact Ai _ (.inl rfl);exact Ai _ (.inr rfl)) (k:=k) (by have:=lt_size_of_getElem? sN;omega);omega
 ·
  have eu:S8 g fn pos (Ad a)=#[{g,fn,pos,act:= .mark .disable},{g,fn,pos,act:= .ofEvent (jd a)},{g,fn,pos,act:= .ofEvent (kX a)},{g,fn,pos,act:= .mark .enable}]:=by simp[S8,Ad,j8,Tm]
  rw[eu]at sN hz;have d0:(t++#[({g,fn,pos,act:= .mark .disable}:MemOp),{g,fn,pos,act:= .ofEvent (jd a)},{g,fn,pos,act:= .ofEvent (kX a)},{g,fn,pos,act:= .mark .enable}]).deaf g t.size=1:=by rw[Ou];exact hd
  have d1:=deaf_succ (g:=g) (qU (t:=t) (show (#[({g,fn,pos,act:= .mark .disable}:MemOp),{g,fn,pos,act:= .ofEvent (jd a)},{g,fn,pos,act:= .ofEvent (kX a)},{g,fn,pos,act:= .mark .enable}]:Trace)[0]?=some _ from rfl));have d2:=deaf_succ (g:=g) (qU (t:=t) (show (#[({g,fn,pos,act:= .mark .disable}:MemOp),{g,fn,pos,act:= .ofEvent (jd a)},{g,fn,pos,act:= .ofEvent (kX a)},{g,fn,pos,act:= .mark .enable}]:Trace)[1]?=some _ from rfl));have d3:=deaf_succ (g:=g) (qU (t:=t) (show (#[({g,fn,pos,act:= .mark .disable}:MemOp),{g,fn,pos,act:= .ofEvent (jd a)},{g,fn,pos,act:= .ofEvent (kX a)},{g,fn,pos,act:= .mark .enable}]:Trace)[2]?=some _ from rfl));rw[H_ (Ai _ (.inl rfl))]at d2;rw[H_ (Ai _ (.inr rfl))]at d3;simp only[Uv]at d1;rw[d0]at d1;have d1:=d1.trans (show deafStep g 1 {g,fn,pos,act:= .mark .disable}=2 by simp[deafStep]);have hk:k<4:=by have:=lt_size_of_getElem? sN;simpa using this
  match k,hk with
  |0,_=>simp at sN;subst sN;cases hx
  |1,_=>rw[d1]at hz;omega
  |2,_=>rw[show t.size+2=t.size+1+1 from rfl,d2,d1]at hz;omega
  |3,_=>simp at sN;subst sN;cases hx
theorem Rest.atom{Wg:Nat}{s:eI}(hr:Rest Wg t K ic (some s)){a:Addr}{es:Array Event}(h:Atom a es){i:Nat}{fn:FuncId}{pos:String}(hd:Deaf t i=1){K':Nat->GS}(c9:∀m,(K' m).idx=(K m).idx):Rest Wg (t++S8 i fn pos es) K' ic (some s):=by
 refine hr.app (λidx a ha hx=> .inr (hx.app (by obtain⟨op,au,_⟩:=touch_of ha;exact lt_size_of_getElem? au) λm _ _ hm=> .inl (by rw[c9];exact hm))) (λidx x hi ⟨op,au,xo,hx⟩ _=> .inr (.inl ⟨?_,h.aq5 hd hi xo hx⟩));obtain⟨e,he,rfl⟩:=TB au;exact(h.touch he hx).2
theorem WgAt.GF{Wg:Nat}{a b:Int}(h:WgAt P Wg w a b)(v:Int):WgAt P Wg (w.setCell (eo Wg) (.int .u64 v)) v b:=by
 unfold WgAt at h⊢;unfold WE;rw[VG];simp[eo,h,wgBlock]
theorem WgAt.abO{Wg:Nat}{a b:Int}(h:WgAt P Wg w a b)(v:Int):WgAt P Wg (w.setCell (oI Wg) (.int .u32 v)) a v:=by
 unfold WgAt at h⊢;unfold WE;rw[VG];simp[oI,h,wgBlock]
theorem WgAt.inj{Wg:Nat}{a b a' b':Int}(h:WgAt P Wg w a b)(k:WgAt P Wg w a' b'):a=a'/\b=b':=by
 unfold WgAt at h k;rw[h]at k;simp[wgBlock]at k;exact k
theorem Inv.DX(h:Inv P n0 W0 V gs w t K Im ic (some p) st)(aJ:p.recv=true){i:Nat}{gi bC:Goroutine}{es:Array Event}{k':GS}{s:eI}{a:Addr}(hs:st=some s)(hi:0<i)(aM:gs[i]?=some gi)(aQ:stepG P false gi w= .go bC w' es)(hd:Deaf t i=1)
  (ha:Atom a es) (yU:a=eo p.Wg\/a=oI p.Wg) (nM:w'=w\/∃x,w'=w.setCell a x) (hk:k'.is P p.c p.Wg Im p.Ss 1 bC) (p9:mD (k'.view Im) ((K i).view Im)) (xh:k'.ni=true->i=ic) (c9:k'.idx=none) (ue:(K i).idx=none)
  (kg:i=ic\/(K i).cnt=1\/(K i).late=1) (gQ:∃n,w.heap[p.c]?=some (.chan 0 #[] false n n false))
  (xw:Mode P p.c p.Wg gs.size w' ((gs.map (woken P gi bC w')).setIfInBounds i bC) (t++S8 i gi.frame.fn gi.frame.place es) (upd K i k') ic s) (uk:qH k'.da (K i).da):gK P n0 W0 V gs w sl t K Im ic (some p) st i:=by
 have hlt:i<gs.size:=(SP.1 aM).1;have vB:a.block=p.Wg:=by rcases yU with rfl|rfl<;>rfl
 have rc:p.c≠p.Wg:=h.phase.2.2.1;have jG:∀b,b≠p.Wg->w'.heap[b]?=w.heap[b]?:=λb hb=>by
  rcases nM with rfl|⟨x,rfl⟩
  ·rfl
  ·exact vG _ _ _ (by rw[vB];exact Ne.symm hb)
 have aW:w'.heap.size=w.heap.size:=by rcases nM with rfl|⟨x,rfl⟩;rfl;exact C4 _ _ _
 refine h.te aJ hi aM aQ (by rw[hd,ha.behind];exact hk) p9 xh c9 (λj hj=>by rw[ue]at hj;cases hj) (kg.imp id .inr) (λe he x hx=> .inl ?_) (λe he=>ha.low (by rw[vB];exact h.low.2) he) (λe he b=>ha.norel he b) aW (λb _ hb=>jG b hb)
  (by rcases nM with rfl|⟨x,rfl⟩<;>rfl) (by rcases nM with rfl|⟨x,rfl⟩<;>rfl) (by rcases nM with rfl|⟨x,rfl⟩<;>rfl) xw (.inl (by rw[jG _ rc];exact gQ)) ?_ (xP hlt uk)
 ·have:=ha.touch he hx;exact⟨by rw[this.1];exact vB,this.2⟩
 ·have hr:Rest p.Wg t K ic st:=h.out.2.2.1;rw[hs]at hr;exact hr.atom ha hd λm=>by
   by_cases hm:m=i
   ·subst hm;rw[bx,c9,ue]
   ·rw[aZ _ _ hm]
theorem Inv.ad2(h:Inv P n0 W0 V gs w t K Im ic (some p) st)(aJ:p.recv=true){i n:Nat}{gi:Goroutine}(hi:0<i)(aM:gs[i]?=some gi)(hK:K i= .add n)(jI:Ax P p.Wg (Deaf t i) gi):gK P n0 W0 V gs w sl t K Im ic (some p) st i:=by
 have hlt:i<gs.size:=(SP.1 aM).1;obtain⟨s,hs,gE,iS,hm⟩:=h.mode aJ;have gX:(K i).cnt=1:=by rw[hK];rfl
 have fz:(K i).late=0:=by rw[hK];rfl
 have ue:(K i).idx=none:=by rw[hK];rfl
 have gQ:=(h.counted hi hlt gX).1;have aE:ic≠i:=λe=>by have:=(Mode.waits hm).1;rw[e,gX]at this;cases this
 obtain⟨hd,bK,Fu⟩:=jI;have hle:(K i).cnt<=sumTo gs.size λi=>(K i).cnt:=le_sumTo (f:=λi=>(K i).cnt) hlt;have rc:p.c≠p.Wg:=h.phase.2.2.1;have hq:∀(k':GS),sumTo gs.size (λa=>(upd K i k' a).cnt)+(K i).cnt=sumTo gs.size (λa=>(K a).cnt)+k'.cnt:=λk'=>Aj K k' GS.cnt hlt;have sR:∀(k':GS),sumTo gs.size (λa=>(upd K i k' a).late)+(K i).late=sumTo gs.size (λa=>(K a).late)+k'.late:=λk'=>Aj K k' GS.late hlt;have p9:∀k':GS,k'.view Im=noView->mD (k'.view Im) ((K i).view Im):=λk' e=>by rw[e];exact FW _
 have leave:∀(wt v:Nat),wt<=1->v+1=(sumTo gs.size λi=>(K i).cnt)->v<4->¬(v=0/\wt=1)->s= .early->(sumTo gs.size λi=>(K i).late)=0->WgAt P p.Wg w (((v+1:Nat):Int)* KK+wt) 0->
   ((wt=0/\((∃k,(K ic).shape= .head k 0/\v<k)\/(∃u,(K ic).shape= .l9 u 0/\v<=u/\0<u)))\/(wt=1/\((K ic).shape= .said 0\/(K ic).shape= .ij 0)))->gK P n0 W0 V gs w sl t K Im ic (some p) st i:=by
  intro wt v up hv FA gk RA asx hW aX;obtain⟨g',aQ,_,mf⟩:=Fu v wt up FA;obtain⟨q,mf⟩:=mf gk;have Ce:=hq (.gone q);have Cd:=sR (.gone q);simp only[gX,fz]at Ce Cd;rw[show (GS.gone q).cnt=0 from rfl]at Ce;rw[show (GS.gone q).late=0 from rfl]at Cd;refine h.DX aJ (k':= .gone q) (a:=eo p.Wg) hs hi aM (aQ w hW) hd (.inr (.inr (.inl rfl))) (.inl rfl) (.inr ⟨_,rfl⟩) mf (p9 _ rfl) (λx=>by cases x) rfl ue (.inr (.inl gX)) gQ ?_ (by rw[hK];exact .inl (by simp[GS.da]));have vr:=hW.GF ((v:Int)* KK+wt);unfold Mode;simp only[aZ _ _ aE];have Is:sumTo gs.size (λa=>(upd K i (.gone q) a).cnt)=v:=by omega
  have Iv:sumTo gs.size (λa=>(upd K i (.gone q) a).late)=0:=by omega
  simp only[Is,Iv];have ho:∃n,(w.setCell (eo p.Wg) (.int .u64 ((v:Int)* KK+wt))).heap[p.c]?=some (.chan 0 #[] false n n false):=by
   obtain⟨n,hn⟩:=gQ;exact⟨n,by rw[vG _ _ _ (Ne.symm rc)];exact hn⟩
  rcases aX with⟨rfl,aX⟩|⟨rfl,aX⟩
  ·exact .inl ⟨ho,RA,trivial,by omega,by simpa using vr,aX⟩
  ·exact .inr (.inl ⟨ho,RA,trivial,by omega,by omega,by simpa using vr,aX⟩)
 unfold Mode at hm;rcases hm with m|m|m|m|m|m|m
 ·obtain⟨m1,m2,m3,m4,m5,m6⟩:=m;refine leave 0 ((sumTo gs.size λi=>(K i).cnt)-1) (by omega) (by omega) (by omega) (by omega) m2 m3 ?_ (.inl ⟨rfl, ?_⟩)
  ·rw[show (sumTo gs.size λi=>(K i).cnt)-1+1=(sumTo gs.size λi=>(K i).cnt) by omega];simpa using m5
  ·rcases m6 with⟨k,e1,e2⟩|⟨u,e1,e2,e3⟩
   ·exact .inl ⟨k,e1,by omega⟩
   ·exact .inr ⟨u,e1,by omega,e3⟩
 ·obtain⟨m1,m2,m3,m4,m5,m6,m7⟩:=m;by_cases hv:(sumTo gs.size λi=>(K i).cnt)=1
  ·
   obtain⟨g',aQ,jh,_⟩:=Fu 0 1 (by omega) (by omega);obtain⟨n',jh⟩:=jh ⟨rfl,rfl⟩;have Ce:=hq (.load n');have Cd:=sR (.load n');simp only[gX,fz]at Ce Cd;rw[show (GS.load n').cnt=0 from rfl]at Ce;rw[show (GS.load n').late=1 from rfl]at Cd;rw[hv]at m6;have hW:WgAt P p.Wg w (((0+1:Nat):Int)* KK+(1:Nat)) 0:=(by simpa using m6);refine h.DX aJ (k':= .load n') (a:=eo p.Wg) hs hi aM (aQ w hW) hd (.inr (.inr (.inl rfl))) (.inl rfl) (.inr ⟨_,rfl⟩) jh (p9 _ rfl) (λx=>by cases x) rfl ue (.inr (.inl gX)) gQ ?_ (by rw[hK];exact .inl (by simp[GS.da]));have vr:=hW.GF (((0:Nat):Int)* KK+(1:Nat));unfold Mode;simp only[aZ _ _ aE];have Is:sumTo gs.size (λa=>(upd K i (.load n') a).cnt)=0:=(by omega);have Iv:sumTo gs.size (λa=>(upd K i (.load n') a).late)=1:=(by omega);simp only[Is,Iv];have ho:∃n,(w.setCell (eo p.Wg) (.int .u64 (((0:Nat):Int)* KK+(1:Nat)))).heap[p.c]?=some (.chan 0 #[] false n n false):=by
    obtain⟨n,hn⟩:=gQ;exact⟨n,by rw[vG _ _ _ (Ne.symm rc)];exact hn⟩
   refine .inr (.inr (.inl ⟨ho,m2,trivial,trivial,m7,λ_ _ _=>by simpa using vr,λm hm qf=> ?_⟩));exfalso;have cV:m≠i:=λe=>(by subst e;rw[bx]at qf;cases qf);rw[aZ _ _ cV]at qf;have QX:(K m).late<=sumTo gs.size λi=>(K i).late:=le_sumTo (f:=λi=>(K i).late) hm;rw[m3,<- GS.mq,qf]at QX;simp[GS.late]at QX
  ·refine leave 1 ((sumTo gs.size λi=>(K i).cnt)-1) (by omega) (by omega) (by omega) (by omega) m2 m3 ?_ (.inr ⟨rfl,m7⟩);rw[show (sumTo gs.size λi=>(K i).cnt)-1+1=(sumTo gs.size λi=>(K i).cnt) by omega];simpa using m6
 ·have:=m.2.2.2.1;omega
 ·have:=m.2.2.2.1;omega
 ·have:=m.2.2.2.1;omega
 ·have:=m.2.2.2.1;omega
 ·have:=m.2.2.1;omega
theorem Mode.CD{c Wg N:Nat}{s:eI}(hm:Mode P c Wg N w gs t K ic s){i:Nat}(hlt:i<N)(fz:(K i).late=1):
  (∃n,w.heap[c]?=some (.chan 0 #[] false n n false))/\s= .early/\(sumTo N λi=>(K i).late)=1/\(sumTo N λi=>(K i).cnt)=0/\((K ic).shape= .said 0\/(K ic).shape= .ij 0)/\
  (((K i).shape= .load 0\/(K i).shape= .store 0)->WgAt P Wg w 1 0)/\((K i).shape= .mw 0->WgAt P Wg w 0 0):=by
 have hle:(K i).late<=sumTo N λi=>(K i).late:=le_sumTo (f:=λi=>(K i).late) hlt;unfold Mode at hm;rcases hm with m|m|m|m|m|m|m
 ·have:=m.2.2.1;omega
 ·have:=m.2.2.1;omega
 ·exact⟨m.1,m.2.1,m.2.2.1,m.2.2.2.1,m.2.2.2.2.1,m.2.2.2.2.2.1 i hlt,m.2.2.2.2.2.2 i hlt⟩
 ·have:=m.2.2.1;omega
 ·have:=m.2.2.1;omega
 ·have:=m.2.2.1;omega
 ·have:=m.2.1;omega
theorem aaR{N:Nat}(h:(sumTo N λi=>(K i).late)=1){i m:Nat}(hi:i<N)(hm:m<N)(aE:m≠i)(fz:(K i).late=1):(K m).late=0:=by
 have:=Aj K (.gone 0) GS.late hi;have h2:((upd K i (.gone 0)) m).late<=sumTo N λa=>(upd K i (.gone 0) a).late:=le_sumTo (f:=λa=>(upd K i (.gone 0) a).late) hm;rw[aZ _ _ aE]at h2;simp only[fz,h,show (GS.gone 0).late=0 from rfl]at this;omega
theorem Inv.Lm(h:Inv P n0 W0 V gs w t K Im ic (some p) st)(aJ:p.recv=true){i:Nat}{gi bC:Goroutine}{es:Array Event}{k':GS}{a:Addr}(hi:0<i)(aM:gs[i]?=some gi)(aQ:stepG P false gi w= .go bC w' es)(hd:Deaf t i=1)
  (ha:Atom a es) (yU:a=eo p.Wg\/a=oI p.Wg) (nM:w'=w\/∃x,w'=w.setCell a x) (hk:k'.is P p.c p.Wg Im p.Ss 1 bC) (hv:k'.view Im=noView) (c9:k'.idx=none) (ue:(K i).idx=none) (o1:(K i).cnt=0) (aja:k'.cnt=0) (xh:k'.ni=false) (fz:(K i).late=1)
  (vH:(k'.late=1/\((k'.shape= .load 0\/k'.shape= .store 0)->WgAt P p.Wg w' 1 0)/\(k'.shape= .mw 0->WgAt P p.Wg w' 0 0))\/
   (k'.late=0/\WgAt P p.Wg w' 0 1/\∀g,((gs.map (woken P gi bC w')).setIfInBounds i bC)[ic]?=some g->g.status= .running)) (uk:qH k'.da (K i).da):gK P n0 W0 V gs w sl t K Im ic (some p) st i:=by
 have hlt:i<gs.size:=(SP.1 aM).1;obtain⟨s,hs,gE,iS,hm⟩:=h.mode aJ;obtain⟨m1,m2,m3,m4,m5,m6,m7⟩:=hm.CD hlt fz;have aE:ic≠i:=λe=>by have:=(Mode.waits hm).2;rw[e,fz]at this;cases this
 have rc:p.c≠p.Wg:=h.phase.2.2.1;have vB:a.block=p.Wg:=by rcases yU with rfl|rfl<;>rfl
 have jG:∀b,b≠p.Wg->w'.heap[b]?=w.heap[b]?:=λb hb=>by
  rcases nM with rfl|⟨x,rfl⟩
  ·rfl
  ·exact vG _ _ _ (by rw[vB];exact Ne.symm hb)
 refine h.DX aJ hs hi aM aQ hd ha yU nM hk (by rw[hv];exact FW _) (λx=>by rw[xh]at x;cases x) c9 ue (.inr (.inr fz)) m1 ?_ uk;have e1:sumTo gs.size (λa=>(upd K i k' a).cnt)=0:=by have:=Aj K k' GS.cnt hlt;simp only[o1,aja,m4]at this;omega
 unfold Mode;simp only[aZ _ _ aE,e1,jG _ rc];rcases vH with⟨x1,x2,x3⟩|⟨x1,x2,x3⟩
 ·have e2:sumTo gs.size (λa=>(upd K i k' a).late)=1:=by have:=Aj K k' GS.late hlt;simp only[fz,x1,m3]at this;omega
  refine .inr (.inr (.inl ⟨m1,m2,e2,trivial,m5,λm hm ee=> ?_,λm hm ee=> ?_⟩))
  ·by_cases cV:m=i
   ·subst cV;rw[bx]at ee;exact x2 ee
   ·rw[aZ _ _ cV]at ee;have:=aaR m3 hlt hm cV fz;rw[<- GS.mq]at this;rcases ee with e|e<;>rw[e]at this<;>cases this
  ·by_cases cV:m=i
   ·subst cV;rw[bx]at ee;exact x3 ee
   ·rw[aZ _ _ cV]at ee;have:=aaR m3 hlt hm cV fz;rw[<- GS.mq,ee]at this;cases this
 ·have e2:sumTo gs.size (λa=>(upd K i k' a).late)=0:=by have:=Aj K k' GS.late hlt;simp only[fz,x1,m3]at this;omega
  exact .inr (.inr (.inr (.inl ⟨m1,m2,e2,trivial,x2,x3,m5⟩)))
theorem Inv.al6(h:Inv P n0 W0 V gs w t K Im ic (some p) st)(aJ:p.recv=true){i n:Nat}{gi:Goroutine}(hi:0<i)(aM:gs[i]?=some gi)(hK:K i= .load n)(jI:Dq P p.Wg (Deaf t i) gi):gK P n0 W0 V gs w sl t K Im ic (some p) st i:=by
 have hlt:i<gs.size:=(SP.1 aM).1;obtain⟨s,hs,gE,iS,hm⟩:=h.mode aJ;have fz:(K i).late=1:=by rw[hK];rfl
 obtain⟨m1,m2,m3,m4,m5,m6,m7⟩:=hm.CD hlt fz;obtain⟨hd,bK,g',aQ,n',dX⟩:=jI;have hW:=m6 (by rw[hK];exact .inl rfl);exact h.Lm aJ (k':= .store n') (a:=eo p.Wg) hi aM (aQ w hW) hd (.inl rfl) (.inl rfl) (.inl rfl) dX rfl rfl (by rw[hK];rfl) (by rw[hK];rfl) rfl rfl fz (.inl ⟨rfl,λ_=>hW,λx=>by cases x⟩) (by rw[hK];exact .inl (by simp[GS.da]))
theorem Inv.ap9(h:Inv P n0 W0 V gs w t K Im ic (some p) st)(aJ:p.recv=true){i n:Nat}{gi:Goroutine}(hi:0<i)(aM:gs[i]?=some gi)(hK:K i= .store n)(jI:Ds P p.Wg (Deaf t i) gi):gK P n0 W0 V gs w sl t K Im ic (some p) st i:=by
 have hlt:i<gs.size:=(SP.1 aM).1;obtain⟨s,hs,gE,iS,hm⟩:=h.mode aJ;have fz:(K i).late=1:=by rw[hK];rfl
 obtain⟨m1,m2,m3,m4,m5,m6,m7⟩:=hm.CD hlt fz;obtain⟨hd,bK,g',aQ,n',dX⟩:=jI;have hW:=m6 (by rw[hK];exact .inr rfl);exact h.Lm aJ (k':= .mw n') (a:=eo p.Wg) hi aM (aQ w hW) hd (.inr (.inl rfl)) (.inl rfl) (.inr ⟨_,rfl⟩) dX rfl rfl (by rw[hK];rfl) (by rw[hK];rfl) rfl rfl fz (.inl ⟨rfl,λx=>(x.elim (λy=>by cases y) (λy=>by cases y)),λ_=>hW.GF 0⟩) (by rw[hK];exact .inl (by simp[GS.da]))
theorem Inv.apl(h:Inv P n0 W0 V gs w t K Im ic (some p) st)(aJ:p.recv=true){i n:Nat}{gi:Goroutine}(hi:0<i)(aM:gs[i]?=some gi)(hK:K i= .mw n)(jI:Dr P p.Wg (Deaf t i) gi):gK P n0 W0 V gs w sl t K Im ic (some p) st i:=by
 have hlt:i<gs.size:=(SP.1 aM).1;obtain⟨s,hs,gE,iS,hm⟩:=h.mode aJ;have fz:(K i).late=1:=by rw[hK];rfl
 obtain⟨m1,m2,m3,m4,m5,m6,m7⟩:=hm.CD hlt fz;obtain⟨hd,bK,Kd,g',aQ,q,mf⟩:=jI;have hW:=m7 (by rw[hK];rfl);have aE:ic≠i:=λe=>by have:=(Mode.waits hm).2;rw[e,fz]at this;cases this
 refine h.Lm aJ (k':= .gone q) (a:=oI p.Wg) hi aM (aQ w hW) hd (.inr (.inr (.inr rfl))) (.inr rfl) (.inr ⟨_,rfl⟩) mf rfl rfl (by rw[hK];rfl) (by rw[hK];rfl) rfl rfl fz (.inr ⟨rfl,hW.abO 1,λg hg=> ?_⟩) (by rw[hK];exact .inl (by simp[GS.da]));rcases getElem?_next hlt hg with⟨e,_⟩|⟨_,y,hy,rfl⟩
 ·exact absurd e aE
 ·have xr:=h.is ic y gE hy;simp only at xr;have ee:(∃n,K ic= .said n)\/∃n,K ic= .ij n:=by
   cases w_:K ic<;>rw[w_]at m5<;>simp[GS.shape]at m5
   ·exact .inl ⟨_,rfl⟩
   ·exact .inr ⟨_,rfl⟩
  rcases ee with⟨n1,e⟩|⟨n1,e⟩
  ·rw[e]at xr;have hr:y.status= .running:=ig.running (λd g x=>x.2.1) xr;rw[woken_run hr];exact hr
  ·rw[e]at xr;rcases xr with xr|⟨_,g1,rfl,JM⟩
   ·have hr:y.status= .running:=cR.running (λd g x=>x.2.1) xr;rw[woken_run hr];exact hr
   ·have JS:g'.status= .running\/g'.status= .finished:=YN mf;unfold woken;have ai9:(mayWake P gi&&g'.status != .blocked&&g'.status != .waiting)=true:=(by rcases JS with hs|hs<;>simp[Kd,hs]);rw[if_pos ai9];unfold X9;have:=JM.2.2.1;simp[this]
theorem Mode.aeA{c Wg N k:Nat}{s:eI}(hm:Mode P c Wg N w gs t K ic s)(e:(K ic).shape= .head k 0):
  (∃n,w.heap[c]?=some (.chan 0 #[] false n n false))/\s= .early/\(sumTo N λi=>(K i).late)=0/\(sumTo N λi=>(K i).cnt)<=4/\WgAt P Wg w (((sumTo N λi=>(K i).cnt:Nat):Int)* KK) 0/\(sumTo N λi=>(K i).cnt)<k:=by
 unfold Mode at hm;simp only[e]at hm;rcases hm with m|m|m|m|m|m|m
 ·obtain⟨a,b,c,d,f,x⟩:=m;refine⟨a,b,c,d,f, ?_⟩;rcases x with⟨k',x,y⟩|⟨v,x,_⟩
  ·cases x;exact y
  ·cases x
 ·rcases m.2.2.2.2.2.2 with x|x<;>cases x
 ·rcases m.2.2.2.2.1 with x|x<;>cases x
 ·rcases m.2.2.2.2.2.2 with x|x<;>cases x
 ·rcases m.2.2.2.2.2 with x|x<;>cases x
 ·rcases m.2.2.2.2 with x|x<;>cases x
 ·cases m.2.2.2
theorem Mode.aez{c Wg N v:Nat}{s:eI}(hm:Mode P c Wg N w gs t K ic s)(e:(K ic).shape= .l9 v 0):
  (∃n,w.heap[c]?=some (.chan 0 #[] false n n false))/\s= .early/\(sumTo N λi=>(K i).late)=0/\(sumTo N λi=>(K i).cnt)<=4/\WgAt P Wg w (((sumTo N λi=>(K i).cnt:Nat):Int)* KK) 0/\(sumTo N λi=>(K i).cnt)<=v/\0<v:=by
 unfold Mode at hm;simp only[e]at hm;rcases hm with m|m|m|m|m|m|m
 ·obtain⟨a,b,c,d,f,x⟩:=m;refine⟨a,b,c,d,f, ?_⟩;rcases x with⟨k',x,y⟩|⟨v,x,y⟩
  ·cases x
  ·cases x;exact y
 ·rcases m.2.2.2.2.2.2 with x|x<;>cases x
 ·rcases m.2.2.2.2.1 with x|x<;>cases x
 ·rcases m.2.2.2.2.2.2 with x|x<;>cases x
 ·rcases m.2.2.2.2.2 with x|x<;>cases x
 ·rcases m.2.2.2.2 with x|x<;>cases x
 ·cases m.2.2.2
theorem Mode.NJ{c Wg N:Nat}{s:eI}(hm:Mode P c Wg N w gs t K ic s)(e:(K ic).shape= .last 0\/(K ic).shape= .acq 0):
  (∃n,w.heap[c]?=some (.chan 0 #[] false n n false))/\s= .early/\(sumTo N λi=>(K i).late)=0/\(sumTo N λi=>(K i).cnt)=0/\WgAt P Wg w 0 0:=by
 unfold Mode at hm;rcases hm with m|m|m|m|m|m|m
 ·rcases m.2.2.2.2.2 with⟨_,x,_⟩|⟨_,x,_⟩<;>rcases e with e|e<;>rw[e]at x<;>cases x
 ·rcases m.2.2.2.2.2.2 with x|x<;>rcases e with e|e<;>rw[e]at x<;>cases x
 ·rcases m.2.2.2.2.1 with x|x<;>rcases e with e|e<;>rw[e]at x<;>cases x
 ·rcases m.2.2.2.2.2.2 with x|x<;>rcases e with e|e<;>rw[e]at x<;>cases x
 ·exact⟨m.1,m.2.1,m.2.2.1,m.2.2.2.1,m.2.2.2.2.1⟩
 ·rcases m.2.2.2.2 with x|x<;>rcases e with e|e<;>rw[e]at x<;>cases x
 ·have x:=m.2.2.2;rcases e with e|e<;>rw[e]at x<;>cases x
theorem Mode.NK{c Wg N:Nat}{s:eI}(hm:Mode P c Wg N w gs t K ic s)(e:(K ic).shape= .look 0\/(K ic).shape= .close 0):
  (∃n,w.heap[c]?=some (.chan 0 #[] false n n false))/\s= .got/\(sumTo N λi=>(K i).late)=0/\(sumTo N λi=>(K i).cnt)=0:=by
 unfold Mode at hm;rcases hm with m|m|m|m|m|m|m
 ·rcases m.2.2.2.2.2 with⟨_,x,_⟩|⟨_,x,_⟩<;>rcases e with e|e<;>rw[e]at x<;>cases x
 ·rcases m.2.2.2.2.2.2 with x|x<;>rcases e with e|e<;>rw[e]at x<;>cases x
 ·rcases m.2.2.2.2.1 with x|x<;>rcases e with e|e<;>rw[e]at x<;>cases x
 ·rcases m.2.2.2.2.2.2 with x|x<;>rcases e with e|e<;>rw[e]at x<;>cases x
 ·rcases m.2.2.2.2.2 with x|x<;>rcases e with e|e<;>rw[e]at x<;>cases x
 ·exact⟨m.1,m.2.1,m.2.2.1,m.2.2.2.1⟩
 ·have x:=m.2.2.2;rcases e with e|e<;>rw[e]at x<;>cases x
theorem Mode.NL{c Wg N:Nat}{s:eI}(hm:Mode P c Wg N w gs t K ic s)(e:(K ic).shape= .said 0\/(K ic).shape= .ij 0):
  (∃n,w.heap[c]?=some (.chan 0 #[] false n n false))/\s= .early/\((∃st,WgAt P Wg w st 0)\/((sumTo N λi=>(K i).late)=0/\(sumTo N λi=>(K i).cnt)=0/\WgAt P Wg w 0 1))/\
  ∀{w':World}{gs':Array Goroutine}{u:Trace}{k':GS},(k'.shape= .said 0\/k'.shape= .ij 0)->w'.heap[c]?=w.heap[c]?->w'.heap[Wg]?=w.heap[Wg]?->(WgAt P Wg w 0 1->∀g,gs'[ic]?=some g->g.status= .running)->ic<N->Mode P c Wg N w' gs' (t++u) (upd K ic k') ic s:=by
 have wait:∀{k:GS},(k.shape= .said 0\/k.shape= .ij 0)->k.cnt=0/\k.late=0:=λ{k} h=>by rw[<- GS.nj,<- GS.mq];rcases h with h|h<;>rw[h]<;>exact⟨rfl,rfl⟩
 have tail:∀(w':World)(gs':Array Goroutine)(u:Trace)(k':GS),(k'.shape= .said 0\/k'.shape= .ij 0)->w'.heap[c]?=w.heap[c]?->w'.heap[Wg]?=w.heap[Wg]?->(WgAt P Wg w 0 1->∀g,gs'[ic]?=some g->g.status= .running)->ic<N->Mode P c Wg N w' gs' (t++u) (upd K ic k') ic s:=by
  intro w' gs' u k' hk hc hW hr gf;have e1:sumTo N (λi=>(upd K ic k' i).cnt)=sumTo N λi=>(K i).cnt:=lr K k' GS.cnt (by rw[(wait hk).1,(wait e).1]);have e2:sumTo N (λi=>(upd K ic k' i).late)=sumTo N λi=>(K i).late:=lr K k' GS.late (by rw[(wait hk).2,(wait e).2]);have e3:∀st sm,WgAt P Wg w' st sm=WgAt P Wg w st sm:=λst sm=>by unfold WgAt;rw[hW]
  have e5:∀i (q:GS),(q= .load 0\/q= .store 0\/q= .mw 0)->(upd K ic k' i).shape=q->(K i).shape=q:=λi q hq hs=>by
   by_cases hi:i=ic
   ·subst hi;rw[bx]at hs;rcases hk with x|x<;>rw[x]at hs<;>subst hs<;>rcases hq with y|y|y<;>cases y
   ·rw[aZ _ _ hi]at hs;exact hs
  unfold Mode at hm⊢;simp only[e1,e2,e3,hc,bx];rcases hm with m|m|m|m|m|m|m
  ·rcases m.2.2.2.2.2 with⟨_,x,_⟩|⟨_,x,_⟩<;>rcases e with e|e<;>rw[e]at x<;>cases x
  ·exact .inr (.inl ⟨m.1,m.2.1,m.2.2.1,m.2.2.2.1,m.2.2.2.2.1,m.2.2.2.2.2.1,hk⟩)
  ·exact .inr (.inr (.inl ⟨m.1,m.2.1,m.2.2.1,m.2.2.2.1,hk,λi hi x=>m.2.2.2.2.2.1 i hi (x.imp (e5 i _ (.inl rfl)) (e5 i _ (.inr (.inl rfl)))),λi hi x=>m.2.2.2.2.2.2 i hi (e5 i _ (.inr (.inr rfl)) x)⟩))
  ·exact .inr (.inr (.inr (.inl ⟨m.1,m.2.1,m.2.2.1,m.2.2.2.1,m.2.2.2.2.1,hr m.2.2.2.2.1,hk⟩)))
  ·rcases m.2.2.2.2.2 with x|x<;>rcases e with e|e<;>rw[e]at x<;>cases x
  ·rcases m.2.2.2.2 with x|x<;>rcases e with e|e<;>rw[e]at x<;>cases x
  ·have x:=m.2.2.2;rcases e with e|e<;>rw[e]at x<;>cases x
 have iT:=hm;unfold Mode at hm;rcases hm with m|m|m|m|m|m|m
 ·rcases m.2.2.2.2.2 with⟨_,x,_⟩|⟨_,x,_⟩<;>rcases e with e|e<;>rw[e]at x<;>cases x
 ·exact⟨m.1,m.2.1, .inl ⟨_,m.2.2.2.2.2.1⟩,λ{w'} {gs'} {u} {k'}=>tail w' gs' u k'⟩
 ·refine⟨m.1,m.2.1, .inl ?_,λ{w'} {gs'} {u} {k'}=>tail w' gs' u k'⟩;have:∃i,i<N/\(K i).late=1:=by
   apply To;intro gk;have hz:sumTo N (λi=>(K i).late)=sumTo N λ_=>0:=sumTo_congr λi hi=>by
    have aE:¬(K i).late=1:=λx=>gk ⟨i,hi,x⟩;cases kY:K i<;>rw[kY]at aE<;>first|rfl|exact absurd rfl aE
   have h0:sumTo N (λ_=>0)=0:=by
    have:∀N,sumTo N (λ_=>0)=0:=λN=>(by induction N with|zero=>rfl|succ N ih=>simp[sumTo,ih]);exact this N
   have:=m.2.2.1;omega
  obtain⟨i,hi,fz⟩:=this;obtain⟨_,_,_,_,_,m6,m7⟩:=iT.CD hi fz;cases kY:K i<;>rw[kY]at fz m6 m7<;>simp[GS.late]at fz
  ·exact⟨1,m6 (.inl rfl)⟩
  ·exact⟨1,m6 (.inr rfl)⟩
  ·exact⟨0,m7 rfl⟩
 ·exact⟨m.1,m.2.1, .inr ⟨m.2.2.1,m.2.2.2.1,m.2.2.2.2.1⟩,λ{w'} {gs'} {u} {k'}=>tail w' gs' u k'⟩
 ·rcases m.2.2.2.2.2 with x|x<;>rcases e with e|e<;>rw[e]at x<;>cases x
 ·rcases m.2.2.2.2 with x|x<;>rcases e with e|e<;>rw[e]at x<;>cases x
 ·have x:=m.2.2.2;rcases e with e|e<;>rw[e]at x<;>cases x
theorem FV(Im:cz):mD {noView with ab:=Im} {noView with ab:=Im}:=⟨λ_=> .inr rfl,λ_ _=> .inr rfl,λ_ _ _=>rfl⟩
theorem alS(Im:cz):mD noView {noView with ab:=Im}:=⟨λ_=> .inr rfl,λ_ _=> .inl rfl,λb hb=>absurd rfl hb⟩
theorem Inv.yC(h:Inv P n0 W0 V gs w t K Im ic (some p) st)(aJ:p.recv=true){gi bC:Goroutine}{es:Array Event}{k':GS}{a:Addr}{s:eI}(hs:st=some s)(aM:gs[ic]?=some gi)(aQ:stepG P false gi w= .go bC w' es)(hd:Deaf t ic=1)
  (ha:Atom a es) (yU:a=eo p.Wg\/a=oI p.Wg) (nM:w'=w\/∃x,w'=w.setCell a x) (hk:k'.is P p.c p.Wg Im p.Ss 1 bC) (hv:k'.view Im={noView with ab:=Im}) (xD:(K ic).view Im={noView with ab:=Im}) (c9:k'.idx=none) (ue:(K ic).idx=none)
  (gQ:∃n,w.heap[p.c]?=some (.chan 0 #[] false n n false))
  (xw:Mode P p.c p.Wg gs.size w' ((gs.map (woken P gi bC w')).setIfInBounds ic bC) (t++S8 ic gi.frame.fn gi.frame.place es) (upd K ic k') ic s) (uk:qH k'.da (K ic).da):gK P n0 W0 V gs w sl t K Im ic (some p) st ic:=by
 obtain⟨s',_,gE,_,_⟩:=h.mode aJ;exact h.DX aJ hs gE aM aQ hd ha yU nM hk (by rw[hv,xD];exact FV Im) (λ_=>rfl) c9 ue (.inl rfl) gQ xw uk
theorem Inv.aju(h:Inv P n0 W0 V gs w t K Im ic (some p) st)(aJ:p.recv=true){k n:Nat}{gi:Goroutine}(aM:gs[ic]?=some gi)(hK:K ic= .head k n)(jI:eQ P Im p.c p.Wg k (Deaf t ic) gi):gK P n0 W0 V gs w sl t K Im ic (some p) st ic:=by
 obtain⟨s,hs,gE,iS,hm⟩:=h.mode aJ;obtain⟨m1,m2,m3,m4,m5,m6⟩:=hm.aeA (k:=k) (by rw[hK];rfl);obtain⟨k,rfl⟩:∃k',k=k'+1:=⟨k-1,by omega⟩;obtain⟨hd,bK,Fu⟩:=eQ.succ _ _ _ _ jI;obtain⟨g',aQ,hz,Ki⟩:=Fu _ (by omega) m4;have lN:=aQ w m5;have tL:∀k':GS,k'.cnt=0->k'.late=0->sumTo gs.size (λi=>(upd K ic k' i).cnt)=(sumTo gs.size λi=>(K i).cnt)/\sumTo gs.size (λi=>(upd K ic k' i).late)=(sumTo gs.size λi=>(K i).late):=λk' h1 h2=>
  ⟨lr K k' GS.cnt (by rw[h1,hK];rfl),lr K k' GS.late (by rw[h2,hK];rfl)⟩
 by_cases hv:(sumTo gs.size λi=>(K i).cnt)=0
 ·obtain⟨n',dX⟩:=hz hv;refine h.yC aJ (k':= .acq n') (a:=eo p.Wg) hs aM lN hd (.inl rfl) (.inl rfl) (.inl rfl) dX rfl (by rw[hK];rfl) rfl (by rw[hK];rfl) m1 ?_ (by rw[hK];exact .inl (by simp[GS.da];omega));unfold Mode;simp only[(tL (.acq n') rfl rfl).1,(tL (.acq n') rfl rfl).2,bx];refine .inr (.inr (.inr (.inr (.inl ⟨m1,m2,m3,hv, ?_, .inr rfl⟩))));rw[hv]at m5;simpa using m5
 ·obtain⟨n',dX⟩:=Ki hv;refine h.yC aJ (k':= .l9 (sumTo gs.size λi=>(K i).cnt) n') (a:=eo p.Wg) hs aM lN hd (.inl rfl) (.inl rfl) (.inl rfl) dX rfl (by rw[hK];rfl) rfl (by rw[hK];rfl) m1 ?_ (by rw[hK];exact .inl (by simp[GS.da];omega));unfold Mode;simp only[(tL (.l9 _ n') rfl rfl).1,(tL (.l9 _ n') rfl rfl).2,bx];exact .inl ⟨m1,m2,m3,m4,m5, .inr ⟨_,rfl,SO _,by omega⟩⟩
theorem Inv.afy(h:Inv P n0 W0 V gs w t K Im ic (some p) st)(aJ:p.recv=true){v n:Nat}{gi:Goroutine}(aM:gs[ic]?=some gi)(hK:K ic= .l9 v n)(jI:Dn P p.c p.Wg Im v (Deaf t ic) gi):gK P n0 W0 V gs w sl t K Im ic (some p) st ic:=by
 obtain⟨s,hs,gE,iS,hm⟩:=h.mode aJ;obtain⟨m1,m2,m3,m4,m5,m6,m7⟩:=hm.aez (v:=v) (by rw[hK];rfl);obtain⟨hd,bK,⟨g1,Ft,n1,akC⟩,ajQ⟩:=jI;have rc:p.c≠p.Wg:=h.phase.2.2.1;have tL:∀k':GS,k'.cnt=0->k'.late=0->sumTo gs.size (λi=>(upd K ic k' i).cnt)=(sumTo gs.size λi=>(K i).cnt)/\sumTo gs.size (λi=>(upd K ic k' i).late)=(sumTo gs.size λi=>(K i).late):=λk' h1 h2=>
  ⟨lr K k' GS.cnt (by rw[h1,hK];rfl),lr K k' GS.late (by rw[h2,hK];rfl)⟩
 by_cases hv:(sumTo gs.size λi=>(K i).cnt)=v
 ·refine h.yC aJ (k':= .said n1) (a:=eo p.Wg) hs aM (Ft w (by rw[<- hv];exact m5)) hd (.inr (.inr (.inl rfl))) (.inl rfl) (.inr ⟨_,rfl⟩) akC rfl (by rw[hK];rfl) rfl (by rw[hK];rfl) m1 ?_ (by rw[hK];exact .inl (by simp[GS.da];omega));unfold Mode;simp only[(tL (.said n1) rfl rfl).1,(tL (.said n1) rfl rfl).2,bx];refine .inr (.inl ⟨?_,m2,m3,by omega,m4, ?_, .inl rfl⟩)
  ·obtain⟨n,hn⟩:=m1;exact⟨n,by rw[vG _ _ _ (Ne.symm rc)];exact hn⟩
  ·rw[hv];exact m5.GF _
 ·obtain⟨g',lN,n',dX⟩:=ajQ (sumTo gs.size λi=>(K i).cnt) (by omega);refine h.yC aJ (k':= .head v n') (a:=eo p.Wg) hs aM (lN w m5) hd (.inl rfl) (.inl rfl) (.inl rfl) dX rfl (by rw[hK];rfl) rfl (by rw[hK];rfl) m1 ?_ (by rw[hK];exact .inl (by simp[GS.da]));unfold Mode;simp only[(tL (.head v n') rfl rfl).1,(tL (.head v n') rfl rfl).2,bx];exact .inl ⟨m1,m2,m3,m4,m5, .inl ⟨v,rfl,by omega⟩⟩
theorem Inv.alq(h:Inv P n0 W0 V gs w t K Im ic (some p) st)(aJ:p.recv=true){n:Nat}{gi:Goroutine}(aM:gs[ic]?=some gi)(hK:K ic= .last n)(jI:Hj P Im p.c p.Wg (Deaf t ic) gi):gK P n0 W0 V gs w sl t K Im ic (some p) st ic:=by
 obtain⟨s,hs,gE,iS,hm⟩:=h.mode aJ;obtain⟨m1,m2,m3,m4,m5⟩:=hm.NJ (.inl (by rw[hK];rfl));obtain⟨hd,bK,g',aQ,n',dX⟩:=jI;refine h.yC aJ (k':= .acq n') (a:=eo p.Wg) hs aM (aQ w m5) hd (.inl rfl) (.inl rfl) (.inl rfl) dX rfl (by rw[hK];rfl) rfl (by rw[hK];rfl) m1 ?_ (by rw[hK];exact .inl (by simp[GS.da]));unfold Mode;have e1:sumTo gs.size (λi=>(upd K ic (.acq n') i).cnt)=0:=by rw[lr K (.acq n') GS.cnt (by rw[hK];rfl)];exact m4
 have e2:sumTo gs.size (λi=>(upd K ic (.acq n') i).late)=0:=by rw[lr K (.acq n') GS.late (by rw[hK];rfl)];exact m3
 simp only[e1,e2,bx];exact .inr (.inr (.inr (.inr (.inl ⟨m1,m2,trivial,trivial,m5, .inr rfl⟩))))
theorem Inv.afK(h:Inv P n0 W0 V gs w t K Im ic (some p) st)(aJ:p.recv=true){n:Nat}{gi:Goroutine}(aM:gs[ic]?=some gi)(hK:K ic= .ij n)(jI:Dp P Im p.c p.Wg (Deaf t ic) gi):gK P n0 W0 V gs w sl t K Im ic (some p) st ic:=by
 obtain⟨s,hs,gE,iS,hm⟩:=h.mode aJ;obtain⟨m1,m2,m3,mk⟩:=hm.NL (.inr (by rw[hK];rfl));obtain⟨hd,bK,aj1,vB,g',RG,n',dX⟩:=jI;have rc:p.c≠p.Wg:=h.phase.2.2.1;rcases m3 with⟨stv,hW⟩|⟨m4,m5,hW⟩
 ·
  have aQ:=vB w stv hW;have ajV:¬WgAt P p.Wg w 0 1:=λx=>by have:=(hW.inj x).2;cases this
  refine h.te aJ (k':= .ij 0) (s':=s) gE aM aQ (.inr ⟨rfl,gi,rfl,by rw[hd];exact⟨rfl,bK,aj1,vB,g',RG,n',dX⟩⟩) (by rw[hK];exact FV Im) (λ_=>rfl) rfl (λj hj=>by rw[hK]at hj;cases hj) (.inl rfl) (by simp) (by simp) (by simp) rfl (λ_ _ _=>rfl) rfl rfl rfl
   (mk (.inr rfl) rfl rfl (λx=>absurd x ajV) iS) (.inl m1) ?_ ?_
  ·have e0:t++S8 ic gi.frame.fn gi.frame.place #[]=t:=(by simp[S8]);have hr:Rest p.Wg t K ic st:=h.out.2.2.1;rw[hs]at hr;refine hr.app (λidx a ha hx=> .inr (hx.app (by obtain⟨op,au,_⟩:=touch_of ha;exact lt_size_of_getElem? au) λm _ _ hj=> .inl ?_)) (λidx a _ ⟨op,au,_⟩ _=>by simp[S8]at au);by_cases cV:m=ic
   ·subst cV;rw[hK]at hj;cases hj
   ·rw[aZ _ _ cV];exact hj
  ·by_cases hn:n=0
   ·refine .inr ⟨funext λj=> ?_, ?_⟩
    ·by_cases hj:j=ic
     ·subst hj;simp only[bx,hK,hn]
     ·simp only[aZ _ _ hj]
    ·simp only[flag];rw[S7 (by simpa using iS),aM];simp[bK]
   ·exact xP iS (by rw[hK];exact .inr ⟨rfl, .inr ⟨rfl,by simp only[GS.da];omega⟩⟩)
 ·refine h.yC aJ (k':= .last n') (a:=oI p.Wg) hs aM (RG w hW) hd (.inr (.inr (.inr rfl))) (.inr rfl) (.inr ⟨_,rfl⟩) dX rfl (by rw[hK];rfl) rfl (by rw[hK];rfl) m1 ?_ (by rw[hK];exact .inl (by simp[GS.da]));unfold Mode;have e1:sumTo gs.size (λi=>(upd K ic (.last n') i).cnt)=0:=by rw[lr K (.last n') GS.cnt (by rw[hK];rfl)];exact m5
  have e2:sumTo gs.size (λi=>(upd K ic (.last n') i).late)=0:=by rw[lr K (.last n') GS.late (by rw[hK];rfl)];exact m4
  simp only[e1,e2,bx];obtain⟨n,hn⟩:=m1;exact .inr (.inr (.inr (.inr (.inl ⟨⟨n,by rw[vG _ _ _ (Ne.symm rc)];exact hn⟩,m2,trivial,trivial,hW.abO 0, .inl rfl⟩))))
theorem Inv.ao2(h:Inv P n0 W0 V gs w t K Im ic (some p) st)(aJ:p.recv=true){n:Nat}{gi:Goroutine}(aM:gs[ic]?=some gi)(hK:K ic= .said n)(jI:Do P Im p.c p.Wg (Deaf t ic) gi):gK P n0 W0 V gs w sl t K Im ic (some p) st ic:=by
 obtain⟨s,hs,gE,iS,hm⟩:=h.mode aJ;obtain⟨m1,m2,m3,mk⟩:=hm.NL (.inl (by rw[hK];rfl));obtain⟨hd,bK,g',aQ,n',dX⟩:=jI;have nI:∀e∈#[j8 (.write (oI p.Wg))],e=j8 (.write (oI p.Wg)):=λe he=>by simpa using he
 have Ry:g'.status= .running:=cR.running (λd g x=>x.2.1) dX;refine h.te aJ (k':= .ij n') (s':=s) gE aM (aQ w) (.inl (by rw[hd];exact dX)) (by rw[hK];exact FV Im) (λ_=>rfl) rfl (λj hj=>by rw[hK]at hj;cases hj) (.inl rfl) (λe he x hx=> .inr (.inl ?_)) (λe he=> ?_) (λe he a=> ?_) rfl (λ_ _ _=>rfl) rfl rfl rfl
  (mk (.inr rfl) rfl rfl (λ_ g hg=> ?_) iS) (.inl m1) ?_ (xP iS (by rw[hK];exact .inl (by simp[GS.da])))
 ·rw[nI e he]at hx;cases hx;exact⟨rfl,rfl,rfl⟩
 ·rw[nI e he];exact h.low.2
 ·rw[nI e he];simp[j8,Tm]
 ·rcases getElem?_next iS hg with⟨_,rfl⟩|⟨aE,_⟩
  ·exact Ry
  ·exact absurd rfl aE
 ·have hr:Rest p.Wg t K ic st:=h.out.2.2.1;rw[hs,m2]at hr;rw[m2];refine hr.app (λidx a ha hx=> .inr (hx.app (by obtain⟨op,au,_⟩:=touch_of ha;exact lt_size_of_getElem? au) λm _ _ hj=> .inl ?_)) (λidx a _ ⟨op,au,xo,_⟩ _=> .inr (.inr ⟨ic, ?_,gE, .inr (.inl rfl)⟩))
  ·by_cases cV:m=ic
   ·subst cV;rw[hK]at hj;cases hj
   ·rw[aZ _ _ cV];exact hj
  ·obtain⟨e,_,rfl⟩:=TB au;simp[VQ,xo]
end
end Go.Gg
