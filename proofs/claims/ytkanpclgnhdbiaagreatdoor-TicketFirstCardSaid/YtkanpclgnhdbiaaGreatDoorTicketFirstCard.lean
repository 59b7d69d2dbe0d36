/- For every list of numbers, TicketFirst returns true and does not panic, in any order in which its goroutines run; errors.errorType starts as the text of the program lays it. -/
import Derived.Test.YtkanpclgnhdbiaaGreatDoorTicketFirstCard4
import Derived.Conc.LeavingOf
import Derived.Conc.Holds
import Derived.ProofKit
import Derived.Test.YtkanpclgnhdbiaaGreatDoorChecked
import Derived.Test.YtkanpclgnhdbiaaGreatDoorRows
import Derived.LaidMore
import Derived.SevenTiedAt
import Derived.Test.YtkanpclgnhdbiaaGreatDoorTie
import Derived.Test.YtkanpclgnhdbiaaGreatDoorCards
set_option linter.all false
set_option maxRecDepth 4000
set_option maxHeartbeats 4000000
open Bool renaming and_eq_true->Tg,and_self->af',eq_iff_iff->Vh,false_and->Vq,false_eq_true->TR,false_or->ZD,not_eq_true'->T4,not_false->YE,or_eq_true->Xb,true_and->UP,true_or->ak_
open Char renaming ofNat->Zk
open Go renaming ChangeSpec->Z7,Code->Ub,DataW->ao_,Func->YD,FuncId->TS,OpenClaim->Yj,Program->SI,ReturnsInLeavingWide->Xz,Value->SQ,World->Tq
open Go.Addr renaming add->avt
open Go.ChangeSpec renaming post_blind->as_,witness_shaped->asI
open Go.Claim7 renaming isSixth->ZC,new_of_sixth->YM,tied_new_at->Y1
open Go.Conc renaming Good->W4
open Go.DataW renaming weightsEach->Zi
open Go.DataW.Whole renaming of_heap->an'
open Go.Input renaming okWide->Z3
open Go.IntKind renaming i64->SD
open Go.OpenClaim renaming holds_of_wide_leaving->atI
open Go.OpenSpec renaming ofChange->VG
open Go.PathCond renaming test->avl
open Go.Program renaming headLifts->avx,liftsFinal->avw,make->avv,mayEnter->avu
open Go.Proofs.Tryz renaming checked->UD,f17->ar',f3->Wx,f50->YX,func3->Zg,prog->SA
open Go.Value renaming agg->TA,cells->ac_,int->SF,okWide->Yw,slice->TL
open Go.World renaming doorLaid->ZJ
open Int renaming le_refl->Xr,toNat_natCast->VI
open List renaming all_eq_true->Tw,append_assoc->SC,append_eq->Vy,append_nil->SO,contains_nil->Zp,drop->T5,dropLast_concat_getLast->X5,eq_nil_of_length_eq_zero->UI,filter_append->ZR,filter_congr->Ve,filter_cons->ZQ,filter_cons_of_neg->W1,filter_cons_of_pos->WZ,filter_eq_nil_iff->YR,filter_nil->ZH,flatMap_append->Un,flatMap_assoc->Zy,flatMap_cons->T1,flatMap_map->VO,flatMap_singleton->YB,foldl_append->Ya,foldl_cons->UY,foldl_nil->Z9,forall_mem_cons->US,getD_eq_getElem?_getD->SE,getElem?_map->To,getLast?_eq_getElem?->Yv,getLastD_eq_getLast?->Vv,head?_cons->ZZ,length->Ze,length_append->SL,length_cons->Ui,length_drop->Ur,length_dropLast->YQ,length_filter_le->Y6,length_map->Ta,length_nil->UA,length_pos_iff->VW,length_range->ZY,length_singleton->TG,length_take->TC,map_append->Tn,map_cons->U5,map_flatMap->VE,map_map->WR,mem_cons->SK,mem_flatMap->S5,mem_map->Tm,mem_of_getElem?->S8,mem_of_mem_take->VQ,mem_singleton->S9,not_mem_nil->SZ,range->S0,range_succ->U4,take->Uh,take_add_one->Uq,take_length->Tp,take_of_length_le->SV,take_zero->Za
open Nat renaming add_mul->Vo,add_sub_cancel->Wh,le_refl->SP,le_trans->TV,mul_le_mul_right->TK,mul_one->XH,pow_le_pow_right->UZ,pow_succ->aa',reduceAdd->SU,zero_le->XY,zero_mul->apH
open Option renaming getD_some->S7,map_eq_some_iff->Ts
open Option.some renaming inj->Wb
open Prod.mk renaming injEq->U8
namespace Go.Gg.Tk
def ext:List Int->List Int->List Int
 |pre,[]=>pre
 |pre,i::st=>ext (pre++[pre.getLastD 0+i]) st
theorem Q4:∀(st pre:List Int)(a:Int),ext pre (st++[a])=ext pre st++[(ext pre st).getLastD 0+a]
 |[],pre,a=>rfl
 |i::st,pre,a=>Q4 st _ a
def uY (x:ak):Nat->List Int->List (List Int)
 |0,pre=>[pre]
 |d+1,pre=>(S0 (x.am.toNat+1)).flatMap λn:Nat=>uY x d (pre++[pre.getLastD 0+(n:Int)])
theorem Q6(x:ak):∀(d:Nat)(pre:List Int),uY x d pre=(oq (x.am.toNat+1) d).map (ext pre)
 |0,pre=>rfl
 |d+1,pre=>by
  unfold uY oq;rw[VE];refine u6 λn _=> ?_;rw[Q6 x d,WR];rfl
theorem J'(x:ak):∀(d:Nat)(pre h:List Int),h∈uY x d pre->h.take pre.length=pre
 |0,pre,h,hm=>by
  rw[uY,S9]at hm;subst hm;exact Tp
 |d+1,pre,h,hm=>by
  unfold uY at hm;obtain⟨n,_,hm⟩:=S5.1 hm;have:=J' x d _ h hm;rw[SL,TG]at this;exact(BF.1 this).1
def tj (x:ak):Nat->Nat->List Int->Bool
 |k,0,h=>mR x k (h.getD k 0)
 |k,d+1,h=>mR x k (h.getD k 0)&&tj x (k+1) d h
theorem aaw(x:ak):∀(d:Nat)(pre:List Int),pre≠[]->jo x d pre=(uY x d pre).filter (tj x (pre.length-1) d)
 |0,pre,hp=>by
  unfold jo uY;rw[zb hp Tp];by_cases h:mR x (pre.length-1) (pre.getD (pre.length-1) 0)=true
  ·rw[if_pos h,WZ (by unfold tj;exact h)];rfl
  ·rw[if_neg h,W1 (by unfold tj;exact h)];rfl
 |d+1,pre,hp=>by
  have hl:0<pre.length:=VW.2 hp;by_cases h:mR x (pre.length-1) (pre.getLastD 0)=true
  ·unfold jo uY;rw[if_pos h,List.filter_flatMap];refine u6 λn _=> ?_;rw[aaw x d _ (by simp),SL,TG];refine Ve λg hg=> ?_;have hg:=J' x d _ g hg;rw[SL,TG]at hg;have hg:=(BF.1 hg).1;rw[zb hp hg]at h
   conv=>rhs;unfold tj
   rw[h,UP,Wh,Nat.sub_add_cancel hl]
  ·unfold jo;rw[if_neg h];symm;rw[YR];intro g hg;have hg:=J' x _ _ g hg;rw[zb hp hg]at h;unfold tj;rw[Tg];exactλe=>h e.1
def xr (x:ak)(h:List Int):Bool:=x.seen.all λs=>gT s.next (h.getD s.hour.toNat 0)
theorem Qg(x:ak)(h:List Int):∀(d k:Nat),tj x k d h=true<->∀j,k<=j->j<=k+d->mR x j (h.getD j 0)=true
 |0,k=>by
  unfold tj;refine⟨λe j h1 h2=>by rw[show j=k by omega];exact e,λe=>e k (SP _) (by omega)⟩
 |d+1,k=>by
  unfold tj;rw[Tg,Qg x h d (k+1)];refine⟨λe j h1 h2=> ?_,λe=>⟨e k (SP _) (by omega),λj h1 h2=>e j (by omega) (by omega)⟩⟩;by_cases hj:j=k
  ·rw[hj];exact e.1
  ·exact e.2 j (by omega) (by omega)
theorem arb{x:ak}(hx:x.Ok)(h:List Int):xr x h=tj x 0 x.hours.toNat h:=by
 rw[Vh,Qg];unfold xr mR;rw[Tw];refine⟨λe j _ hj=>Tw.2 λs hs=> ?_,λe s hs=> ?_⟩
 ·rw[Xb,T4,decide_eq_false_iff_not];by_cases vG:s.hour=j
  ·right;have:=e s hs;rw[vG,VI]at this;exact this
  ·exact .inl vG
 ·have dl:=(hx.seen s hs).1;have:=Tw.1 (e s.hour.toNat (XY _) (by omega)) s hs;rw[Xb,T4,decide_eq_false_iff_not]at this;rcases this with h|h
  ·omega
  ·exact h
theorem alw{x:ak}(hx:x.Ok):aM x=((oq (x.am.toNat+1) x.hours.toNat).map (ext [x.first])).filter (xr x):=by
 unfold aM;rw[aaw _ _ _ (by simp),Q6];refine Ve λg _=> ?_;rw[arb hx];rfl
def nP (x:ak)(l:List (List Int)):List Tr:=l.flatMap λst=>if xr x (ext [x.first] st)=true then gF x (ext [x.first] st)else[]
theorem Kw{α β:Type}{p:α->Bool}{f:α->List β}:∀l:List α,(l.filter p).flatMap f=l.flatMap λa=>if p a=true then f a else[]
 |[]=>rfl
 |a::l=>by
  by_cases h:p a=true
  ·rw[WZ h,T1,T1,Kw l,if_pos h]
  ·rw[W1 h,T1,Kw l,if_neg h];rfl
theorem aiq{x:ak}(hx:x.Ok):nP x (oq (x.am.toNat+1) x.hours.toNat)=cg x:=by
 unfold cg nP;rw[alw hx,Kw,VO]
def uy (h:List Int)(y:aB)(t:List Int):List (List Int):=((Eo h).filter λn=>fits h y n&& !t.contains n).map λn=>t++[n]
theorem RF(h:List Int):∀(ys:List aB)(L:List (List Int)),ys.foldl (λL y=>L.flatMap (uy h y)) L=L.flatMap (lO h ys)
 |[],L=>by
  rw[Z9,show lO h []=λt=>[t]from rfl];simp
 |y::ys,L=>by
  rw[UY,RF h ys,Zy];refine u6 λt _=> ?_;unfold uy;rw[VO];rfl
def ju (h:List Int)(ys:List aB):List (List Int):=ys.foldl (λL y=>L.flatMap (uy h y)) [[]]
theorem HK(h:List Int)(ys:List aB):ju h ys=lO h ys []:=by
 unfold ju;rw[RF,YB]
theorem abU(h:List Int)(ys:List aB)(y:aB):ju h (ys++[y])=(ju h ys).flatMap (uy h y):=by
 unfold ju;rw[Ya];rfl
def uz (h ns:List Int)(s:aB)(t:List Nat):List (List Nat):=((S0 ns.length).filter λp=>fits h s (ns.getD p 0)&& !t.contains p).map λp=>t++[p]
theorem RG(h ns:List Int):∀(ss:List aB)(L:List (List Nat)),ss.foldl (λL s=>L.flatMap (uz h ns s)) L=L.flatMap (nm h ns ss)
 |[],L=>by
  rw[Z9,show nm h ns []=λt=>[t]from rfl];simp
 |s::ss,L=>by
  rw[UY,RG h ns ss,Zy];refine u6 λt _=> ?_;unfold uz;rw[VO];rfl
def mj (h ns:List Int)(ss:List aB):List (List Nat):=ss.foldl (λL s=>L.flatMap (uz h ns s)) [[]]
theorem NA(h ns:List Int)(ss:List aB):mj h ns ss=nm h ns ss []:=by
 unfold mj;rw[RG,YB]
theorem abV(h ns:List Int)(ss:List aB)(s:aB):mj h ns (ss++[s])=(mj h ns ss).flatMap (uz h ns s):=by
 unfold mj;rw[Ya];rfl
end Go.Gg.Tk
namespace Go.Gg
open Go.Gg.Tk
namespace Tk
def stepJ (h:List Int)(y:aB)(t:List Int)(j:Nat):List (List Int):=(((S0 j).map λi:Nat=>h.headD 0+(i:Int)).filter λn=>fits h y n&& !t.contains n).map λn=>t++[n]
theorem ar5(h:List Int)(y:aB)(t:List Int)(j:Nat):stepJ h y t (j+1)=stepJ h y t j++if(fits h y (h.headD 0+(j:Int))&& !t.contains (h.headD 0+(j:Int)))=true then[t++[h.headD 0+(j:Int)]]else[]:=by
 unfold stepJ;rw[U4,Tn,ZR,Tn];congr 1;simp only[U5,List.map_nil,ZQ,ZH];split<;>rfl
theorem adC(h:List Int)(y:aB)(t:List Int):stepJ h y t (h.getLastD 0-h.headD 0).toNat=uy h y t:=rfl
theorem adD(h:List Int)(y:aB)(t:List Int)(j:Nat):(stepJ h y t j).length<=j:=by
 unfold stepJ;rw[Ta];refine TV (Y6 _ _) ?_;rw[Ta,ZY];exact SP _
def sG (h:List Int)(y:aB)(ls:List (List Int))(i:Nat):List (List Int):=(ls.take i).flatMap (uy h y)
theorem asj{h:List Int}{y:aB}{ls:List (List Int)}{i:Nat}{t:List Int}(ht:ls[i]?=some t):sG h y ls (i+1)=sG h y ls i++uy h y t:=by
 unfold sG;rw[Uq,ht,Un];simp
theorem yf{α β:Type}{f:α->List β}{m:Nat}:∀{l:List α},(∀a∈l,(f a).length<=m)->(l.flatMap f).length<=l.length* m
 |[],_=>by simp
 |a::l,h=>by
  have h1:=h a (by simp);have h2:=yf (l:=l) λb hb=>h b (by simp[hb]);rw[T1,SL,Ui,Vo];omega
theorem adG{h:List Int}(hs:h.getLastD 0-h.headD 0<=9)(y:aB)(t:List Int):(uy h y t).length<=9:=by
 rw[<- adC];have:=adD h y t (h.getLastD 0-h.headD 0).toNat;omega
theorem HL{h:List Int}(hs:h.getLastD 0-h.headD 0<=9):∀n ys,Ze ys=n->(ju h ys).length<=9^n
 |0,ys,e=>by
  obtain rfl:=UI e;exact SP 1
 |n+1,ys,e=>by
  have aG:ys≠[]:=λh=>by rw[h]at e;cases e
  rw[<- X5 aG,abU];have h1:=HL hs n ys.dropLast (by rw[YQ];omega);have h2:=yf (l:=ju h ys.dropLast) (f:=uy h (ys.getLast aG)) λt _=>adG hs _ t;rw[aa'];exact TV h2 (TK _ h1)
theorem asi{h:List Int}(hs:h.getLastD 0-h.headD 0<=9)(y:aB)(ls:List (List Int))(i:Nat):(sG h y ls i).length<=ls.length* 9:=by
 have h2:=yf (l:=ls.take i) (f:=uy h y) λt _=>adG hs _ t;have h3:(ls.take i).length<=ls.length:=by rw[TC];omega
 exact TV h2 (TK _ h3)
theorem aoa{h:List Int}{ys:List aB}{p:Nat}{y:aB}(hy:ys[p]?=some y):ju h (ys.take (p+1))=sG h y (ju h (ys.take p)) (ju h (ys.take p)).length:=by
 rw[Uq,hy];unfold sG;rw[Tp];exact abU _ _ _
def zB (h ns:List Int)(s:aB)(t:List Nat)(j:Nat):List (List Nat):=((S0 j).filter λp=>fits h s (ns.getD p 0)&& !t.contains p).map λp=>t++[p]
theorem ar6(h ns:List Int)(s:aB)(t:List Nat)(j:Nat):zB h ns s t (j+1)=zB h ns s t j++if(fits h s (ns.getD j 0)&& !t.contains j)=true then[t++[j]]else[]:=by
 unfold zB;rw[U4,ZR,Tn];congr 1;simp only[ZQ,ZH];split<;>rfl
theorem adE(h ns:List Int)(s:aB)(t:List Nat):zB h ns s t ns.length=uz h ns s t:=rfl
theorem adF(h ns:List Int)(s:aB)(t:List Nat)(j:Nat):(zB h ns s t j).length<=j:=by
 unfold zB;rw[Ta];refine TV (Y6 _ _) ?_;rw[ZY];exact SP _
def sH (h ns:List Int)(s:aB)(ls:List (List Nat))(i:Nat):List (List Nat):=(ls.take i).flatMap (uz h ns s)
theorem asm{h ns:List Int}{s:aB}{ls:List (List Nat)}{i:Nat}{t:List Nat}(ht:ls[i]?=some t):sH h ns s ls (i+1)=sH h ns s ls i++uz h ns s t:=by
 unfold sH;rw[Uq,ht,Un];simp
theorem adH{h ns:List Int}(hs:ns.length<=4)(s:aB)(t:List Nat):(uz h ns s t).length<=4:=by
 rw[<- adE];have:=adF h ns s t ns.length;omega
theorem HM{h ns:List Int}(hs:ns.length<=4):∀n ys,Ze ys=n->(mj h ns ys).length<=4^n
 |0,ys,e=>by
  obtain rfl:=UI e;exact SP 1
 |n+1,ys,e=>by
  have aG:ys≠[]:=λh=>by rw[h]at e;cases e
  rw[<- X5 aG,abV];have h1:=HM (h:=h) hs n ys.dropLast (by rw[YQ];omega);have h2:=yf (l:=mj h ns ys.dropLast) (f:=uz h ns (ys.getLast aG)) λt _=>adH hs _ t;rw[aa'];exact TV h2 (TK _ h1)
theorem asl{h ns:List Int}(hs:ns.length<=4)(s:aB)(ls:List (List Nat))(i:Nat):(sH h ns s ls i).length<=ls.length* 4:=by
 have h2:=yf (l:=ls.take i) (f:=uz h ns s) λt _=>adH hs _ t;have h3:(ls.take i).length<=ls.length:=by rw[TC];omega
 exact TV h2 (TK _ h3)
theorem aob{h ns:List Int}{ss:List aB}{p:Nat}{s:aB}(hs:ss[p]?=some s):mj h ns (ss.take (p+1))=sH h ns s (mj h ns (ss.take p)) (mj h ns (ss.take p)).length:=by
 rw[Uq,hs];unfold sH;rw[Tp];exact abV _ _ _ _
def mB (x:ak)(h:List Int)(ls:List (List Int))(i:Nat):List Tr:=(ls.take i).flatMap (sM x h)
theorem ait{x:ak}{h:List Int}{ls:List (List Int)}{i:Nat}{t:List Int}(ht:ls[i]?=some t):mB x h ls (i+1)=mB x h ls i++sM x h t:=by
 unfold mB;rw[Uq,ht,Un];simp
theorem as8{x:ak}{h t:List Int}(ht:t.length<=4)(hx:x.aC.length<=3):(sM x h t).length<=64:=by
 unfold sM;rw[Ta,<- NA];refine TV (HM ht _ _ rfl) ?_;exact UZ (by decide) hx
theorem QV{x:ak}{h:List Int}{ls:List (List Int)}(hl:∀t∈ls,t.length<=4)(hx:x.aC.length<=3)(i:Nat):(mB x h ls i).length<=ls.length* 64:=by
 have h2:=yf (l:=ls.take i) (f:=sM x h) λt ht=>as8 (hl t (VQ ht)) hx;have h3:(ls.take i).length<=ls.length:=by rw[TC];omega
 exact TV h2 (TK _ h3)
theorem aem(x:ak)(h:List Int):gF x h=mB x h (ju h x.pieces) (ju h x.pieces).length:=by
 unfold mB gF;rw[Tp,HK]
end Tk
open Go.Conc Go.Proofs Go.Gg.Tk
noncomputable def xY:Ub:=YX.body.getD .skip
section
variable {lv:Bool}{H:List aa}{k kp:AV->List aa->Prop}
theorem Rg{xs:List Int}{e:End}(hl:xs.length<=2^30)(hk:k (.sl xs.length (xs.map iv) (.opn H.length)) (H++[.tail xs.length 1 3])):bc lv SA 76 H [.sl xs.length (xs.map iv) e] k kp:=by
 refine bD (rs:=[.tmp 2]) (nt:=6) Tryz.f76 λhH hA=> ?_;simp only[bk,SU];have hlen:(xs.map iv).length=xs.length:=by simp
 have Hg:(xs.map iv).take xs.length=xs.map iv:=SV (by omega);refine aj ?_;refine ah ?_;simp only[seval,Hg,hlen];refine⟨hl,?_⟩;refine aZ ?_;exact b8 hk
structure Fq (x:ak)(h:List Int):Prop where
 len:(h.length:Int)=x.hours+1
 mono:qt h
 span:h.getLastD 0-h.headD 0<=9
 head:0<=h.headD 0/\h.headD 0<=90
theorem ajd{x:ak}{h:List Int}{Ψ:an->AS->Prop}(hx:x.Ok)(hh:Fq x h)(hH:bF H):
  aQ lv SA none 155 (cs (cf (lq 2 xY))) ⟨[(6,iv 0),(5,.sl 1 [.sl 0 [] .exact] .exact),(2,.op H.length 0),(1,aL h)],H++[.cells x.l 26]⟩ (an.then (λs'=>∃_:Unit,True/\s'.Sub ⟨[(5,lm (ju h x.pieces)),(2,.op H.length 0),(1,aL h)],H++[.cells x.l 26]⟩) Ψ):=by
 have yF:=hx.hours;have o1:=hx.ey;have hlen:=hh.len;have aa1:=hh.span;have alq:=hh.head;have hf:=λ(y:aB) (n:Int)=>Rq (h:=h) (y:=y) (n:=n) (by omega) (by omega) hh.mono;obtain⟨h0,Di⟩:=bK (xs:=h) (i:=0) (by omega);have hhd:h.headD 0=h0:=by cases h with|nil=>cases Di|cons a l=>cases Di;rfl
 obtain⟨hN,GG⟩:=bK (xs:=h) (i:=x.hours.toNat) (by omega);have fj:h.getLastD 0=hN:=by
  rw[Vv,Yv,show h.length-1=x.hours.toNat by omega,GG];rfl
 rw[hhd]at alq;have c_:T5 1 x.l=[iv x.hours,iv x.am,dt x.seen,aT x.pieces,aT x.aC]:=rfl;have AH:T5 4 x.l=[aT x.pieces,aT x.aC]:=rfl;obtain⟨B,hB⟩:∃B,B=H++[.cells x.l 26]:=⟨_,rfl⟩;have bN:∀L:List aa,(B++L)[H.length]?=some (.cells x.l 26):=λL=>by rw[hB,SC];exact aW H _ 0
 have bn0:B[H.length]?=some (.cells x.l 26):=by have:=bN [];rwa [SO]at this
 have bg:∀(L:List aa),(B++L)[B.length]?=L[0]?:=λL=>aW B L 0;have bs:∀(L:List aa)(y:aa),(B++L).set B.length y=B++L.set 0 y:=λL y=>dL B L 0 y;have kR:bF B:=by rw[hB];exact Du hH λz hz m=>by rw[S9.1 hz];exact Eg m x
 rw[<- hB];have sq:(0:Int)<=x.hours:=by omega
 obtain⟨hr,Dj⟩:∃hr:Nat,x.hours=hr:=⟨x.hours.toNat,by omega⟩;have Mn:x.hours.toNat=hr:=by omega
 rw[Mn]at GG;have qI:((0:Int)<=0/\(0:Int)<h.length)=True:=by simp;omega
 have akL:((0:Int)<h.length)=True:=by simp;omega
 have Gs:(0<=(hr:Int)/\(hr:Int)<h.length)=True:=by simp;omega
 have hsN:AV.shift (hr* 1) (.rp (h.map iv))=some (.rp (iv hN::(h.drop (hr+1)).map iv)):=by rw[XH];exact eg GG
 obtain⟨M,hM⟩:∃M:Nat,(h.getLastD 0-h.headD 0).toNat=M:=⟨_,rfl⟩;have hM9:M<=9:=by omega
 unfold xY YX;dsimp only[S7,lq,cs,cf];refine bU ?_;refine eI x.pieces.length (λp:Nat=>[(5,lm (ju h (x.pieces.take p))),(6,iv p)]) (λ_=>B) (λ_=>True) (λ_ _=>rfl) (by simp only[seval];simp only[a_,Wk.refl,and_true];exact O2 (.cons (e9 _ _ _) .nil)) rfl (λ_ _ _=>rfl) trivial (λbC bW p Dx _ R hR=> ?_);clear bC bW;refine ah ?_;simp only[seval,bn0,AH,aT];refine aD ?_;refine⟨λhc=> ?_,λhc=> ?_⟩
 ·have dz:p<x.pieces.length:=by omega
  have bJ:SD.wrap ((p:Int)+1)=((p+1:Nat):Int):=by rw[br _ (by omega)];rfl
  obtain⟨y,hy⟩:=bK dz;have hbp:(0<=(p:Int)/\(p:Int)<x.pieces.length)=True:=by simp;omega
  have qW:=BA hy;have fw:=HL (h:=h) aa1 p (x.pieces.take p) (by rw[TC];omega);have GP:(ju h (x.pieces.take p)).length<=729:=TV fw (UZ (by decide) (show p<=3 by omega));have aE:=aoa (h:=h) hy;rw[aE]at hR;have aa8:∀t∈ju h (x.pieces.take p),t.length<2^20:=λt ht=>by
   rw[HK]at ht;have:=Es ht;rw[TC]at this;simp at this;omega
  generalize ju h (x.pieces.take p)=ls at GP aa8 hR⊢;clear fw aE;refine aK ?_;refine aj ?_
  (repeat apply gp);refine oH (t:=7) (sz:=1) (el:=22) (by simp only[seval]<;>rfl) ?_
  simp only[seval];refine aj ?_;refine bU ?_;refine eI ls.length (λi:Nat=>[(7,.sl (sG h y ls i).length ((sG h y ls i).map aL) (.opn B.length)),(8,iv i)]) (λi=>B++[.tail (sG h y ls i).length 1 22]) (λ_=>True) (λ_ _=>rfl) (by simp only[seval];simp[a_,Wk.refl];exact Wk.refl _) rfl (λ_ _ _=>by simp) trivial (λbC bW i cK _ R2 jl=> ?_);clear bC bW;have oh:=asi (h:=h) aa1 y ls i;refine ah ?_;simp only[seval,lm];refine aD ?_;refine⟨λcq=> ?_,λcq=> ?_⟩
  ·have bx:i<ls.length:=(by omega);have eS:SD.wrap ((i:Int)+1)=((i+1:Nat):Int):=(by rw[br _ (by omega)];rfl);obtain⟨t,ht⟩:=bK bx;have fu:(0<=(i:Int)/\(i:Int)<ls.length)=True:=(by simp;omega);have uc:=asj (h:=h) (y:=y) ht;rw[uc]at jl;have yQ:=λj=>adD h y t j;have ua:=adC h y t;rw[hM]at ua;rw[<- ua]at jl;have dS:=λj=>ar5 h y t j;rw[hhd]at dS;generalize sG h y ls i=L0 at oh jl⊢;generalize stepJ h y t=J at yQ dS jl;have CV:J 0=[]:=UI (by have:=yQ 0;omega);clear uc ua;refine aK ?_;refine ah ?_;simp only[seval,aL,eg Di,qI,akL];refine bU ?_;refine eI M (λj:Nat=>[(7,.sl (L0++J j).length ((L0++J j).map aL) (.opn B.length)),(9,iv (h0+j))]) (λj=>B++[.tail (L0++J j).length 1 22]) (λ_=>True) (λ_ _=>rfl) (by rw[CV,SO];simp only[seval];simp[a_,Wk.refl]) (by rw[CV,SO]) (λ_ _ _=>by simp) trivial (λbC bW j mE _ R3 lB=> ?_);have amu:=yQ j;have xa:=dS j;have GO:(L0++J j).length<=8000:=(by rw[SL];omega);refine ah ?_;simp only[seval,bN,c_,Dj,eg GG,Gs];refine aD ?_;refine⟨λdw=> ?_,λdw=> ?_⟩
   ·have dP:j<M:=(by omega);have kW:SD.wrap (h0+(j:Int)+1)=h0+((j+1:Nat):Int):=(by rw[br _ (by omega)];omega);refine aK ?_;refine ah ?_;simp only[seval,bN,AH,aT,qW,hbp];refine aH ((Ke (h:=h) (y:=y) (n:=h0+(j:Int)) (by omega) ?_));rw[hf y];cases j_:fits h y (h0+(j:Int))with
    |false=>
     have rT:J (j+1)=J j:=(by rw[xa,j_];simp);(try simp only[seval]);refine aD ?_;refine aK ?_;refine ah ?_;simp only[seval,kW];refine lB _ ⟨dP,trivial,?_⟩;rw[rT];exact cz
    |true=>
     have od:t.length<2^20:=aa8 t (S8 ht);(try simp only[seval,v7 ht,fu,aL]);refine aH ((ai2 (xs:=t) (by omega) λv hv _ _=> ?_));(try simp only[seval]);refine aD ?_;refine⟨λjP=> ?_,λjP=> ?_⟩
     ·have tU:(h0+(j:Int))∉t:=λhm=>by have:=hv.2 hm;first|omega|(simp at jP;omega)
      have rT:L0++J (j+1)=(L0++J j)++[t++[h0+(j:Int)]]:=(by rw[xa,j_];simp[tU]);rw[rT]at lB;generalize L0++J j=W at GO lB⊢;have tG:(W.map aL).length=W.length:=Ta _;refine ah ?_;simp only[seval,v7 ht,fu,aL];refine aH ((Rg (xs:=t) (by omega) ?_));(try simp only[seval,z1,ur,wb,bg,bs,tG]);refine⟨by omega,by omega,?_⟩;refine ah ?_;simp only[seval,kW];refine lB _ ⟨dP,trivial,?_⟩;rw[SL,TG,Tn];refine uu [.tail (t.length+1) 1 3] (lL rfl rfl) ?_ (Dv kR _ _ _) ?_ (by simp)
      ·(try simp only[seval]);exact⟨⟨_,rfl,have h:=EX (l:=W.map aL) (show Wk (.sl (t.length+1) (t.map iv++[iv (h0+(j:Int))]) (.opn (B.length+1))) (aL (t++[h0+(j:Int)])) by rw[aL,SL,Tn];exact e9 _ _ _);zG h.len h.at⟩,_,rfl,Wk.refl _⟩
      ·rw[<- Tn];simp only[US,ec,Ef,iv];simp
     ·have tU:(h0+(j:Int))∈t:=hv.1 (by first|omega|(simp at jP;omega));have rT:J (j+1)=J j:=(by rw[xa,j_];simp[tU]);refine aK ?_;refine ah ?_;simp only[seval,kW];refine lB _ ⟨dP,trivial,?_⟩;rw[rT];exact cz
   ·have jU:j=M:=(by omega);subst jU;refine bR ?_;refine ah ?_;simp only[seval,eS];refine jl _ ⟨bx,trivial,cz⟩
  ·have jU:i=ls.length:=(by omega);subst jU;refine bR ?_;refine aj ?_;refine ah ?_;simp only[seval,bJ];refine hR _ ⟨dz,trivial,?_⟩;refine uu [.tail (sG h y ls ls.length).length 1 22] (lL rfl rfl) ?_ kR ?_ rfl
   ·(try simp only[seval]);simp only[a_,Wk.refl,and_true];exact e9 _ _ _
   ·simp only[US,ec,Bd,iv];simp
 ·have jU:p=x.pieces.length:=by omega
  subst jU;rw[Tp];refine bR ?_;exact⟨(),dY (by simp only[seval];simp[a_,Wk.refl]) rfl⟩
end
namespace Tk
def nl (os:List Nat):List Int:=os.map λn:Nat=>(n:Int)
def Tr.al (u:Tr):List AV:=[aL u.bI,aL u.aA,aL (nl u.bX)]
def lN (ls:List (List Nat)):List AV:=ls.map λt=>aL (nl t)
end Tk
theorem Tr.FF(u:Tr):u.al.length=3:=rfl
theorem zA3:gG (TA #[TL none 0 0,TL none 0 0,TL none 0 0]) 3=[.sl 0 [] .exact,.sl 0 [] .exact,.sl 0 [] .exact]:=rfl
theorem apb:(3<=2^24)=True:=eq_true (by decide)
theorem NI(ls:List (List Nat)):(lN ls).length=ls.length:=Ta _
theorem OA{ls:List (List Nat)}{i:Nat}{t:List Nat}(h:ls[i]?=some t):AV.shift i (.rp (lN ls))=some (.rp (aL (nl t)::lN (ls.drop (i+1)))):=by
 have:=OE (f:=λt=>aL (nl t)) h;rwa [XH]at this
theorem rc(t:List Nat):(nl t).length=t.length:=Ta _
theorem aoF{t:List Nat}{j:Nat}:((j:Nat):Int)∈nl t<->j∈t:=by
 unfold nl;rw[Tm];constructor
 ·rintro⟨a,h,e⟩
  have:a=j:=by omega
  rw[<- this];exact h
 ·exactλh=>⟨j,h,rfl⟩
theorem an8(n m k:Nat)(ls:List (List Nat)):Lt n (.sl m (lN ls) (.opn k))=(k<n):=by
 have e:lN ls=(ls.map nl).map aL:=by unfold lN;rw[WR];rfl
 rw[e];exact Ef n m k _
theorem an9(n m:Nat)(ls:List (List Nat)):Lt n (.sl m (lN ls) .shut)=True:=by
 have e:lN ls=(ls.map nl).map aL:=by unfold lN;rw[WR];rfl
 rw[e,qb];have:=Bd n (ls.map nl);rw[lm,qb]at this;exact this
section
variable {lv:Bool}{H:List aa}{k kp:AV->List aa->Prop}
theorem ai3{o:List Nat}{n:Int}{e:End}(hl:o.length<2^20)(hk:k (iv (rK (nl o) n)) H):bc lv SA 27 H [.sl o.length ((nl o).map iv) e,iv n] k kp:=by
 have:=Ra (lv:=lv) (H:=H) (k:=k) (kp:=kp) (xs:=nl o) (n:=n) (e:=e) (by rw[rc];omega) hk;rwa [rc]at this
theorem ajr{o:List Nat}{e:End}(hl:o.length<2^20)(hk:k (.sl o.length ((nl o).map iv) (.opn H.length)) (H++[.tail o.length 1 3])):bc lv SA 76 H [.sl o.length ((nl o).map iv) e] k kp:=by
 have:=Rg (lv:=lv) (H:=H) (k:=k) (kp:=kp) (xs:=nl o) (e:=e) (by rw[rc];omega) (by rw[rc];exact hk);rwa [rc]at this
theorem aje{x:ak}{h:List Int}{ls:List (List Int)}{Ψ:an->AS->Prop}(hx:x.Ok)(hh:Fq x h)(hH:bF H)(hls:ls.length<=6561)(hlt:∀t∈ls,t.length=x.pieces.length):
  aQ lv SA none 155 (cs (cf (lq 4 xY))) ⟨[(11,iv 0),(10,.sl 0 [] (.opn (H.length+1))),(5,lm ls),(2,.op H.length 0),(1,aL h)],H++[.cells x.l 26,.tail 0 3 39]⟩ (an.then (λs'=>∃_:Unit,True/\s'.Sub ⟨[(10,.sl (mB x h ls ls.length).length ((mB x h ls ls.length).flatMap Tr.al) (.opn (H.length+1)))],H++[.cells x.l 26,.tail (mB x h ls ls.length).length 3 39]⟩) Ψ):=by
 have yF:=hx.hours;have o1:=hx.ey;have aP:=hx.dp;have hlen:=hh.len;have hf:=λ(y:aB) (n:Int)=>Rq (h:=h) (y:=y) (n:=n) (by omega) (by omega) hh.mono;have AH:T5 4 x.l=[aT x.pieces,aT x.aC]:=rfl;have pJ:T5 5 x.l=[aT x.aC]:=rfl;have bN:∀L:List aa,(H++L)[H.length]?=L[0]?:=λL=>aW H L 0;have aq:∀o,(∀m,e_ m o)->bF (H++[.cells x.l 26,o]):=λo ho=>Du hH λz hz m=>by
  simp only[SK,SZ,or_false]at hz;rcases hz with rfl|rfl
  ·exact Eg m x
  ·exact ho m
 obtain⟨B,hB⟩:∃B:Nat->List aa,∀m,B m=H++[.cells x.l 26,.tail m 3 39]:=⟨_,λ_=>rfl⟩;have dH:∀m,(B m).length=H.length+2:=λm=>by rw[hB];simp
 have b0:∀m L,(B m++L)[H.length]?=some (.cells x.l 26):=λm L=>by rw[hB,SC,bN];rfl
 have Js:∀m,(B m)[H.length]?=some (.cells x.l 26):=λm=>by rw[hB,bN];rfl
 have b1:∀m,(B m)[H.length+1]?=some (.tail m 3 39):=λm=>by rw[hB,aW];rfl
 have s1:∀m m',(B m).set (H.length+1) (.tail m' 3 39)=B m':=λm m'=>by rw[hB,hB,dL];rfl
 have bg:∀m (L:List aa),(B m++L)[H.length+2]?=L[0]?:=λm L=>by rw[<- dH m];exact aW (B m) L 0
 have bs:∀m (L:List aa)(y:aa),(B m++L).set (H.length+2) y=B m++L.set 0 y:=λm L y=>by rw[<- dH m];exact dL (B m) L 0 y
 have kR:∀m,bF (B m):=λm=>by rw[hB];exact aq _ λ_=>trivial
 have aar:mB x h ls 0=[]:=rfl;rw[<- hB 0,<- hB];unfold xY YX;dsimp only[S7,lq,cs,cf];refine bU ?_;refine eI ls.length (λi:Nat=>[(10,.sl (mB x h ls i).length ((mB x h ls i).flatMap Tr.al) (.opn (H.length+1))),(11,iv i)]) (λi=>B (mB x h ls i).length) (λ_=>True) (λ_ _=>rfl) (by rw[aar];simp only[seval];simp[a_,Wk.refl]) (by rw[aar];rfl) (λ_ _ _=>by rw[dH,dH]) trivial (λbC bW i cK _ R hR=> ?_);clear bC bW;have MG:=QV (h:=h) (λt ht=>by rw[hlt t ht];exact o1) aP i;refine ah ?_;simp only[seval,lm];refine aD ?_;refine⟨λhc=> ?_,λhc=> ?_⟩
 ·have bx:i<ls.length:=by omega
  have bJ:SD.wrap ((i:Int)+1)=((i+1:Nat):Int):=by rw[br _ (by omega)];rfl
  obtain⟨t,ht⟩:=bK bx;have od:=hlt t (S8 ht);have fu:(0<=(i:Int)/\(i:Int)<ls.length)=True:=by simp;omega
  have AJ:=ait (x:=x) (h:=h) ht;rw[AJ]at hR;generalize mB x h ls i=E at MG hR⊢;clear AJ;refine aK ?_;refine ah ?_;simp only[seval,wb,zo];refine aj ?_;refine bU ?_;refine eI x.aC.length (λs:Nat=>[(12,.sl (mj h t (x.aC.take s)).length (lN (mj h t (x.aC.take s))) .shut),(13,iv s)]) (λ_=>B E.length) (λ_=>True) (λ_ _=>rfl) (by simp only[seval];simp only[a_,Wk.refl,and_true];exact O2 (.cons (e9 _ _ _) .nil)) rfl (λ_ _ _=>rfl) trivial (λbC bW s yS _ R2 jl=> ?_);clear bC bW;refine ah ?_;simp only[seval,Js,pJ,aT];refine aD ?_;refine⟨λcq=> ?_,λcq=> ?_⟩
  ·have cy:s<x.aC.length:=(by omega);have eS:SD.wrap ((s:Int)+1)=((s+1:Nat):Int):=(by rw[br _ (by omega)];rfl);obtain⟨y,hy⟩:=bK cy;have Gu:(0<=(s:Int)/\(s:Int)<x.aC.length)=True:=(by simp;omega);have qW:=BA hy;have qS:=HM (h:=h) (ns:=t) (by omega) s (x.aC.take s) (by rw[TC];omega);have L_:(mj h t (x.aC.take s)).length<=16:=TV qS (UZ (by decide) (show s<=2 by omega));have hot:∀o∈mj h t (x.aC.take s),o.length<2^20:=λo ho=>by
    rw[NA]at ho;have:=(NS ho (by simp)).1;rw[TC]at this;simp only[UA]at this;omega
   have aE:=aob (h:=h) (ns:=t) hy;rw[aE]at jl;generalize mj h t (x.aC.take s)=os at L_ hot jl⊢;clear qS aE;refine aK ?_;refine aj ?_
   (repeat apply gp);refine oH (t:=14) (sz:=1) (el:=22) (by simp only[seval]<;>rfl) ?_
   simp only[seval,dH];refine aj ?_;refine bU ?_;refine eI os.length (λq:Nat=>[(14,.sl (sH h t y os q).length (lN (sH h t y os q)) (.opn (H.length+2))),(15,iv q)]) (λq=>B E.length++[.tail (sH h t y os q).length 1 22]) (λ_=>True) (λ_ _=>rfl) (by simp only[seval];simp[a_,Wk.refl];exact Wk.refl _) rfl (λ_ _ _=>by simp) trivial (λbC bW q vC _ R3 lB=> ?_);clear bC bW;have oh:=asl (h:=h) (ns:=t) (by omega) y os q;refine aj ?_;refine aD ?_;refine⟨λdw=> ?_,λdw=> ?_⟩
   ·have ie:q<os.length:=(by omega);have kW:SD.wrap ((q:Int)+1)=((q+1:Nat):Int):=(by rw[br _ (by omega)];rfl);obtain⟨o,ho⟩:=bK ie;have AW:=hot o (S8 ho);have oS:(0<=(q:Int)/\(q:Int)<os.length)=True:=(by simp;omega);have uc:=asm (h:=h) (ns:=t) (s:=y) ho;rw[uc]at lB;have yQ:=λj=>adF h t y o j;have ua:=adE h t y o;rw[od]at ua;rw[<- ua]at lB;have dS:=λj=>ar6 h t y o j;generalize sH h t y os q=L0 at oh lB⊢;generalize zB h t y o=J at yQ dS lB;have CV:J 0=[]:=UI (by have:=yQ 0;omega);clear uc ua;refine aK ?_;refine aj ?_;refine bU ?_;refine eI x.pieces.length (λj:Nat=>[(14,.sl (L0++J j).length (lN (L0++J j)) (.opn (H.length+2))),(16,iv j)]) (λj=>B E.length++[.tail (L0++J j).length 1 22]) (λ_=>True) (λ_ _=>rfl) (by rw[CV,SO];simp only[seval];simp[a_,Wk.refl]) (by rw[CV,SO]) (λ_ _ _=>by simp) trivial (λbC bW j mE _ R4 CY=> ?_);have amu:=yQ j;have xa:=dS j;have GO:(L0++J j).length<=100:=(by rw[SL];omega);refine ah ?_;simp only[seval,b0,AH,aT];refine aD ?_;refine⟨λjP=> ?_,λjP=> ?_⟩
    ·have dP:j<x.pieces.length:=(by omega);have uf:SD.wrap ((j:Int)+1)=((j+1:Nat):Int):=(by rw[br _ (by omega)];rfl);obtain⟨n,hn⟩:=bK (xs:=t) (i:=j) (by omega);have wX:t.getD j 0=n:=(by rw[SE,hn];rfl);rw[wX]at xa;have lZ:(0<=(j:Int)/\(j:Int)<(t.length:Int))=True:=(by simp;omega);refine aK ?_;refine bU ?_;cases j_:fits h y n with
     |false=>
      have rT:J (j+1)=J j:=(by rw[xa,j_];simp);refine eO 23 ?_;simp only[seval,b0,pJ,aT,qW,Gu,v7 ht,fu,eg hn,lZ,aL];refine ij (bv false) (cC (Ke (h:=h) (y:=y) (n:=n) (by omega) ⟨by rw[hf,j_],rfl⟩)) ?_;(try simp only[seval]);refine aD ?_;refine aK ?_;refine ah ?_;simp only[seval,uf];refine CY _ ⟨dP,trivial,?_⟩;rw[rT];exact cz
     |true=>
      refine eO 23 ?_;simp only[seval,b0,pJ,aT,qW,Gu,v7 ht,fu,eg hn,lZ,aL];refine ij (bv true) (cC (Ke (h:=h) (y:=y) (n:=n) (by omega) ⟨by rw[hf,j_],rfl⟩)) ?_;have ai:=(FI (nl o) j).1;(try simp only[seval,OA ho,oS,NI,aL,rc]);refine ij (iv (rK (nl o) j)) (cC (ai3 (o:=o) AW ⟨rfl,rfl⟩)) ?_;rw[aoF]at ai;generalize rK (nl o) j=v at ai⊢;(try simp only[seval]);refine aD ?_;refine⟨λb_=> ?_,λb_=> ?_⟩
      ·have tU:j∉o:=λhm=>by have:=ai.2 hm;first|omega|(simp at b_;omega)
       have rT:L0++J (j+1)=(L0++J j)++[o++[j]]:=(by rw[xa,j_];simp[tU]);rw[rT]at CY;generalize L0++J j=W at GO CY⊢;have tG:=NI W;refine ah ?_;simp only[seval,OA ho,oS,aL,rc];refine aH ((ajr (o:=o) AW ?_));(try simp only[seval,z1,ur,wb,bg,bs,tG,rc]);refine⟨by omega,by omega,?_⟩;refine ah ?_;simp only[seval,uf];refine CY _ ⟨dP,trivial,?_⟩;rw[SL,TG,show lN (W++[o++[j]])=lN W++[aL (nl (o++[j]))] by unfold lN;rw[Tn];rfl];refine uu [.tail (o.length+1) 1 3] (lL rfl rfl) ?_ (Dv (kR _) _ _ _) ?_ (by simp)
       ·(try simp only[seval]);exact⟨⟨_,rfl,have h:=EX (l:=lN W) (show Wk (.sl (o.length+1) ((nl o).map iv++[iv (j:Int)]) (.opn ((B E.length).length+1))) (aL (nl (o++[j]))) by rw[aL,rc,SL,show nl (o++[j])=nl o++[(j:Int)] by unfold nl;rw[Tn];rfl,Tn];exact e9 _ _ _);zG h.len h.at⟩,_,rfl,Wk.refl _⟩
       ·rw[show lN W++[aL (nl (o++[j]))]=lN (W++[o++[j]]) by unfold lN;rw[Tn];rfl];simp only[US,ec,an8,iv];simp[dH]
      ·have tU:j∈o:=ai.1 (by first|omega|(simp at b_;omega));have rT:J (j+1)=J j:=(by rw[xa,j_];simp[tU]);refine aK ?_;refine ah ?_;simp only[seval,uf];refine CY _ ⟨dP,trivial,?_⟩;rw[rT];exact cz
    ·have jU:j=x.pieces.length:=(by omega);subst jU;refine bR ?_;refine ah ?_;simp only[seval,kW];refine lB _ ⟨ie,trivial,cz⟩
   ·have jU:q=os.length:=(by omega);subst jU;refine bR ?_;refine aj ?_;refine ah ?_;simp only[seval,eS];refine jl _ ⟨cy,trivial,?_⟩;refine uu [.tail (sH h t y os os.length).length 1 22] (lL rfl rfl) ?_ (kR _) ?_ rfl
    ·(try simp only[seval]);simp only[a_,Wk.refl,and_true];exact e9 _ _ _
    ·simp only[US,ec,an9,iv];simp
  ·have jU:s=x.aC.length:=(by omega);subst jU;rw[Tp];refine bR ?_;refine aj ?_;have qS:=HM (h:=h) (ns:=t) (by omega) _ x.aC rfl;have L_:(mj h t x.aC).length<=64:=TV qS (UZ (by decide) aP);have tU:sM x h t=(mj h t x.aC).map λos=>⟨h,t,os⟩:=(by rw[NA];rfl);rw[tU]at hR;generalize mj h t x.aC=os at L_ hR⊢;clear qS tU;obtain⟨mk,mG⟩:∃mk:Nat->List Tr,∀q,mk q=(os.take q).map λo=>⟨h,t,o⟩:=⟨_,λ_=>rfl⟩;have h_:mk 0=[]:=(by rw[mG];rfl);have Do:mk os.length=os.map λo=>⟨h,t,o⟩:=(by rw[mG,Tp]);have yK:∀q,q<=os.length->(mk q).length=q:=λq hq=>(by rw[mG,Ta,TC];omega);refine bU ?_;refine eI os.length (λq:Nat=>[(10,.sl (E++mk q).length ((E++mk q).flatMap Tr.al) (.opn (H.length+1))),(17,iv q)]) (λq=>B (E++mk q).length) (λ_=>True) (λ_ _=>rfl) (by rw[h_,SO];simp only[seval];simp[a_,Wk.refl]) (by rw[h_,SO]) (λ_ _ _=>by rw[dH,dH]) trivial (λbC bW q vC _ R5 K2=> ?_);clear bC bW;refine aj ?_;refine aD ?_;refine⟨λb_=> ?_,λb_=> ?_⟩
   ·have ie:q<os.length:=(by omega);have MI:SD.wrap ((q:Int)+1)=((q+1:Nat):Int):=(by rw[br _ (by omega)];rfl);obtain⟨o,ho⟩:=bK ie;have oS:(0<=(q:Int)/\(q:Int)<os.length)=True:=(by simp;omega);have n3:E++mk (q+1)=(E++mk q)++[⟨h,t,o⟩]:=(by rw[mG,mG,Uq,ho];simp);have alF:(E++mk q).length<=2^20:=(by rw[SL,yK q (by omega)];omega);rw[n3]at K2;generalize E++mk q=W at alF K2⊢;have tG:(W.flatMap Tr.al).length=W.length* 3:=ze Tr.FF _;refine aK ?_;refine bU ?_;refine nI [12] [0,1,2,3,4,5,6,7,8,9,10,11,12,13] [⟨0,false,[],[]⟩,⟨1,false,[],[]⟩,⟨2,false,[],[]⟩,⟨3,false,[],[]⟩,⟨4,false,[],[]⟩,⟨5,false,[],[]⟩,⟨6,false,[],[]⟩,⟨7,false,[],[]⟩,⟨8,false,[],[]⟩,⟨9,false,[],[]⟩,⟨10,false,[],[]⟩,⟨11,false,[],[]⟩,⟨12,true,[12],[]⟩,⟨13,false,[12],[]⟩] (λD=>bif isDone 12 D then B (W.length+1)else B W.length) ?_;simp only[seval,zA3,apb,v7 ht,fu,OA ho,oS,b1,s1,tG,aL,NI,rc];refine⟨by omega,?_⟩;refine ah ?_;simp only[seval,MI];refine K2 _ ⟨ie,trivial,?_⟩;rw[SL,TG,Un,show ([⟨h,t,o⟩]:List Tr).flatMap Tr.al=[.sl h.length (h.map iv) .shut,.sl t.length (t.map iv) .shut,.sl o.length ((nl o).map iv) .shut] by simp[Tr.al,aL,rc]];exact cz
   ·have jU:q=os.length:=(by omega);subst jU;refine bR ?_;rw[Do]at*;refine ah ?_;simp only[seval,bJ];refine hR _ ⟨bx,trivial,cz⟩
 ·have jU:i=ls.length:=by omega
  subst jU;refine bR ?_;exact⟨(),dY (by simp only[seval];simp[a_,Wk.refl]) rfl⟩
end
open Go.Gg.Tk
namespace Tk
theorem Q5{first:Int}{st:List Int}{i:Nat}{a:Int}(h:st[i]?=some a):ext [first] (st.take (i+1))=ext [first] (st.take i)++[(ext [first] (st.take i)).getLastD 0+a]:=by
 rw[Uq,h];exact Q4 _ _ _
theorem J_{first am:Int}{st:List Int}(hs:∀a∈st,0<=a/\a<=am):∀i,i<=st.length->ny first am (ext [first] (st.take i)) i
 |0,_=>⟨rfl,rfl,λj hj=>absurd hj (by omega)⟩
 |i+1,hi=>by
  have ih:=J_ (first:=first) hs i (by omega);obtain⟨a,ha⟩:=bK (xs:=st) (i:=i) (by omega);have tI:=hs a (S8 ha);rw[Q5 ha,D9 ih];generalize ext [first] (st.take i)=l at ih⊢;have hl:=ih.len;refine⟨by rw[SL,hl];rfl,?_,λj hj=> ?_⟩
  ·rw[wH (by omega)];exact ih.head
  ·by_cases e:j=i
   ·subst e;rw[RQ hl,wH (by omega)];omega
   ·rw[wH (by omega),wH (by omega)];exact ih.step j (by omega)
theorem aip(x:ak)(l:List (List Int))(st:List Int):nP x (l++[st])=nP x l++if xr x (ext [x.first] st)=true then gF x (ext [x.first] st)else[]:=by
 unfold nP;rw[Un];simp
theorem aio{x:ak}{m:Nat}:∀{l:List (List Int)},(∀st∈l,(gF x (ext [x.first] st)).length<=m)->(nP x l).length<=l.length* m:=λ{l} h=>by
 unfold nP;refine yf λst hs=> ?_;split
 ·exact h st hs
 ·exact XY _
theorem as7{x:ak}{h:List Int}(hx:x.Ok)(hs:h.getLastD 0-h.headD 0<=9):(gF x h).length<=419904:=by
 have hp:=hx.ey;rw[aem];have h1:=HL hs _ x.pieces rfl;have h2:(ju h x.pieces).length<=6561:=TV h1 (UZ (by decide) hp);have h3:=QV (x:=x) (h:=h) (ls:=ju h x.pieces) (λt ht=>by
  rw[HK]at ht;have:=Es ht;simp only[UA]at this;omega) hx.dp (ju h x.pieces).length
 omega
end Tk
open Go.Conc Go.Proofs Go.Gg.Tk
noncomputable def c17:Ub:=ar'.body.getD .skip
namespace Tk
def s8 (l:List Tr):AV:=.sl l.length (l.flatMap Tr.al) .shut
end Tk
theorem Ny(n:Nat)(l:List Tr):Lt n (s8 l)=True:=by
 rw[s8,qb,eq_iff_iff];refine⟨λ_=>trivial,λ_ a ha=> ?_⟩;obtain⟨u,_,h⟩:=S5.1 ha;simp only[Tr.al,SK,SZ,or_false]at h;rcases h with rfl|rfl|rfl<;>(rw[zg];trivial)
theorem abP(n m k:Nat)(l:List Tr):Lt n (.sl m (l.flatMap Tr.al) (.opn k))=(k<n):=by
 rw[abS,eq_iff_iff];refine⟨λh=>h.1,λh=>⟨h,λa ha=> ?_⟩⟩;have:=Ny n l;rw[s8,qb]at this;exact this.mpr trivial a ha
section
variable {lv:Bool}{H:List aa}{k kp:AV->List aa->Prop}
theorem ajf{x:ak}{h:List Int}{e:End}(hx:x.Ok)(hh:Fq x h)(hk:k (s8 (gF x h)) H):bc lv SA 50 H [x.av,.sl h.length (h.map iv) e] k kp:=by
 refine bD (rs:=[.tmp 4]) (nt:=155) YX λhH hA=> ?_;simp only[bk,SU];refine iG (s':=⟨[(1,aL h),(0,x.av)],H⟩) ?_ ?_
 ·exact dY (by simp only[US,SZ,false_imp_iff,implies_true,List.forall_mem_nil,and_true];exact⟨⟨_,rfl,e9 _ _ _⟩,⟨_,rfl,Wk.refl _⟩⟩) rfl
 simp only[ak.av];refine aj ?_;refine ah ?_;simp only[seval,wb,zo];refine aj ?_;refine Cr (α:=Unit) (λ_=>⟨[(5,lm (ju h x.pieces)),(2,.op H.length 0),(1,aL h)],H++[.cells x.l 26]⟩) (λ_=>True) ?_ (λ_ _=> ?_)
 ·refine iG (s':=⟨[(6,iv 0),(5,.sl 1 [.sl 0 [] .exact] .exact),(2,.op H.length 0),(1,aL h)],H++[.cells x.l 26]⟩) ?_ (ajd hx hh hH);exact dY (by simp only[seval];simp[a_,Wk.refl]) rfl
 have fw:=HL (h:=h) hh.span _ x.pieces rfl;have GP:(ju h x.pieces).length<=6561:=TV fw (UZ (by decide) hx.ey);have hlt:∀t∈ju h x.pieces,t.length=x.pieces.length:=λt ht=>by
  rw[HK]at ht;have:=Es ht;simp only[UA]at this;omega
 have eQ:=aem x h;generalize ju h x.pieces=ls at GP hlt eQ⊢;refine aj ?_
 (repeat apply gp);refine oH (t:=10) (sz:=3) (el:=39) (by simp only[seval]<;>rfl) ?_
 simp only[seval];refine aj ?_;refine Cr (α:=Unit) (λ_=>⟨[(10,.sl (mB x h ls ls.length).length ((mB x h ls ls.length).flatMap Tr.al) (.opn (H.length+1)))],H++[.cells x.l 26,.tail (mB x h ls ls.length).length 3 39]⟩) (λ_=>True) ?_ (λ_ _=> ?_)
 ·refine iG (s':=⟨[(11,iv 0),(10,.sl 0 [] (.opn (H.length+1))),(5,lm ls),(2,.op H.length 0),(1,aL h)],H++[.cells x.l 26,.tail 0 3 39]⟩) ?_ (aje hx hh hH GP hlt);exact dY (by simp only[seval];simp[a_,Wk.refl]) rfl
 rw[<- eQ];refine aj ?_;refine aZ ?_;exact iH (b:=s8 (gF x h)) hH (e9 _ _ _) (by rw[Ny];trivial) hk
theorem aiV{x:ak}(hx:x.Ok)(hk:k (s8 (cg x)) H):bc lv SA 17 H [x.av] k kp:=by
 refine bD (rs:=[.tmp 2]) (nt:=93) ar' λhH hA=> ?_;simp only[bk,SU,ak.av];have yF:=hx.hours;have G4:=hx.am;have g_:=hx.first;have yS:=hx.zw;have c_:T5 1 x.l=[iv x.hours,iv x.am,dt x.seen,aT x.pieces,aT x.aC]:=rfl;have kF:T5 2 x.l=[iv x.am,dt x.seen,aT x.pieces,aT x.aC]:=rfl;have rY:T5 3 x.l=[dt x.seen,aT x.pieces,aT x.aC]:=rfl;have bS:x.l=[iv x.first,iv x.hours,iv x.am,dt x.seen,aT x.pieces,aT x.aC]:=rfl;have bu:x.l.length=6:=rfl;have ek:Uh 6 x.l=x.l:=rfl;obtain⟨hr,Dj⟩:∃hr:Nat,x.hours=hr:=⟨x.hours.toNat,by omega⟩;have Mn:x.hours.toNat=hr:=by omega
 obtain⟨pn,Dx⟩:∃pn:Nat,x.am+1=pn:=⟨(x.am+1).toNat,by omega⟩;have mH:x.am.toNat+1=pn:=by omega
 have bN:∀L:List aa,(H++L)[H.length]?=L[0]?:=λL=>aW H L 0;refine aj ?_;refine Jm [1,2] ?_;show aQ _ _ _ _ _ ⟨[(1,.op H.length 0),(2,.sl 0 [] .exact)],_⟩ _;refine aj ?_
 (repeat apply gp);refine oH (t:=3) (sz:=3) (el:=39) (by simp only[seval]<;>rfl) ?_
 simp only[seval];have A9:SD.wrap (x.am+1)=(pn:Int):=by rw[br _ (by omega)];exact Dx
 refine ah ?_;simp only[seval,bN,c_,kF,A9,Dj];refine aH ((Re hr (n:=pn) (by omega) (by omega) ?_));have ce:=aiq hx;rw[Mn,mH]at ce;obtain⟨amt,Ha⟩:=abM pn (by omega) hr (by omega);generalize oq pn hr=steps at ce amt Ha⊢;(try simp only[seval]);obtain⟨B,hB⟩:∃B:Nat->List aa,∀m,B m=H++[.cells x.l 26,.tail m 3 39]:=⟨_,λ_=>rfl⟩;have dH:∀m,(B m).length=H.length+2:=λm=>by rw[hB];simp
 have b0:∀m L,(B m++L)[H.length]?=some (.cells x.l 26):=λm L=>by rw[hB,SC,bN];rfl
 have Js:∀m,(B m)[H.length]?=some (.cells x.l 26):=λm=>by rw[hB,bN];rfl
 have b1:∀m L,(B m++L)[H.length+1]?=some (.tail m 3 39):=λm L=>by rw[hB,SC,aW];rfl
 have s1:∀m m' L,(B m++L).set (H.length+1) (.tail m' 3 39)=B m'++L:=λm m' L=>by rw[hB,hB,SC,dL,SC];rfl
 have bg:∀m (L:List aa),(B m++L)[H.length+2]?=L[0]?:=λm L=>by rw[<- dH m];exact aW (B m) L 0
 have bs:∀m (L:List aa)(y:aa),(B m++L).set (H.length+2) y=B m++L.set 0 y:=λm L y=>by rw[<- dH m];exact dL (B m) L 0 y
 have kR:∀m,bF (B m):=λm=>by
  rw[hB];refine Du hH λz hz m'=> ?_;simp only[SK,SZ,or_false]at hz;rcases hz with rfl|rfl
  ·exact Eg m' x
  ·trivial
 rw[<- hB 0];have Sa:∀i,(nP x (steps.take i)).length<=256* 419904:=λi=>by
  have h1:=aio (x:=x) (l:=steps.take i) (m:=419904) λst aP=>by
   have aP:=Ha st (VQ aP);have hH:=J_ (first:=x.first) (am:=x.am) (st:=st) (λa ha=>by have:=aP.2 a ha;omega) hr (by omega);rw[SV (by omega)]at hH;refine as7 hx ?_;rw[D9 hH,GB hH];have:=hH.top g_ G4 (by omega) hr (SP _);omega
  have h2:(steps.take i).length<=256:=by rw[TC];omega
  exact TV h1 (TK _ h2)
 refine aj ?_;refine bU ?_;refine eI steps.length (λi:Nat=>[(3,.sl (nP x (steps.take i)).length ((nP x (steps.take i)).flatMap Tr.al) (.opn (H.length+1))),(5,iv i)]) (λi=>B (nP x (steps.take i)).length) (λ_=>True) (λ_ _=>rfl) (by rw[Za,show nP x []=[]from rfl];simp only[seval];simp[a_,Wk.refl]) (by rw[Za];rfl) (λ_ _ _=>by rw[dH,dH]) trivial (λbC bW i cK _ R hR=> ?_);clear bC bW;refine ah ?_;simp only[seval,lm];refine aD ?_;refine⟨λhc=> ?_,λhc=> ?_⟩
 ·have bx:i<steps.length:=by omega
  have bJ:SD.wrap ((i:Int)+1)=((i+1:Nat):Int):=by rw[br _ (by omega)];rfl
  obtain⟨st,aP⟩:=bK bx;obtain⟨cy,ua⟩:=Ha st (S8 aP);have hEi:=Sa i;have Sb:nP x (steps.take (i+1))=nP x (steps.take i)++if xr x (ext [x.first] st)=true then gF x (ext [x.first] st)else[]:=by
   rw[Uq,aP];exact aip _ _ _
  have Au:=Sa (i+1);rw[Sb]at hR Au;generalize nP x (steps.take i)=E at hEi hR Au⊢;clear Sb;have aas:=λj=>J_ (first:=x.first) (am:=x.am) (st:=st) (λa ha=>by have:=ua a ha;omega) j;obtain⟨G,hG⟩:∃G:Nat->List Int,∀j,G j=ext [x.first] (st.take j):=⟨_,λ_=>rfl⟩;have hG0:G 0=[x.first]:=by rw[hG];rfl
  simp only[<- hG]at aas;have fu:(0<=(i:Int)/\(i:Int)<steps.length)=True:=by simp;omega
  refine aK ?_;refine ah ?_;simp only[seval,z1,ur,Js,bS]
  (repeat apply gp);refine oH (t:=6) (sz:=1) (el:=3) (by simp only[seval]<;>rfl) ?_
  simp only[seval,dH];refine aj ?_;refine bU ?_;refine eI hr (λj:Nat=>[(6,.sl (j+1) ((G j).map iv) (.opn (H.length+2))),(7,iv j)]) (λj=>B E.length++[.tail (j+1) 1 3]) (λ_=>True) (λ_ _=>rfl) (by rw[hG0];simp only[seval];simp[a_,Wk.refl]) rfl (λ_ _ _=>by simp) trivial (λbC bW j mE _ R2 jl=> ?_);clear bC bW;have tC:=aas j (by omega);refine ah ?_;simp only[seval,b0,c_,Dj];refine aD ?_;refine⟨λcq=> ?_,λcq=> ?_⟩
  ·have dP:j<hr:=(by omega);have eS:SD.wrap ((j:Int)+1)=((j+1:Nat):Int):=(by rw[br _ (by omega)];rfl);obtain⟨a,ha⟩:=bK (xs:=st) (i:=j) (by omega);have tI:=ua a (S8 ha);have KS:G (j+1)=G j++[(G j).getLastD 0+a]:=(by rw[hG,hG];exact Q5 ha);rw[D9 tC]at KS;have me:=tC.top g_ G4 (by omega) j (SP _);have tD:=tC.len;obtain⟨w,hw⟩:=bK (xs:=G j) (i:=j) (by omega);have pN:(G j).getD j 0=w:=(by rw[SE,hw];rfl);rw[pN]at KS me;have MN:SD.wrap (w+a)=w+a:=br _ (by omega);rw[KS,Tn]at jl;generalize G j=g at hw tD jl⊢;have lZ:(0<=(j:Int)/\(j:Int)<(j:Int)+1)=True:=(by simp;omega);have akN:(0<=(j:Int)/\(j:Int)<(st.length:Int))=True:=(by simp;omega);have kg:(g.map iv).length=j+1:=(by rw[Ta];exact tD);refine aK ?_;refine bU ?_;refine nI [14] [0,1,2,3,4,5,6,7,8,9,10,11,12,13,14,15] [⟨0,false,[],[]⟩,⟨1,false,[],[]⟩,⟨2,false,[],[]⟩,⟨3,false,[],[]⟩,⟨4,false,[],[]⟩,⟨5,false,[],[]⟩,⟨6,false,[],[]⟩,⟨7,false,[],[]⟩,⟨8,false,[],[]⟩,⟨9,false,[],[]⟩,⟨10,false,[],[]⟩,⟨11,false,[],[]⟩,⟨12,false,[],[]⟩,⟨13,false,[],[]⟩,⟨14,true,[14],[]⟩,⟨15,false,[14],[]⟩] (λD=>bif isDone 14 D then B E.length++[.tail (j+1+1) 1 3]else B E.length++[.tail (j+1) 1 3]) ?_;simp only[seval,z1,ur,eg hw,v7 aP,eg ha,fu,lZ,akN,MN,bg,bs,kg,aL];refine⟨by omega,?_⟩;refine ah ?_;simp only[seval,eS];refine jl _ ⟨dP,trivial,cz⟩
  ·have jU:j=hr:=(by omega);subst jU;clear jl;have Sc:G j=ext [x.first] st:=(by rw[hG,SV (by omega)]);rw[Sc]at tC;rw[Sc];have tD:=tC.len;have Mr:qt (ext [x.first] st):=tC.mono;have me:=tC.top g_ G4 (by omega) j (SP _);have Sf:Fq x (ext [x.first] st):=⟨by rw[tD,Dj];rfl,Mr,by rw[D9 tC,GB tC];omega,by rw[GB tC];exact g_⟩;generalize ext [x.first] st=g at tD Sf hR Au⊢;refine bR ?_;refine aj ?_;refine aj ?_;refine bU ?_;refine uN x.seen.length (λq:Nat=>[(8,bv ((x.seen.take q).all λs=>gT s.next (g.getD s.hour.toNat 0))),(9,iv q)]) (λ_=>B E.length++[.tail (j+1) 1 3]) (λ_=>True) trivial (λbC bW q vC _ R3 lB=> ?_);clear bC bW;refine ah ?_;simp only[seval,b0,rY,dt];refine aD ?_;refine⟨λdw=> ?_,λdw=> ?_⟩
   ·have ie:q<x.seen.length:=(by omega);have kW:SD.wrap ((q:Int)+1)=((q+1:Nat):Int):=(by rw[br _ (by omega)];rfl);obtain⟨y,hy⟩:=bK ie;have hym:=hx.seen y (S8 hy);have Mu:=OC hy;have oS:(0<=(q:Int)/\(q:Int)<x.seen.length)=True:=(by simp;omega);have dX:((x.seen.take (q+1)).all λs=>gT s.next (g.getD s.hour.toNat 0))=(((x.seen.take q).all λs=>gT s.next (g.getD s.hour.toNat 0))&&gT y.next (g.getD y.hour.toNat 0)):=by
     rw[Uq,hy,List.all_append];simp
    rw[dX]at lB;obtain⟨yh,hyh⟩:∃yh:Nat,y.hour=yh:=⟨y.hour.toNat,by omega⟩;obtain⟨n,hn⟩:=bK (xs:=g) (i:=yh) (by omega);have wX:g.getD y.hour.toNat 0=n:=(by rw[hyh,VI,SE,hn];rfl);rw[wX]at lB;have hby:(0<=(yh:Int)/\(yh:Int)<(j:Int)+1)=True:=(by simp;omega);generalize((x.seen.take q).all λs=>gT s.next (g.getD s.hour.toNat 0))=is at lB⊢;refine aK ?_;refine ah ?_;simp only[seval,b0,rY,dt,Mu,oS,hyh,eg hn,hby];have hib:gT y.next n=(decide (n>=y.next.min)&&decide (n<=y.next.max)):=rfl;cases is with
    |false=>
     refine aj ?_;refine ah ?_;simp only[seval,kW];refine lB _ ⟨ie,trivial,?_⟩;rw[Vq];exact cz
    |true=>
     by_cases h1:n>=y.next.min
     ·have d1:decide (n>=y.next.min)=true:=decide_eq_true h1;refine ah ?_;simp only[seval,b0,rY,dt,Mu,oS,d1];refine ah ?_;simp only[seval,kW];refine lB _ ⟨ie,trivial,?_⟩;rw[hib,d1];exact cz
     ·have d1:decide (n>=y.next.min)=false:=decide_eq_false h1;refine ah ?_;simp only[seval,b0,rY,dt,Mu,oS,d1];refine ah ?_;simp only[seval,kW];refine lB _ ⟨ie,trivial,?_⟩;rw[hib,d1];exact cz
   ·have jU:q=x.seen.length:=(by omega);subst jU;clear lB;rw[Tp];have amw:(x.seen.all λs=>gT s.next (g.getD s.hour.toNat 0))=xr x g:=rfl;rw[amw];refine bR ?_;refine aj ?_;refine aD ?_;refine⟨λDL=> ?_,λDL=> ?_⟩
    ·rw[if_pos DL]at hR Au;have hEf:(E.flatMap Tr.al).length=E.length* 3:=ze Tr.FF _;have htf:((gF x g).flatMap Tr.al).length=(gF x g).length* 3:=ze Tr.FF _;have R9:((gF x g).flatMap Tr.al).take ((gF x g).length* 3)=(gF x g).flatMap Tr.al:=SV (by omega);have dV:∀a∈(gF x g).flatMap Tr.al,a.leaf=true:=λa ha=>by
      obtain⟨u,_,h⟩:=S5.1 ha;simp only[Tr.al,SK,SZ,or_false]at h;rcases h with rfl|rfl|rfl<;>rfl
     rw[SL]at Au;refine ah ?_;simp only[seval,b0,bu,ek];have xY:=λk' uj=>ajf (lv:=lv) (k:=k') (kp:=uj) (H:=B E.length++[.tail (j+1) 1 3]) (x:=x) (h:=g) (e:=.opn (H.length+2)) hx Sf;rw[tD]at xY;refine aH ((xY _ _ ?_));generalize gF x g=C at hR htf R9 dV Au⊢;(try simp only[seval,s8,b1,s1,hEf,htf,R9]);refine⟨by omega,dV,?_⟩;refine ah ?_;simp only[seval,bJ];refine hR _ ⟨bx,trivial,?_⟩;rw[SL,Un];refine uu [.tail (j+1) 1 3] (lL rfl rfl) (by simp only[seval];simp[a_,Wk.refl]) (kR _) ?_ rfl;rw[<- Un,dH];simp only[US,abP,iv,ec];simp
    ·have DL:xr x g=false:=(by simpa using DL);rw[DL]at hR;refine aK ?_;refine ah ?_;simp only[seval,bJ];refine hR _ ⟨bx,trivial,?_⟩;rw[if_neg Bool.false_ne_true,SO];exact uu [.tail (j+1) 1 3] (lL rfl rfl) (by simp only[seval];simp[a_,Wk.refl]) (kR _) (by simp[ec,dH,abP]) rfl
 ·have jU:i=steps.length:=by omega
  subst jU;rw[Tp,ce];refine bR ?_;refine aj ?_;refine aZ ?_;rw[hB];exact iH (b:=s8 (cg x)) hH (e9 _ _ _) (by rw[Ny];trivial) hk
end
open Go.Conc Go.Proofs Go.Gg.Tk
theorem QX:(cg fP).isEmpty=false:=by kernel_rfl
theorem aix{lo hi:Int}(h:Bounds (live fP) (λh=>h.getD 1 0) lo hi):lo=11/\hi=12:=by
 have k:Bounds (live fP) (λh=>h.getD 1 0) 11 12:=by
  rw[aiB];exact⟨⟨[10,11,13,14],by simp,rfl⟩,by decide,⟨[10,12,13,14],by simp,rfl⟩,by decide⟩
 exact h.uniq k
theorem aiA:CO fP 2=[0,2]:=by kernel_rfl
theorem z3:gG (SF .i64 0) 3=[iv 0,iv 0,iv 0]:=rfl
theorem z4:gG (SF .i64 0) 4=[iv 0,iv 0,iv 0,iv 0]:=rfl
section
variable {H:List aa}{k kp:AV->List aa->Prop}
theorem Q9(hm:H[0]?=some .main)(hk:k (bv true) H):bc true SA 19 H [] k kp:=by
 have aG:cg fP≠[]:=λh=>by have:=QX;rw[h]at this;cases this
 refine bD (rs:=[.tmp 0]) (nt:=138) Tryz.f19 λhH hA=> ?_;simp only[bk,SU];have aS:∀(L:List aa),(H++L)[H.length]?=L[0]?:=λL=>aW H L 0;have de:∀(L:List aa)(y:aa),(H++L).set H.length y=H++L.set 0 y:=λL y=>dL H L 0 y;refine aj ?_;refine aj ?_;refine aH ((yb ?_));(try simp only[seval]);refine aH ((aiY zv hm ?_));rw[aiy];(try simp only[seval]);refine aj ?_;refine aH ((yb ?_));(try simp only[seval]);refine aH ((ajb (hour:=1) zv (by decide) hm (λh=>absurd h aG) (λlo hi _ hb=> ?_)));obtain⟨rfl,rfl⟩:=aix hb;(try simp only[seval,aS,de]);refine aj ?_;refine aH ((yb ?_));(try simp only[seval]);refine aH ((ai9 (q:=2) zv (by decide) (fV hm) (λh=>absurd h aG) (λ_=> ?_)));rw[show xX (Ep fP 2) fP.first 16=[13,14]from aiC];(try simp only[seval]);refine aj ?_;refine aH ((yb ?_));(try simp only[seval]);refine aH ((ai5 (s:=0) (q:=0) zv (by decide) (by decide) (fV hm) ?_));rw[QX,QY.1,QY.2,show vM true false=1 from rfl];(try simp only[seval]);refine aj ?_;refine aH ((yb ?_));(try simp only[seval]);refine aH ((ai1 zv (fV hm) (λh=>absurd h aG) (λ_=> ?_)));rw[show CO fP fP.aC.length=[0,2]from aiA];(try simp only[seval]);refine aj ?_;refine aH ((yb ?_));(try simp only[seval]);refine aH ((ai6 (x:=fP) (s:=1) (q:=0) (y:=⟨⟨10,15⟩,⟨2,2⟩⟩) zv rfl (by decide) (λo ho=> ?_)));rw[show z8 (fP.wo [((1:Nat):Int)]) ⟨⟨10,15⟩,⟨2,2⟩⟩ 0 (fP.am.toNat+1)=1 from aiw]at ho;subst ho;(try simp only[seval]);refine aj ?_;refine aH ((aji ?_));(try simp only[seval]);refine aH ((ai7 aoN (λl hl=> ?_) (λh=>by rw[QW]at h;cases h)));rw[QW]at hl;cases hl;(try simp only[seval]);refine aj ?_;refine aH ((yb ?_));(try simp only[seval]);refine aH ((Q8 zv (fV hm) (λh=>absurd h aG) (λu l hu=> ?_)));have mf:=aiz;rw[hu]at mf;cases mf;(try simp only[seval]);refine eO 77 ?_;simp only[seval,Vy,aS,beq_self_eq_true];refine ij (.agg [iv 11,iv 12]) (cC (aiZ ⟨rfl,rfl⟩)) ?_;have gM:∀k,dM SA .eql 46 (.agg [iv 11,iv 12]) (.agg [iv 11,iv 12]) k=k (bv true):=λk=>afy (P:=SA) (t:=46) (n:=2) (xs:=[11,12]) (ys:=[11,12]) (by kernel_rfl) (by kernel_rfl) rfl rfl k;simp only[iv,bv]at gM;(try simp only[seval,gM,Vy,beq_self_eq_true,z2]);(try refine⟨by decide,?_⟩);refine ij (bv true) (cC (uZ (xs:=[13,14]) (ys:=[13,14]) (e:=.shut) (e':=.exact) (by decide) ⟨by rw[decide_eq_true rfl],rfl⟩)) ?_;(try simp only[seval,Vy,z1,z2,z3,z4]);(try refine⟨by decide,?_⟩);refine ij (bv true) (cC (uZ (xs:=[0,2]) (ys:=[0,2]) (e:=.shut) (e':=.exact) (by decide) ⟨by rw[decide_eq_true rfl],rfl⟩)) ?_;(try simp only[seval,Vy,z1,z2,z3,z4]);(try refine⟨by decide,?_⟩);refine ij (bv true) (cC (uZ (xs:=[0]) (ys:=[0]) (e:=.shut) (e':=.exact) (by decide) ⟨by rw[decide_eq_true rfl],rfl⟩)) ?_;(try simp only[seval,Vy,z1,z2,z3,z4]);(try refine⟨by decide,?_⟩);refine ij (bv true) (cC (uZ (xs:=[10,11,13,14]) (ys:=[10,11,13,14]) (e:=.shut) (e':=.exact) (by decide) ⟨by rw[decide_eq_true rfl],rfl⟩)) ?_;(try simp only[seval,Vy,z1,z2,z3,z4]);(try refine⟨by decide,?_⟩);refine ij (bv true) (cC (uZ (xs:=[12,11,13]) (ys:=[12,11,13]) (e:=.shut) (e':=.exact) (by decide) ⟨by rw[decide_eq_true rfl],rfl⟩)) ?_;(try simp only[seval,Vy,z1,z2,z3,z4]);(try refine⟨by decide,?_⟩);refine ij (bv true) (cC (uZ (xs:=[0,2]) (ys:=[0,2]) (e:=.shut) (e':=.exact) (by decide) ⟨by rw[decide_eq_true rfl],rfl⟩)) ?_;(try simp only[seval,Vy,z1,z2,z3,z4]);refine aZ ?_;exact iH hH (Wk.refl _) (.val _) hk
end
section
variable {lv:Bool}{k kp:AV->List aa->Prop}{Gf:bh->List aa}{t N:Nat}{b:Int}
end
section
variable {lv:Bool}{k kp:AV->List aa->Prop}{Gf:bh->List aa}{t N:Nat}{τ:bh}{b:Int}
end
section
variable {H:List aa}{k kp:AV->List aa->Prop}
theorem arx{l:List Tr}{i:Nat}{u:Tr}(h:l[i]?=some u):AV.shift (i* 3) (.rp (l.flatMap Tr.al))=some (.rp (aL u.bI::aL u.aA::aL (nl u.bX)::(l.drop (i+1)).flatMap Tr.al)):=OD Tr.FF h
theorem ajc{aA:List Int}(hm:H[0]?=some .main)(hn:aA.length<=2^50)(hk:k (bv true) H):bc true SA 3 H [aL aA] k kp:=by
 have n3:∀L:List aa,(H++L)[0]?=some .main:=λL=>fV hm;refine bD (rs:=[.tmp 2]) (nt:=77) Wx λhH hA=> ?_;simp only[bk,SU];refine aj ?_;refine aj ?_;refine aH ((aiU ?_));(try simp only[seval]);refine aH ((aiO (pm:=3) (b:=0) (asV H) ⟨Xr _,Xr _,hn⟩ (by decide) (by decide) λx bI aA bX τ hx _ _ _ _ _=> ?_));have o1:=hx.ey;have aP:=hx.dp;have bS:x.l=[iv x.first,iv x.hours,iv x.am,dt x.seen,aT x.pieces,aT x.aC]:=rfl;have bu:x.l.length=6:=rfl;have ek:Uh 6 x.l=x.l:=rfl;obtain⟨B,hB⟩:∃B,B=H++[BG τ]:=⟨_,rfl⟩;rw[<- hB];have Dn:∀L:List aa,(B++L)[0]?=some .main:=λL=>by rw[hB,SC];exact n3 _
 have b0:∀(L:List aa),(B++L)[B.length]?=L[0]?:=λL=>aW B L 0;have s0:∀(L:List aa)(y:aa),(B++L).set B.length y=B++L.set 0 y:=λL y=>dL B L 0 y;(try simp only[seval,ak.av,b0,s0,bu]);refine⟨ld x,?_⟩;refine ah ?_;simp only[seval,b0,bu,ek];refine aH ((aiV hx ?_));(try simp only[seval]);refine ah ?_;simp only[seval,b0,bu,ek];refine aH ((Q8 hx (Dn _) (λh=> ?_) (λu l h=> ?_)))
 ·rw[h,show s8 []=.sl 0 [] .shut from rfl];(try simp only[seval]);refine ah ?_;simp only[seval,show ((0:Int)==0)=true from rfl];refine aD ?_;refine ah ?_;simp only[seval,show ((11:Int)==11)=true from rfl,show ((0:Int)==0)=true from rfl,aL,UA,show (0:Int)+0=0 from rfl,show SD.wrap 0=0 from rfl];refine aH ((Q9 (Dn _) ?_));(try simp only[seval]);refine aZ ?_;rw[hB,SC];exact iH hH (Wk.refl _) (.val _) hk
 ·rw[h];have hu:=(abY hx).1 (show u∈cg x by rw[h];simp);have cS:=hu.bI.len;have ng:=hu.xi;have GN:=hu.zn;have aP:=hx.dp;have yF:=hx.hours;have e0:(((u::l).length:Int)==0)=false:=by rw[Ui,beq_eq_false_iff_ne];omega
  have dl:=arx (l:=u::l) (i:=0) rfl;rw[apH]at dl;have hlen:(0<((u::l).length:Int))=True:=eq_true (by rw[Ui];omega);have iZ:nl u.bX=u.bX.map λn:Nat=>(n:Int):=rfl;rw[<- iZ];generalize u::l=L at e0 dl hlen⊢;(try simp only[seval,s8]);refine ah ?_;simp only[seval,e0];refine aD ?_;refine aK ?_;refine ah ?_;simp only[seval,show ((0:Int)==0)=true from rfl,dl,hlen,aL];refine aH ((uZ (by omega) ?_));(try simp only[seval,decide_true,dl,hlen,aL]);refine aH ((uZ (by omega) ?_));(try simp only[seval,decide_true,dl,hlen,aL]);refine aH ((uZ (by rw[rc];omega) ?_));(try simp only[seval,decide_true]);refine aH ((Q9 (Dn _) ?_));(try simp only[seval]);refine aZ ?_;rw[hB,SC];exact iH hH (Wk.refl _) (.val _) hk
end
open Go.ChangeShapes Go.WideShapes Go.ChangeAt Go.RowKit
def EW (W:Tq):View:=⟨λb o=>W.cell? ⟨b,o,none⟩,λ_=>none,0,.plain⟩
def CD (W:Tq):Env:=⟨(EW W).ab,1,λ_=>0,λ_ _=>(none,0),λ_=>0,λ_=>none,true⟩
theorem aq8(W:Tq):Sat (EW W) W:=⟨λ_ _ _ h=>h,λ_ _ h=>by cases h⟩
theorem ahr(W:Tq):Conc (CD W) (EW W) [.main]where
 I:=rfl
 n:=rfl
 obj:=λk x h=>by
  match k,h with
  |0,h=>cases h;exact rfl
  |k+1,h=>cases h
 inj:=λi j x y b hi hj h1 h2=>by
  match i,hi with
  |0,hi=>cases hi;cases h1
  |i+1,hi=>cases hi
 group:=λg h=>by cases h
 chan:=λc h=>by cases h
 top:=λ_=>⟨rfl,rfl⟩
 fr:=λb y h=>by cases h
theorem aks{f:TS}{W:Tq}{args:Array SQ}{my:List AV}{Q:SQ->Prop}(hi:SA.inits.idxOf? f=none)(hd:cN (CD W) my args)(h:bc true SA f [.main] my (λa _=>∀E v,ap E a v->Q v) (λ_ _=>False)):
  ∃M last o w' t',runNT SA (M+1) (solo (G (Frame.enter SA f args .normal) []) W) #[]=(.ended o w',t')/\runN SA M (solo (G (Frame.enter SA f args .normal) []) W)=.next last/\step SA last=.ended o w'/\W4 SA (λv w=>Q v/\Left W.heap.size W w) last o w' t':=
 akr hi (V:=EW W) rfl rfl rfl (aq8 W) (h (CD W) (EW W) args (ahr W) hd) λo V' r=>by
  cases o with
  |ret v=>
   obtain⟨av,E',H',_,cp,_,bt,_,hk⟩:=r;exact⟨cp,v,rfl,λw _ hl=>⟨hk _ _ bt,hl⟩⟩
  |panic ch=>
   obtain⟨pv,v,E',H',_,_,_,_,_,_,hf⟩:=r;exact hf.elim
theorem ahD{W:Tq}{b o len cap:Nat}{zs:List Int}(hl:zs.length=len)(hc:len<=cap)(h:∀i,i<len->W.cell? ⟨b,o+i,none⟩=some (.int .i64 (zs.getD i 0))):ap (CD W) (aL zs) (.slice (some ⟨b,o,none⟩) len cap):=by
 subst hl;refine .sl b o cap (λi=> .int .i64 (zs.getD i 0)) hc trivial (λi hi=> ?_) (λi x hx=> ?_)
 ·exact h i (by simpa using hi)
 ·rw[To]at hx;obtain⟨z,hz,rfl⟩:=Ts.1 hx;rw[SE,hz];exact .val _
theorem Left.below{W w:Tq}(h:Left W.heap.size W w):Below W.heap.size W w:=⟨h.os,h.tape,h.out,h.size,h.old⟩
theorem Tz.own:ownKnob SA.godebug=none:=by kernel_rfl
theorem Tz.laidOut:laidOutB SA=true:=by kernel_rfl
theorem Tz.ID:SA.underlying 22=some (.slice 3):=by kernel_rfl
theorem Tz.u3:SA.underlying 3=some (.int .i64):=by kernel_rfl
theorem Tz.u4:SA.underlying 4=some .bool:=by kernel_rfl
theorem Tz.c3:SA.cellsOf 3=1:=by kernel_rfl
theorem Tz.b3:SA.bytesOf 3=8:=by kernel_rfl
theorem Tz.r22:SA.readableRec 22=true:=by kernel_rfl
theorem Tz.Nj:22<SA.types.size:=of_decide_eq_true (by kernel_rfl)
theorem aqJ{H:Type}{enc:TypeId×SQ->H}{a:Assume}{C:Checked}{os:Os}{f:TS}{fn:YD}{s:Z7}{conds:List PathCond}{apart fresh handsOn again:Bool}{X:Tq->Array SQ->Prop}
  (own:ownKnob C.prog.godebug=none) (started:os.Started) (yC:C.prog.funcs[f]?=some fn)
  (witness:∃(w:Tq)(tape:Tape)(i:Input),w.os=os/\(w.forCall tape i).Shaped C.prog/\i.vars=[]/\Z3 C.prog (w.forCall tape i) .any w.heap.size f i/\
   ((s.pre enc C.prog fn conds apart (w.forCall tape i).memory i.args/\X (w.forCall tape i).memory i.args)/\sizedMet enc C.prog fn (VG s) apart (w.forCall tape i).memory i.args)/\a.holds C.prog (lone (Frame.enter C.prog f i.args .normal) [] (w.forCall tape i)))
  (runs:∀(W:Tq)(base:Nat)(args:Array SQ)(ds gs:List (ao_ H))(before:List MemPlace),
   (∀(j:Nat) t v,fn.params[j]?=some t->args[j]?=some v->Yw C.prog W .any base t v)->
   DataW.Whole enc C.prog fn.params.toList s.vars apart W args.toList ds gs before->
   conds.all (avl C.prog ⟨fn.params.toList,ds,s.plain.varTypes C.prog,gs⟩)=true->
   (Zi C.prog (fn.params.toList++s.plain.varTypes C.prog) (ds++gs)).all (·<=reachBytes)=true->
   a.holds C.prog (lone (Frame.enter C.prog f args .normal) [] W)->
   ∃M last o w' t',runNT C.prog (M+1) (solo (G (Frame.enter C.prog f args .normal) []) W) #[]=(.ended o w',t')/\runN C.prog M (solo (G (Frame.enter C.prog f args .normal) []) W)=.next last/\
    step C.prog last=.ended o w'/\W4 C.prog (λv W'=>s.post enc C.prog fn apart fresh handsOn again W args v W') last o w' t'):
  Xz a C os f .any (λw args=>(s.pre enc C.prog fn conds apart w args/\X w args)/\sizedMet enc C.prog fn (VG s) apart w args) (s.post enc C.prog fn apart fresh handsOn again):=by
 refine returnsInLeavingWide_of_good own started witness ?_;intro w tape i _ _ _ aq Mg alr;obtain⟨_,_,_,fI,alo,_,_,_,_,Hj⟩:=aq;have e:fI=fn:=Wb (alo.symm.trans yC);subst e;obtain⟨⟨⟨ds,gs,before,hw,hc⟩,_⟩,hz⟩:=Mg;have oe:=an' (w':=w.forCall tape i) (by rfl) hw;obtain⟨M,last,o,w',t',h1,h2,h3,h4⟩:=runs (w.forCall tape i) w.heap.size i.args ds gs before Hj oe hc (hz.weights hw) alr;exact⟨M,last,o,w',t',h1,h2,h3,h4.mono λv hp=>as_ hp⟩
def aeN (f:TS):Prop:=∀aA:List Int,aA.length<=2^50->bc true SA f [.main] [aL aA] (λa _=>a=bv true) (λ_ _=>False)
set_option maxRecDepth 100000 in
theorem amO{f:TS}{fn:YD}{s:Z7}{X:Tq->Array SQ->Prop}(hf:SA.funcs[f]?=some fn)(hp:fn.params=#[22]) (hr:fn.resultTypes=#[4]) (hv:s.vars=[]) (hs:∀(H:Type)(d:ao_ H),s.fn H [d]={results:=[.lit (.bool true)],args:=[d]}) (hi:SA.inits.idxOf? f=none) (alC:aeN f)
  (os:Os) (started:os.Started) (H:Type) (enc:TypeId×SQ->H)
  (amL:∃(w:Tq)(tape:Tape)(i:Input),w.os=os/\(w.forCall tape i).Shaped UD.prog/\i.vars=[]/\Z3 UD.prog (w.forCall tape i) .any w.heap.size f i/\
   ((s.pre enc UD.prog fn [] false (w.forCall tape i).memory i.args/\X (w.forCall tape i).memory i.args)/\sizedMet enc UD.prog fn (VG s) false (w.forCall tape i).memory i.args)/\({}:Assume).holds UD.prog (lone (Frame.enter UD.prog f i.args .normal) [] (w.forCall tape i))):
  Xz {} UD os f .any (λw args=>(s.pre enc SA fn [] false w args/\X w args)/\sizedMet enc SA fn (VG s) false w args) (s.post enc SA fn false true false false):=by
 refine aqJ (C:=UD) Tz.own started hf amL ?_;intro W base args ds gs before abb hW _ Mw _;have aY:(Zi SA (fn.params.toList++s.plain.varTypes SA) (ds++gs)).all (·<=reachBytes)=true:=Mw;clear Mw;have Hj:∀(j:Nat) t v,fn.params[j]?=some t->args[j]?=some v->Yw SA W .any base t v:=abb;have wK:=hW;obtain⟨p,q,Gd,hV,rfl,_,_⟩:=hW;have hA:DataW.TrodAll enc SA W 0 (λ_=>true) true fn.params.toList args.toList ds p:=Gd;rw[hp]at hA Hj aY;obtain⟨v0,d0,rfl,rfl,h0⟩:=trodAll_one hA;rw[hv]at hV;obtain⟨rfl,rfl⟩:=trodVars_none hV;have aq:=Hj 0 22 v0 rfl rfl;obtain⟨a0,len,cap,rfl⟩:=okWide_slice Tz.ID aq;have h0k:=h0;obtain⟨fuel,hfu⟩:=h0;clear Gd abb;simp only[SO]at wK;have hlt:∀x∈p,x.block<W.heap.size:=λx hx=>by simpa using wK.lt x hx
 have cQ:∀(W':Tq),Below W.heap.size W W'->DataW.Trod enc SA W' 0 (λb=>decide (b<W.heap.size)) true 22 (.slice a0 len cap) d0 p:=
  λW' hn=>Below.trod Tz.laidOut Tz.r22 Tz.Nj h0k hn hlt
 have close:∀aA:List Int,aA.length<=2^50->ap (CD W) (aL aA) (.slice a0 len cap)->
   ∃M last o w' t',runNT UD.prog (M+1) (solo (G (Frame.enter UD.prog f #[.slice a0 len cap] .normal) []) W) #[]=(.ended o w',t')/\
    runN UD.prog M (solo (G (Frame.enter UD.prog f #[.slice a0 len cap] .normal) []) W)=.next last/\step UD.prog last=.ended o w'/\
    W4 UD.prog (λv W'=>s.post enc UD.prog fn false true false false W #[.slice a0 len cap] v W') last o w' t':=by
  intro aA hn hd;obtain⟨M,last,o,w',t',h1,h2,h3,h4⟩:=aks (Q:=λv=>v=.bool true) (args:=#[.slice a0 len cap]) (my:=[aL aA]) hi ⟨rfl,λi a e=>by
   match i,e with
   |0,e=>cases e;exact hd⟩ ((alC aA hn).mono (λa H' e E v bt=>by subst e;cases bt;rfl) λ_ _ h=>h)
  refine⟨M,last,o,w',t',h1,h2,h3,h4.mono λv ⟨hQ,hL⟩=> ?_⟩;subst hQ;have hb:=hL.below;refine⟨[d0],[],_,[],p,[],wK,?_,?_,by rw[hv];exact(by rw[show ([d0]++[]:List (ao_ H))=[d0]from rfl,hs];rfl),hb.frame _,λh=>by cases h⟩
  ·rw[show ([d0]++[]:List (ao_ H))=[d0]from rfl,hs,hr];exact trodAll_mk1 (shut_bool Tz.u4 true)
  ·rw[show ([d0]++[]:List (ao_ H))=[d0]from rfl,hs,hp];exact trodAll_mk1 (cQ _ hb)
 rcases open_ints Tz.ID Tz.u3 Tz.c3 hfu with⟨pI,hx⟩|⟨a,auZ,cap',zs,pI,_,hl,hm,hz,hx,Lf,hwz⟩
 ·simp[ac_]at pI;obtain⟨rfl,rfl,rfl⟩:=pI;exact close [] (by simp) (.nil trivial)
 ·simp[ac_]at pI;obtain⟨rfl,rfl,rfl⟩:=pI;simp only[U8]at hx;obtain⟨rfl,rfl⟩:=hx;simp only[if_true]at hz;have aa2:a.spot=none:=by
   have:=aq;simp only[Yw,Tz.ID,Cell.okWide,Cell.ok]at this;exact this.2.2.2.1
  have auS:len* 8<=140737488355328:=by
   have:=sized_slice aY (j:=0) (t:=22) (e:=3) rfl rfl Tz.ID;rw[Tz.b3]at this;simp only[lits,Ta,TC,Ur,reachBytes]at this;omega
  obtain⟨bl,off,spot⟩:=a;simp only at aa2;subst aa2;have o4:(zs.take len).length=len:=by rw[TC];omega
  refine close (zs.take len) (by rw[o4];omega) (ahD o4 hl λi hi=> ?_);have:=Lf i (by omega);rw[show (avt ⟨bl,off,none⟩ i)=⟨bl,off+i,none⟩ by simp[avt]]at this;rw[this,SE,SE,List.getElem?_take_of_lt hi]
def abj:List (List Nat):=[99,117,116]::[97,116]::[[70,105,114,115,116],[87,105,100,101,114],[71,105,118,101,110],[65,112,97,114,116],[70,111,114,103,101,100],[82,101,97,100],[71,114,101,97,116,101,114],[77,105,120,101,100],[84,114,117,101],[83,116,101,112,115],[79,114,100,101,114],[65,108,108]].map ([103,108,97,100,115,116,111,110,101,47,103,108,97,100,115,116,111,110,101,108,97,119,48,49,46,84,105,99,107,101,116]++·)
def abi:List Nat:=[104,97,114,110,101,115,115,32,52,53,102,100,53,51,53,49,102,55,99,100,57,55,51,53,100,100,102,52,98,97,54,100,48,51,53,50,49,55,53,54,101,100,101,54,101,54,99,53,99,99,52,49,57,100,50,53,55,100,49,55,57,50,99,52,48,101,97,100,49,102,57,101]++abj.flatMap (32::·)
set_option maxRecDepth 100000 in
theorem ioL:SA.initOrder.toList=abi.map Zk:=by
 have h:SA.initOrder=String.ofList (abi.map Zk):=by kernel_rfl
 rw[h,String.toList_ofList]
def M5:List (List Char):=abj.map λl=>l.map Zk
set_option maxRecDepth 100000 in
theorem ioW:behindMainWord (wordsSigns SA.initOrder.toList)=M5:=by
 rw[ioL]
 kernel_rfl
section
variable {P:SI}{c:List Char}{rest:List (List Char)}
theorem aol (h : behindMainWord (wordsSigns P.initOrder.toList) = c :: rest) (hc : c = "cut".toList) (h1 : stripLifts liftWords (c :: rest) = ([], c :: rest)) (h2 : P.laysLater = false) (h3 : P.bearsReflect = false) (h4 : P.doorFits [] = true) : P.mayEnter = true := by
 unfold avu;rw[h];subst hc;simp only[h1,h2,h3,h4,ZZ,beq_self_eq_true,Zp,YE,ZD,Bool.or_true,af',UP]
theorem alk (h : behindMainWord (wordsSigns P.initOrder.toList) = c :: rest) (hc : c = "cut".toList) (h1 : stripLifts liftWords (c :: rest) = ([], c :: rest)) : P.headLifts = [] := by
 unfold avx;rw[h];simp only[h1,ite_self]
theorem anO (h : behindMainWord (wordsSigns P.initOrder.toList) = c :: rest) (hc : c = "cut".toList) (h1 : stripLifts liftWords (c :: rest) = ([], c :: rest)) : P.liftsFinal = false := by
 unfold avw;rw [alk h hc h1, h];subst hc;simp only [ZZ, Zp, Bool.or_false];have : (some "cut".toList == some "carried".toList) = false := by decide +kernel
 rw[this,Vq]
theorem aof (h : behindMainWord (wordsSigns P.initOrder.toList) = c :: rest) (hc : c = "cut".toList) : P.make = some .cut := by
 unfold avv;rw [h];subst hc;have e1 : ("cut".toList == "gc".toList) = false := by decide +kernel
 have e2 : ("cut".toList == "spec".toList) = false := by decide +kernel
 simp only[e1,e2,Bool.or_self,TR,if_false,beq_self_eq_true,ak_,if_true]
end
def Hw:List Char:=M5.headD []
def M3:List (List Char):=M5.tail
theorem M4:behindMainWord (wordsSigns SA.initOrder.toList)=Hw::M3:=ioW.trans (by kernel_rfl)
theorem M1 : Hw = "cut".toList := by kernel_rfl
theorem ioS:stripLifts liftWords (Hw::M3)=([],Hw::M3):=by kernel_rfl
theorem Tz.mayEnter:SA.mayEnter=true:=aol M4 M1 ioS (by kernel_rfl) (by kernel_rfl) (by kernel_rfl)
theorem Tz.anN:SA.liftsFinal=false:=anO M4 M1 ioS
theorem Tz.make:SA.make=some .cut:=aof M4 M1
theorem am1{P:SI}{f:TS}{fn:YD}{s:Z7}{c:Yj}
  (k0:(c.wf (VG s))=true)
  (k1:(laidOutB P)=true)
  (k2:(mapsRowed P)=true)
  (k3:(fn.params.all (P.readableRec ·))=true)
  (k4:(namedTie P c.named s.vars)=true)
  (k5:((c.stops==[]))=true)
  (k6:((P.stops==[]))=true)
  (k7:((c.knobs==[]))=true)
  (k8:((P.stopKnobs==[]))=true)
  (k9:((c.inPlace==P.inPlace f))=true)
  (D5:((c.unfollowed==P.unfollowed f))=true)
  (M7:((c.recurses==P.recurses f))=true)
  (Ba:((c.named==P.varsNamed f))=true)
  (M8:((c.maps==(fn.params.toList++s.plain.varTypes P).any (P.mapsRec ·)))=true)
  (D6:((c.ifaces==(fn.params.toList++s.plain.varTypes P).any (P.ifacesRec ·)))=true)
  (M9:((c.mapsOut==P.mapsAmong fn.resultTypes.toList))=true)
  (M_:((c.loops==(fn.params.toList++s.plain.varTypes P).any (P.loopsFrom ·)))=true)
  (Na:((c.wideKeys==(fn.params.toList++s.plain.varTypes P++fn.resultTypes.toList).any (P.wideKeysFrom ·)))=true)
  (k18:(s.vars.all (P.varReadable ·))=true)
  (k19:(fn.resultTypes.all (λt=>P.readableRec t&&decide (t<P.types.size)))=true)
  (Nb:((c.ifacesOut==fn.resultTypes.toList.any (P.ifacesRec ·)))=true)
  (Nc:((c.loopsOut==fn.resultTypes.toList.any (P.loopsFrom ·)))=true)
  (Nd:((c.plainKeys==P.plainKeys))=true)
  (Nf:(c.shortTexts.isNone)=true)
  (Ng:(P.stopsHeard)=true)
  (Nh:(P.mayEnter)=true)
  (k26:((c.lifted==P.liftsFinal))=true)
  (k27:((P.make==some c.make))=true)
  (k28:c.domain.isEmpty=true) (am4:c.kinds=[])
  (k29:((c.pinned==c.pinnedBy))=true)
  (k30:((c.veiled==(fn.params.toList++s.plain.varTypes P++fn.resultTypes.toList).any (P.veiledRec ·)))=true)
  (k31:(c.veiledFits P fn.params.toList (fn.params.toList++s.plain.varTypes P++fn.resultTypes.toList))=true):joinedFacts P f fn s c=true:=by
 simp only[joinedFacts,k0,k1,k2,k3,k4,k5,k6,k7,k8,k9,D5,M7,Ba,M8,D6,M9,M_,Na,k18,k19,Nb,Nc,Nd,Nf,Ng,Nh,k26,k27,k28,am4,if_true,beq_self_eq_true,k29,k30,k31,af']
theorem anM{c:Yj}(h:c.lifted=false):(c.lifted==SA.liftsFinal)=true:=by rw[Tz.anN,h];rfl
theorem aog{c:Yj}(h:c.make=.cut):(SA.make==some c.make)=true:=by rw[Tz.make,h];rfl
end Go.Gg
namespace Go.Proofs.YtkanpclgnhdbiaaGreatDoor
open Go.Conc Go.Proofs Go.Gg
theorem asU(Lk:Looks){p:Pinned}{s:OpenSpec}{c:Yj}(al:List (List PathCond))(kinds:List LaidKind)(Iz:Bool)(tI:Bool×String)(lk:Bool)
  (hc:c.holds p s) (gN:∀D∈al,(c.withDomain D).holds p s) (hw:c.wfByText s=true) (amJ:∀D∈al,(c.withDomain D).wfByText s=true)
  (amE:c.laidByTextAt Lk p kinds Iz)
  (aP:c.start=.entering) (tT:c.noBlocks=false/\c.again=false) (hm:p.checked.prog.mainIs=some (tI.1,tI.2.toList)) (hn:(!tI.1&&tI.2.isEmpty&& !lk)=false)
  (hl:∀f fn,p.checked.prog.funcNamed c.func=some f->p.checked.prog.funcs[f]?=some fn->lk=p.checked.prog.looks []/\∀(j:Nat) t,fn.params[j]?=some t->p.checked.prog.wantsStandIn t=false)
  (hg:true=c.goesBy p.checked.prog):
  Claim7.holds p (.plain s) {stood:={row:=c,standIns:=[],harness:=tI,looks:=lk},kinds:=[],alts:=al,goes:=true,laidByText:=true,laidKinds:=kinds,laidTests:=Iz,laidLooks:=Lk}:=by
 have h6:∀r:Yj,ZC {stood:={row:=r,standIns:=[],harness:=tI,looks:=lk},kinds:=[]}=false:=λr=>by simpa[ZC]using hn
 refine⟨Y1 Lk kinds Iz (YM hc tI lk aP tT hm (h6 c) hl) hw,λD hD=> ?_,amE,(λh=>by cases h),hg⟩;exact Y1 Lk kinds Iz (YM (gN D hD) tI lk aP tT hm (h6 _) hl) (amJ D hD)
theorem aby:SA.funcNamed Rows.ticketFirstRow.func=some 3:=by kernel_rfl
theorem anm:joinedFacts SA 3 Wx Rows.ticketFirstSpec Rows.ticketFirstRow=true:=
 am1 (by kernel_rfl) Tz.laidOut (by kernel_rfl) (by kernel_rfl) (by kernel_rfl) (by kernel_rfl) (by kernel_rfl) (by kernel_rfl) (by kernel_rfl) (by kernel_rfl) (by kernel_rfl) (by kernel_rfl) (by kernel_rfl) (by kernel_rfl) (by kernel_rfl) (by kernel_rfl) (by kernel_rfl) (by kernel_rfl) (by kernel_rfl) (by kernel_rfl) (by kernel_rfl) (by kernel_rfl) (by kernel_rfl) (by kernel_rfl) (by kernel_rfl) Tz.mayEnter (anM (by kernel_rfl)) (aog (by kernel_rfl)) (by kernel_rfl) (by kernel_rfl) (by kernel_rfl) (by kernel_rfl) (by kernel_rfl)
theorem anl:Wx.isInstance SA Rows.ticketFirstRow.origin Rows.ticketFirstRow.targs:=of_decide_eq_true (by kernel_rfl)
theorem ann:Wx.isWrapper SA Rows.ticketFirstRow.wrapper Rows.ticketFirstRow.mainSum:=by unfold Func.isWrapper;first|(rw[if_pos (by decide+kernel)];kernel_rfl)|(rw[if_neg (by decide+kernel)];exact⟨rfl,rfl⟩)
theorem ank(os:Os)(args:Array SQ):laidMetH SA Rows.ticketFirstRow.laid ((ZJ SA 400 os).forCall (λ_ _=>0) ⟨#[],args,[]⟩).memory:=
 laidMetH_of_parts (laidMet_nil _ _) (by kernel_rfl)
theorem ano(os:Os)(started:os.Started)(H:Type)(enc:TypeId×SQ->H):
  Xz {} UD os 3 .any (λw args=>(Rows.ticketFirstSpec.pre enc SA Wx [] false w args/\laidMetH SA Rows.ticketFirstRow.laid w)/\sizedMet enc SA Wx (VG Rows.ticketFirstSpec) false w args) (Rows.ticketFirstSpec.post enc SA Wx false true false false):=
 amO (f:=3) (fn:=Wx) (s:=Rows.ticketFirstSpec) (X:=λw _=>laidMetH SA Rows.ticketFirstRow.laid w) Zg rfl rfl rfl (λ_ _=>rfl) (by kernel_rfl) (λaA hn=>ajc rfl hn rfl) os started H enc
  (asI (enc:=enc) (C:=UD) (os:=os) (X:=λw _=>laidMetH SA Rows.ticketFirstRow.laid w) false (ZJ SA 400 os) #[.slice none 0 0] 8 rfl (World.shaped_of_RefB (by kernel_rfl) (by kernel_rfl)) (by kernel_rfl) (by kernel_rfl) (by kernel_rfl) (ank os _))
theorem asT:Rows.TicketFirstSaid:=
 atI 3 Wx rfl rfl rfl rfl rfl rfl rfl ⟨rfl,rfl,rfl,rfl,rfl⟩ rfl rfl rfl rfl rfl aby Zg anm anl ann
  (λos started H enc _=>ano os started H enc)
theorem ticketFirstCard_holds:Rows.TicketFirstCardSaid:=
 asU .later [] [.handle] true (true, "45fd5351f7cd9735ddf4ba6d03521756ede6e6c5cc419d257d1792c40ead1f9e") true
  asT (λ_ h=>by cases h) (by kernel_rfl) (λ_ h=>by cases h) ticketFirst_row_tie rfl ⟨rfl,rfl⟩ (by kernel_rfl) rfl
  (λf fn hf yC=>by
   obtain rfl:f=3:=Wb (aby.symm.trans hf)|>.symm;obtain rfl:fn=Wx:=(Wb (Zg.symm.trans yC)).symm;exact⟨by kernel_rfl,λj t ht=>by
    rw[show Wx.params=#[22]from rfl]at ht;have h3:t=22:=by
     rcases j with _|j
     ·simpa using ht.symm
     ·simp at ht
    subst h3;exact(show SA.wantsStandIn 22=false by kernel_rfl)⟩)
  (by kernel_rfl)
end Go.Proofs.YtkanpclgnhdbiaaGreatDoor
