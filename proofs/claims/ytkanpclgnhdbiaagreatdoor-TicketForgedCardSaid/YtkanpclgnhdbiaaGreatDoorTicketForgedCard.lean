/- For every list of numbers, TicketForged returns true and does not panic, in any order in which its goroutines run; errors.errorType starts as the text of the program lays it. -/
import Derived.Test.YtkanpclgnhdbiaaGreatDoorTicketForgedCard4
import Derived.Conc.LeavingOf
import Derived.Conc.Holds
import Derived.ProofKit
import Derived.Test.YtkanpclgnhdbiaaGreatDoorChecked
import Derived.Test.YtkanpclgnhdbiaaGreatDoorRows
import Derived.LaidMore
import Derived.SevenTiedAt
import Derived.Test.YtkanpclgnhdbiaaGreatDoorTie
import Derived.Test.YtkanpclgnhdbiaaGreatDoorCards
set_option linter.all false
set_option maxRecDepth 4000
set_option maxHeartbeats 4000000
open Bool renaming and_self->Z',false_and->YD,false_eq_true->TN,false_or->Zu,not_false->YC,true_and->Vu,true_or->ae'
open Char renaming ofNat->Zc
open Go renaming ChangeSpec->ZV,DataW->ai_,Func->YB,FuncId->TO,OpenClaim->Ye,Program->SI,ReturnsInLeavingWide->Xu,Value->SP,World->Tp
open Go.Addr renaming add->at4
open Go.ChangeSpec renaming post_blind->an',witness_shaped->an_
open Go.Claim7 renaming isSixth->Zt,new_of_sixth->YK,tied_new_at->YT
open Go.Conc renaming Good->WX
open Go.DataW renaming weightsEach->Za
open Go.DataW.Whole renaming of_heap->ah'
open Go.Input renaming okWide->ZR
open Go.IntKind renaming i64->SD
open Go.OpenClaim renaming holds_of_wide_leaving->apH
open Go.OpenSpec renaming ofChange->VE
open Go.PathCond renaming test->asI
open Go.Program renaming headLifts->aua,liftsFinal->at7,make->at6,mayEnter->at5
open Go.Proofs.Tryz renaming checked->UA,f7->Wv,func7->Y_,prog->SA
open Go.Value renaming cells->Z4,int->SF,okWide->Yt
open Go.World renaming doorLaid->Zy
open Int renaming le_refl->Xm
open List renaming append_assoc->SC,append_eq->Vt,append_nil->SO,contains_nil->Zh,drop->T7,drop_eq_getElem_cons->TQ,flatMap_append->UX,flatMap_cons->Ub,getD_eq_getElem?_getD->SE,getElem?_eq_some_iff->SL,getElem?_map->To,head?_cons->ZL,length_append->SN,length_drop->Un,length_map->Tn,length_nil->UN,length_take->Ud,mem_append->SR,mem_cons->SK,mem_flatMap->S5,mem_of_getElem?->Tc,mem_range->Tx,mem_singleton->S8,not_mem_nil->S0,range->SZ,range'->TS,range'_succ->VU,range_eq_range'->U8,take->Ui,take_add_one->VL,take_append_drop->Vj,take_length->TG
open Nat renaming le_refl->SQ,le_trans->UM,reduceAdd->SV
open Option renaming map_eq_some_iff->Tq,toList_some->Xd
open Option.some renaming inj->VY
open Prod.mk renaming injEq->U2
namespace Go.Gg
open Go.Gg.Tk
namespace Tk
def sR (ss:List aC)(ns:List Int):Nat->List aC
 |0=>[]
 |i+1=>if(i:Int)∈ns then sR ss ns i else sR ss ns i++(ss[i]?).toList
theorem IY(ss:List aC)(ns:List Int):∀i,(sR ss ns i).length<=i
 |0=>SQ _
 |i+1=>by
  have:=IY ss ns i;unfold sR;split
  ·omega
  ·rw[SN];have:(ss[i]?).toList.length<=1:=(by cases ss[i]?<;>simp);omega
theorem IZ{ss:List aC}{ns:List Int}:∀{i:Nat}{y:aC},y∈sR ss ns i->y∈ss
 |0,y,h=>by cases h
 |i+1,y,h=>by
  unfold sR at h;split at h
  ·exact IZ h
  ·rcases SR.1 h with h|h
   ·exact IZ h
   ·cases hi:ss[i]?with
    |none=>rw[hi]at h;cases h
    |some z=>
     rw[hi]at h;simp only[Xd,S8]at h;rw[h];exact Tc hi
def aj.wk (x:aj)(ns:List Int):aj:={x with aB:=sR x.aB ns x.aB.length}
theorem agj:oX 0=[[]]:=by decide+kernel
theorem agk:oX 1=[[],[0]]:=by decide+kernel
theorem agl:oX 2=[[],[0],[1],[0,1]]:=by decide+kernel
theorem agm:oX 3=[[],[0],[1],[2],[0,1],[0,2],[1,2],[0,1,2]]:=by decide+kernel
theorem agY:∀(ss:List aC),ss.length<=3->∀ns∈oX ss.length,sR ss ns ss.length=sS ss ns
 |[],_,ns,h=>by
  rw[show ([]:List aC).length=0 from rfl,agj]at h;simp only[SK,S0,or_false]at h;subst h;rfl
 |[a],_,ns,h=>by
  rw[show [a].length=1 from rfl,agk]at h;simp only[SK,S0,or_false]at h;rcases h with rfl|rfl<;>rfl
 |[a,b],_,ns,h=>by
  rw[show [a,b].length=2 from rfl,agl]at h;simp only[SK,S0,or_false]at h;rcases h with rfl|rfl|rfl|rfl<;>rfl
 |[a,b,c],_,ns,h=>by
  rw[show [a,b,c].length=3 from rfl,agm]at h;simp only[SK,S0,or_false]at h;rcases h with rfl|rfl|rfl|rfl|rfl|rfl|rfl|rfl<;>rfl
 |a::b::c::d::l,h,_,_=>absurd h (by simp)
theorem asa{x:aj}(hx:x.Ok){ns:List Int}(h:ns∈oX x.aB.length):x.wk ns=x.wo ns:=by
 unfold aj.wk aj.wo;rw[agY _ hx.dc _ h]
theorem aj.Ok.wk{x:aj}(h:x.Ok)(ns:List Int):(x.wk ns).Ok:=⟨h.first,h.hours,h.am,h.yC,h.eD,UM (IY _ _ _) h.dc,h.seen,λy hy=>⟨(h.piece y hy).1,(h.piece y hy).2⟩,λy hy=>have k:=h.stub y (IZ hy);⟨k.1,k.2⟩⟩
theorem agn{n m i:Nat}{l:List Int}{p:List Int->Bool}(hm:m<=n)(hl:(gA n m 0)[i]?=some l)(h1:∀j,j<m->∀a∈gA n j 0,p a=false)(h2:∀a∈(gA n m 0).take i,p a=false)(hp:p l=true):(oX n).find? p=some l:=by
 have hi:=(SL.1 hl).1;have e1:SZ (n+1)=SZ m++(m::TS (m+1) (n-m)):=by
  have:SZ (n+1)=TS 0 m++TS (0+1* m) (n+1-m):=by rw[List.range'_append,<- U8];congr 1;omega
  rw[this,<- U8,show n+1-m=(n-m)+1 by omega,VU];simp
 have e2:gA n m 0=(gA n m 0).take i++l::(gA n m 0).drop (i+1):=by
  obtain⟨_,rfl⟩:=SL.1 hl;rw[<- TQ hi,Vj]
 unfold oX;rw[List.find?_eq_some_iff_append];refine⟨hp,(SZ m).flatMap (λk=>gA n k 0)++(gA n m 0).take i,(gA n m 0).drop (i+1)++(TS (m+1) (n-m)).flatMap (λk=>gA n k 0),?_,λa ha=> ?_⟩
 ·rw[e1,UX,Ub]
  conv=>lhs;rw[e2]
  simp
 ·rcases SR.1 ha with ha|ha
  ·obtain⟨j,hj,ha⟩:=S5.1 ha;rw[h1 j (Tx.1 hj) a ha];rfl
  ·rw[h2 a ha];rfl
theorem ago{n:Nat}{p:List Int->Bool}(h1:∀j,j<n+1->∀a∈gA n j 0,p a=false):(oX n).find? p=none:=by
 rw[List.find?_eq_none];intro a ha;obtain⟨j,hj,ha⟩:=S5.1 ha;rw[h1 j (Tx.1 hj) a ha];simp
theorem aq5{n m:Nat}(hm:m<=n){a:List Int}(ha:a∈gA n m 0):a∈oX n:=S5.2 ⟨m,Tx.2 (by omega),ha⟩
end Tk
open Go.Conc Go.Proofs Go.Gg.Tk
section
variable {lv:Bool}{H:List aa}{k kp:AV->List aa->Prop}
theorem ah5{x:aj}{ns:List Int}{e:End}(hx:x.Ok)(ik:ns.length<=3)(hk:k (x.wk ns).av H):bh lv SA 29 H [x.av,.sl ns.length (ns.map iv) e] k kp:=by
 refine bF (rs:=[.cell 4 26]) (nt:=29) Tryz.f29 λhH hA=> ?_;simp only[bk,SV,aj.av];have aQ:=hx.dc;have bO:x.l=[iv x.first,iv x.hours,iv x.am,dS x.seen,aW x.pieces,aW x.aB]:=rfl;refine ak ?_;refine ak ?_
 (repeat apply iA);refine sK (t:=5) (sz:=4) (el:=48) (by simp only[seval]<;>rfl) ?_
 simp only[seval,SN];obtain⟨o1,CL⟩:∃o1:aa,o1=.cells [iv 0,iv 0,iv 0,.sl 0 [] .exact,.sl 0 [] .exact,.sl 0 [] .exact] 26:=⟨_,rfl⟩;simp only[iv]at CL;rw[<- CL];have bd:∀(L:List aa)(j:Nat),(H++L)[H.length+j]?=L[j]?:=λL j=>aX H L j;have bs:∀(L:List aa)(j:Nat)(y:aa),(H++L).set (H.length+j) y=H++L.set j y:=λL j y=>dU H L j y;have b0:∀(L:List aa),(H++L)[H.length]?=L[0]?:=λL=>bd L 0;have s0:∀(L:List aa)(y:aa),(H++L).set H.length y=H++L.set 0 y:=λL y=>bs L 0 y;have b1:∀(L:List aa),(H++L)[H.length+1]?=L[1]?:=λL=>bd L 1;have s1:∀(L:List aa)(y:aa),(H++L).set (H.length+1) y=H++L.set 1 y:=λL y=>bs L 1 y;have b2:∀(L:List aa),(H++L)[H.length+2]?=L[2]?:=λL=>bd L 2;have s2:∀(L:List aa)(y:aa),(H++L).set (H.length+2) y=H++L.set 2 y:=λL y=>bs L 2 y;have nz:T7 5 x.l=[aW x.aB]:=rfl;refine ak ?_;obtain⟨D,hD⟩:∃D:Nat->List aC,∀i,D i=sR x.aB ns i:=⟨_,λ_=>rfl⟩;have bS:∀i,(D i).length<=i:=λi=>by rw[hD];exact IY _ _ _
 have QO:D 0=[]:=hD 0;refine cq ?_;refine gD x.aB.length (λi:Nat=>[(5,.sl (D i).length ((D i).flatMap aC.l) (.opn (H.length+2))),(6,iv i)]) (λi=>H++[.cells x.l 26,o1,.tail (D i).length 4 48]) (λ_=>True) (λ_ _=>rfl) (by simp only[QO,UN,List.flatMap_nil];simp only[seval];simp[bu,Wk.refl]) (by rw[QO];rfl) (λ_ _ _=>by simp) trivial (λbQ cP i cK _ R hR=> ?_);clear bQ cP;refine ai ?_;simp only[seval,b0,nz,aW];refine aD ?_;refine⟨λhc=> ?_,λhc=> ?_⟩
 ·have bB:i<x.aB.length:=by omega
  have bM:SD.wrap ((i:Int)+1)=((i+1:Nat):Int):=by rw[bA _ (by omega)];rfl
  obtain⟨y,hy⟩:=b9 bB;have kG:D (i+1)=if(i:Int)∈ns then D i else D i++[y]:=by rw[hD,hD,sR,hy];rfl
  have wa:0<=(i:Int)/\(i:Int)<x.aB.length:=⟨by omega,by omega⟩;have dK:=DO hy;have KR:=bS i;refine aN ?_;refine ak ?_;refine aI ((aik (by omega) ?_));(try simp only[seval]);refine aD ?_;refine⟨λce=> ?_,λce=> ?_⟩
  ·have K2:¬(i:Int)∈ns:=(by simpa using ce);rw[if_neg K2]at kG;have hDf:((D i).flatMap aC.l).length=(D i).length* 4:=Df aC.len _;have lh:(D (i+1)).flatMap aC.l=(D i).flatMap aC.l++y.l:=(by rw[kG,UX];simp);have fF:(D (i+1)).length=(D i).length+1:=(by rw[kG,SN];rfl);refine ai ?_;simp only[seval,vA,rZ,b0,b2,s2,nz,dK,wa,aW,hDf];refine⟨by omega,?_⟩;refine ai ?_;simp only[seval,bM];refine hR _ ⟨bB,trivial,?_⟩;rw[fF,lh,show y.l=[iv y.number.min,iv y.number.max,iv y.hour.min,iv y.hour.max]from rfl];exact da
  ·have K2:(i:Int)∈ns:=(by simpa using ce);rw[if_pos K2]at kG;refine aN ?_;refine ai ?_;simp only[seval,bM];refine hR _ ⟨bB,trivial,?_⟩;rw[kG];exact da
 ·have yf:i=x.aB.length:=by omega
  subst yf;refine bX ?_;refine ai ?_;simp only[seval,b0,s0,bO];obtain⟨DD,QP⟩:∃DD,DD=D x.aB.length:=⟨_,rfl⟩;have J7:aj.av (x.wk ns)=.agg [iv x.first,iv x.hours,iv x.am,dS x.seen,aW x.pieces,aW DD]:=by rw[QP,hD];rfl
  rw[<- QP];refine ai ?_;simp only[seval,b0,b1,s1,CL];refine⟨⟨rfl,rfl⟩,?_⟩;refine n_ ?_;simp only[seval,b1];refine iM hH (b:=aj.av (x.wk ns)) ?_ (by rw[Dj];trivial) hk;rw[J7];exact HF (.cons (Wk.refl _) (.cons (Wk.refl _) (.cons (Wk.refl _) (.cons (Wk.refl _) (.cons (Wk.refl _) (.cons (g_ _ _ _) .nil))))))
theorem ah7{x:aj}(hx:x.Ok)(hk:∀(got:List Int)(e:Int),((zu x=some got/\e=0)\/(zu x=none/\got=[]/\e=11))->k (.aL [a_ got,iv e]) H):bh lv SA 32 H [x.av] k kp:=
 P3 hx (λl hl=>hk _ _ (.inl ⟨by rw[<- Qu hx];exact hl,rfl⟩)) (λhl=>hk _ _ (.inr ⟨by rw[<- Qu hx];exact hl,rfl,rfl⟩))
theorem ah8{n kk:Nat}(hn:n<=6)(dz:kk<=6)(hk:k (pS (gA n kk 0)) H):bh lv SA 33 H [iv n,iv kk] k kp:=by
 refine bF (rs:=[.tmp 4]) (nt:=8) Tryz.f33 λhH hA=> ?_;simp only[bk,SV];refine ak ?_;refine ak ?_;refine aI ((P7 kk (first:=0) hn dz (by omega) ?_));(try simp only[seval]);refine aZ ?_;exact bW hk
end
theorem PS:(b_ fK).isEmpty=false:=by kernel_rfl
theorem ahz{lo hi:Int}(h:Bounds (live fK) (λh=>h.getD 1 0) lo hi):lo=11/\hi=12:=by
 have k:Bounds (live fK) (λh=>h.getD 1 0) 11 12:=by
  rw[ahD];exact⟨⟨[10,11,13,14],by simp,rfl⟩,by decide,⟨[10,12,13,14],by simp,rfl⟩,by decide⟩
 exact h.uniq k
theorem ahC:B9 fK 2=[0,2]:=by kernel_rfl
theorem z3:gM (SF .i64 0) 3=[iv 0,iv 0,iv 0]:=rfl
theorem z4:gM (SF .i64 0) 4=[iv 0,iv 0,iv 0,iv 0]:=rfl
section
variable {H:List aa}{k kp:AV->List aa->Prop}
theorem PY(hm:H[0]?=some .main)(hk:k (bv true) H):bh true SA 19 H [] k kp:=by
 have aH:b_ fK≠[]:=λh=>by have:=PS;rw[h]at this;cases this
 refine bF (rs:=[.tmp 0]) (nt:=138) Tryz.f19 λhH hA=> ?_;simp only[bk,SV];have aT:∀(L:List aa),(H++L)[H.length]?=L[0]?:=λL=>aX H L 0;have db:∀(L:List aa)(y:aa),(H++L).set H.length y=H++L.set 0 y:=λL y=>dU H L 0 y;refine ak ?_;refine ak ?_;refine aI ((xr ?_));(try simp only[seval]);refine aI ((PZ yB hm ?_));rw[ahA];(try simp only[seval]);refine ak ?_;refine aI ((xr ?_));(try simp only[seval]);refine aI ((aic (hour:=1) yB (by decide) hm (λh=>absurd h aH) (λlo hi _ hb=> ?_)));obtain⟨rfl,rfl⟩:=ahz hb;(try simp only[seval,aT,db]);refine ak ?_;refine aI ((xr ?_));(try simp only[seval]);refine aI ((aia (q:=2) yB (by decide) (fO hm) (λh=>absurd h aH) (λ_=> ?_)));rw[show xg (Dr fK 2) fK.first 16=[13,14]from ahE];(try simp only[seval]);refine ak ?_;refine aI ((xr ?_));(try simp only[seval]);refine aI ((ah4 (s:=0) (q:=0) yB (by decide) (by decide) (fO hm) ?_));rw[PS,PT.1,PT.2,show vM true false=1 from rfl];(try simp only[seval]);refine ak ?_;refine aI ((xr ?_));(try simp only[seval]);refine aI ((ah2 yB (fO hm) (λh=>absurd h aH) (λ_=> ?_)));rw[show B9 fK fK.aB.length=[0,2]from ahC];(try simp only[seval]);refine ak ?_;refine aI ((xr ?_));(try simp only[seval]);refine aI ((ah6 (x:=fK) (s:=1) (q:=0) (y:=⟨⟨10,15⟩,⟨2,2⟩⟩) yB rfl (by decide) (λo ho=> ?_)));rw[show y_ (fK.wo [((1:Nat):Int)]) ⟨⟨10,15⟩,⟨2,2⟩⟩ 0 (fK.am.toNat+1)=1 from ahy]at ho;subst ho;(try simp only[seval]);refine ak ?_;refine aI ((aig ?_));(try simp only[seval]);refine aI ((P3 anF (λl hl=> ?_) (λh=>by rw[PR]at h;cases h)));rw[PR]at hl;cases hl;(try simp only[seval]);refine ak ?_;refine aI ((xr ?_));(try simp only[seval]);refine aI ((ahY yB (fO hm) (λh=>absurd h aH) (λu l hu=> ?_)));have lU:=ahB;rw[hu]at lU;cases lU;(try simp only[seval]);refine eO 77 ?_;simp only[seval,Vt,aT,beq_self_eq_true];refine iw (.agg [iv 11,iv 12]) (cx (ah0 ⟨rfl,rfl⟩)) ?_;have gH:∀k,dH SA .eql 46 (.agg [iv 11,iv 12]) (.agg [iv 11,iv 12]) k=k (bv true):=λk=>aeu (P:=SA) (t:=46) (n:=2) (xs:=[11,12]) (ys:=[11,12]) (by kernel_rfl) (by kernel_rfl) rfl rfl k;simp only[iv,bv]at gH;(try simp only[seval,gH,Vt,beq_self_eq_true,z2]);(try refine⟨by decide,?_⟩);refine iw (bv true) (cx (xq (xs:=[13,14]) (ys:=[13,14]) (e:=.shut) (e':=.exact) (by decide) ⟨by rw[decide_eq_true rfl],rfl⟩)) ?_;(try simp only[seval,Vt,z1,z2,z3,z4]);(try refine⟨by decide,?_⟩);refine iw (bv true) (cx (xq (xs:=[0,2]) (ys:=[0,2]) (e:=.shut) (e':=.exact) (by decide) ⟨by rw[decide_eq_true rfl],rfl⟩)) ?_;(try simp only[seval,Vt,z1,z2,z3,z4]);(try refine⟨by decide,?_⟩);refine iw (bv true) (cx (xq (xs:=[0]) (ys:=[0]) (e:=.shut) (e':=.exact) (by decide) ⟨by rw[decide_eq_true rfl],rfl⟩)) ?_;(try simp only[seval,Vt,z1,z2,z3,z4]);(try refine⟨by decide,?_⟩);refine iw (bv true) (cx (xq (xs:=[10,11,13,14]) (ys:=[10,11,13,14]) (e:=.shut) (e':=.exact) (by decide) ⟨by rw[decide_eq_true rfl],rfl⟩)) ?_;(try simp only[seval,Vt,z1,z2,z3,z4]);(try refine⟨by decide,?_⟩);refine iw (bv true) (cx (xq (xs:=[12,11,13]) (ys:=[12,11,13]) (e:=.shut) (e':=.exact) (by decide) ⟨by rw[decide_eq_true rfl],rfl⟩)) ?_;(try simp only[seval,Vt,z1,z2,z3,z4]);(try refine⟨by decide,?_⟩);refine iw (bv true) (cx (xq (xs:=[0,2]) (ys:=[0,2]) (e:=.shut) (e':=.exact) (by decide) ⟨by rw[decide_eq_true rfl],rfl⟩)) ?_;(try simp only[seval,Vt,z1,z2,z3,z4]);refine aZ ?_;exact iM hH (Wk.refl _) (.val _) hk
end
section
variable {lv:Bool}{k kp:AV->List aa->Prop}{Gf:bc->List aa}{t N:Nat}{b:Int}
end
section
variable {lv:Bool}{k kp:AV->List aa->Prop}{Gf:bc->List aa}{t N:Nat}{τ:bc}{b:Int}
end
section
variable {H:List aa}{k kp:AV->List aa->Prop}
theorem air{aA:List Int}(hm:H[0]?=some .main)(hn:aA.length<=2^50)(hk:k (bv true) H):bh true SA 7 H [a_ aA] k kp:=by
 have pq:∀L:List aa,(H++L)[0]?=some .main:=λL=>fO hm;refine bF (rs:=[.tmp 2]) (nt:=82) Wv λhH hA=> ?_;simp only[bk,SV];refine ak ?_;refine ak ?_;refine aI ((ahW ?_));(try simp only[seval]);refine aI ((ahQ (pm:=4) (b:=0) (arD H) ⟨Xm _,Xm _,hn⟩ (by decide) (by decide) λx bG aA bU τ hx _ _ _ _ _=> ?_));have rK:=hx.eD;have aQ:=hx.dc;have bO:x.l=[iv x.first,iv x.hours,iv x.am,dS x.seen,aW x.pieces,aW x.aB]:=rfl;have bt:x.l.length=6:=rfl;have ej:Ui 6 x.l=x.l:=rfl;obtain⟨B,hB⟩:∃B,B=H++[AY τ]:=⟨_,rfl⟩;rw[<- hB];have CF:∀L:List aa,(B++L)[0]?=some .main:=λL=>by rw[hB,SC];exact pq _
 have b0:∀(L:List aa),(B++L)[B.length]?=L[0]?:=λL=>aX B L 0;have s0:∀(L:List aa)(y:aa),(B++L).set B.length y=B++L.set 0 y:=λL y=>dU B L 0 y;(try simp only[seval,aj.av,b0,s0,bt]);refine⟨kR x,?_⟩;have nz:T7 5 x.l=[aW x.aB]:=rfl;refine ai ?_;simp only[seval,b0,bt,ej];refine aI ((ah7 (x:=x) hx λgot e qh=> ?_));(try simp only[seval]);refine ak ?_;refine cq ?_;refine sJ (x.aB.length+1) (λm:Nat=>[(9,iv m)]) (λ_=>B++[.cells x.l 26]) (λm=>∀j,j<m->∀a∈gA x.aB.length j 0,(λl=>decide (0<cnt (x.wo l))) a=false) (λj h=>absurd h (by omega)) (λbQ cP m aty hI R hR=> ?_);clear bQ cP;refine ai ?_;simp only[seval,b0,nz,aW];refine aD ?_;refine⟨λhc=> ?_,λhc=> ?_⟩
 ·have ws:m<=x.aB.length:=by omega
  have bM:SD.wrap ((m:Int)+1)=((m+1:Nat):Int):=by rw[bA _ (by omega)];rfl
  refine aN ?_;refine ai ?_;simp only[seval,b0,nz,aW];refine aI ((ah8 (n:=x.aB.length) (kk:=m) (by omega) (by omega) ?_));obtain⟨cH,hsr⟩:=ND x.aB.length (by omega) m (by omega) 0 (by omega);(try simp only[seval]);refine ak ?_;refine cq ?_;refine sJ (gA x.aB.length m 0).length (λi:Nat=>[(11,iv i)]) (λ_=>B++[.cells x.l 26]) (λi=>∀a∈(gA x.aB.length m 0).take i,(λl=>decide (0<cnt (x.wo l))) a=false) (λa h=>by simp at h) (λbQ cP i cK hJ R2 ru=> ?_);clear bQ cP;refine ai ?_;simp only[seval,pS];refine aD ?_;refine⟨λce=> ?_,λce=> ?_⟩
  ·have bB:i<(gA x.aB.length m 0).length:=(by omega);have fh:SD.wrap ((i:Int)+1)=((i+1:Nat):Int):=(by rw[bA _ (by omega)];rfl);obtain⟨l,hl⟩:=b9 bB;have CE:=Tc hl;have fF:=hsr l CE;have eI:l∈oX x.aB.length:=aq5 ws CE;have wa:0<=(i:Int)/\(i:Int)<(gA x.aB.length m 0).length:=⟨by omega,by omega⟩;refine aN ?_;refine cq ?_;have hzk:=hx.wk l;have hzw:=asa hx eI;refine eO 12 ?_;simp only[seval,b0,bt,ej,DR hl,wa];refine iw (x.wk l).av (cx (ah5 (x:=x) (ns:=l) hx (by omega) ⟨rfl,rfl⟩)) ?_;refine iw (.aL [iv (cnt (x.wo l)),iv 0]) (cx (PZ hzk (CF _) (by rw[hzw];exact⟨rfl,rfl⟩))) ?_;(try simp only[seval]);refine ai ?_;simp only[seval,show ((0:Int)!=0)=false from rfl];refine aD ?_;refine aN ?_;refine ak ?_;refine aD ?_;refine⟨λdE=> ?_,λdE=> ?_⟩
   ·have uR:0<cnt (x.wo l):=(by simpa using dE);have zS:zu x=some l:=agn ws hl hI hJ (decide_eq_true uR);obtain⟨rfl,rfl⟩:got=l/\e=0:=by
     rcases qh with⟨h1,h2⟩|⟨h1,_⟩
     ·rw[zS]at h1;cases h1;exact⟨rfl,h2⟩
     ·rw[zS]at h1;cases h1
    refine ai ?_;simp only[seval,show ((0:Int)==0)=true from rfl,DR hl,wa,a_];refine aI ((xq (by omega) ?_));(try simp only[seval,decide_true]);refine aI ((PY (CF _) ?_));(try simp only[seval]);refine aZ ?_;rw[hB,SC];exact iM hH (Wk.refl _) (.val _) hk
   ·have uR:decide (0<cnt (x.wo l))=false:=decide_eq_false (by simpa using dE);refine aN ?_;refine ai ?_;simp only[seval,fh];refine ru _ ⟨bB,λa ha=> ?_,da⟩;rw[VL,hl]at ha;rcases SR.1 ha with ha|ha
    ·exact hJ a ha
    ·simp only[Xd,S8]at ha;subst ha;exact uR
  ·have yf:i=(gA x.aB.length m 0).length:=(by omega);subst yf;rw[TG]at hJ;refine bX ?_;refine ai ?_;simp only[seval,bM];refine hR _ ⟨by omega,λj hj a ha=> ?_,da⟩;by_cases e:j=m
   ·subst e;exact hJ a ha
   ·exact hI j (by omega) a ha
 ·have yf:m=x.aB.length+1:=by omega
  subst yf;have zS:zu x=none:=ago hI;obtain⟨rfl,rfl⟩:got=[]/\e=11:=by
   rcases qh with⟨h1,_⟩|⟨_,h1,h2⟩
   ·rw[zS]at h1;cases h1
   ·exact⟨h1,h2⟩
  refine bX ?_;refine ai ?_;simp only[seval,show ((11:Int)==11)=true from rfl,show ((0:Int)==0)=true from rfl,a_,UN];refine aI ((PY (CF _) ?_));(try simp only[seval]);refine aZ ?_;rw[hB,SC];exact iM hH (Wk.refl _) (.val _) hk
end
open Go.ChangeShapes Go.WideShapes Go.ChangeAt Go.RowKit
def D8 (W:Tp):View:=⟨λb o=>W.cell? ⟨b,o,none⟩,λ_=>none,0,.plain⟩
def BW (W:Tp):Env:=⟨(D8 W).ab,1,λ_=>0,λ_ _=>(none,0),λ_=>0,λ_=>none,true⟩
theorem ap0(W:Tp):Sat (D8 W) W:=⟨λ_ _ _ h=>h,λ_ _ h=>by cases h⟩
theorem agu(W:Tp):Conc (BW W) (D8 W) [.main]where
 I:=rfl
 n:=rfl
 obj:=λk x h=>by
  match k,h with
  |0,h=>cases h;exact rfl
  |k+1,h=>cases h
 inj:=λi j x y b hi hj h1 h2=>by
  match i,hi with
  |0,hi=>cases hi;cases h1
  |i+1,hi=>cases hi
 group:=λg h=>by cases h
 chan:=λc h=>by cases h
 top:=λ_=>⟨rfl,rfl⟩
 fr:=λb y h=>by cases h
theorem ajs{f:TO}{W:Tp}{args:Array SP}{ma:List AV}{Q:SP->Prop}(hi:SA.inits.idxOf? f=none)(hd:cJ (BW W) ma args)(h:bh true SA f [.main] ma (λa _=>∀E v,ap E a v->Q v) (λ_ _=>False)):
  ∃M last o w' t',runNT SA (M+1) (solo (G (Frame.enter SA f args .normal) []) W) #[]=(.ended o w',t')/\runN SA M (solo (G (Frame.enter SA f args .normal) []) W)=.next last/\step SA last=.ended o w'/\WX SA (λv w=>Q v/\Left W.heap.size W w) last o w' t':=
 ajr hi (V:=D8 W) rfl rfl rfl (ap0 W) (h (BW W) (D8 W) args (agu W) hd) λo V' r=>by
  cases o with
  |ret v=>
   obtain⟨av,E',H',_,b8,_,bp,_,hk⟩:=r;exact⟨b8,v,rfl,λw _ hl=>⟨hk _ _ bp,hl⟩⟩
  |panic ch=>
   obtain⟨pv,v,E',H',_,_,_,_,_,_,hf⟩:=r;exact hf.elim
theorem agH{W:Tp}{b o len cap:Nat}{zs:List Int}(hl:zs.length=len)(hc:len<=cap)(h:∀i,i<len->W.cell? ⟨b,o+i,none⟩=some (.int .i64 (zs.getD i 0))):ap (BW W) (a_ zs) (.slice (some ⟨b,o,none⟩) len cap):=by
 subst hl;refine .sl b o cap (λi=> .int .i64 (zs.getD i 0)) hc trivial (λi hi=> ?_) (λi x hx=> ?_)
 ·exact h i (by simpa using hi)
 ·rw[To]at hx;obtain⟨z,hz,rfl⟩:=Tq.1 hx;rw[SE,hz];exact .val _
theorem Left.below{W w:Tp}(h:Left W.heap.size W w):Below W.heap.size W w:=⟨h.os,h.tape,h.out,h.size,h.old⟩
theorem Tz.own:ownKnob SA.godebug=none:=by kernel_rfl
theorem Tz.laidOut:laidOutB SA=true:=by kernel_rfl
theorem Tz.HA:SA.underlying 22=some (.slice 3):=by kernel_rfl
theorem Tz.u3:SA.underlying 3=some (.int .i64):=by kernel_rfl
theorem Tz.u4:SA.underlying 4=some .bool:=by kernel_rfl
theorem Tz.c3:SA.cellsOf 3=1:=by kernel_rfl
theorem Tz.b3:SA.bytesOf 3=8:=by kernel_rfl
theorem Tz.r22:SA.readableRec 22=true:=by kernel_rfl
theorem Tz.Mi:22<SA.types.size:=of_decide_eq_true (by kernel_rfl)
theorem apz{H:Type}{enc:TypeId×SP->H}{a:Assume}{C:Checked}{os:Os}{f:TO}{fn:YB}{s:ZV}{conds:List PathCond}{apart fresh handsOn again:Bool}{X:Tp->Array SP->Prop}
  (own:ownKnob C.prog.godebug=none) (started:os.Started) (xP:C.prog.funcs[f]?=some fn)
  (witness:∃(w:Tp)(tape:Tape)(i:Input),w.os=os/\(w.forCall tape i).Shaped C.prog/\i.vars=[]/\ZR C.prog (w.forCall tape i) .any w.heap.size f i/\
   ((s.pre enc C.prog fn conds apart (w.forCall tape i).memory i.args/\X (w.forCall tape i).memory i.args)/\sizedMet enc C.prog fn (VE s) apart (w.forCall tape i).memory i.args)/\a.holds C.prog (lone (Frame.enter C.prog f i.args .normal) [] (w.forCall tape i)))
  (runs:∀(W:Tp)(base:Nat)(args:Array SP)(ds gs:List (ai_ H))(before:List MemPlace),
   (∀(j:Nat) t v,fn.params[j]?=some t->args[j]?=some v->Yt C.prog W .any base t v)->
   DataW.Whole enc C.prog fn.params.toList s.vars apart W args.toList ds gs before->
   conds.all (asI C.prog ⟨fn.params.toList,ds,s.plain.varTypes C.prog,gs⟩)=true->
   (Za C.prog (fn.params.toList++s.plain.varTypes C.prog) (ds++gs)).all (·<=reachBytes)=true->
   a.holds C.prog (lone (Frame.enter C.prog f args .normal) [] W)->
   ∃M last o w' t',runNT C.prog (M+1) (solo (G (Frame.enter C.prog f args .normal) []) W) #[]=(.ended o w',t')/\runN C.prog M (solo (G (Frame.enter C.prog f args .normal) []) W)=.next last/\
    step C.prog last=.ended o w'/\WX C.prog (λv W'=>s.post enc C.prog fn apart fresh handsOn again W args v W') last o w' t'):
  Xu a C os f .any (λw args=>(s.pre enc C.prog fn conds apart w args/\X w args)/\sizedMet enc C.prog fn (VE s) apart w args) (s.post enc C.prog fn apart fresh handsOn again):=by
 refine returnsInLeavingWide_of_good own started witness ?_;intro w tape i _ _ _ au Lf ako;obtain⟨_,_,_,fB,akm,_,_,_,_,Gc⟩:=au;have e:fB=fn:=VY (akm.symm.trans xP);subst e;obtain⟨⟨⟨ds,gs,before,hw,hc⟩,_⟩,hz⟩:=Lf;have nM:=ah' (w':=w.forCall tape i) (by rfl) hw;obtain⟨M,last,o,w',t',h1,h2,h3,h4⟩:=runs (w.forCall tape i) w.heap.size i.args ds gs before Gc nM hc (hz.weights hw) ako;exact⟨M,last,o,w',t',h1,h2,h3,h4.mono λv hp=>an' hp⟩
def adK (f:TO):Prop:=∀aA:List Int,aA.length<=2^50->bh true SA f [.main] [a_ aA] (λa _=>a=bv true) (λ_ _=>False)
set_option maxRecDepth 100000 in
theorem alH{f:TO}{fn:YB}{s:ZV}{X:Tp->Array SP->Prop}(hf:SA.funcs[f]?=some fn)(hp:fn.params=#[22]) (hr:fn.resultTypes=#[4]) (hv:s.vars=[]) (hs:∀(H:Type)(d:ai_ H),s.fn H [d]={results:=[.lit (.bool true)],args:=[d]}) (hi:SA.inits.idxOf? f=none) (aky:adK f)
  (os:Os) (started:os.Started) (H:Type) (enc:TypeId×SP->H)
  (alE:∃(w:Tp)(tape:Tape)(i:Input),w.os=os/\(w.forCall tape i).Shaped UA.prog/\i.vars=[]/\ZR UA.prog (w.forCall tape i) .any w.heap.size f i/\
   ((s.pre enc UA.prog fn [] false (w.forCall tape i).memory i.args/\X (w.forCall tape i).memory i.args)/\sizedMet enc UA.prog fn (VE s) false (w.forCall tape i).memory i.args)/\({}:Assume).holds UA.prog (lone (Frame.enter UA.prog f i.args .normal) [] (w.forCall tape i))):
  Xu {} UA os f .any (λw args=>(s.pre enc SA fn [] false w args/\X w args)/\sizedMet enc SA fn (VE s) false w args) (s.post enc SA fn false true false false):=by
 refine apz (C:=UA) Tz.own started hf alE ?_;intro W base args ds gs before aaj hW _ Lw _;have aV:(Za SA (fn.params.toList++s.plain.varTypes SA) (ds++gs)).all (·<=reachBytes)=true:=Lw;clear Lw;have Gc:∀(j:Nat) t v,fn.params[j]?=some t->args[j]?=some v->Yt SA W .any base t v:=aaj;have vZ:=hW;obtain⟨p,q,Fj,hV,rfl,_,_⟩:=hW;have hA:DataW.TrodAll enc SA W 0 (λ_=>true) true fn.params.toList args.toList ds p:=Fj;rw[hp]at hA Gc aV;obtain⟨v0,d0,rfl,rfl,h0⟩:=trodAll_one hA;rw[hv]at hV;obtain⟨rfl,rfl⟩:=trodVars_none hV;have au:=Gc 0 22 v0 rfl rfl;obtain⟨a0,len,cap,rfl⟩:=okWide_slice Tz.HA au;have h0k:=h0;obtain⟨fuel,hfu⟩:=h0;clear Fj aaj;simp only[SO]at vZ;have hlt:∀x∈p,x.block<W.heap.size:=λx hx=>by simpa using vZ.lt x hx
 have cN:∀(W':Tp),Below W.heap.size W W'->DataW.Trod enc SA W' 0 (λb=>decide (b<W.heap.size)) true 22 (.slice a0 len cap) d0 p:=
  λW' hn=>Below.trod Tz.laidOut Tz.r22 Tz.Mi h0k hn hlt
 have close:∀aA:List Int,aA.length<=2^50->ap (BW W) (a_ aA) (.slice a0 len cap)->
   ∃M last o w' t',runNT UA.prog (M+1) (solo (G (Frame.enter UA.prog f #[.slice a0 len cap] .normal) []) W) #[]=(.ended o w',t')/\
    runN UA.prog M (solo (G (Frame.enter UA.prog f #[.slice a0 len cap] .normal) []) W)=.next last/\step UA.prog last=.ended o w'/\
    WX UA.prog (λv W'=>s.post enc UA.prog fn false true false false W #[.slice a0 len cap] v W') last o w' t':=by
  intro aA hn hd;obtain⟨M,last,o,w',t',h1,h2,h3,h4⟩:=ajs (Q:=λv=>v=.bool true) (args:=#[.slice a0 len cap]) (ma:=[a_ aA]) hi ⟨rfl,λi a e=>by
   match i,e with
   |0,e=>cases e;exact hd⟩ ((aky aA hn).mono (λa H' e E v bp=>by subst e;cases bp;rfl) λ_ _ h=>h)
  refine⟨M,last,o,w',t',h1,h2,h3,h4.mono λv ⟨hQ,hL⟩=> ?_⟩;subst hQ;have hb:=hL.below;refine⟨[d0],[],_,[],p,[],vZ,?_,?_,by rw[hv];exact(by rw[show ([d0]++[]:List (ai_ H))=[d0]from rfl,hs];rfl),hb.frame _,λh=>by cases h⟩
  ·rw[show ([d0]++[]:List (ai_ H))=[d0]from rfl,hs,hr];exact trodAll_mk1 (shut_bool Tz.u4 true)
  ·rw[show ([d0]++[]:List (ai_ H))=[d0]from rfl,hs,hp];exact trodAll_mk1 (cN _ hb)
 rcases open_ints Tz.HA Tz.u3 Tz.c3 hfu with⟨o_,hx⟩|⟨a,atJ,cap',zs,o_,_,hl,hm,hz,hx,Kc,hwz⟩
 ·simp[Z4]at o_;obtain⟨rfl,rfl,rfl⟩:=o_;exact close [] (by simp) (.nil trivial)
 ·simp[Z4]at o_;obtain⟨rfl,rfl,rfl⟩:=o_;simp only[U2]at hx;obtain⟨rfl,rfl⟩:=hx;simp only[if_true]at hz;have aaa:a.spot=none:=by
   have:=au;simp only[Yt,Tz.HA,Cell.okWide,Cell.ok]at this;exact this.2.2.2.1
  have atC:len* 8<=140737488355328:=by
   have:=sized_slice aV (j:=0) (t:=22) (e:=3) rfl rfl Tz.HA;rw[Tz.b3]at this;simp only[lits,Tn,Ud,Un,reachBytes]at this;omega
  obtain⟨bl,off,spot⟩:=a;simp only at aaa;subst aaa;have oD:(zs.take len).length=len:=by rw[Ud];omega
  refine close (zs.take len) (by rw[oD];omega) (agH oD hl λi hi=> ?_);have:=Kc i (by omega);rw[show (at4 ⟨bl,off,none⟩ i)=⟨bl,off+i,none⟩ by simp[at4]]at this;rw[this,SE,SE,List.getElem?_take_of_lt hi]
def aaq:List (List Nat):=[99,117,116]::[97,116]::[[70,105,114,115,116],[87,105,100,101,114],[71,105,118,101,110],[65,112,97,114,116],[70,111,114,103,101,100],[82,101,97,100],[71,114,101,97,116,101,114],[77,105,120,101,100],[84,114,117,101],[83,116,101,112,115],[79,114,100,101,114],[65,108,108]].map ([103,108,97,100,115,116,111,110,101,47,103,108,97,100,115,116,111,110,101,108,97,119,48,49,46,84,105,99,107,101,116]++·)
def aap:List Nat:=[104,97,114,110,101,115,115,32,52,53,102,100,53,51,53,49,102,55,99,100,57,55,51,53,100,100,102,52,98,97,54,100,48,51,53,50,49,55,53,54,101,100,101,54,101,54,99,53,99,99,52,49,57,100,50,53,55,100,49,55,57,50,99,52,48,101,97,100,49,102,57,101]++aaq.flatMap (32::·)
set_option maxRecDepth 100000 in
theorem ioL:SA.initOrder.toList=aap.map Zc:=by
 have h:SA.initOrder=String.ofList (aap.map Zc):=by kernel_rfl
 rw[h,String.toList_ofList]
def L4:List (List Char):=aaq.map λl=>l.map Zc
set_option maxRecDepth 100000 in
theorem ioW:behindMainWord (wordsSigns SA.initOrder.toList)=L4:=by
 rw[ioL]
 kernel_rfl
section
variable {P:SI}{c:List Char}{rest:List (List Char)}
theorem anb (h : behindMainWord (wordsSigns P.initOrder.toList) = c :: rest) (hc : c = "cut".toList) (h1 : stripLifts liftWords (c :: rest) = ([], c :: rest)) (h2 : P.laysLater = false) (h3 : P.bearsReflect = false) (h4 : P.doorFits [] = true) : P.mayEnter = true := by
 unfold at5;rw[h];subst hc;simp only[h1,h2,h3,h4,ZL,beq_self_eq_true,Zh,YC,Zu,Bool.or_true,Z',Vu]
theorem akj (h : behindMainWord (wordsSigns P.initOrder.toList) = c :: rest) (hc : c = "cut".toList) (h1 : stripLifts liftWords (c :: rest) = ([], c :: rest)) : P.headLifts = [] := by
 unfold aua;rw[h];simp only[h1,ite_self]
theorem amG (h : behindMainWord (wordsSigns P.initOrder.toList) = c :: rest) (hc : c = "cut".toList) (h1 : stripLifts liftWords (c :: rest) = ([], c :: rest)) : P.liftsFinal = false := by
 unfold at7;rw [akj h hc h1, h];subst hc;simp only [ZL, Zh, Bool.or_false];have : (some "cut".toList == some "carried".toList) = false := by decide +kernel
 rw[this,YD]
theorem am5 (h : behindMainWord (wordsSigns P.initOrder.toList) = c :: rest) (hc : c = "cut".toList) : P.make = some .cut := by
 unfold at6;rw [h];subst hc;have e1 : ("cut".toList == "gc".toList) = false := by decide +kernel
 have e2 : ("cut".toList == "spec".toList) = false := by decide +kernel
 simp only[e1,e2,Bool.or_self,TN,if_false,beq_self_eq_true,ae',if_true]
end
def Gq:List Char:=L4.headD []
def L2:List (List Char):=L4.tail
theorem L3:behindMainWord (wordsSigns SA.initOrder.toList)=Gq::L2:=ioW.trans (by kernel_rfl)
theorem L1 : Gq = "cut".toList := by kernel_rfl
theorem ioS:stripLifts liftWords (Gq::L2)=([],Gq::L2):=by kernel_rfl
theorem Tz.mayEnter:SA.mayEnter=true:=anb L3 L1 ioS (by kernel_rfl) (by kernel_rfl) (by kernel_rfl)
theorem Tz.amF:SA.liftsFinal=false:=amG L3 L1 ioS
theorem Tz.make:SA.make=some .cut:=am5 L3 L1
theorem alU{P:SI}{f:TO}{fn:YB}{s:ZV}{c:Ye}
  (k0:(c.wf (VE s))=true)
  (k1:(laidOutB P)=true)
  (k2:(mapsRowed P)=true)
  (k3:(fn.params.all (P.readableRec ·))=true)
  (k4:(namedTie P c.named s.vars)=true)
  (k5:((c.stops==[]))=true)
  (k6:((P.stops==[]))=true)
  (k7:((c.knobs==[]))=true)
  (k8:((P.stopKnobs==[]))=true)
  (k9:((c.inPlace==P.inPlace f))=true)
  (C9:((c.unfollowed==P.unfollowed f))=true)
  (L7:((c.recurses==P.recurses f))=true)
  (Ar:((c.named==P.varsNamed f))=true)
  (L8:((c.maps==(fn.params.toList++s.plain.varTypes P).any (P.mapsRec ·)))=true)
  (C_:((c.ifaces==(fn.params.toList++s.plain.varTypes P).any (P.ifacesRec ·)))=true)
  (L9:((c.mapsOut==P.mapsAmong fn.resultTypes.toList))=true)
  (L_:((c.loops==(fn.params.toList++s.plain.varTypes P).any (P.loopsFrom ·)))=true)
  (Ma:((c.wideKeys==(fn.params.toList++s.plain.varTypes P++fn.resultTypes.toList).any (P.wideKeysFrom ·)))=true)
  (k18:(s.vars.all (P.varReadable ·))=true)
  (k19:(fn.resultTypes.all (λt=>P.readableRec t&&decide (t<P.types.size)))=true)
  (Mb:((c.ifacesOut==fn.resultTypes.toList.any (P.ifacesRec ·)))=true)
  (Mc:((c.loopsOut==fn.resultTypes.toList.any (P.loopsFrom ·)))=true)
  (Md:((c.plainKeys==P.plainKeys))=true)
  (Me:(c.shortTexts.isNone)=true)
  (Mf:(P.stopsHeard)=true)
  (Mg:(P.mayEnter)=true)
  (k26:((c.lifted==P.liftsFinal))=true)
  (k27:((P.make==some c.make))=true)
  (k28:c.domain.isEmpty=true) (alX:c.kinds=[])
  (k29:((c.pinned==c.pinnedBy))=true)
  (k30:((c.veiled==(fn.params.toList++s.plain.varTypes P++fn.resultTypes.toList).any (P.veiledRec ·)))=true)
  (k31:(c.veiledFits P fn.params.toList (fn.params.toList++s.plain.varTypes P++fn.resultTypes.toList))=true):joinedFacts P f fn s c=true:=by
 simp only[joinedFacts,k0,k1,k2,k3,k4,k5,k6,k7,k8,k9,C9,L7,Ar,L8,C_,L9,L_,Ma,k18,k19,Mb,Mc,Md,Me,Mf,Mg,k26,k27,k28,alX,if_true,beq_self_eq_true,k29,k30,k31,Z']
theorem amE{c:Ye}(h:c.lifted=false):(c.lifted==SA.liftsFinal)=true:=by rw[Tz.amF,h];rfl
theorem am6{c:Ye}(h:c.make=.cut):(SA.make==some c.make)=true:=by rw[Tz.make,h];rfl
end Go.Gg
namespace Go.Proofs.YtkanpclgnhdbiaaGreatDoor
open Go.Conc Go.Proofs Go.Gg
theorem arC(Lk:Looks){p:Pinned}{s:OpenSpec}{c:Ye}(al:List (List PathCond))(kinds:List LaidKind)(Hw:Bool)(v5:Bool×String)(lk:Bool)
  (hc:c.holds p s) (gI:∀D∈al,(c.withDomain D).holds p s) (hw:c.wfByText s=true) (alC:∀D∈al,(c.withDomain D).wfByText s=true)
  (alx:c.laidByTextAt Lk p kinds Hw)
  (aQ:c.start=.entering) (tu:c.noBlocks=false/\c.again=false) (hm:p.checked.prog.mainIs=some (v5.1,v5.2.toList)) (hn:(!v5.1&&v5.2.isEmpty&& !lk)=false)
  (hl:∀f fn,p.checked.prog.funcNamed c.func=some f->p.checked.prog.funcs[f]?=some fn->lk=p.checked.prog.looks []/\∀(j:Nat) t,fn.params[j]?=some t->p.checked.prog.wantsStandIn t=false)
  (hg:true=c.goesBy p.checked.prog):
  Claim7.holds p (.plain s) {stood:={row:=c,standIns:=[],harness:=v5,looks:=lk},kinds:=[],alts:=al,goes:=true,laidByText:=true,laidKinds:=kinds,laidTests:=Hw,laidLooks:=Lk}:=by
 have h6:∀r:Ye,Zt {stood:={row:=r,standIns:=[],harness:=v5,looks:=lk},kinds:=[]}=false:=λr=>by simpa[Zt]using hn
 refine⟨YT Lk kinds Hw (YK hc v5 lk aQ tu hm (h6 c) hl) hw,λD hD=> ?_,alx,(λh=>by cases h),hg⟩;exact YT Lk kinds Hw (YK (gI D hD) v5 lk aQ tu hm (h6 _) hl) (alC D hD)
theorem aaE:SA.funcNamed Rows.ticketForgedRow.func=some 7:=by kernel_rfl
theorem amf:joinedFacts SA 7 Wv Rows.ticketForgedSpec Rows.ticketForgedRow=true:=
 alU (by kernel_rfl) Tz.laidOut (by kernel_rfl) (by kernel_rfl) (by kernel_rfl) (by kernel_rfl) (by kernel_rfl) (by kernel_rfl) (by kernel_rfl) (by kernel_rfl) (by kernel_rfl) (by kernel_rfl) (by kernel_rfl) (by kernel_rfl) (by kernel_rfl) (by kernel_rfl) (by kernel_rfl) (by kernel_rfl) (by kernel_rfl) (by kernel_rfl) (by kernel_rfl) (by kernel_rfl) (by kernel_rfl) (by kernel_rfl) (by kernel_rfl) Tz.mayEnter (amE (by kernel_rfl)) (am6 (by kernel_rfl)) (by kernel_rfl) (by kernel_rfl) (by kernel_rfl) (by kernel_rfl) (by kernel_rfl)
theorem ame:Wv.isInstance SA Rows.ticketForgedRow.origin Rows.ticketForgedRow.targs:=of_decide_eq_true (by kernel_rfl)
theorem amg:Wv.isWrapper SA Rows.ticketForgedRow.wrapper Rows.ticketForgedRow.mainSum:=by unfold Func.isWrapper;first|(rw[if_pos (by decide+kernel)];kernel_rfl)|(rw[if_neg (by decide+kernel)];exact⟨rfl,rfl⟩)
theorem amd(os:Os)(args:Array SP):laidMetH SA Rows.ticketForgedRow.laid ((Zy SA 400 os).forCall (λ_ _=>0) ⟨#[],args,[]⟩).memory:=
 laidMetH_of_parts (laidMet_nil _ _) (by kernel_rfl)
theorem amh(os:Os)(started:os.Started)(H:Type)(enc:TypeId×SP->H):
  Xu {} UA os 7 .any (λw args=>(Rows.ticketForgedSpec.pre enc SA Wv [] false w args/\laidMetH SA Rows.ticketForgedRow.laid w)/\sizedMet enc SA Wv (VE Rows.ticketForgedSpec) false w args) (Rows.ticketForgedSpec.post enc SA Wv false true false false):=
 alH (f:=7) (fn:=Wv) (s:=Rows.ticketForgedSpec) (X:=λw _=>laidMetH SA Rows.ticketForgedRow.laid w) Y_ rfl rfl rfl (λ_ _=>rfl) (by kernel_rfl) (λaA hn=>air rfl hn rfl) os started H enc
  (an_ (enc:=enc) (C:=UA) (os:=os) (X:=λw _=>laidMetH SA Rows.ticketForgedRow.laid w) false (Zy SA 400 os) #[.slice none 0 0] 8 rfl (World.shaped_of_RefB (by kernel_rfl) (by kernel_rfl)) (by kernel_rfl) (by kernel_rfl) (by kernel_rfl) (amd os _))
theorem arB:Rows.TicketForgedSaid:=
 apH 7 Wv rfl rfl rfl rfl rfl rfl rfl ⟨rfl,rfl,rfl,rfl,rfl⟩ rfl rfl rfl rfl rfl aaE Y_ amf ame amg
  (λos started H enc _=>amh os started H enc)
theorem ticketForgedCard_holds:Rows.TicketForgedCardSaid:=
 arC .later [] [.handle] true (true, "45fd5351f7cd9735ddf4ba6d03521756ede6e6c5cc419d257d1792c40ead1f9e") true
  arB (λ_ h=>by cases h) (by kernel_rfl) (λ_ h=>by cases h) ticketForged_row_tie rfl ⟨rfl,rfl⟩ (by kernel_rfl) rfl
  (λf fn hf xP=>by
   obtain rfl:f=7:=VY (aaE.symm.trans hf)|>.symm;obtain rfl:fn=Wv:=(VY (Y_.symm.trans xP)).symm;exact⟨by kernel_rfl,λj t ht=>by
    rw[show Wv.params=#[22]from rfl]at ht;have h3:t=22:=by
     rcases j with _|j
     ·simpa using ht.symm
     ·simp at ht
    subst h3;exact(show SA.wantsStandIn 22=false by kernel_rfl)⟩)
  (by kernel_rfl)
end Go.Proofs.YtkanpclgnhdbiaaGreatDoor
