/- For every list of numbers, TicketSteps returns true and does not panic, in any order in which its goroutines run; errors.errorType starts as the text of the program lays it. -/
import Derived.Test.YtkanpclgnhdbiaaGreatDoorTicketStepsCard4
import Derived.Conc.LeavingOf
import Derived.Conc.Holds
import Derived.ProofKit
import Derived.Test.YtkanpclgnhdbiaaGreatDoorChecked
import Derived.Test.YtkanpclgnhdbiaaGreatDoorRows
import Derived.LaidMore
import Derived.SevenTiedAt
import Derived.Test.YtkanpclgnhdbiaaGreatDoorTie
import Derived.Test.YtkanpclgnhdbiaaGreatDoorCards
set_option linter.all false
set_option maxRecDepth 4000
set_option maxHeartbeats 1000000
open Bool renaming and_self->Za,false_and->XR,false_eq_true->TC,false_or->YG,not_false->XQ,not_true->ZD,true_and->U0,true_or->Zj
open Char renaming ofNat->Yo
open Go.Addr renaming add->ZN
open Go.ChangeSpec renaming post_blind->Zv,witness_shaped->Zu
open Go.Claim7 renaming isSixth->YF,new_of_sixth->XY,tied_new_at->X_
open Go.Conc renaming Good->Wm
open Go.DataW renaming weightsEach->Yn
open Go.DataW.Whole renaming of_heap->Zq
open Go.Input renaming okWide->YZ
open Go.IntKind renaming i64->SE
open Go.OpenClaim renaming holds_of_wide_leaving->Zz
open Go.OpenSpec renaming ofChange->U_
open Go.PathCond renaming test->ZH
open Go.Program renaming headLifts->ZR,liftsFinal->ZQ,make->ZP,mayEnter->ZO
open Go.Proofs.Tryz renaming checked->Uk,f12->VB,func12->X8,prog->SD
open Go.Value renaming cells->Y9,int->SG,okWide->XK
open Go.World renaming doorLaid->YL
open Int renaming le_refl->YB
open List renaming append_assoc->SC,append_eq->UZ,append_nil->SI,contains_nil->Yt,drop->Ud,ext_getElem?->Zw,getD_eq_getElem?_getD->SF,getElem?_append_left->SY,getElem?_append_right->Tg,getElem?_eq_getElem->SV,getElem?_eq_none->Us,getElem?_map->Ti,getElem?_range->YV,head?_cons->YU,length_drop->T8,length_map->Tj,length_take->TW,mem_append->SN,mem_cons->SK,mem_filter->Uh,mem_flatMap->S4,mem_map->Th,mem_range->TH,mem_singleton->S5,not_mem_nil->SU,range->SX,replicate->TG,take->T_,take_take->US
open Nat renaming add_sub_cancel_left->Ve,min_eq_left->WI,reduceAdd->SS
open Option renaming map_eq_some_iff->Tl,map_some->UB
open Option.some renaming inj->Vz
open Prod.mk renaming injEq->UH
namespace Go.Gg
open Go.Conc Go.Proofs Go.Gg.Tk
theorem Tk.Bounds.of_map{l:List (List Int)}{g:List Int->List Int}{v w:List Int->Int}{a b:Int}(h:Bounds (l.map g) v a b)(e:∀y∈l,v (g y)=w y):Bounds l w a b:=by
 obtain⟨g1,m1,e1⟩:=h.uu;obtain⟨g2,m2,e2⟩:=h.ut;obtain⟨y1,n1,rfl⟩:=Th.1 m1;obtain⟨y2,n2,rfl⟩:=Th.1 m2;exact⟨⟨y1,n1,e1.trans (e y1 n1)⟩,λy hy=>by rw[<- e y hy];exact h.le _ (Th.2 ⟨y,hy,rfl⟩),⟨y2,n2,e2.trans (e y2 n2)⟩,λy hy=>by rw[<- e y hy];exact h.ge _ (Th.2 ⟨y,hy,rfl⟩)⟩
theorem LZ{h:List Int}{i:Nat}(hi:i<h.length):(cM h).getD i 0=h.getD i 0:=by
 unfold cM;rw[SF,SF,SY hi]
theorem aad{x:ai}{h:List Int}(hm:h∈live x):h.length=1+x.hours.toNat:=J3 (Uh.1 hm).1
theorem aa6{x:ai}{D:Kn}(hx:x.Ok)(hD:dZ x 0 D)(hh:D.has=true){hs:List (List Int)}(hp:hs.Perm D.aH)(v:List Int->Int)(w:List Int->Int)(e:∀y∈live x,v (cM y)=w y):Bounds (live x) w (hs.foldl (λb h=>b.add (v h)) (⟨0,0,false⟩:fu)).lo (hs.foldl (λb h=>b.add (v h)) (⟨0,0,false⟩:fu)).hi:=by
 have dQ:=hp.trans (Sj hx hD);have aE:hs≠[]:=λh=>by
  rw[h]at dQ;have:=dQ.length_eq;rw[Tj]at this;have h0:live x=[]:=List.eq_nil_of_length_eq_zero this.symm;rw[(vY hx hD).2 (Lv.1 h0)]at hh;cases hh
 exact((N6 v aE).amZ dQ).of_map e
theorem FO{x:ai}{deep:Int}{D:Kn}(hx:x.Ok)(hD:dZ x deep D)(hh:D.has=true):cg x≠[]:=λh=>by
 rw[(vY hx hD).2 h]at hh;cases hh
theorem aan{α:Type}{f:Nat->α}{l:List α}{n:Nat}(d:α)(hl:l.length=n)(h:∀i,i<n->f i=l.getD i d):(SX n).map f=l:=by
 refine Zw λi=> ?_;rw[Ti];by_cases hi:i<n
 ·rw[YV hi,UB,h i hi,SF,SV (by omega)];rfl
 ·rw[Us (by simp;omega),Us (by omega)];rfl
theorem agp{x:ai}(hx:x.Ok){u:Tr}(hu:u∈cg x){s:Nat}(hs:s<x.aB.length):(eT u).getD (8+s) 0=((u.b9.getD s 0:Nat):Int):=by
 obtain⟨h1,h2⟩:=wm hx hu;have h3:=(GR hx hu).1;have hh:=hx.hours;have oC:=hx.dI;have h4:=xT (h:=u.bH) (by omega);have dX:s<u.b9.length:=by omega
 have hg:(eT u)[8+s]?=some ((u.b9[s]:Nat):Int):=by
  unfold eT dB lq;have h8:(cM u.bH++((u.aA.map λn=>(n-u.bH.headD 0).toNat).map (λn:Nat=>(n:Int))++TG (4-(u.aA.map λn=>(n-u.bH.headD 0).toNat).length) (-1))).length=8:=by simp[h4];omega
  rw[Tg (by omega),h8,Ve,SY (by simpa using dX),Ti,SV dX];rfl
 rw[SF,hg,SF,SV dX];rfl
theorem aqV{x:ai}{u:Tr}(hu:u∈cg x):u.bH.headD 0=x.first:=by
 obtain⟨h,a,b⟩:=S4.1 hu;rw[yb b];exact(zh _ _ _ (by simp) a).2
theorem ah0{x:ai}(hx:x.Ok){u:Tr}(hu:u∈cg x):(eT u).take (x.hours.toNat+1)=u.bH:=by
 have hl:=(wm hx hu).1;have hh:=hx.hours;have h1:(eT u).take (x.hours.toNat+1)=((eT u).take 4).take (x.hours.toNat+1):=by rw[US,WI (by omega)]
 rw[h1,Iw hx hu];exact L1 (by omega)
theorem ah1{x:ai}(hx:x.Ok){u:Tr}(hu:u∈cg x):sx x (eT u) x.pieces.length=u.aA:=by
 unfold sx;refine aan 0 (wm hx hu).2 λi hi=> ?_;rw[agm hx hu hi,aqV hu];omega
theorem ah2{x:ai}(hx:x.Ok){u:Tr}(hu:u∈cg x):sA (eT u) x.aB.length=u.b9.map λn:Nat=>(n:Int):=by
 unfold sA;refine aan 0 (by rw[Tj];exact(GR hx hu).1) λi hi=> ?_;have hl:=(GR hx hu).1;rw[agp hx hu hi,SF,SF,Ti,SV (by omega)];rfl
section
variable {H:List aa}{k kp:AV->List aa->Prop}{x:ai}
theorem ahc(hx:x.Ok)(hm:H[0]?=some .main)(hk:k (.aK [iv (cnt x),iv 0]) H):bi true SD 21 H [x.av] k kp:=
 ahb hx hm λD hD=>by rw[count_eq hx hD];exact hk
theorem IC{hour:Nat}(hx:x.Ok)(hh:(hour:Int)<=x.hours)(hm:H[0]?=some .main)(h0:cg x=[]->k (.aK [.agg [iv 0,iv 0],iv 11]) H)(h1:∀lo hi,cg x≠[]->Bounds (live x) (λh=>h.getD hour 0) lo hi->k (.aK [.agg [iv lo,iv hi],iv 0]) H):bi true SD 36 H [x.av,iv hour] k kp:=
 ahm hx hh hm λD hD=>⟨λhn=>h0 ((vY hx hD).1 hn),λhy hs hp=>h1 _ _ (FO hx hD hy) (aa6 hx hD hy hp (λh=>h.getD hour 0) _ λy mj=>LZ (by rw[aad mj];have:=hx.hours;omega))⟩
theorem ahp{hour:Nat}(hx:x.Ok)(hm:H[0]?=some .main)(hu:¬(hour:Int)<=x.hours-1->k (.aK [.agg [iv 0,iv 0],iv 3]) H)(h0:(hour:Int)<=x.hours-1->cg x=[]->k (.aK [.agg [iv 0,iv 0],iv 11]) H)(h1:(hour:Int)<=x.hours-1->∀lo hi,cg x≠[]->Bounds (live x) (λh=>h.getD (hour+1) 0-h.getD hour 0) lo hi->k (.aK [.agg [iv lo,iv hi],iv 0]) H):bi true SD 41 H [x.av,iv hour] k kp:=
 aho hx hm hu λhh D hD=>⟨λhn=>h0 hh ((vY hx hD).1 hn),λhy hs hp=>h1 hh _ _ (FO hx hD hy) (aa6 hx hD hy hp (λh=>h.getD (hour+1) 0-h.getD hour 0) _ λy mj=>by
  have hl:=aad mj;have:=hx.hours;rw[LZ (by omega),LZ (by omega)])⟩
theorem ahl{q:Nat}(hx:x.Ok)(hq:q<x.pieces.length)(hm:H[0]?=some .main)(h0:cg x=[]->k (.aK [bu [],iv 11]) H)(h1:cg x≠[]->k (.aK [bu (wP (CO x q) x.first 16),iv 0]) H):bi true SD 34 H [x.av,iv q] k kp:=
 ahk hx hq hm λD hD=>⟨λhn=>h0 ((vY hx hD).1 hn),λhy=>by rw[aaa λn _=>amN hx hD hq n];exact h1 (FO hx hD hy)⟩
theorem ahh{s q:Nat}(hx:x.Ok)(hs:s<x.aB.length)(hq:q<x.pieces.length)(hm:H[0]?=some .main)(hk:k (.aK [iv (if(cg x).isEmpty then 0 else vM (s_ x s q) (CS x s q)),iv (if(cg x).isEmpty then 11 else 0)]) H):bi true SD 28 H [x.av,iv s,iv q] k kp:=
 ahg hx hs hq hm λD hD=>by rw[anh hx hD hs,ae4 hx hD];exact hk
def Br (x:ai)(i:Nat):List Int:=(SX i).flatMap λs=>if 1<(wP (s_ x s) 0 16).length then[-1]else wP (s_ x s) 0 16
theorem ahf(hx:x.Ok)(hm:H[0]?=some .main)(h0:cg x=[]->k (.aK [bu [],iv 11]) H)(h1:cg x≠[]->k (.aK [bu (Br x x.aB.length),iv 0]) H):bi true SD 26 H [x.av] k kp:=
 ahe hx hm λD hD=>⟨λhn=>h0 ((vY hx hD).1 hn),λhy=>by
  have e:tS D.aV x.aB.length=Br x x.aB.length:=by
   unfold tS Br;refine Bj λs hs=> ?_;rw[aaa λn _=>L2 hx hD (TH.1 hs) n]
  rw[e];exact h1 (FO hx hD hy)⟩
theorem ag9(hx:x.Ok)(hm:H[0]?=some .main)(h0:cg x=[]->k (.aK [bu [],bu [],bu [],iv 11]) H)(h1:∀u l,cg x=u::l->k (.aK [bu u.bH,bu u.aA,bu (u.b9.map λn:Nat=>(n:Int)),iv 0]) H):bi true SD 18 H [x.av] k kp:=
 ag8 hx hm λD hD=>⟨λhn=>h0 ((vY hx hD).1 hn),λhy=>by
  obtain⟨u,l,e1,e2⟩:=ala hx hD hy;have hu:u∈cg x:=by rw[e1];simp
  rw[e2,ah0 hx hu,ah1 hx hu,ah2 hx hu];exact h1 u l e1⟩
end
theorem O2:(cg fU).isEmpty=false:=by kernel_rfl
theorem agK{lo hi:Int}(h:Bounds (live fU) (λh=>h.getD 1 0) lo hi):lo=11/\hi=12:=by
 have k:Bounds (live fU) (λh=>h.getD 1 0) 11 12:=by
  rw[agO];exact⟨⟨[10,11,13,14],by simp,rfl⟩,by decide,⟨[10,12,13,14],by simp,rfl⟩,by decide⟩
 exact h.uniq k
theorem agN:Br fU 2=[0,2]:=by kernel_rfl
theorem z3:gU (SG .i64 0) 3=[iv 0,iv 0,iv 0]:=rfl
theorem z4:gU (SG .i64 0) 4=[iv 0,iv 0,iv 0,iv 0]:=rfl
section
variable {H:List aa}{k kp:AV->List aa->Prop}
theorem aha(hm:H[0]?=some .main)(hk:k (bv true) H):bi true SD 19 H [] k kp:=by
 have aE:cg fU≠[]:=λh=>by have:=O2;rw[h]at this;cases this
 refine bI (rs:=[.tmp 0]) (nt:=138) Tryz.f19 λhH hA=> ?_;simp only[bp,SS];have aT:∀(L:List aa),(H++L)[H.length]?=L[0]?:=λL=>aS H L 0;have dV:∀(L:List aa)(y:aa),(H++L).set H.length y=H++L.set 0 y:=λL y=>de H L 0 y;refine ak ?_;refine ak ?_;refine aL ((wZ ?_));(try simp only[seval]);refine aL ((ahc xY hm ?_));rw[agL];(try simp only[seval]);refine ak ?_;refine aL ((wZ ?_));(try simp only[seval]);refine aL ((IC (hour:=1) xY (by decide) hm (λh=>absurd h aE) (λlo hi _ hb=> ?_)));obtain⟨rfl,rfl⟩:=agK hb;(try simp only[seval,aT,dV]);refine ak ?_;refine aL ((wZ ?_));(try simp only[seval]);refine aL ((ahl (q:=2) xY (by decide) (ey hm) (λh=>absurd h aE) (λ_=> ?_)));rw[show wP (CO fU 2) fU.first 16=[13,14]from agP];(try simp only[seval]);refine ak ?_;refine aL ((wZ ?_));(try simp only[seval]);refine aL ((ahh (s:=0) (q:=0) xY (by decide) (by decide) (ey hm) ?_));rw[O2,O3.1,O3.2,show vM true false=1 from rfl];(try simp only[seval]);refine ak ?_;refine aL ((wZ ?_));(try simp only[seval]);refine aL ((ahf xY (ey hm) (λh=>absurd h aE) (λ_=> ?_)));rw[show Br fU fU.aB.length=[0,2]from agN];(try simp only[seval]);refine ak ?_;refine aL ((wZ ?_));(try simp only[seval]);refine aL ((ahi (x:=fU) (s:=1) (q:=0) (y:=⟨⟨10,15⟩,⟨2,2⟩⟩) xY rfl (by decide) (λo ho=> ?_)));rw[show yr (fU.wo [((1:Nat):Int)]) ⟨⟨10,15⟩,⟨2,2⟩⟩ 0 (fU.am.toNat+1)=1 from agJ]at ho;subst ho;(try simp only[seval]);refine ak ?_;refine aL ((ahs ?_));(try simp only[seval]);refine aL ((ahj amQ (λl hl=> ?_) (λh=>by rw[O1]at h;cases h)));rw[O1]at hl;cases hl;(try simp only[seval]);refine ak ?_;refine aL ((wZ ?_));(try simp only[seval]);refine aL ((ag9 xY (ey hm) (λh=>absurd h aE) (λu l hu=> ?_)));have lP:=agM;rw[hu]at lP;cases lP;(try simp only[seval]);refine eS 77 ?_;simp only[seval,UZ,aT,beq_self_eq_true];refine iH (.agg [iv 11,iv 12]) (bT (O8 ⟨rfl,rfl⟩)) ?_;have fN:∀k,du SD .eql 46 (.agg [iv 11,iv 12]) (.agg [iv 11,iv 12]) k=k (bv true):=λk=>adS (P:=SD) (t:=46) (n:=2) (xs:=[11,12]) (ys:=[11,12]) (by kernel_rfl) (by kernel_rfl) rfl rfl k;simp only[iv,bv]at fN;(try simp only[seval,fN,UZ,beq_self_eq_true,z2]);(try refine⟨by decide, ?_⟩);refine iH (bv true) (bT (yK (xs:=[13,14]) (ys:=[13,14]) (e:= .shut) (e':= .exact) (by decide) ⟨by rw[decide_eq_true rfl],rfl⟩)) ?_;(try simp only[seval,UZ,z1,z2,z3,z4]);(try refine⟨by decide, ?_⟩);refine iH (bv true) (bT (yK (xs:=[0,2]) (ys:=[0,2]) (e:= .shut) (e':= .exact) (by decide) ⟨by rw[decide_eq_true rfl],rfl⟩)) ?_;(try simp only[seval,UZ,z1,z2,z3,z4]);(try refine⟨by decide, ?_⟩);refine iH (bv true) (bT (yK (xs:=[0]) (ys:=[0]) (e:= .shut) (e':= .exact) (by decide) ⟨by rw[decide_eq_true rfl],rfl⟩)) ?_;(try simp only[seval,UZ,z1,z2,z3,z4]);(try refine⟨by decide, ?_⟩);refine iH (bv true) (bT (yK (xs:=[10,11,13,14]) (ys:=[10,11,13,14]) (e:= .shut) (e':= .exact) (by decide) ⟨by rw[decide_eq_true rfl],rfl⟩)) ?_;(try simp only[seval,UZ,z1,z2,z3,z4]);(try refine⟨by decide, ?_⟩);refine iH (bv true) (bT (yK (xs:=[12,11,13]) (ys:=[12,11,13]) (e:= .shut) (e':= .exact) (by decide) ⟨by rw[decide_eq_true rfl],rfl⟩)) ?_;(try simp only[seval,UZ,z1,z2,z3,z4]);(try refine⟨by decide, ?_⟩);refine iH (bv true) (bT (yK (xs:=[0,2]) (ys:=[0,2]) (e:= .shut) (e':= .exact) (by decide) ⟨by rw[decide_eq_true rfl],rfl⟩)) ?_;(try simp only[seval,UZ,z1,z2,z3,z4]);refine a_ ?_;exact je hH (Wk.refl _) (.val _) hk
theorem zJ{x:ai}(hx:x.Ok){g:List Int}(hg:g∈live x):mC x.first x.am g x.hours.toNat:=((QP hx).1 (Uh.1 hg).1).1
theorem alX{x:ai}(h:cg x≠[]):live x≠[]:=λe=>h (Lv.1 e)
theorem ap8{x:ai}(hx:x.Ok){h:Nat}(hh:h<x.hours.toNat){a a' b b' c c':Int}(hA:Bounds (live x) (λg=>g.getD h 0) a a')(hB:Bounds (live x) (λg=>g.getD (h+1) 0) b b')(hC:Bounds (live x) (λg=>g.getD (h+1) 0-g.getD h 0) c c'):
  0<=c/\c'<=x.am/\a+c<=b/\b'<=a'+c'/\a'+c<=b'/\b<=a+c':=by
 obtain⟨g1,m1,e1⟩:=hA.uu;obtain⟨g2,m2,e2⟩:=hA.ut;obtain⟨g3,m3,e3⟩:=hB.uu;obtain⟨g4,m4,e4⟩:=hB.ut;obtain⟨g5,m5,e5⟩:=hC.uu;obtain⟨g6,m6,e6⟩:=hC.ut;have s5:=(zJ hx m5).step h hh;have s6:=(zJ hx m6).step h hh;have l1:=hB.le g1 m1;have l2:=hB.ge g2 m2;have l3:=hA.le g3 m3;have l4:=hA.ge g4 m4;have c1:=hC.ge g1 m1;have c2:=hC.le g2 m2;have c3:=hC.le g3 m3;have c4:=hC.ge g4 m4;omega
theorem N_{x:ai}(hx:x.Ok){h:Nat}(hh:h<=x.hours.toNat){a a':Int}(hA:Bounds (live x) (λg=>g.getD h 0) a a'):(0<=a/\a<=99)/\(0<=a'/\a'<=99):=by
 obtain⟨g1,m1,e1⟩:=hA.uu;obtain⟨g2,m2,e2⟩:=hA.ut;have hf:=hx.first;have zd:=hx.hours;have t1:=(zJ hx m1).top hx.first hx.am (by omega) h hh;have t2:=(zJ hx m2).top hx.first hx.am (by omega) h hh;omega
theorem aqH(m:Nat)(τ:bt):eR m (ya τ):=λa ha=>by
 simp only[SK,SU,or_false]at ha;rcases ha with rfl|rfl|rfl
 ·rw[xM];trivial
 ·exact .val _
 ·exact .val _
theorem amg(m:Nat)(a b:Int):∀z∈[iv a,iv b],Lt m z:=λz hz=>by
 simp only[SK,SU,or_false]at hz;rcases hz with rfl|rfl<;>exact .val _
theorem agY{aA:List Int}(hm:H[0]?=some .main)(hn:aA.length<=2^50)(hk:k (bv true) H):bi true SD 12 H [bu aA] k kp:=by
 have qa:∀L:List aa,(H++L)[0]?=some .main:=λL=>ey hm;refine bI (rs:=[.tmp 2]) (nt:=117) VB λhH hA=> ?_;simp only[bp,SS];refine ak ?_;refine ak ?_;refine aL ((ag7 ?_));(try simp only[seval]);refine aL ((ag3 (pm:=3) (b:=0) (aqG H) ⟨YB _,YB _,hn⟩ (by decide) (by decide) λx bH aA b9 τ hM _=> ?_));have hx:=hM.ok (by decide);have aE:=hM.ne (by decide);have zd:=hx.hours;have vS:=hx.am;have EO:=hx.first;have bQ:x.l=[iv x.first,iv x.hours,iv x.am,ej x.seen,bk x.pieces,bk x.aB]:=rfl;clear hM;have br:x.l.length=6:=rfl;have eJ:T_ 6 x.l=x.l:=rfl;obtain⟨B,hB⟩:∃B,B=H++[ya τ]:=⟨_,rfl⟩;rw[<- hB];have zl:∀L:List aa,(B++L)[0]?=some .main:=λL=>by rw[hB,SC];exact qa _
 have bd:∀(L:List aa)(j:Nat),(B++L)[B.length+j]?=L[j]?:=λL j=>aS B L j;have bs:∀(L:List aa)(j:Nat)(y:aa),(B++L).set (B.length+j) y=B++L.set j y:=λL j y=>de B L j y;have b0:∀(L:List aa),(B++L)[B.length]?=L[0]?:=λL=>bd L 0;have s0:∀(L:List aa)(y:aa),(B++L).set B.length y=B++L.set 0 y:=λL y=>bs L 0 y;have b1:∀(L:List aa),(B++L)[B.length+1]?=L[1]?:=λL=>bd L 1;have s1:∀(L:List aa)(y:aa),(B++L).set (B.length+1) y=B++L.set 1 y:=λL y=>bs L 1 y;have b2:∀(L:List aa),(B++L)[B.length+2]?=L[2]?:=λL=>bd L 2;have s2:∀(L:List aa)(y:aa),(B++L).set (B.length+2) y=B++L.set 2 y:=λL y=>bs L 2 y;have b3:∀(L:List aa),(B++L)[B.length+3]?=L[3]?:=λL=>bd L 3;have s3:∀(L:List aa)(y:aa),(B++L).set (B.length+3) y=B++L.set 3 y:=λL y=>bs L 3 y;(try simp only[seval,ai.av,b0,s0,br]);refine⟨ky x, ?_⟩;have aj4:∀L:List aa,(∀z∈L,∀m,eR m z)->bL (B++L):=λL h=>by
  rw[hB,SC];refine Kl hH λz hz m=> ?_;rcases SN.1 hz with hz|hz
  ·rw[S5.1 hz];exact aqH m τ
  ·exact h z hz m
 obtain⟨lo,hi,vp⟩:∃lo hi:Nat->Int,∀h,Bounds (live x) (λg=>g.getD h 0) (lo h) (hi h):=⟨_,_,λh=>N6 (λg=>g.getD h 0) (alX aE)⟩;have cZ:Ud 1 x.l=[iv x.hours,iv x.am,ej x.seen,bk x.pieces,bk x.aB]:=rfl;have iB:Ud 2 x.l=[iv x.am,ej x.seen,bk x.pieces,bk x.aB]:=rfl;refine aj ?_;simp only[seval,b0,br,eJ];refine aL ((IC (x:=x) (hour:=0) hx (by omega) (zl _) (λh=>absurd h aE) (λa a' _ hb=> ?_)));obtain⟨rfl,rfl⟩:=hb.uniq (vp 0);have h0:lo 0=x.first/\hi 0=x.first:=by
  obtain⟨g1,m1,e1⟩:=(vp 0).uu;obtain⟨g2,m2,e2⟩:=(vp 0).ut;have:=(zJ hx m1).head;have:=(zJ hx m2).head;omega
 (try simp only[seval,b1,s1]);refine eS 10 ?_;simp only[seval,b0,b1,bQ,show ((0:Int)!=0)=false from rfl];refine iH (.agg [iv x.first,iv x.first]) (bT (O8 ⟨rfl,rfl⟩)) ?_;have fN:∀k,du SD .neq 46 (.agg [iv (lo 0),iv (hi 0)]) (.agg [iv x.first,iv x.first]) k=k (bv false):=λk=>by
  rw[h0.1,h0.2];have:=adT (P:=SD) (t:=46) (n:=2) (xs:=[x.first,x.first]) (ys:=[x.first,x.first]) (by kernel_rfl) (by kernel_rfl) rfl rfl k;rw[beq_self_eq_true,ZD]at this;exact this
 simp only[iv,bv]at fN;(try simp only[seval,fN]);refine aC ?_;refine aP ?_;refine ak ?_;obtain⟨hn,QF⟩:∃hn:Nat,x.hours=hn:=⟨x.hours.toNat,by omega⟩;refine cN ?_;refine gM hn (λh:Nat=>[(9,iv h)]) (λh=>B++[.cells x.l 26, .cells [iv (lo h),iv (hi h)] 46]) (λ_=>True) (λ_ _=>rfl) (by simp only[seval];simp[bB,Wk.refl]) rfl (λ_ _ _=>by simp) trivial (λcm dF h ast _ R hR=> ?_);clear dF;refine aj ?_;simp only[seval,b0,cZ];refine aC ?_;refine⟨λhc=> ?_,λhc=> ?_⟩
 ·have bE:h<hn:=by omega
  have bX:SE.wrap ((h:Int)+1)=((h+1:Nat):Int):=by rw[bD _ (by omega)];rfl
  refine aP ?_;refine aj ?_;simp only[seval,b0,br,eJ,bX];rw[show ((h:Int)+1)=((h+1:Nat):Int)from rfl];refine aL ((IC (x:=x) (hour:=h+1) hx (by omega) (zl _) (λh=>absurd h aE) (λa a' _ hb=> ?_)));obtain⟨rfl,rfl⟩:=hb.uniq (vp (h+1));(try simp only[seval,b2,s2]);refine aj ?_;simp only[seval,b0,br,eJ];refine aL ((ahp (x:=x) (hour:=h) hx (zl _) (λh=>by omega) (λ_ h=>absurd h aE) (λ_ c c' _ bc=> ?_)));obtain⟨p1,p2,p3,p4,p5,p6⟩:=ap8 hx (by omega) (vp h) (vp (h+1)) bc;have q1:=N_ hx (by omega) (vp h);have q2:=N_ hx (by omega) (vp (h+1));have w1:SE.wrap (lo h+c)=lo h+c:=bD _ (by omega);have w2:SE.wrap (hi h+c')=hi h+c':=bD _ (by omega);have w3:SE.wrap (hi h+c)=hi h+c:=bD _ (by omega);have w4:SE.wrap (lo h+c')=lo h+c':=bD _ (by omega);have d1:decide (c<0)=false:=by simp;omega
  have d2:decide (c'>x.am)=false:=by simp;omega
  have d3:decide (lo (h+1)<lo h+c)=false:=by simp;omega
  have d4:decide (hi (h+1)>hi h+c')=false:=by simp;omega
  have d5:decide (hi (h+1)<hi h+c)=false:=by simp;omega
  have d6:decide (lo (h+1)>lo h+c')=false:=by simp;omega
  (try simp only[seval,b3,s3]);refine aj ?_;simp only[seval,show ((0:Int)!=0)=false from rfl,b0,b1,b2,b3,iB,w1,w2,w3,w4,d1,d2,d3,d4,d5,d6];refine aC ?_;refine aP ?_;refine aj ?_;simp only[seval,b1,b2,s1];refine aj ?_;simp only[seval,bX];refine hR _ ⟨bE,trivial,Gy [.cells [iv (lo (h+1)),iv (hi (h+1))] 46, .cells [iv c,iv c'] 46] (oE rfl rfl) (by simp only[seval];simp[bB,Wk.refl]) (aj4 _ ?_) (by simp[eK]) (by simp[iv])⟩;intro z hz m;simp only[SK,SU,or_false]at hz;rcases hz with rfl|rfl
  ·exact Lz m x
  ·exact amg m _ _
 ·have hxx:h=hn:=by omega
  subst hxx;refine cq ?_;refine ak ?_;refine aL ((aha (zl _) ?_));(try simp only[seval]);refine a_ ?_;rw[hB,SC];exact je hH (Wk.refl _) (.val _) hk
end
open Go.ChangeShapes Go.WideShapes Go.ChangeAt Go.RowKit
def Dg (W:World):View:=⟨λb o=>W.cell? ⟨b,o,none⟩,λ_=>none,0, .plain⟩
def Be (W:World):Env:=⟨(Dg W).ab,1,λ_=>0,λ_ _=>(none,0),λ_=>0,λ_=>none,true⟩
theorem ao4(W:World):Sat (Dg W) W:=⟨λ_ _ _ h=>h,λ_ _ h=>by cases h⟩
theorem afH(W:World):Conc (Be W) (Dg W) [.main]where
 I:=rfl
 n:=rfl
 obj:=λk x h=>by
  match k,h with
  |0,h=>cases h;exact rfl
  |k+1,h=>cases h
 inj:=λi j x y b hi hj h1 h2=>by
  match i,hi with
  |0,hi=>cases hi;cases h1
  |i+1,hi=>cases hi
 group:=λg h=>by cases h
 chan:=λc h=>by cases h
 top:=λ_=>⟨rfl,rfl⟩
 fr:=λb y h=>by cases h
theorem aiC{f:FuncId}{W:World}{args:Array Value}{l7:List AV}{Q:Value->Prop}(hi:SD.inits.idxOf? f=none)(hd:cL (Be W) l7 args)(h:bi true SD f [.main] l7 (λa _=>∀E v,ap E a v->Q v) (λ_ _=>False)):
  ∃M last o w' t',runNT SD (M+1) (solo (G (Frame.enter SD f args .normal) []) W) #[]=(.ended o w',t')/\runN SD M (solo (G (Frame.enter SD f args .normal) []) W)= .next last/\step SD last= .ended o w'/\Wm SD (λv w=>Q v/\Left W.heap.size W w) last o w' t':=
 aiB hi (V:=Dg W) rfl rfl rfl (ao4 W) (h (Be W) (Dg W) args (afH W) hd) λo V' r=>by
  cases o with
  |ret v=>
   obtain⟨av,E',H',_,b8,_,bm,_,hk⟩:=r;exact⟨b8,v,rfl,λw _ hl=>⟨hk _ _ bm,hl⟩⟩
  |panic ch=>
   obtain⟨pv,v,E',H',_,_,_,_,_,_,hf⟩:=r;exact hf.elim
theorem afT{W:World}{b o len cap:Nat}{zs:List Int}(hl:zs.length=len)(hc:len<=cap)(h:∀i,i<len->W.cell? ⟨b,o+i,none⟩=some (.int .i64 (zs.getD i 0))):ap (Be W) (bu zs) (.slice (some ⟨b,o,none⟩) len cap):=by
 subst hl;refine .sl b o cap (λi=> .int .i64 (zs.getD i 0)) hc trivial (λi hi=> ?_) (λi x hx=> ?_)
 ·exact h i (by simpa using hi)
 ·rw[Ti]at hx;obtain⟨z,hz,rfl⟩:=Tl.1 hx;rw[SF,hz];exact .val _
theorem Left.below{W w:World}(h:Left W.heap.size W w):Below W.heap.size W w:=⟨h.os,h.tape,h.out,h.size,h.old⟩
theorem Tz.own:ownKnob SD.godebug=none:=by kernel_rfl
theorem Tz.laidOut:laidOutB SD=true:=by kernel_rfl
theorem Tz.GW:SD.underlying 22=some (.slice 3):=by kernel_rfl
theorem Tz.u3:SD.underlying 3=some (.int .i64):=by kernel_rfl
theorem Tz.u4:SD.underlying 4=some .bool:=by kernel_rfl
theorem Tz.c3:SD.cellsOf 3=1:=by kernel_rfl
theorem Tz.b3:SD.bytesOf 3=8:=by kernel_rfl
theorem Tz.r22:SD.readableRec 22=true:=by kernel_rfl
theorem Tz.Lh:22<SD.types.size:=of_decide_eq_true (by kernel_rfl)
theorem aoF{H:Type}{enc:TypeId×Value->H}{a:Assume}{C:Checked}{os:Os}{f:FuncId}{fn:Func}{s:ChangeSpec}{conds:List PathCond}{apart fresh handsOn again:Bool}{X:World->Array Value->Prop}
  (own:ownKnob C.prog.godebug=none) (started:os.Started) (xk:C.prog.funcs[f]?=some fn)
  (witness:∃(w:World)(tape:Tape)(i:Input),w.os=os/\(w.forCall tape i).Shaped C.prog/\i.vars=[]/\YZ C.prog (w.forCall tape i) .any w.heap.size f i/\
   ((s.pre enc C.prog fn conds apart (w.forCall tape i).memory i.args/\X (w.forCall tape i).memory i.args)/\sizedMet enc C.prog fn (U_ s) apart (w.forCall tape i).memory i.args)/\a.holds C.prog (lone (Frame.enter C.prog f i.args .normal) [] (w.forCall tape i)))
  (runs:∀(W:World)(base:Nat)(args:Array Value)(ds gs:List (DataW H))(before:List MemPlace),
   (∀(j:Nat) t v,fn.params[j]?=some t->args[j]?=some v->XK C.prog W .any base t v)->
   DataW.Whole enc C.prog fn.params.toList s.vars apart W args.toList ds gs before->
   conds.all (ZH C.prog ⟨fn.params.toList,ds,s.plain.varTypes C.prog,gs⟩)=true->
   (Yn C.prog (fn.params.toList++s.plain.varTypes C.prog) (ds++gs)).all (·<=reachBytes)=true->
   a.holds C.prog (lone (Frame.enter C.prog f args .normal) [] W)->
   ∃M last o w' t',runNT C.prog (M+1) (solo (G (Frame.enter C.prog f args .normal) []) W) #[]=(.ended o w',t')/\runN C.prog M (solo (G (Frame.enter C.prog f args .normal) []) W)= .next last/\
    step C.prog last= .ended o w'/\Wm C.prog (λv W'=>s.post enc C.prog fn apart fresh handsOn again W args v W') last o w' t'):
  ReturnsInLeavingWide a C os f .any (λw args=>(s.pre enc C.prog fn conds apart w args/\X w args)/\sizedMet enc C.prog fn (U_ s) apart w args) (s.post enc C.prog fn apart fresh handsOn again):=by
 refine returnsInLeavingWide_of_good own started witness ?_;intro w tape i _ _ _ ay Ku ajz;obtain⟨_,_,_,fL,ajw,_,_,_,_,FB⟩:=ay;have e:fL=fn:=Vz (ajw.symm.trans xk);subst e;obtain⟨⟨⟨ds,gs,before,hw,hc⟩,_⟩,hz⟩:=Ku;have nM:=Zq (w':=w.forCall tape i) (by rfl) hw;obtain⟨M,last,o,w',t',h1,h2,h3,h4⟩:=runs (w.forCall tape i) w.heap.size i.args ds gs before FB nM hc (hz.weights hw) ajz;exact⟨M,last,o,w',t',h1,h2,h3,h4.mono λv hp=>Zv hp⟩
def ac7 (f:FuncId):Prop:=∀aA:List Int,aA.length<=2^50->bi true SD f [.main] [bu aA] (λa _=>a=bv true) (λ_ _=>False)
set_option maxRecDepth 100000 in
theorem akS{f:FuncId}{fn:Func}{s:ChangeSpec}{X:World->Array Value->Prop}(hf:SD.funcs[f]?=some fn)(hp:fn.params=#[22]) (hr:fn.resultTypes=#[4]) (hv:s.vars=[]) (hs:∀(H:Type)(d:DataW H),s.fn H [d]={results:=[.lit (.bool true)],args:=[d]}) (hi:SD.inits.idxOf? f=none) (ajI:ac7 f)
  (os:Os) (started:os.Started) (H:Type) (enc:TypeId×Value->H)
  (akQ:∃(w:World)(tape:Tape)(i:Input),w.os=os/\(w.forCall tape i).Shaped Uk.prog/\i.vars=[]/\YZ Uk.prog (w.forCall tape i) .any w.heap.size f i/\
   ((s.pre enc Uk.prog fn [] false (w.forCall tape i).memory i.args/\X (w.forCall tape i).memory i.args)/\sizedMet enc Uk.prog fn (U_ s) false (w.forCall tape i).memory i.args)/\({}:Assume).holds Uk.prog (lone (Frame.enter Uk.prog f i.args .normal) [] (w.forCall tape i))):
  ReturnsInLeavingWide {} Uk os f .any (λw args=>(s.pre enc SD fn [] false w args/\X w args)/\sizedMet enc SD fn (U_ s) false w args) (s.post enc SD fn false true false false):=by
 refine aoF (C:=Uk) Tz.own started hf akQ ?_;intro W base args ds gs before RQ hW _ KG _;have aW:(Yn SD (fn.params.toList++s.plain.varTypes SD) (ds++gs)).all (·<=reachBytes)=true:=KG;clear KG;have FB:∀(j:Nat) t v,fn.params[j]?=some t->args[j]?=some v->XK SD W .any base t v:=RQ;have vr:=hW;obtain⟨p,q,Es,hV,rfl,_,_⟩:=hW;have hA:DataW.TrodAll enc SD W 0 (λ_=>true) true fn.params.toList args.toList ds p:=Es;rw[hp]at hA FB aW;obtain⟨v0,d0,rfl,rfl,h0⟩:=trodAll_one hA;rw[hv]at hV;obtain⟨rfl,rfl⟩:=trodVars_none hV;have ay:=FB 0 22 v0 rfl rfl;obtain⟨a0,len,cap,rfl⟩:=okWide_slice Tz.GW ay;have h0k:=h0;obtain⟨fuel,hfu⟩:=h0;clear Es RQ;simp only[SI]at vr;have hlt:∀x∈p,x.block<W.heap.size:=λx hx=>by simpa using vr.lt x hx
 have cO:∀(W':World),Below W.heap.size W W'->DataW.Trod enc SD W' 0 (λb=>decide (b<W.heap.size)) true 22 (.slice a0 len cap) d0 p:=
  λW' hn=>Below.trod Tz.laidOut Tz.r22 Tz.Lh h0k hn hlt
 have close:∀aA:List Int,aA.length<=2^50->ap (Be W) (bu aA) (.slice a0 len cap)->
   ∃M last o w' t',runNT Uk.prog (M+1) (solo (G (Frame.enter Uk.prog f #[.slice a0 len cap] .normal) []) W) #[]=(.ended o w',t')/\
    runN Uk.prog M (solo (G (Frame.enter Uk.prog f #[.slice a0 len cap] .normal) []) W)= .next last/\step Uk.prog last= .ended o w'/\
    Wm Uk.prog (λv W'=>s.post enc Uk.prog fn false true false false W #[.slice a0 len cap] v W') last o w' t':=by
  intro aA hn hd;obtain⟨M,last,o,w',t',h1,h2,h3,h4⟩:=aiC (Q:=λv=>v= .bool true) (args:=#[.slice a0 len cap]) (l7:=[bu aA]) hi ⟨rfl,λi a e=>by
   match i,e with
   |0,e=>cases e;exact hd⟩ ((ajI aA hn).mono (λa H' e E v bm=>by subst e;cases bm;rfl) λ_ _ h=>h)
  refine⟨M,last,o,w',t',h1,h2,h3,h4.mono λv ⟨hQ,hL⟩=> ?_⟩;subst hQ;have hb:=hL.below;refine⟨[d0],[],_,[],p,[],vr, ?_, ?_,by rw[hv];exact(by rw[show ([d0]++[]:List (DataW H))=[d0]from rfl,hs];rfl),hb.frame _,λh=>by cases h⟩
  ·rw[show ([d0]++[]:List (DataW H))=[d0]from rfl,hs,hr];exact trodAll_mk1 (shut_bool Tz.u4 true)
  ·rw[show ([d0]++[]:List (DataW H))=[d0]from rfl,hs,hp];exact trodAll_mk1 (cO _ hb)
 rcases open_ints Tz.GW Tz.u3 Tz.c3 hfu with⟨o4,hx⟩|⟨a,asL,cap',zs,o4,_,hl,hm,hz,hx,Jy,hwz⟩
 ·simp[Y9]at o4;obtain⟨rfl,rfl,rfl⟩:=o4;exact close [] (by simp) (.nil trivial)
 ·simp[Y9]at o4;obtain⟨rfl,rfl,rfl⟩:=o4;simp only[UH]at hx;obtain⟨rfl,rfl⟩:=hx;simp only[if_true]at hz;have RD:a.spot=none:=by
   have:=ay;simp only[XK,Tz.GW,Cell.okWide,Cell.ok]at this;exact this.2.2.2.1
  have asB:len* 8<=140737488355328:=by
   have:=sized_slice aW (j:=0) (t:=22) (e:=3) rfl rfl Tz.GW;rw[Tz.b3]at this;simp only[lits,Tj,TW,T8,reachBytes]at this;omega
  obtain⟨bl,off,spot⟩:=a;simp only at RD;subst RD;have mS:(zs.take len).length=len:=by rw[TW];omega
  refine close (zs.take len) (by rw[mS];omega) (afT mS hl λi hi=> ?_);have:=Jy i (by omega);rw[show (ZN ⟨bl,off,none⟩ i)=⟨bl,off+i,none⟩ by simp[ZN]]at this;rw[this,SF,SF,List.getElem?_take_of_lt hi]
def R7:List (List Nat):=[99,117,116]::[97,116]::[[70,105,114,115,116],[87,105,100,101,114],[71,105,118,101,110],[65,112,97,114,116],[70,111,114,103,101,100],[82,101,97,100],[71,114,101,97,116,101,114],[77,105,120,101,100],[84,114,117,101],[83,116,101,112,115],[79,114,100,101,114],[65,108,108]].map ([103,108,97,100,115,116,111,110,101,47,103,108,97,100,115,116,111,110,101,108,97,119,48,49,46,84,105,99,107,101,116]++·)
def R6:List Nat:=[104,97,114,110,101,115,115,32,52,53,102,100,53,51,53,49,102,55,99,100,57,55,51,53,100,100,102,52,98,97,54,100,48,51,53,50,49,55,53,54,101,100,101,54,101,54,99,53,99,99,52,49,57,100,50,53,55,100,49,55,57,50,99,52,48,101,97,100,49,102,57,101]++R7.flatMap (32::·)
set_option maxRecDepth 100000 in
theorem ioL:SD.initOrder.toList=R6.map Yo:=by
 have h:SD.initOrder=String.ofList (R6.map Yo):=by kernel_rfl
 rw[h,String.toList_ofList]
def K4:List (List Char):=R7.map λl=>l.map Yo
set_option maxRecDepth 100000 in
theorem ioW:behindMainWord (wordsSigns SD.initOrder.toList)=K4:=by
 rw[ioL]
 kernel_rfl
section
variable {P:Program}{c:List Char}{rest:List (List Char)}
theorem amp (h : behindMainWord (wordsSigns P.initOrder.toList) = c :: rest) (hc : c = "cut".toList) (h1 : stripLifts liftWords (c :: rest) = ([], c :: rest)) (h2 : P.laysLater = false) (h3 : P.bearsReflect = false) (h4 : P.doorFits [] = true) : P.mayEnter = true := by
 unfold ZO;rw[h];subst hc;simp only[h1,h2,h3,h4,YU,beq_self_eq_true,Yt,XQ,YG,Bool.or_true,Za,U0]
theorem ajt (h : behindMainWord (wordsSigns P.initOrder.toList) = c :: rest) (hc : c = "cut".toList) (h1 : stripLifts liftWords (c :: rest) = ([], c :: rest)) : P.headLifts = [] := by
 unfold ZR;rw[h];simp only[h1,ite_self]
theorem alV (h : behindMainWord (wordsSigns P.initOrder.toList) = c :: rest) (hc : c = "cut".toList) (h1 : stripLifts liftWords (c :: rest) = ([], c :: rest)) : P.liftsFinal = false := by
 unfold ZQ;rw [ajt h hc h1, h];subst hc;simp only [YU, Yt, Bool.or_false];have : (some "cut".toList == some "carried".toList) = false := by decide +kernel
 rw[this,XR]
theorem amk (h : behindMainWord (wordsSigns P.initOrder.toList) = c :: rest) (hc : c = "cut".toList) : P.make = some .cut := by
 unfold ZP;rw [h];subst hc;have e1 : ("cut".toList == "gc".toList) = false := by decide +kernel
 have e2 : ("cut".toList == "spec".toList) = false := by decide +kernel
 simp only[e1,e2,Bool.or_self,TC,if_false,beq_self_eq_true,Zj,if_true]
end
def FM:List Char:=K4.headD []
def K2:List (List Char):=K4.tail
theorem K3:behindMainWord (wordsSigns SD.initOrder.toList)=FM::K2:=ioW.trans (by kernel_rfl)
theorem K1 : FM = "cut".toList := by kernel_rfl
theorem R8:stripLifts liftWords (FM::K2)=([],FM::K2):=by kernel_rfl
theorem Tz.mayEnter:SD.mayEnter=true:=amp K3 K1 R8 (by kernel_rfl) (by kernel_rfl) (by kernel_rfl)
theorem Tz.alU:SD.liftsFinal=false:=alV K3 K1 R8
theorem Tz.make:SD.make=some .cut:=amk K3 K1
theorem ak6{P:Program}{f:FuncId}{fn:Func}{s:ChangeSpec}{c:OpenClaim}
  (k0:(c.wf (U_ s))=true)
  (k1:(laidOutB P)=true)
  (k2:(mapsRowed P)=true)
  (k3:(fn.params.all (P.readableRec ·))=true)
  (k4:(namedTie P c.named s.vars)=true)
  (k5:((c.stops==[]))=true)
  (k6:((P.stops==[]))=true)
  (k7:((c.knobs==[]))=true)
  (k8:((P.stopKnobs==[]))=true)
  (k9:((c.inPlace==P.inPlace f))=true)
  (Cz:((c.unfollowed==P.unfollowed f))=true)
  (K6:((c.recurses==P.recurses f))=true)
  (zG:((c.named==P.varsNamed f))=true)
  (K7:((c.maps==(fn.params.toList++s.plain.varTypes P).any (P.mapsRec ·)))=true)
  (CA:((c.ifaces==(fn.params.toList++s.plain.varTypes P).any (P.ifacesRec ·)))=true)
  (K8:((c.mapsOut==P.mapsAmong fn.resultTypes.toList))=true)
  (K9:((c.loops==(fn.params.toList++s.plain.varTypes P).any (P.loopsFrom ·)))=true)
  (K_:((c.wideKeys==(fn.params.toList++s.plain.varTypes P++fn.resultTypes.toList).any (P.wideKeysFrom ·)))=true)
  (Sf:(s.vars.all (P.varReadable ·))=true)
  (k19:(fn.resultTypes.all (λt=>P.readableRec t&&decide (t<P.types.size)))=true)
  (La:((c.ifacesOut==fn.resultTypes.toList.any (P.ifacesRec ·)))=true)
  (Lb:((c.loopsOut==fn.resultTypes.toList.any (P.loopsFrom ·)))=true)
  (Lc:((c.plainKeys==P.plainKeys))=true)
  (Ld:(c.shortTexts.isNone)=true)
  (Lf:(P.stopsHeard)=true)
  (Lg:(P.mayEnter)=true)
  (k26:((c.lifted==P.liftsFinal))=true)
  (k27:((P.make==some c.make))=true)
  (k28:c.domain.isEmpty=true) (ak9:c.kinds=[])
  (k29:((c.pinned==c.pinnedBy))=true)
  (k30:((c.veiled==(fn.params.toList++s.plain.varTypes P++fn.resultTypes.toList).any (P.veiledRec ·)))=true)
  (k31:(c.veiledFits P fn.params.toList (fn.params.toList++s.plain.varTypes P++fn.resultTypes.toList))=true):joinedFacts P f fn s c=true:=by
 simp only[joinedFacts,k0,k1,k2,k3,k4,k5,k6,k7,k8,k9,Cz,K6,zG,K7,CA,K8,K9,K_,Sf,k19,La,Lb,Lc,Ld,Lf,Lg,k26,k27,k28,ak9,if_true,beq_self_eq_true,k29,k30,k31,Za]
theorem alT{c:OpenClaim}(h:c.lifted=false):(c.lifted==SD.liftsFinal)=true:=by rw[Tz.alU,h];rfl
theorem aml{c:OpenClaim}(h:c.make= .cut):(SD.make==some c.make)=true:=by rw[Tz.make,h];rfl
end Go.Gg
namespace Go.Proofs.YtkanpclgnhdbiaaGreatDoor
open Go.Conc Go.Proofs Go.Gg
theorem aqF(Lk:Looks){p:Pinned}{s:OpenSpec}{c:OpenClaim}(al:List (List PathCond))(kinds:List LaidKind)(GP:Bool)(vu:Bool×String)(lk:Bool)
  (hc:c.holds p s) (gP:∀D∈al,(c.withDomain D).holds p s) (hw:c.wfByText s=true) (akN:∀D∈al,(c.withDomain D).wfByText s=true)
  (akI:c.laidByTextAt Lk p kinds GP)
  (aQ:c.start= .entering) (ui:c.noBlocks=false/\c.again=false) (hm:p.checked.prog.mainIs=some (vu.1,vu.2.toList)) (hn:(!vu.1&&vu.2.isEmpty&& !lk)=false)
  (hl:∀f fn,p.checked.prog.funcNamed c.func=some f->p.checked.prog.funcs[f]?=some fn->lk=p.checked.prog.looks []/\∀(j:Nat) t,fn.params[j]?=some t->p.checked.prog.wantsStandIn t=false)
  (hg:true=c.goesBy p.checked.prog):
  Claim7.holds p (.plain s) {stood:={row:=c,standIns:=[],harness:=vu,looks:=lk},kinds:=[],alts:=al,goes:=true,laidByText:=true,laidKinds:=kinds,laidTests:=GP,laidLooks:=Lk}:=by
 have h6:∀r:OpenClaim,YF {stood:={row:=r,standIns:=[],harness:=vu,looks:=lk},kinds:=[]}=false:=λr=>by simpa[YF]using hn
 refine⟨X_ Lk kinds GP (XY hc vu lk aQ ui hm (h6 c) hl) hw,λD hD=> ?_,akI,(λh=>by cases h),hg⟩;exact X_ Lk kinds GP (XY (gP D hD) vu lk aQ ui hm (h6 _) hl) (akN D hD)
theorem Sp:SD.funcNamed Rows.ticketStepsRow.func=some 12:=by kernel_rfl
theorem alt:joinedFacts SD 12 VB Rows.ticketStepsSpec Rows.ticketStepsRow=true:=
 ak6 (by kernel_rfl) Tz.laidOut (by kernel_rfl) (by kernel_rfl) (by kernel_rfl) (by kernel_rfl) (by kernel_rfl) (by kernel_rfl) (by kernel_rfl) (by kernel_rfl) (by kernel_rfl) (by kernel_rfl) (by kernel_rfl) (by kernel_rfl) (by kernel_rfl) (by kernel_rfl) (by kernel_rfl) (by kernel_rfl) (by kernel_rfl) (by kernel_rfl) (by kernel_rfl) (by kernel_rfl) (by kernel_rfl) (by kernel_rfl) (by kernel_rfl) Tz.mayEnter (alT (by kernel_rfl)) (aml (by kernel_rfl)) (by kernel_rfl) (by kernel_rfl) (by kernel_rfl) (by kernel_rfl) (by kernel_rfl)
theorem als:VB.isInstance SD Rows.ticketStepsRow.origin Rows.ticketStepsRow.targs:=of_decide_eq_true (by kernel_rfl)
theorem alu:VB.isWrapper SD Rows.ticketStepsRow.wrapper Rows.ticketStepsRow.mainSum:=by unfold Func.isWrapper;first|(rw[if_pos (by decide+kernel)];kernel_rfl)|(rw[if_neg (by decide+kernel)];exact⟨rfl,rfl⟩)
theorem alr(os:Os)(args:Array Value):laidMetH SD Rows.ticketStepsRow.laid ((YL SD 400 os).forCall (λ_ _=>0) ⟨#[],args,[]⟩).memory:=
 laidMetH_of_parts (laidMet_nil _ _) (by kernel_rfl)
theorem alv(os:Os)(started:os.Started)(H:Type)(enc:TypeId×Value->H):
  ReturnsInLeavingWide {} Uk os 12 .any (λw args=>(Rows.ticketStepsSpec.pre enc SD VB [] false w args/\laidMetH SD Rows.ticketStepsRow.laid w)/\sizedMet enc SD VB (U_ Rows.ticketStepsSpec) false w args) (Rows.ticketStepsSpec.post enc SD VB false true false false):=
 akS (f:=12) (fn:=VB) (s:=Rows.ticketStepsSpec) (X:=λw _=>laidMetH SD Rows.ticketStepsRow.laid w) X8 rfl rfl rfl (λ_ _=>rfl) (by kernel_rfl) (λaA hn=>agY rfl hn rfl) os started H enc
  (Zu (enc:=enc) (C:=Uk) (os:=os) (X:=λw _=>laidMetH SD Rows.ticketStepsRow.laid w) false (YL SD 400 os) #[.slice none 0 0] 8 rfl (World.shaped_of_RefB (by kernel_rfl) (by kernel_rfl)) (by kernel_rfl) (by kernel_rfl) (by kernel_rfl) (alr os _))
theorem aqE:Rows.TicketStepsSaid:=
 Zz 12 VB rfl rfl rfl rfl rfl rfl rfl ⟨rfl,rfl,rfl,rfl,rfl⟩ rfl rfl rfl rfl rfl Sp X8 alt als alu
  (λos started H enc _=>alv os started H enc)
theorem ticketStepsCard_holds:Rows.TicketStepsCardSaid:=
 aqF .later [] [.handle] true (true, "45fd5351f7cd9735ddf4ba6d03521756ede6e6c5cc419d257d1792c40ead1f9e") true
  aqE (λ_ h=>by cases h) (by kernel_rfl) (λ_ h=>by cases h) ticketSteps_row_tie rfl ⟨rfl,rfl⟩ (by kernel_rfl) rfl
  (λf fn hf xk=>by
   obtain rfl:f=12:=Vz (Sp.symm.trans hf)|>.symm;obtain rfl:fn=VB:=(Vz (X8.symm.trans xk)).symm;exact⟨by kernel_rfl,λj t ht=>by
    rw[show VB.params=#[22]from rfl]at ht;have h3:t=22:=by
     rcases j with _|j
     ·simpa using ht.symm
     ·simp at ht
    subst h3;exact(show SD.wantsStandIn 22=false by kernel_rfl)⟩)
  (by kernel_rfl)
end Go.Proofs.YtkanpclgnhdbiaaGreatDoor
