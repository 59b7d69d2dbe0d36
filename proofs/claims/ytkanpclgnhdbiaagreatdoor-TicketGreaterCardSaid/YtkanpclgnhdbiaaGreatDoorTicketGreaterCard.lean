/- For every list of numbers, TicketGreater returns true and does not panic, in any order in which its goroutines run; errors.errorType starts as the text of the program lays it. -/
import Derived.Test.YtkanpclgnhdbiaaGreatDoorTicketGreaterCard4
import Derived.Conc.LeavingOf
import Derived.Conc.Holds
import Derived.ProofKit
import Derived.Test.YtkanpclgnhdbiaaGreatDoorChecked
import Derived.Test.YtkanpclgnhdbiaaGreatDoorRows
import Derived.LaidMore
import Derived.SevenTiedAt
import Derived.Test.YtkanpclgnhdbiaaGreatDoorTie
import Derived.Test.YtkanpclgnhdbiaaGreatDoorCards
set_option linter.all false
set_option maxRecDepth 4000
set_option maxHeartbeats 4000000
open Bool renaming and_self->ad_,false_and->YJ,false_eq_true->TP,false_or->Zy,not_false->YI,true_and->Vx,true_or->ah'
open Char renaming ofNat->Zh
open Go renaming ChangeSpec->Z0,Code->T7,DataW->al_,Func->YH,FuncId->TQ,OpenClaim->Yl,Program->SI,ReturnsInLeavingWide->Xz,Value->SP,World->Tp
open Go.Addr renaming add->au3
open Go.ChangeSpec renaming post_blind->apH,witness_shaped->ao'
open Go.Claim7 renaming isSixth->Zx,new_of_sixth->YQ,tied_new_at->Y1
open Go.Conc renaming Good->W4
open Go.DataW renaming weightsEach->Zf
open Go.DataW.Whole renaming of_heap->ak'
open Go.Input renaming okWide->ZW
open Go.IntKind renaming i64->SD
open Go.OpenClaim renaming holds_of_wide_leaving->aq_
open Go.OpenSpec renaming ofChange->VF
open Go.PathCond renaming test->auV
open Go.Program renaming headLifts->au7,liftsFinal->au6,make->au5,mayEnter->au4
open Go.Proofs.Tryz renaming checked->UB,f9->VY,func9->Zd,prog->SA
open Go.Value renaming cells->Z',okWide->Yz
open Go.World renaming doorLaid->ZE
open Int renaming le_refl->Wd
open List renaming append_assoc->SC,append_nil->SN,contains_nil->ZC,drop->TH,drop_eq_getElem_cons->TL,eq_nil_of_length_eq_zero->UF,flatMap_append->VE,flatMap_cons->T5,getD_eq_getElem?_getD->SE,getElem?_append_right->Ta,getElem?_drop->Up,getElem?_eq_some_iff->SL,getElem?_map->To,getElem?_set->UU,getElem?_set_ne->Ua,head?_cons->ZR,length_append->S5,length_drop->Uk,length_map->S9,length_take->TV,map_append->TG,mem_append->SQ,mem_of_getElem?->S_,mem_singleton->S8,set_append_right->Ud,set_cons_zero->T4,set_eq_take_append_cons_drop->X8,take->TS,take_add_one->UZ,take_length->TD
open Nat renaming le_refl->SO,reduceAdd->SY,sub_self->Vd,zero_le->WQ
open Option renaming map_eq_some_iff->Tq,toList_some->Ww
open Option.some renaming inj->V_
open Prod.mk renaming injEq->U7
namespace Go.Gg
open Go.Conc Go.Proofs Go.Gg.Tk
def nV {α:Type}(f:α->α)(ys:List α)(i:Nat):List α:=(ys.take i).map f++ys.drop i
theorem OJ{α:Type}(f:α->α)(ys:List α)(i:Nat):(nV f ys i).length=ys.length:=by
 unfold nV;rw[S5,S9,TV,Uk];omega
theorem OI{α:Type}(f:α->α)(ys:List α):nV f ys ys.length=ys.map f:=by
 unfold nV;rw[TD,List.drop_length,SN]
theorem OK{α:Type}{f:α->α}{ys:List α}{i:Nat}{y:α}(h:ys[i]?=some y):nV f ys (i+1)=(nV f ys i).set i (f y):=by
 obtain⟨hi,rfl⟩:=SL.1 h;unfold nV;have hl:((ys.take i).map f).length=i:=by rw[S9,TV];omega
 have e:ys.drop i=ys[i]::ys.drop (i+1):=TL hi;rw[Ud _ _ (by omega),hl,Vd,e,T4,UZ,h,TG,SC];rfl
theorem aq8{ys:List Seen}{p:Nat}{y:Seen}{l:List AV}(hp:p<ys.length)(e:y.l=l):TS (p* 3) (ys.flatMap Seen.l)++l++TH (p* 3+3) (ys.flatMap Seen.l)=(ys.set p y).flatMap Seen.l:=by
 subst e;rw[X8,if_pos hp,VE,T5,FX Seen.len,show p* 3+3=(p+1)* 3 by omega,s9 Seen.len,SC]
theorem ara{ys:List Seen}{p:Nat}{y:Seen}(hy:ys[p]?=some y)(a b:Int):TS (p* 3+1) (ys.flatMap Seen.l)++[iv a,iv b]++TH (p* 3+1+2) (ys.flatMap Seen.l)=(ys.set p ⟨y.hour,⟨a,b⟩⟩).flatMap Seen.l:=by
 obtain⟨hp,rfl⟩:=SL.1 hy;rw[<- aq8 (p:=p) (y:=⟨ys[p].hour,⟨a,b⟩⟩) hp rfl];have h1:TH (p* 3) (ys.flatMap Seen.l)=ys[p].l++TH (p* 3+3) (ys.flatMap Seen.l):=by
  rw[s9 Seen.len,show p* 3+3=(p+1)* 3 by omega,s9 Seen.len,TL hp,T5]
 have e:TS (p* 3+1) (ys.flatMap Seen.l)=TS (p* 3) (ys.flatMap Seen.l)++[iv ys[p].hour]:=by
  rw[List.take_add,h1];rfl
 rw[e,show p* 3+1+2=p* 3+3 from rfl];simp[Seen.l,fL.l]
section
variable {lv:Bool}{P:SI}{r:Option Nat}
theorem Je{nt:Nat}{c:T7}{T:List (Nat×AV)}{H:List aa}{id jJ j n sz:Nat}{l cl:List AV}{el:TypeId}{Φ:an->AS->Prop}(hl:l.length=n* sz)(h1:H[id]?=some (oO sz n l el))(h2:H[jJ]?=some (.cells cl 26))(aF:id≠jJ)(h3:cl[j]?=some (vO id n))(h:∀o,aP lv P r nt c ⟨T,(H.set id o).set jJ (.cells (cl.set j (.sl n l .shut)) 26)⟩ Φ):aP lv P r nt c ⟨T,H⟩ Φ:=by
 have hlt:=(SL.1 h1).1
 match n,hl with
 |0,hl=>
  obtain rfl:l=[]:=UF (by omega);have hs:H.set id (oO sz 0 [] el)=H:=by
   obtain⟨_,e⟩:=SL.1 h1;rw[<- e];exact List.set_getElem_self hlt
  have:=h (oO sz 0 [] el);rw[hs]at this;exact Cu (id:=jJ) (j:=j) (y:=.sl 0 [] .shut) (el:=26) (l:=cl) h2 h3 (xK.of (jq 0 [] (.opn id))) this
 |n+1,hl=>
  refine PI (id:=id) h1 ?_;refine Cu (id:=jJ) (j:=j) (y:=.sl (n+1) l .shut) (el:=26) (by rw[Ua aF];exact h2) h3 ?_ (h _);have e:AV.sl (n+1) l .shut=.sl (n+1) (l.take l.length) .shut:=by rw[TD]
  rw[e];exact EN (p:=l.length) (l:=l) (el:=el) (by rw[UU,if_pos rfl,if_pos hlt]) (SO _) (SO _)
end
section
variable {H:List aa}{k kp:AV->List aa->Prop}
theorem ajp{aC:List Int}(hm:H[0]?=some .main)(hn:aC.length<=2^50)(hk:k (bv true) H):bf true SA 9 H [br aC] k kp:=by
 refine bI (rs:=[.tmp 2]) (nt:=295) VY λhH hA=> ?_;simp only[bt,SY];refine ak ?_;refine ak ?_;refine aJ ((aiJ ?_));(try simp only[seval]);obtain⟨Gf,nq⟩:∃Gf:aZ->List aa,Gf=λτ=>H++[vJ τ]:=⟨_,rfl⟩;obtain⟨N,hN⟩:∃N,N=H.length+1:=⟨_,rfl⟩;have hT:dH Gf H.length N:=by rw[nq,hN];exact asw H
 have hGm:∀τ (L:List aa),(Gf τ++L)[0]?=some .main:=λτ L=>by rw[nq,SC];exact fO hm
 have hGH:∀τ,bH (Gf τ):=λτ=>by
  rw[nq];refine L6 hH λz hz m=> ?_;rw[S8.1 hz];exact asx m τ
 have hGe:∀τ (L:List aa),Gf τ++L=H++([vJ τ]++L):=λτ L=>by rw[nq,SC]
 have iQ:∀L:List aa,dH (λτ=>Gf τ++L) H.length (N+L.length):=λL=>hT.more L;have gQ:∀τ (L:List aa)(j:Nat),(Gf τ++L)[N+j]?=L[j]?:=λτ L j=>by rw[<- hT.len τ,aY]
 have cR:∀τ (L:List aa)(j:Nat)(y:aa),(Gf τ++L).set (N+j) y=Gf τ++L.set j y:=λτ L j y=>by rw[<- hT.len τ,dJ]
 have tQ:∀τ (L:List aa),(Gf τ++L)[N]?=L[0]?:=λτ L=>gQ τ L 0;have DL:∀τ (L:List aa)(y:aa),(Gf τ++L).set N y=Gf τ++L.set 0 y:=λτ L y=>cR τ L 0 y;have h5:∀τ (L:List aa),(Gf τ++L)[N+5]?=L[5]?:=λτ L=>gQ τ L 5;have s5:∀τ (L:List aa)(y:aa),(Gf τ++L).set (N+5) y=Gf τ++L.set 5 y:=λτ L y=>cR τ L 5 y;rw[show H++[vJ ⟨aC,0,7640891576956012809⟩]=Gf ⟨aC,0,7640891576956012809⟩ by rw[nq]];refine ak ?_;refine aJ ((aiD (pm:=3) (b:=0) hT ⟨Wd _,Wd _,hn⟩ (by decide) (by decide) λx bG aC bW τ hx rR _ _ _ hτ=> ?_));have pD:=hx.ec;have bP:x.l=[iv x.first,iv x.hours,iv x.am,cY x.seen,aL x.pieces,aL x.aA]:=rfl;have dw:x.l.length=6:=rfl;have fx:TS 6 x.l=x.l:=rfl;have cQ:TH 1 x.l=[iv x.hours,iv x.am,cY x.seen,aL x.pieces,aL x.aA]:=rfl;have kF:TH 2 x.l=[iv x.am,cY x.seen,aL x.pieces,aL x.aA]:=rfl;have wD:TH 4 x.l=[aL x.pieces,aL x.aA]:=rfl;(try simp only[seval,aj.av,tQ,DL,dw,hT.len]);refine⟨vE x,?_⟩;have aR:=hx.de;have wS:=hx.ua;have ji:=hx.first;have pI:x.l[0]?=some (iv x.first):=rfl;have rG:TH 3 x.l=[cY x.seen,aL x.pieces,aL x.aA]:=rfl;have mI:TH 5 x.l=[aL x.aA]:=rfl;refine ai ?_;simp only[seval,tQ,dw,fx];refine aJ ((aiR (x:=x) hx λc1 c2=> ?_));have l1:=vL (N+1+2) x.seen.length;have l2:=vL (N+1+3) x.pieces.length;have l3:=vL (N+1+4) x.aA.length;(try simp only[seval,gQ,cR,hT.len,l1,l2,l3]);obtain⟨BB,As⟩:∃BB,BB=Gf τ++[.cells x.l 26,c1,c2,oO 3 x.seen.length (x.seen.flatMap Seen.l) 61,oO 4 x.pieces.length (x.pieces.flatMap aB.l) 48,oO 4 x.aA.length (x.aA.flatMap aB.l) 48,.cells [iv x.first,iv x.hours,iv x.am,vO (N+1+2) x.seen.length,vO (N+1+3) x.pieces.length,vO (N+1+4) x.aA.length] 26]:=⟨_,rfl⟩;have KJ:=As;simp only[iv]at KJ;rw[<- KJ];have bN:BB[N]?=some (.cells x.l 26):=by rw[As,tQ];rfl
 have w1:SD.wrap (x.first+99)=x.first+99:=w6 (by omega);have w2:SD.wrap (x.first+99-90)=x.first+9:=by rw[w6 (by omega)];omega
 refine ai ?_;simp only[seval,bN,pI,w1,w2];obtain⟨t0,wU⟩:∃t0,t0=x.first+9:=⟨_,rfl⟩;have ht9:t0<=99:=by omega
 rw[<- wU];refine ak ?_;refine bY ?_;refine Fw (α:=Nat×Int) (measure λm=>x.pieces.length-m.1).wf (λm=>[(9,iv m.2),(10,iv m.1)]) (λ_=>BB) (λm=>m.1<=x.pieces.length/\t0<=m.2/\m.2<=99/\∀y∈x.pieces.take m.1,y.number.max<=m.2) (0,t0) (λ_ _=>rfl) (by simp only[seval];simp[bm,Wk.refl]) rfl (λ_ _=>SO _) ⟨WQ _,Wd _,ht9,λy hy=>by simp at hy⟩ (λbJ cm m hm R hR=> ?_);obtain⟨q1,t1⟩:=m;obtain⟨hq1,RO,KC,CU⟩:=hm;dsimp only at hq1 RO KC CU hR⊢;clear bJ cm;refine ai ?_;simp only[seval,bN,wD,aL];refine aD ?_;refine⟨λhc=> ?_,λhc=> ?_⟩
 ·have iH:q1<x.pieces.length:=by omega
  have bC:SD.wrap ((q1:Int)+1)=((q1+1:Nat):Int):=by rw[bw _ (by omega)];rfl
  obtain⟨y,hy⟩:=bZ iH;have r6:=hx.piece y (S_ hy);have rE:(0<=(q1:Int)/\(q1:Int)<x.pieces.length)=True:=by simp;omega
  have DI:=xj hy;refine aO ?_;refine ai ?_;simp only[seval,bN,wD,aL,DI,rE];have rO:(if t1<y.number.max then y.number.max else t1)=max t1 (y.number.max):=by split<;>omega
  refine ai ?_;simp only[seval,bC,rO];refine hR _ ⟨(q1+1,max t1 (y.number.max)),by show _-(q1+1)<_-q1;omega,⟨iH,by dsimp only;omega,by have:=r6.1.3;dsimp only;omega,λz hz=> ?_⟩,cT⟩;rw[UZ,hy]at hz;rcases SQ.1 hz with hz|hz
  ·have:=CU z hz;dsimp only;omega
  ·simp only[Ww,S8]at hz;subst hz;dsimp only;omega
 ·have nN:q1=x.pieces.length:=by omega
  subst nN;rw[TD]at CU;clear hR;refine bU ?_;refine ak ?_;refine bY ?_;refine Fw (α:=Nat×Int) (measure λm=>x.aA.length-m.1).wf (λm=>[(9,iv m.2),(11,iv m.1)]) (λ_=>BB) (λm=>m.1<=x.aA.length/\t1<=m.2/\m.2<=99/\∀y∈x.aA.take m.1,y.number.max<=m.2) (0,t1) (λ_ _=>rfl) (by simp only[seval];simp[bm,Wk.refl]) rfl (λ_ _=>SO _) ⟨WQ _,Wd _,KC,λy hy=>by simp at hy⟩ (λbJ cm m hm R hR=> ?_);obtain⟨q2,t2⟩:=m;obtain⟨hq2,RP,KD,CV⟩:=hm;dsimp only at hq2 RP KD CV hR⊢;clear bJ cm;refine ai ?_;simp only[seval,bN,mI,aL];refine aD ?_;refine⟨λhc=> ?_,λhc=> ?_⟩
  ·have iH:q2<x.aA.length:=(by omega);have bC:SD.wrap ((q2:Int)+1)=((q2+1:Nat):Int):=(by rw[bw _ (by omega)];rfl);obtain⟨y,hy⟩:=bZ iH;have r6:=hx.stub y (S_ hy);have rE:(0<=(q2:Int)/\(q2:Int)<x.aA.length)=True:=(by simp;omega);have DI:=xj hy;refine aO ?_;refine ai ?_;simp only[seval,bN,mI,aL,DI,rE];have rO:(if t2<y.number.max then y.number.max else t2)=max t2 (y.number.max):=(by split<;>omega);refine ai ?_;simp only[seval,bC,rO];refine hR _ ⟨(q2+1,max t2 (y.number.max)),by show _-(q2+1)<_-q2;omega,⟨iH,by dsimp only;omega,by have:=r6.1.3;dsimp only;omega,λz hz=> ?_⟩,cT⟩;rw[UZ,hy]at hz;rcases SQ.1 hz with hz|hz
   ·have:=CV z hz;dsimp only;omega
   ·simp only[Ww,S8]at hz;subst hz;dsimp only;omega
  ·have nN:q2=x.aA.length:=(by omega);subst nN;rw[TD]at CV;clear hR;refine bU ?_;refine ak ?_;refine bY ?_;refine Fw (α:=Nat×Int) (measure λm=>x.seen.length-m.1).wf (λm=>[(9,iv m.2),(12,iv m.1)]) (λ_=>BB) (λm=>m.1<=x.seen.length/\t2<=m.2/\m.2<=99/\∀y∈x.seen.take m.1,y.next.max<=m.2) (0,t2) (λ_ _=>rfl) (by simp only[seval];simp[bm,Wk.refl]) rfl (λ_ _=>SO _) ⟨WQ _,Wd _,KD,λy hy=>by simp at hy⟩ (λbJ cm m hm R hR=> ?_);obtain⟨q3,t3⟩:=m;obtain⟨tM,RQ,RR,CW⟩:=hm;dsimp only at tM RQ RR CW hR⊢;clear bJ cm;refine ai ?_;simp only[seval,bN,rG,cY];refine aD ?_;refine⟨λhc=> ?_,λhc=> ?_⟩
   ·have iH:q3<x.seen.length:=(by omega);have bC:SD.wrap ((q3:Int)+1)=((q3+1:Nat):Int):=(by rw[bw _ (by omega)];rfl);obtain⟨y,hy⟩:=bZ iH;have r6:=hx.seen y (S_ hy);have rE:(0<=(q3:Int)/\(q3:Int)<x.seen.length)=True:=(by simp;omega);have DI:=Ie hy;refine aO ?_;refine ai ?_;simp only[seval,bN,rG,cY,DI,rE];have rO:(if t3<y.next.max then y.next.max else t3)=max t3 (y.next.max):=(by split<;>omega);refine ai ?_;simp only[seval,bC,rO];refine hR _ ⟨(q3+1,max t3 (y.next.max)),by show _-(q3+1)<_-q3;omega,⟨iH,by dsimp only;omega,by have:=r6.2.3;dsimp only;omega,λz hz=> ?_⟩,cT⟩;rw[UZ,hy]at hz;rcases SQ.1 hz with hz|hz
    ·have:=CW z hz;dsimp only;omega
    ·simp only[Ww,S8]at hz;subst hz;dsimp only;omega
   ·have nN:q3=x.seen.length:=(by omega);subst nN;rw[TD]at CW;clear hR;refine bU ?_;clear KJ;have w3:SD.wrap (99-t3)=99-t3:=w6 (by omega);refine ai ?_;simp only[seval,w3];rw[As];refine aJ ((oi (n:=99-t3) (iQ _) hτ (by omega) (by omega) ?_));have r1:=kM τ (99-t3);generalize dg τ (99-t3)=more at r1⊢;generalize tick τ=σ;have w4:SD.wrap (x.first+more)=x.first+more:=w6 (by omega);(try simp only[seval]);refine ai ?_;simp only[seval,gQ,tQ,cR,pI,w4];have aq:=asZ hx (m:=more) (by omega) (by omega) (λs hs=>by have:=CW s hs;omega) (λy hy=>by have:=CU y hy;omega) (λy hy=>by have:=CV y hy;omega);have LV:0<=more/\more<=99:=(by omega);clear As bN w1 w2 ht9 wU RO KC CU RP KD CV RQ RR CW hq1 hq2 tM w3 w4 r1;obtain⟨np,wP⟩:∃np,np=x.pieces.length:=⟨_,rfl⟩;obtain⟨nt,hnt⟩:∃nt,nt=x.aA.length:=⟨_,rfl⟩;obtain⟨ns,gK⟩:∃ns,ns=x.seen.length:=⟨_,rfl⟩;obtain⟨GG,ou⟩:∃GG:List Seen->List aB->List aB->List aa,∀S P T,GG S P T=Gf σ++[.cells x.l 26,c1,c2,oO 3 ns (S.flatMap Seen.l) 61,oO 4 np (P.flatMap aB.l) 48,oO 4 nt (T.flatMap aB.l) 48,.cells [iv (x.first+more),iv x.hours,iv x.am,vO (N+1+2) ns,vO (N+1+3) np,vO (N+1+4) nt] 26]:=⟨_,λ_ _ _=>rfl⟩;refine jx (s':=⟨[(13,iv more),(8,.op (N+6) 0),(4,.op N 0),(2,bv false)],GG x.seen x.pieces x.aA⟩) ?_ ?_
    ·rw[ou,wP,hnt,gK];exact dz (by simp only[seval];simp[bm,Wk.refl]) rfl
    have gN:∀S P T,(GG S P T)[N]?=some (.cells x.l 26):=λS P T=>(by rw[ou,tQ];rfl);have gx:∀S P T,(GG S P T)[N+6]?=some (.cells [iv (x.first+more),iv x.hours,iv x.am,vO (N+1+2) ns,vO (N+1+3) np,vO (N+1+4) nt] 26):=λS P T=>(by rw[ou,gQ];rfl);have g3:∀S P T,(GG S P T)[N+1+2]?=some (oO 3 ns (S.flatMap Seen.l) 61):=λS P T=>(by rw[ou,show N+1+2=N+3 from rfl,gQ];rfl);have g4:∀S P T,(GG S P T)[N+1+3]?=some (oO 4 np (P.flatMap aB.l) 48):=λS P T=>(by rw[ou,show N+1+3=N+4 from rfl,gQ];rfl);have g5:∀S P T,(GG S P T)[N+1+4]?=some (oO 4 nt (T.flatMap aB.l) 48):=λS P T=>(by rw[ou,show N+1+4=N+5 from rfl,gQ];rfl);have e3:0<ns->∀S P T (S':List Seen),(GG S P T).set (N+1+2) (.own 3 (S'.flatMap Seen.l) 61)=GG S' P T:=λh S P T S'=>(by rw[ou,ou,show N+1+2=N+3 from rfl,cR,<- vz h];rfl);have e4:0<np->∀S P T (P':List aB),(GG S P T).set (N+1+3) (.own 4 (P'.flatMap aB.l) 48)=GG S P' T:=λh S P T P'=>(by rw[ou,ou,show N+1+3=N+4 from rfl,cR,<- vz h];rfl);have e5:0<nt->∀S P T (T':List aB),(GG S P T).set (N+1+4) (.own 4 (T'.flatMap aB.l) 48)=GG S P T':=λh S P T T'=>(by rw[ou,ou,show N+1+4=N+5 from rfl,cR,<- vz h];rfl);have gl:∀S P T,(GG S P T).length=N+7:=λS P T=>(by rw[ou,S5,hT.len];rfl);have hxd:∀a b c d e f:AV,TH 4 [a,b,c,d,e,f]=[e,f]:=λ_ _ _ _ _ _=>rfl;refine ak ?_;refine bY ?_;refine gF np (λi:Nat=>[(14,iv i)]) (λi=>GG x.seen (nV (·.more more) x.pieces i) x.aA) (λ_=>True) (λ_ _=>rfl) (by simp only[seval];simp[bm,Wk.refl]) rfl (λ_ _ _=>by rw[gl,gl]) trivial (λbJ cm i cK _ R hR=> ?_);clear bJ cm;refine ai ?_;simp only[seval,gN,wD,aL];refine aD ?_;refine⟨λhc=> ?_,λhc=> ?_⟩
    ·have bB:i<x.pieces.length:=(by omega);have bC:SD.wrap ((i:Int)+1)=((i+1:Nat):Int):=(by rw[bw _ (by omega)];rfl);obtain⟨y,hy⟩:=bZ bB;have r6:=(hx.piece y (S_ hy)).1;obtain⟨m1,m2,m3⟩:=r6;have fQ:(0<=(i:Int)/\(i:Int)<x.pieces.length)=True:=(by simp;omega);have tr:(0<=(i:Int)/\(i:Int)<np)=True:=(by simp;omega);have rQ:0<np:=(by omega);have hv:=BM (id:=N+1+3) rQ;have ho:=λl=>vz (sz:=4) (l:=l) (el:=48) rQ;have e4:=e4 rQ;have wX:=OK (f:=(·.more more)) hy;have wW:=OJ (·.more more) x.pieces i;generalize nV (·.more more) x.pieces i=U at wX wW⊢;have u5:=Ib (ys:=U) (p:=i) (y:=y.more more) (s:=0) (by omega) rfl;rw[<- wX]at u5;have nC:(y.more more).l=[iv (y.more more).number.min,iv (y.more more).number.max,iv (y.more more).hour.min,iv (y.more more).hour.max]:=rfl;refine aO ?_;refine bY ?_;refine ek 11 ?_;simp only[seval,gN,gx,hv,wD,aL,xj hy,fQ,tr];refine gR (y.more more).av (di (Q6 (y:=y) ⟨m1,by omega⟩ ⟨by omega,by omega⟩ ⟨LV.1,by omega⟩ ⟨rfl,rfl⟩)) ?_;have KF:(y.more more).l.length=4:=rfl;have jE:∀a∈(y.more more).l,a.leaf=true:=(by rw[nC];simp[AV.leaf,Value.one]);(try simp only[seval,aB.av,g4,ho,KF]);refine⟨⟨by omega,by omega⟩,by rw[mQ aB.len];omega,jE,?_⟩;rw[u5,e4];refine ai ?_;simp only[seval,bC];refine hR _ ⟨by omega,trivial,cT⟩
    ·have nN:i=x.pieces.length:=(by omega);subst nN;rw[OI];refine bU ?_;refine ak ?_;refine bY ?_;refine gF nt (λi:Nat=>[(15,iv i)]) (λi=>GG x.seen (x.pieces.map (·.more more)) (nV (·.more more) x.aA i)) (λ_=>True) (λ_ _=>rfl) (by simp only[seval];simp[bm,Wk.refl]) rfl (λ_ _ _=>by rw[gl,gl]) trivial (λbJ cm i cK _ R hR=> ?_);clear bJ cm;refine ai ?_;simp only[seval,gN,mI,aL];refine aD ?_;refine⟨λhc=> ?_,λhc=> ?_⟩
     ·have bB:i<x.aA.length:=(by omega);have bC:SD.wrap ((i:Int)+1)=((i+1:Nat):Int):=(by rw[bw _ (by omega)];rfl);obtain⟨y,hy⟩:=bZ bB;have r6:=(hx.stub y (S_ hy)).1;obtain⟨m1,m2,m3⟩:=r6;have fQ:(0<=(i:Int)/\(i:Int)<x.aA.length)=True:=(by simp;omega);have tr:(0<=(i:Int)/\(i:Int)<nt)=True:=(by simp;omega);have rQ:0<nt:=(by omega);have hv:=BM (id:=N+1+4) rQ;have ho:=λl=>vz (sz:=4) (l:=l) (el:=48) rQ;have e5:=e5 rQ;have wX:=OK (f:=(·.more more)) hy;have wW:=OJ (·.more more) x.aA i;generalize nV (·.more more) x.aA i=U at wX wW⊢;have u5:=Ib (ys:=U) (p:=i) (y:=y.more more) (s:=0) (by omega) rfl;rw[<- wX]at u5;have nC:(y.more more).l=[iv (y.more more).number.min,iv (y.more more).number.max,iv (y.more more).hour.min,iv (y.more more).hour.max]:=rfl;refine aO ?_;refine bY ?_;refine ek 11 ?_;simp only[seval,gN,gx,hv,mI,aL,xj hy,fQ,tr];refine gR (y.more more).av (di (Q6 (y:=y) ⟨m1,by omega⟩ ⟨by omega,by omega⟩ ⟨LV.1,by omega⟩ ⟨rfl,rfl⟩)) ?_;have KF:(y.more more).l.length=4:=rfl;have jE:∀a∈(y.more more).l,a.leaf=true:=(by rw[nC];simp[AV.leaf,Value.one]);(try simp only[seval,aB.av,g5,ho,KF]);refine⟨⟨by omega,by omega⟩,by rw[mQ aB.len];omega,jE,?_⟩;rw[u5,e5];refine ai ?_;simp only[seval,bC];refine hR _ ⟨by omega,trivial,cT⟩
     ·have nN:i=x.aA.length:=(by omega);subst nN;rw[OI];refine bU ?_;refine ak ?_;refine bY ?_;refine gF ns (λi:Nat=>[(16,iv i)]) (λi=>GG (nV (·.up more) x.seen i) (x.pieces.map (·.more more)) (x.aA.map (·.more more))) (λ_=>True) (λ_ _=>rfl) (by simp only[seval];simp[bm,Wk.refl]) rfl (λ_ _ _=>by rw[gl,gl]) trivial (λbJ cm i cK _ R hR=> ?_);refine ai ?_;simp only[seval,gN,rG,cY];refine aD ?_;refine⟨λhc=> ?_,λhc=> ?_⟩
      ·have bB:i<x.seen.length:=(by omega);have bC:SD.wrap ((i:Int)+1)=((i+1:Nat):Int):=(by rw[bw _ (by omega)];rfl);obtain⟨y,hy⟩:=bZ bB;have r6:=(hx.seen y (S_ hy)).2;obtain⟨m1,m2,m3⟩:=r6;have fQ:(0<=(i:Int)/\(i:Int)<x.seen.length)=True:=(by simp;omega);have tr:(0<=(i:Int)/\(i:Int)<ns)=True:=(by simp;omega);have rQ:0<ns:=(by omega);have hv:=BM (id:=N+1+2) rQ;have ho:=λl=>vz (sz:=3) (l:=l) (el:=61) rQ;have e3:=e3 rQ;have wX:=OK (f:=(·.up more)) hy;have wW:=OJ (·.up more) x.seen i;have huy:(nV (·.up more) x.seen i)[i]?=some y:=by
        unfold nV;have hl:((x.seen.take i).map (·.up more)).length=i:=(by rw[S9,TV];omega);rw[Ta (by omega),hl,Vd,Up];exact hy
       generalize nV (·.up more) x.seen i=U at wX wW huy⊢;have u5:=ara huy (y.next.min+more) (y.next.max+more);rw[show (⟨y.hour,⟨y.next.min+more,y.next.max+more⟩⟩:Seen)=y.up more from rfl,<- wX]at u5;simp only[iv]at u5;have wa:SD.wrap (y.next.min+more)=y.next.min+more:=w6 (by omega);have wb:SD.wrap (y.next.max+more)=y.next.max+more:=w6 (by omega);refine aO ?_;refine bY ?_;refine ek 24 ?_;simp only[seval,gN,gx,hv,rG,cY,Ie hy,fQ,tr,wa,wb];refine gR (.agg [iv (y.next.min+more),iv (y.next.max+more)]) (di (FR ⟨rfl,rfl⟩)) ?_;(try simp only[seval,g3,ho,tr]);refine⟨by rw[mQ Seen.len];omega,?_⟩;rw[u5,e3];refine ai ?_;simp only[seval,bC];refine hR _ ⟨by omega,trivial,cT⟩
      ·have nN:i=x.seen.length:=(by omega);subst nN;rw[OI];refine bU ?_;refine jx (s':=⟨[(13,iv more),(8,.op (N+6) 0),(4,.op N 0),(2,bv false)],GG (x.seen.map (·.up more)) (x.pieces.map (·.more more)) (x.aA.map (·.more more))⟩) (dz (by simp only[seval];simp[bm,Wk.refl]) rfl) ?_;subst gK wP hnt;have n3:((x.seen.map (·.up more)).flatMap Seen.l).length=x.seen.length* 3:=(by rw[mQ Seen.len,S9]);have n4:((x.pieces.map (·.more more)).flatMap aB.l).length=x.pieces.length* 4:=(by rw[mQ aB.len,S9]);have n5:((x.aA.map (·.more more)).flatMap aB.l).length=x.aA.length* 4:=(by rw[mQ aB.len,S9]);refine Je (id:=N+1+2) (jJ:=N+6) (j:=3) n3 (g3 _ _ _) (gx _ _ _) (by omega) rfl λo3=> ?_;rw[ou,show N+1+2=N+3 from rfl,cR,cR];refine Je (id:=N+1+3) (jJ:=N+6) (j:=4) (n:=x.pieces.length) n4 (by rw[show N+1+3=N+4 from rfl,gQ];rfl) (by rw[gQ];rfl) (by omega) rfl λo4=> ?_;rw[show N+1+3=N+4 from rfl,cR,cR];refine Je (id:=N+1+4) (jJ:=N+6) (j:=5) (n:=x.aA.length) n5 (by rw[show N+1+4=N+5 from rfl,gQ];rfl) (by rw[gQ];rfl) (by omega) rfl λo5=> ?_;rw[show N+1+4=N+5 from rfl,cR,cR];have jY:[iv (x.first+more),iv x.hours,iv x.am,.sl x.seen.length ((x.seen.map (·.up more)).flatMap Seen.l) .shut,.sl x.pieces.length ((x.pieces.map (·.more more)).flatMap aB.l) .shut,.sl x.aA.length ((x.aA.map (·.more more)).flatMap aB.l) .shut]=(x.up more).l:=by
        unfold aj.l aj.up cY aL;simp only[S9]
       show aP _ _ _ _ _ ⟨_,Gf σ++[.cells x.l 26,c1,c2,o3,o4,o5,.cells [iv (x.first+more),iv x.hours,iv x.am,.sl x.seen.length ((x.seen.map (·.up more)).flatMap Seen.l) .shut,.sl x.pieces.length ((x.pieces.map (·.more more)).flatMap aB.l) .shut,.sl x.aA.length ((x.aA.map (·.more more)).flatMap aB.l) .shut] 26]⟩ _;rw[jY];exact ajo (N:=N) (ix:=N+6) hH hx aq LV (λL=>by rw[SC,tQ];rfl) (λL=>by rw[SC,gQ];rfl) (λL=>by rw[SC];exact hGm _ _) (hGe _ _) hk
end
open Go.ChangeShapes Go.WideShapes Go.ChangeAt Go.RowKit
def EM (W:Tp):View:=⟨λb o=>W.cell? ⟨b,o,none⟩,λ_=>none,0,.plain⟩
def CG (W:Tp):Env:=⟨(EM W).ab,1,λ_=>0,λ_ _=>(none,0),λ_=>0,λ_=>none,true⟩
theorem aqO(W:Tp):Sat (EM W) W:=⟨λ_ _ _ h=>h,λ_ _ h=>by cases h⟩
theorem ahj(W:Tp):Conc (CG W) (EM W) [.main]where
 I:=rfl
 n:=rfl
 obj:=λk x h=>by
  match k,h with
  |0,h=>cases h;exact rfl
  |k+1,h=>cases h
 inj:=λi j x y b hi hj h1 h2=>by
  match i,hi with
  |0,hi=>cases hi;cases h1
  |i+1,hi=>cases hi
 group:=λg h=>by cases h
 chan:=λc h=>by cases h
 top:=λ_=>⟨rfl,rfl⟩
 fr:=λb y h=>by cases h
theorem akg{f:TQ}{W:Tp}{args:Array SP}{l6:List AV}{Q:SP->Prop}(hi:SA.inits.idxOf? f=none)(hd:cJ (CG W) l6 args)(h:bf true SA f [.main] l6 (λa _=>∀E v,ap E a v->Q v) (λ_ _=>False)):
  ∃M last o w' t',runNT SA (M+1) (solo (G (Frame.enter SA f args .normal) []) W) #[]=(.ended o w',t')/\runN SA M (solo (G (Frame.enter SA f args .normal) []) W)=.next last/\step SA last=.ended o w'/\W4 SA (λv w=>Q v/\Left W.heap.size W w) last o w' t':=
 akf hi (V:=EM W) rfl rfl rfl (aqO W) (h (CG W) (EM W) args (ahj W) hd) λo V' r=>by
  cases o with
  |ret v=>
   obtain⟨av,E',H',_,ce,_,bk,_,hk⟩:=r;exact⟨ce,v,rfl,λw _ hl=>⟨hk _ _ bk,hl⟩⟩
  |panic ch=>
   obtain⟨pv,v,E',H',_,_,_,_,_,_,hf⟩:=r;exact hf.elim
theorem ahv{W:Tp}{b o len cap:Nat}{zs:List Int}(hl:zs.length=len)(hc:len<=cap)(h:∀i,i<len->W.cell? ⟨b,o+i,none⟩=some (.int .i64 (zs.getD i 0))):ap (CG W) (br zs) (.slice (some ⟨b,o,none⟩) len cap):=by
 subst hl;refine .sl b o cap (λi=> .int .i64 (zs.getD i 0)) hc trivial (λi hi=> ?_) (λi x hx=> ?_)
 ·exact h i (by simpa using hi)
 ·rw[To]at hx;obtain⟨z,hz,rfl⟩:=Tq.1 hx;rw[SE,hz];exact .val _
theorem Left.below{W w:Tp}(h:Left W.heap.size W w):Below W.heap.size W w:=⟨h.os,h.tape,h.out,h.size,h.old⟩
theorem Tz.own:ownKnob SA.godebug=none:=by kernel_rfl
theorem Tz.laidOut:laidOutB SA=true:=by kernel_rfl
theorem Tz.Iv:SA.underlying 22=some (.slice 3):=by kernel_rfl
theorem Tz.u3:SA.underlying 3=some (.int .i64):=by kernel_rfl
theorem Tz.u4:SA.underlying 4=some .bool:=by kernel_rfl
theorem Tz.c3:SA.cellsOf 3=1:=by kernel_rfl
theorem Tz.b3:SA.bytesOf 3=8:=by kernel_rfl
theorem Tz.r22:SA.readableRec 22=true:=by kernel_rfl
theorem Tz.M8:22<SA.types.size:=of_decide_eq_true (by kernel_rfl)
theorem aqp{H:Type}{enc:TypeId×SP->H}{a:Assume}{C:Checked}{os:Os}{f:TQ}{fn:YH}{s:Z0}{conds:List PathCond}{apart fresh handsOn again:Bool}{X:Tp->Array SP->Prop}
  (own:ownKnob C.prog.godebug=none) (started:os.Started) (yq:C.prog.funcs[f]?=some fn)
  (witness:∃(w:Tp)(tape:Tape)(i:Input),w.os=os/\(w.forCall tape i).Shaped C.prog/\i.vars=[]/\ZW C.prog (w.forCall tape i) .any w.heap.size f i/\
   ((s.pre enc C.prog fn conds apart (w.forCall tape i).memory i.args/\X (w.forCall tape i).memory i.args)/\sizedMet enc C.prog fn (VF s) apart (w.forCall tape i).memory i.args)/\a.holds C.prog (lone (Frame.enter C.prog f i.args .normal) [] (w.forCall tape i)))
  (runs:∀(W:Tp)(base:Nat)(args:Array SP)(ds gs:List (al_ H))(before:List MemPlace),
   (∀(j:Nat) t v,fn.params[j]?=some t->args[j]?=some v->Yz C.prog W .any base t v)->
   DataW.Whole enc C.prog fn.params.toList s.vars apart W args.toList ds gs before->
   conds.all (auV C.prog ⟨fn.params.toList,ds,s.plain.varTypes C.prog,gs⟩)=true->
   (Zf C.prog (fn.params.toList++s.plain.varTypes C.prog) (ds++gs)).all (·<=reachBytes)=true->
   a.holds C.prog (lone (Frame.enter C.prog f args .normal) [] W)->
   ∃M last o w' t',runNT C.prog (M+1) (solo (G (Frame.enter C.prog f args .normal) []) W) #[]=(.ended o w',t')/\runN C.prog M (solo (G (Frame.enter C.prog f args .normal) []) W)=.next last/\
    step C.prog last=.ended o w'/\W4 C.prog (λv W'=>s.post enc C.prog fn apart fresh handsOn again W args v W') last o w' t'):
  Xz a C os f .any (λw args=>(s.pre enc C.prog fn conds apart w args/\X w args)/\sizedMet enc C.prog fn (VF s) apart w args) (s.post enc C.prog fn apart fresh handsOn again):=by
 refine returnsInLeavingWide_of_good own started witness ?_;intro w tape i _ _ _ aq Me alc;obtain⟨_,_,_,fA,ala,_,_,_,_,G5⟩:=aq;have e:fA=fn:=V_ (ala.symm.trans yq);subst e;obtain⟨⟨⟨ds,gs,before,hw,hc⟩,_⟩,hz⟩:=Me;have nL:=ak' (w':=w.forCall tape i) (by rfl) hw;obtain⟨M,last,o,w',t',h1,h2,h3,h4⟩:=runs (w.forCall tape i) w.heap.size i.args ds gs before G5 nL hc (hz.weights hw) alc;exact⟨M,last,o,w',t',h1,h2,h3,h4.mono λv hp=>apH hp⟩
def aeF (f:TQ):Prop:=∀aC:List Int,aC.length<=2^50->bf true SA f [.main] [br aC] (λa _=>a=bv true) (λ_ _=>False)
set_option maxRecDepth 100000 in
theorem amu{f:TQ}{fn:YH}{s:Z0}{X:Tp->Array SP->Prop}(hf:SA.funcs[f]?=some fn)(hp:fn.params=#[22]) (hr:fn.resultTypes=#[4]) (hv:s.vars=[]) (hs:∀(H:Type)(d:al_ H),s.fn H [d]={results:=[.lit (.bool true)],args:=[d]}) (hi:SA.inits.idxOf? f=none) (alm:aeF f)
  (os:Os) (started:os.Started) (H:Type) (enc:TypeId×SP->H)
  (amr:∃(w:Tp)(tape:Tape)(i:Input),w.os=os/\(w.forCall tape i).Shaped UB.prog/\i.vars=[]/\ZW UB.prog (w.forCall tape i) .any w.heap.size f i/\
   ((s.pre enc UB.prog fn [] false (w.forCall tape i).memory i.args/\X (w.forCall tape i).memory i.args)/\sizedMet enc UB.prog fn (VF s) false (w.forCall tape i).memory i.args)/\({}:Assume).holds UB.prog (lone (Frame.enter UB.prog f i.args .normal) [] (w.forCall tape i))):
  Xz {} UB os f .any (λw args=>(s.pre enc SA fn [] false w args/\X w args)/\sizedMet enc SA fn (VF s) false w args) (s.post enc SA fn false true false false):=by
 refine aqp (C:=UB) Tz.own started hf amr ?_;intro W base args ds gs before aa3 hW _ Mq _;have aV:(Zf SA (fn.params.toList++s.plain.varTypes SA) (ds++gs)).all (·<=reachBytes)=true:=Mq;clear Mq;have G5:∀(j:Nat) t v,fn.params[j]?=some t->args[j]?=some v->Yz SA W .any base t v:=aa3;have ws:=hW;obtain⟨p,q,F5,hV,rfl,_,_⟩:=hW;have hA:DataW.TrodAll enc SA W 0 (λ_=>true) true fn.params.toList args.toList ds p:=F5;rw[hp]at hA G5 aV;obtain⟨v0,d0,rfl,rfl,h0⟩:=trodAll_one hA;rw[hv]at hV;obtain⟨rfl,rfl⟩:=trodVars_none hV;have aq:=G5 0 22 v0 rfl rfl;obtain⟨a0,len,cap,rfl⟩:=okWide_slice Tz.Iv aq;have h0k:=h0;obtain⟨fuel,hfu⟩:=h0;clear F5 aa3;simp only[SN]at ws;have hlt:∀x∈p,x.block<W.heap.size:=λx hx=>by simpa using ws.lt x hx
 have cM:∀(W':Tp),Below W.heap.size W W'->DataW.Trod enc SA W' 0 (λb=>decide (b<W.heap.size)) true 22 (.slice a0 len cap) d0 p:=
  λW' hn=>Below.trod Tz.laidOut Tz.r22 Tz.M8 h0k hn hlt
 have close:∀aC:List Int,aC.length<=2^50->ap (CG W) (br aC) (.slice a0 len cap)->
   ∃M last o w' t',runNT UB.prog (M+1) (solo (G (Frame.enter UB.prog f #[.slice a0 len cap] .normal) []) W) #[]=(.ended o w',t')/\
    runN UB.prog M (solo (G (Frame.enter UB.prog f #[.slice a0 len cap] .normal) []) W)=.next last/\step UB.prog last=.ended o w'/\
    W4 UB.prog (λv W'=>s.post enc UB.prog fn false true false false W #[.slice a0 len cap] v W') last o w' t':=by
  intro aC hn hd;obtain⟨M,last,o,w',t',h1,h2,h3,h4⟩:=akg (Q:=λv=>v=.bool true) (args:=#[.slice a0 len cap]) (l6:=[br aC]) hi ⟨rfl,λi a e=>by
   match i,e with
   |0,e=>cases e;exact hd⟩ ((alm aC hn).mono (λa H' e E v bk=>by subst e;cases bk;rfl) λ_ _ h=>h)
  refine⟨M,last,o,w',t',h1,h2,h3,h4.mono λv ⟨hQ,hL⟩=> ?_⟩;subst hQ;have hb:=hL.below;refine⟨[d0],[],_,[],p,[],ws,?_,?_,by rw[hv];exact(by rw[show ([d0]++[]:List (al_ H))=[d0]from rfl,hs];rfl),hb.frame _,λh=>by cases h⟩
  ·rw[show ([d0]++[]:List (al_ H))=[d0]from rfl,hs,hr];exact trodAll_mk1 (shut_bool Tz.u4 true)
  ·rw[show ([d0]++[]:List (al_ H))=[d0]from rfl,hs,hp];exact trodAll_mk1 (cM _ hb)
 rcases open_ints Tz.Iv Tz.u3 Tz.c3 hfu with⟨pn,hx⟩|⟨a,auE,cap',zs,pn,_,hl,hm,hz,hx,K8,hwz⟩
 ·simp[Z']at pn;obtain⟨rfl,rfl,rfl⟩:=pn;exact close [] (by simp) (.nil trivial)
 ·simp[Z']at pn;obtain⟨rfl,rfl,rfl⟩:=pn;simp only[U7]at hx;obtain⟨rfl,rfl⟩:=hx;simp only[if_true]at hz;have aaT:a.spot=none:=by
   have:=aq;simp only[Yz,Tz.Iv,Cell.okWide,Cell.ok]at this;exact this.2.2.2.1
  have aux:len* 8<=140737488355328:=by
   have:=sized_slice aV (j:=0) (t:=22) (e:=3) rfl rfl Tz.Iv;rw[Tz.b3]at this;simp only[lits,S9,TV,Uk,reachBytes]at this;omega
  obtain⟨bl,off,spot⟩:=a;simp only at aaT;subst aaT;have jY:(zs.take len).length=len:=by rw[TV];omega
  refine close (zs.take len) (by rw[jY];omega) (ahv jY hl λi hi=> ?_);have:=K8 i (by omega);rw[show (au3 ⟨bl,off,none⟩ i)=⟨bl,off+i,none⟩ by simp[au3]]at this;rw[this,SE,SE,List.getElem?_take_of_lt hi]
def abb:List (List Nat):=[99,117,116]::[97,116]::[[70,105,114,115,116],[87,105,100,101,114],[71,105,118,101,110],[65,112,97,114,116],[70,111,114,103,101,100],[82,101,97,100],[71,114,101,97,116,101,114],[77,105,120,101,100],[84,114,117,101],[83,116,101,112,115],[79,114,100,101,114],[65,108,108]].map ([103,108,97,100,115,116,111,110,101,47,103,108,97,100,115,116,111,110,101,108,97,119,48,49,46,84,105,99,107,101,116]++·)
def aba:List Nat:=[104,97,114,110,101,115,115,32,52,53,102,100,53,51,53,49,102,55,99,100,57,55,51,53,100,100,102,52,98,97,54,100,48,51,53,50,49,55,53,54,101,100,101,54,101,54,99,53,99,99,52,49,57,100,50,53,55,100,49,55,57,50,99,52,48,101,97,100,49,102,57,101]++abb.flatMap (32::·)
set_option maxRecDepth 100000 in
theorem ioL:SA.initOrder.toList=aba.map Zh:=by
 have h:SA.initOrder=String.ofList (aba.map Zh):=by kernel_rfl
 rw[h,String.toList_ofList]
def MT:List (List Char):=abb.map λl=>l.map Zh
set_option maxRecDepth 100000 in
theorem ioW:behindMainWord (wordsSigns SA.initOrder.toList)=MT:=by
 rw[ioL]
 kernel_rfl
section
variable {P:SI}{c:List Char}{rest:List (List Char)}
theorem anY (h : behindMainWord (wordsSigns P.initOrder.toList) = c :: rest) (hc : c = "cut".toList) (h1 : stripLifts liftWords (c :: rest) = ([], c :: rest)) (h2 : P.laysLater = false) (h3 : P.bearsReflect = false) (h4 : P.doorFits [] = true) : P.mayEnter = true := by
 unfold au4;rw[h];subst hc;simp only[h1,h2,h3,h4,ZR,beq_self_eq_true,ZC,YI,Zy,Bool.or_true,ad_,Vx]
theorem ak7 (h : behindMainWord (wordsSigns P.initOrder.toList) = c :: rest) (hc : c = "cut".toList) (h1 : stripLifts liftWords (c :: rest) = ([], c :: rest)) : P.headLifts = [] := by
 unfold au7;rw[h];simp only[h1,ite_self]
theorem anu (h : behindMainWord (wordsSigns P.initOrder.toList) = c :: rest) (hc : c = "cut".toList) (h1 : stripLifts liftWords (c :: rest) = ([], c :: rest)) : P.liftsFinal = false := by
 unfold au6;rw [ak7 h hc h1, h];subst hc;simp only [ZR, ZC, Bool.or_false];have : (some "cut".toList == some "carried".toList) = false := by decide +kernel
 rw[this,YJ]
theorem anT (h : behindMainWord (wordsSigns P.initOrder.toList) = c :: rest) (hc : c = "cut".toList) : P.make = some .cut := by
 unfold au5;rw [h];subst hc;have e1 : ("cut".toList == "gc".toList) = false := by decide +kernel
 have e2 : ("cut".toList == "spec".toList) = false := by decide +kernel
 simp only[e1,e2,Bool.or_self,TP,if_false,beq_self_eq_true,ah',if_true]
end
def Hh:List Char:=MT.headD []
def MR:List (List Char):=MT.tail
theorem MS:behindMainWord (wordsSigns SA.initOrder.toList)=Hh::MR:=ioW.trans (by kernel_rfl)
theorem MQ : Hh = "cut".toList := by kernel_rfl
theorem ioS:stripLifts liftWords (Hh::MR)=([],Hh::MR):=by kernel_rfl
theorem Tz.mayEnter:SA.mayEnter=true:=anY MS MQ ioS (by kernel_rfl) (by kernel_rfl) (by kernel_rfl)
theorem Tz.ant:SA.liftsFinal=false:=anu MS MQ ioS
theorem Tz.make:SA.make=some .cut:=anT MS MQ
theorem amH{P:SI}{f:TQ}{fn:YH}{s:Z0}{c:Yl}
  (k0:(c.wf (VF s))=true)
  (k1:(laidOutB P)=true)
  (k2:(mapsRowed P)=true)
  (k3:(fn.params.all (P.readableRec ·))=true)
  (k4:(namedTie P c.named s.vars)=true)
  (k5:((c.stops==[]))=true)
  (k6:((P.stops==[]))=true)
  (k7:((c.knobs==[]))=true)
  (k8:((P.stopKnobs==[]))=true)
  (k9:((c.inPlace==P.inPlace f))=true)
  (DZ:((c.unfollowed==P.unfollowed f))=true)
  (MV:((c.recurses==P.recurses f))=true)
  (A':((c.named==P.varsNamed f))=true)
  (MW:((c.maps==(fn.params.toList++s.plain.varTypes P).any (P.mapsRec ·)))=true)
  (D1:((c.ifaces==(fn.params.toList++s.plain.varTypes P).any (P.ifacesRec ·)))=true)
  (MX:((c.mapsOut==P.mapsAmong fn.resultTypes.toList))=true)
  (MY:((c.loops==(fn.params.toList++s.plain.varTypes P).any (P.loopsFrom ·)))=true)
  (MZ:((c.wideKeys==(fn.params.toList++s.plain.varTypes P++fn.resultTypes.toList).any (P.wideKeysFrom ·)))=true)
  (k18:(s.vars.all (P.varReadable ·))=true)
  (k19:(fn.resultTypes.all (λt=>P.readableRec t&&decide (t<P.types.size)))=true)
  (M0:((c.ifacesOut==fn.resultTypes.toList.any (P.ifacesRec ·)))=true)
  (M1:((c.loopsOut==fn.resultTypes.toList.any (P.loopsFrom ·)))=true)
  (M3:((c.plainKeys==P.plainKeys))=true)
  (M4:(c.shortTexts.isNone)=true)
  (M5:(P.stopsHeard)=true)
  (M6:(P.mayEnter)=true)
  (k26:((c.lifted==P.liftsFinal))=true)
  (k27:((P.make==some c.make))=true)
  (k28:c.domain.isEmpty=true) (amK:c.kinds=[])
  (k29:((c.pinned==c.pinnedBy))=true)
  (k30:((c.veiled==(fn.params.toList++s.plain.varTypes P++fn.resultTypes.toList).any (P.veiledRec ·)))=true)
  (k31:(c.veiledFits P fn.params.toList (fn.params.toList++s.plain.varTypes P++fn.resultTypes.toList))=true):joinedFacts P f fn s c=true:=by
 simp only[joinedFacts,k0,k1,k2,k3,k4,k5,k6,k7,k8,k9,DZ,MV,A',MW,D1,MX,MY,MZ,k18,k19,M0,M1,M3,M4,M5,M6,k26,k27,k28,amK,if_true,beq_self_eq_true,k29,k30,k31,ad_]
theorem ans{c:Yl}(h:c.lifted=false):(c.lifted==SA.liftsFinal)=true:=by rw[Tz.ant,h];rfl
theorem anU{c:Yl}(h:c.make=.cut):(SA.make==some c.make)=true:=by rw[Tz.make,h];rfl
end Go.Gg
namespace Go.Proofs.YtkanpclgnhdbiaaGreatDoor
open Go.Conc Go.Proofs Go.Gg
theorem asv(Lk:Looks){p:Pinned}{s:OpenSpec}{c:Yl}(al:List (List PathCond))(kinds:List LaidKind)(Iq:Bool)(ww:Bool×String)(lk:Bool)
  (hc:c.holds p s) (gJ:∀D∈al,(c.withDomain D).holds p s) (hw:c.wfByText s=true) (amp:∀D∈al,(c.withDomain D).wfByText s=true)
  (amk:c.laidByTextAt Lk p kinds Iq)
  (aR:c.start=.entering) (tH:c.noBlocks=false/\c.again=false) (hm:p.checked.prog.mainIs=some (ww.1,ww.2.toList)) (hn:(!ww.1&&ww.2.isEmpty&& !lk)=false)
  (hl:∀f fn,p.checked.prog.funcNamed c.func=some f->p.checked.prog.funcs[f]?=some fn->lk=p.checked.prog.looks []/\∀(j:Nat) t,fn.params[j]?=some t->p.checked.prog.wantsStandIn t=false)
  (hg:true=c.goesBy p.checked.prog):
  Claim7.holds p (.plain s) {stood:={row:=c,standIns:=[],harness:=ww,looks:=lk},kinds:=[],alts:=al,goes:=true,laidByText:=true,laidKinds:=kinds,laidTests:=Iq,laidLooks:=Lk}:=by
 have h6:∀r:Yl,Zx {stood:={row:=r,standIns:=[],harness:=ww,looks:=lk},kinds:=[]}=false:=λr=>by simpa[Zx]using hn
 refine⟨Y1 Lk kinds Iq (YQ hc ww lk aR tH hm (h6 c) hl) hw,λD hD=> ?_,amk,(λh=>by cases h),hg⟩;exact Y1 Lk kinds Iq (YQ (gJ D hD) ww lk aR tH hm (h6 _) hl) (amp D hD)
theorem abp:SA.funcNamed Rows.ticketGreaterRow.func=some 9:=by kernel_rfl
theorem am2:joinedFacts SA 9 VY Rows.ticketGreaterSpec Rows.ticketGreaterRow=true:=
 amH (by kernel_rfl) Tz.laidOut (by kernel_rfl) (by kernel_rfl) (by kernel_rfl) (by kernel_rfl) (by kernel_rfl) (by kernel_rfl) (by kernel_rfl) (by kernel_rfl) (by kernel_rfl) (by kernel_rfl) (by kernel_rfl) (by kernel_rfl) (by kernel_rfl) (by kernel_rfl) (by kernel_rfl) (by kernel_rfl) (by kernel_rfl) (by kernel_rfl) (by kernel_rfl) (by kernel_rfl) (by kernel_rfl) (by kernel_rfl) (by kernel_rfl) Tz.mayEnter (ans (by kernel_rfl)) (anU (by kernel_rfl)) (by kernel_rfl) (by kernel_rfl) (by kernel_rfl) (by kernel_rfl) (by kernel_rfl)
theorem am1:VY.isInstance SA Rows.ticketGreaterRow.origin Rows.ticketGreaterRow.targs:=of_decide_eq_true (by kernel_rfl)
theorem am3:VY.isWrapper SA Rows.ticketGreaterRow.wrapper Rows.ticketGreaterRow.mainSum:=by unfold Func.isWrapper;first|(rw[if_pos (by decide+kernel)];kernel_rfl)|(rw[if_neg (by decide+kernel)];exact⟨rfl,rfl⟩)
theorem am0(os:Os)(args:Array SP):laidMetH SA Rows.ticketGreaterRow.laid ((ZE SA 400 os).forCall (λ_ _=>0) ⟨#[],args,[]⟩).memory:=
 laidMetH_of_parts (laidMet_nil _ _) (by kernel_rfl)
theorem am4(os:Os)(started:os.Started)(H:Type)(enc:TypeId×SP->H):
  Xz {} UB os 9 .any (λw args=>(Rows.ticketGreaterSpec.pre enc SA VY [] false w args/\laidMetH SA Rows.ticketGreaterRow.laid w)/\sizedMet enc SA VY (VF Rows.ticketGreaterSpec) false w args) (Rows.ticketGreaterSpec.post enc SA VY false true false false):=
 amu (f:=9) (fn:=VY) (s:=Rows.ticketGreaterSpec) (X:=λw _=>laidMetH SA Rows.ticketGreaterRow.laid w) Zd rfl rfl rfl (λ_ _=>rfl) (by kernel_rfl) (λaC hn=>ajp rfl hn rfl) os started H enc
  (ao' (enc:=enc) (C:=UB) (os:=os) (X:=λw _=>laidMetH SA Rows.ticketGreaterRow.laid w) false (ZE SA 400 os) #[.slice none 0 0] 8 rfl (World.shaped_of_RefB (by kernel_rfl) (by kernel_rfl)) (by kernel_rfl) (by kernel_rfl) (by kernel_rfl) (am0 os _))
theorem asu:Rows.TicketGreaterSaid:=
 aq_ 9 VY rfl rfl rfl rfl rfl rfl rfl ⟨rfl,rfl,rfl,rfl,rfl⟩ rfl rfl rfl rfl rfl abp Zd am2 am1 am3
  (λos started H enc _=>am4 os started H enc)
theorem ticketGreaterCard_holds:Rows.TicketGreaterCardSaid:=
 asv .later [] [.handle] true (true, "45fd5351f7cd9735ddf4ba6d03521756ede6e6c5cc419d257d1792c40ead1f9e") true
  asu (λ_ h=>by cases h) (by kernel_rfl) (λ_ h=>by cases h) ticketGreater_row_tie rfl ⟨rfl,rfl⟩ (by kernel_rfl) rfl
  (λf fn hf yq=>by
   obtain rfl:f=9:=V_ (abp.symm.trans hf)|>.symm;obtain rfl:fn=VY:=(V_ (Zd.symm.trans yq)).symm;exact⟨by kernel_rfl,λj t ht=>by
    rw[show VY.params=#[22]from rfl]at ht;have h3:t=22:=by
     rcases j with _|j
     ·simpa using ht.symm
     ·simp at ht
    subst h3;exact(show SA.wantsStandIn 22=false by kernel_rfl)⟩)
  (by kernel_rfl)
end Go.Proofs.YtkanpclgnhdbiaaGreatDoor
