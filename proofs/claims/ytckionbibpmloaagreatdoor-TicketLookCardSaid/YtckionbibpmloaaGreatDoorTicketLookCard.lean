/- For every argument, TicketLook returns true and does not panic, in any order in which its goroutines run; errors.errorType starts as the text of the program lays it. -/
import Derived.Test.YtckionbibpmloaaGreatDoorTicketLookCard4
import Derived.Conc.LeavingOf
import Derived.Conc.Holds
import Derived.ProofKit
import Derived.Test.YtckionbibpmloaaGreatDoorChecked
import Derived.LaidMore
import Derived.Test.YtckionbibpmloaaGreatDoorRows
import Derived.SevenTiedAt
import Derived.Test.YtckionbibpmloaaGreatDoorTie
import Derived.Test.YtckionbibpmloaaGreatDoorCards
set_option linter.all false
set_option maxRecDepth 4000
set_option maxHeartbeats 4000000
open Array renaming getD_eq_getD_getElem?->Td,getElem?_eq_some_iff->Tl,mem_of_getElem?->ZZ
open Bool renaming and_self->avP,false_and->Yy,false_eq_true->UB,false_ne_true->Xz,false_or->an_,not_false->W1,or_false->ZD,true_and->VO,true_or->av2
open Char renaming ofNat->ae_
open Go renaming Addr->Wp,ChangeSpec->avy,DataW->Zq,Func->avu,FuncId->UH,IntKind->UN,MemPlace->X8,OpenClaim->Zg,Program->Tg,ReturnsInLeavingWide->YC,Value->T5,World->Ul
open Go.ChangeSpec renaming post_blind->awl,witness_shaped->awk
open Go.Claim7 renaming isSixth->am',new_of_sixth->ZN,tied_new_at->ZX
open Go.Conc renaming Good->Yq
open Go.DataW renaming Trod->avM,TrodAll->Xj,trod->Y7,trod_slice->ah_,weightsEach->W9
open Go.DataW.Whole renaming of_heap->av'
open Go.Input renaming okWide->avt
open Go.IntKind renaming i64->Tc
open Go.OpenClaim renaming holds_of_wide_leaving->awp
open Go.OpenSpec renaming ofChange->WJ
open Go.PathCond renaming test->aww
open Go.Program renaming headLifts->awH,liftsFinal->awG,make->awF,mayEnter->awE
open Go.Proofs.Tryz renaming checked->Wl,f47->Zo,f9->Xs,func9->ac_,prog->ij
open Go.Proofs.YtckionbibpmloaaGreatDoor.Rows renaming laid_errors_errorType->Wj
open Go.Value renaming cells->avI,int->S_,okWide->XU
open Go.World renaming cell?->Vs,cells?_some->aa_,doorLaid->ap_
open Int renaming le_refl->al_,mul_le_mul->ZA,toNat_natCast->Wc
open List renaming all_eq_true->Uv,append_eq->Ww,append_nil->Tu,contains_nil->apH,flatMap_cons->UQ,getD_eq_getElem?_getD->Se,getElem?_append_left->Tw,getElem?_append_right->Ud,getElem?_cons_succ->Vy,getElem?_eq_some_iff->Tj,getElem?_map->Uo,getElem?_range->au',getElem?_take->U5,head?_cons->au_,length_append->Tx,length_cons->UU,length_map->Un,length_take->U_,lookup->avF,map_append->UJ,mem_append_left->Ue,mem_append_right->T1,mem_cons->Th,mem_cons_of_mem->T_,mem_cons_self->Ut,mem_filter->Vq,mem_map->Um,mem_of_mem_take->YE,mem_range->UA,mem_singleton->T7,nodup_iff_pairwise_ne->Vm,not_mem_nil->Tv,pairwise_map->ao',range->Tt,take_of_length_le->Tn,take_sublist->af'
open List.Nodup renaming sublist->Zm
open Nat renaming add_assoc->X7,le_refl->Tm,le_trans->Vb,reduceAdd->To,sub_self->WL,succ_mul->Xg,zero_add->WN,zero_le->Z1,zero_mul->YX
open Option renaming bind_eq_some_iff->Uc,getD_some->T9,map_eq_some_iff->Uq
open Option.some renaming inj->Wq
open Prod.mk renaming injEq->VQ
namespace Go.Gg
open Go.Conc Go.Proofs Go.Gg.Tk
section
variable {lv:Bool}{k kp:SF}{Gf:bl->SA}{t N:Nat}{b:Int}
def ajj{i np ns cn:Nat}{first am:Int}{l aB cj:SD}{cW eG:S9}{ρ4:bl}{zc:aa}{YY:SC->Nat->Nat->Nat->Nat->Nat->SA}{Ψ:SI}(hT:dW Gf t N)(hY:BL Gf N zc YY)(hb:b<2^10)(hi:1<=i/\i<=3)(rj:0<=first/\first<=90)(yc:1<=am/\am<=3)(au:nb first am l i)(gR:cn<=2)(GZ:ρ4.Ok (b+91)):
  aZ lv ij none 240 (cs (cf (ug 10 vQ))) ⟨[(20,iv cn),(16,.sl ns (cj.map iv) (.opn (N+7))),(15,.sl np (aB.map iv) (.opn (N+6))),(11,.sl (i+1) (l.map iv) (.opn (N+2))),(10,.op (N+1) 0),(6,.op N 0),(0,.op t 0),(2,bv true)],Gf ρ4++YY [iv first,iv i,iv am,.sl 0 [] (.opn (N+5)),.sl np (cW.flatMap aD.l) (.opn (N+3)),.sl ns (eG.flatMap aD.l) (.opn (N+4))] np ns 0 np ns⟩ (an.then (λs'=>∃y:List Seen×bl,(y.1.length<=2/\(∀s∈y.1,0<=s.hour/\s.hour<=i/\∃τ,s.next=jU τ (l.getD s.hour.toNat 0) 1 0 99)/\y.2.Ok (b+97))/\s'.Sub ⟨[(16,.sl ns (cj.map iv) (.opn (N+7))),(15,.sl np (aB.map iv) (.opn (N+6))),(11,.sl (i+1) (l.map iv) (.opn (N+2))),(10,.op (N+1) 0),(6,.op N 0),(0,.op t 0),(2,bv true)],Gf y.2++YY [iv first,iv i,iv am,.sl y.1.length (y.1.flatMap Seen.l) (.opn (N+5)),.sl np (cW.flatMap aD.l) (.opn (N+3)),.sl ns (eG.flatMap aD.l) (.opn (N+4))] np ns y.1.length np ns⟩) Ψ):=by
 obtain⟨zS,y0,y1,y3,y4,y5,y6,y7,vr,Et,Eu,Ev,IA,dz,IB⟩:=hY;have mM:∀L:SA,dW (λτ=>Gf τ++L) t (N+L.length):=λL=>hT.more L;have iE:=au.len;unfold vQ Zo;dsimp only[T9,ug,cs,cf];obtain⟨hz,Ag⟩:∃hz:Nat->List Seen×bl,∀j,hz j=rV l i ρ4 j:=⟨_,λ_=>rfl⟩;have lr:∀j,(hz j).1.length=j:=λj=>by rw[Ag];exact acQ _ _ _ _
 have Mm:∀j:Nat,(hz j).2.Ok (b+91+3* j):=λj=>by rw[Ag];exact(acS GZ _ _ j).mono (by omega)
 have GW:hz 0=([],ρ4):=Ag 0;refine b_ ?_;refine fS cn (λj:Nat=>[(20,iv ((cn:Int)-j))]) (λj=>Gf (hz j).2++YY [iv first,iv i,iv am,.sl j ((hz j).1.flatMap Seen.l) (.opn (N+5)),.sl np (cW.flatMap aD.l) (.opn (N+3)),.sl ns (eG.flatMap aD.l) (.opn (N+4))] np ns j np ns) (λ_=>True) (λ_ _=>rfl) (by simp only[seval];simp[bP,Wk.refl]) (by rw[GW];rfl) (λ_ _ _=>by simp[hT.len,zS]) trivial (λbX cU j pf _ R hR=> ?_);clear bX cU;have lq:=Mm j;refine ai ?_;refine aA ?_;refine⟨λhc=> ?_,λhc=> ?_⟩
 ·have ff:j<cn:=by omega
  have eS:hz (j+1)=((hz j).1++[⟨cR (hz j).2 i,jU (tick (hz j).2) (l.getD (cR (hz j).2 i).toNat 0) 1 0 99⟩],tick (tick (tick (hz j).2))):=by rw[Ag,Ag];rfl
  have rH:=lr j;generalize Ge:hz j=hj at lq eS rH⊢;obtain⟨ss,ρj⟩:=hj;dsimp only at lq eS rH⊢;have hur:=lC ρj i;obtain⟨u,hu⟩:∃u:Nat,cR ρj i=u:=⟨(cR ρj i).toNat,by omega⟩;rw[hu,Wc]at eS;have hui:u<=i:=by omega
  obtain⟨n,Lv⟩:=bU (xs:=l) (i:=u) (by omega);have Gb:l.getD u 0=n:=by rw[Se,Lv];rfl
  rw[Gb]at eS;have rA:=au.ge (by omega) u hui;rw[Gb]at rA;have au2:0<=n/\n<=1000:=by
   have:=aeb (v:=0) rA (by omega) rj yc (by omega);omega
  have x9:Tc.wrap ((cn:Int)-j-1)=(cn:Int)-((j+1:Nat):Int):=by rw[bF _ (by omega)];omega
  have R0:(0<=(u:Int)/\(u:Int)<(i:Int)+1)=True:=by simp;omega
  refine aL ?_;refine ah ?_;simp only[seval,y1];refine aK (oh (n:=i) (mM _) lq (by omega) (by omega) ?_);rw[hu];(try simp only[seval]);have PI:=λ(L:SA) k kp=>FC (lv:=lv) (k:=k) (kp:=kp) (n:=n) (m:=1) (lo:=0) (hi:=99) (mM L) lq.tick (by omega) (by omega) (by decide);obtain⟨y,hy⟩:∃y,y=jU (tick ρj) n 1 0 99:=⟨_,rfl⟩;rw[<- hy]at eS PI;obtain⟨FP,rc⟩:∃FP,FP=ss.flatMap Seen.l:=⟨_,rfl⟩;have v4:FP.length=j* 3:=by rw[rc,QZ,rH]
  have Cs:FP++[iv u,iv y.min,iv y.max]=(hz (j+1)).1.flatMap Seen.l:=by rw[eS,Kf,rc];rfl
  rw[<- rc];refine oY [9,12,14] (Tt 15) (λD=>bif isDone 14 D then Gf (tick (tick (tick ρj)))++YY [iv first,iv i,iv am,.sl (j+1) (FP++[iv u,iv y.min,iv y.max]) (.opn (N+5)),.sl np (cW.flatMap aD.l) (.opn (N+3)),.sl ns (eG.flatMap aD.l) (.opn (N+4))] np ns (j+1) np ns else bif isDone 12 D then Gf (tick (tick (tick ρj)))++YY [iv first,iv i,iv am,.sl j FP (.opn (N+5)),.sl np (cW.flatMap aD.l) (.opn (N+3)),.sl ns (eG.flatMap aD.l) (.opn (N+4))] np ns (j+1) np ns else bif isDone 9 D then Gf (tick (tick (tick ρj)))++YY [iv first,iv i,iv am,.sl j FP (.opn (N+5)),.sl np (cW.flatMap aD.l) (.opn (N+3)),.sl ns (eG.flatMap aD.l) (.opn (N+4))] np ns j np ns else Gf (tick ρj)++YY [iv first,iv i,iv am,.sl j FP (.opn (N+5)),.sl np (cW.flatMap aD.l) (.opn (N+3)),.sl ns (eG.flatMap aD.l) (.opn (N+4))] np ns j np ns) ?_;simp only[seval,zS1,D3,y1,y5,vr,Ev,gW Lv,R0,v4,iE];have Dq:y.l=[iv y.min,iv y.max]:=rfl;refine og y.av _ (cO (PI _ _ _ ⟨rfl,rfl⟩)) ?_;(try simp only[seval,zS1,D3,y1,y5,vr,Ev,gW Lv,R0,v4,iE,iz.av,Dq]);refine⟨by omega,?_⟩;refine ah ?_;simp only[seval,x9];refine hR _ ⟨by omega,trivial,?_⟩;rw[<- Cs,eS];exact dp
 ·have x_:j=cn:=by omega
  subst x_;clear hR;refine bT ?_;have dQ:=lr j;have hsm:∀s∈(hz j).1,0<=s.hour/\s.hour<=i/\∃τ,s.next=jU τ (l.getD s.hour.toNat 0) 1 0 99:=by
   rw[Ag];exact acR (λτ=>by have:=lC τ i;omega) j
  refine⟨((hz j).1,(hz j).2),⟨by dsimp only;omega,hsm,lq.mono (by omega)⟩,fN (by simp only[seval];simp[bP,Wk.refl]) ?_⟩;dsimp only;rw[dQ]
def atv{a a' b b' c c' d d':AV}(h1:Wk a a')(h2:Wk b b')(h3:Wk c c')(h4:Wk d d'):Wk (.aF [a,b,c,d]) (.aF [a',b',c',d']):=λE v h=>by
 cases h with
 |aF hs h=>
  refine .aF hs λi x e=> ?_
  match i with
  |0=>cases e;exact h1 _ _ (h 0 a rfl)
  |1=>cases e;exact h2 _ _ (h 1 b rfl)
  |2=>cases e;exact h3 _ _ (h 2 c rfl)
  |3=>cases e;exact h4 _ _ (h 3 d rfl)
def ajg{i np ns:Nat}{first am:Int}{l aB cj:SD}{cW eG:S9}{ρ3:bl}{zc:aa}{YY:SC->Nat->Nat->Nat->Nat->Nat->SA}(hT:dW Gf t N)(hH:∀τ,bO (Gf τ))(hY:BL Gf N zc YY)(Dr:zc=.cells [.val (.int .i64 0),.val (.int .i64 0),.val (.int .i64 0),.sl 0 [] .exact,.sl 0 [] .exact,.sl 0 [] .exact] 25)(hb:b<2^10)(hi:1<=i/\i<=3)(rj:0<=first/\first<=90)(yc:1<=am/\am<=3)(au:nb first am l i)(Ds:ρ3.Ok (b+90))(Gu:cW.length=np)(je:aB.length=np)(nO:eG.length=ns)(aE:cj.length=ns)
  (hk:∀(ss:List Seen)(τ':bl),ss.length<=2->(∀s∈ss,0<=s.hour/\s.hour<=i/\∃τ,s.next=jU τ (l.getD s.hour.toNat 0) 1 0 99)->τ'.Ok (b+200)->k (.aF [aj.av ⟨first,i,am,ss,cW,eG⟩,bp l,bp aB,bp cj]) (Gf τ')):
  aZ lv ij none 240 (ug 10 vQ) ⟨[(16,.sl ns (cj.map iv) (.opn (N+7))),(15,.sl np (aB.map iv) (.opn (N+6))),(11,.sl (i+1) (l.map iv) (.opn (N+2))),(10,.op (N+1) 0),(6,.op N 0),(0,.op t 0),(2,bv true)],Gf ρ3++YY [iv first,iv i,iv am,.sl 0 [] (.opn (N+5)),.sl np (cW.flatMap aD.l) (.opn (N+3)),.sl ns (eG.flatMap aD.l) (.opn (N+4))] np ns 0 np ns⟩ (tQ ij [.cell 6 25,.tmp 7,.tmp 8,.tmp 9] N k kp):=by
 have hY':=hY;obtain⟨zS,y0,y1,y3,y4,y5,y6,y7,vr,Et,Eu,Ev,IA,dz,IB⟩:=hY;have mM:∀L:SA,dW (λτ=>Gf τ++L) t (N+L.length):=λL=>hT.more L;have Mc:∀τ (L:SA)(y:aa),(Gf τ++L).set N y=Gf τ++L.set 0 y:=λτ L y=>by have:=dg (Gf τ) L 0 y;rwa[hT.len]at this
 have GK:∀τ (L:SA),(Gf τ++L)[N]?=L[0]?:=λτ L=>by have:=aS (Gf τ) L 0;rwa[hT.len]at this
 unfold vQ Zo;dsimp only[T9,ug,cs,cf];refine ai ?_;refine aK (oh (n:=2) (mM _) Ds (by omega) (by omega) ?_);have gR:=lC ρ3 2;generalize cR ρ3 2=u2 at gR⊢;obtain⟨cn,rfl⟩:∃cn:Nat,u2=cn:=⟨u2.toNat,by omega⟩;have GZ:=Ds.tick;generalize tick ρ3=ρ4 at GZ⊢;(try simp only[seval]);refine I5 (α:=List Seen×bl) (λy=>⟨[(16,.sl ns (cj.map iv) (.opn (N+7))),(15,.sl np (aB.map iv) (.opn (N+6))),(11,.sl (i+1) (l.map iv) (.opn (N+2))),(10,.op (N+1) 0),(6,.op N 0),(0,.op t 0),(2,bv true)],Gf y.2++YY [iv first,iv i,iv am,.sl y.1.length (y.1.flatMap Seen.l) (.opn (N+5)),.sl np (cW.flatMap aD.l) (.opn (N+3)),.sl ns (eG.flatMap aD.l) (.opn (N+4))] np ns y.1.length np ns⟩) (λy=>y.1.length<=2/\(∀s∈y.1,0<=s.hour/\s.hour<=i/\∃τ,s.next=jU τ (l.getD s.hour.toNat 0) 1 0 99)/\y.2.Ok (b+97)) ?_ (λy hy=> ?_)
 ·exact B1 (s':=⟨[(20,iv cn),(16,.sl ns (cj.map iv) (.opn (N+7))),(15,.sl np (aB.map iv) (.opn (N+6))),(11,.sl (i+1) (l.map iv) (.opn (N+2))),(10,.op (N+1) 0),(6,.op N 0),(0,.op t 0),(2,bv true)],Gf ρ4++YY [iv first,iv i,iv am,.sl 0 [] (.opn (N+5)),.sl np (cW.flatMap aD.l) (.opn (N+3)),.sl ns (eG.flatMap aD.l) (.opn (N+4))] np ns 0 np ns⟩) (fN (by simp only[seval];simp[bP,Wk.refl]) rfl) (ajj hT hY' hb hi rj yc au (by omega) (GZ.mono (by omega)))
 obtain⟨ss,ρ5⟩:=y;obtain⟨dA,dH,jj⟩:=hy;dsimp only at dA dH jj⊢;have y00:∀τ r a b c d e,(Gf τ++YY r a b c d e)[N]?=some (.cells [.val (.int .i64 0),.val (.int .i64 0),.val (.int .i64 0),.sl 0 [] .exact,.sl 0 [] .exact,.sl 0 [] .exact] 25):=λτ r a b c d e=>by rw[y0,Dr]
 refine ai ?_;refine aA ?_;refine ah ?_;simp only[seval,y1,y00];rw[Mc];obtain⟨LL,RB⟩:=dz [iv first,iv i,iv am,.sl ss.length (ss.flatMap Seen.l) (.opn (N+5)),.sl np (cW.flatMap aD.l) (.opn (N+3)),.sl ns (eG.flatMap aD.l) (.opn (N+4))] np ns ss.length np ns (.cells [iv first,iv i,iv am,.sl ss.length (ss.flatMap Seen.l) (.opn (N+5)),.sl np (cW.flatMap aD.l) (.opn (N+3)),.sl ns (eG.flatMap aD.l) (.opn (N+4))] 25);simp only[iv]at RB;rw[RB];refine kq ?_;simp only[seval,GK];have dG:=hk ss ρ5 dA dH (jj.mono (by omega));refine iK (b:=.aF [aj.av ⟨first,i,am,ss,cW,eG⟩,bp l,bp aB,bp cj]) (H':=Gf ρ5) (atv (Ep (.cons (Wk.refl _) (.cons (Wk.refl _) (.cons (Wk.refl _) (.cons (gF _ _ _) (.cons ?_ (.cons ?_ .nil))))))) ?_ ?_ ?_) rfl (by simp[hT.len]) (hH _) (by simp only[im,Th,Tv,or_false,forall_eq_or_imp,forall_eq,AJ,AI,and_self]) dG
 ·rw[<- Gu];exact gF _ _ _
 ·rw[<- nO];exact gF _ _ _
 ·rw[<- au.len];exact gF _ _ _
 ·rw[<- je];exact gF _ _ _
 ·rw[<- aE];exact gF _ _ _
end
section
variable {lv:Bool}{k kp:SF}{Gf:bl->SA}{t N:Nat}{τ:bl}{b:Int}
def aji{pm:Nat}(hT:dW Gf t N)(hτ:τ.Ok b)(hb:b<2^10)(s_:pm<=4)(hk:∀x bE aB cj τ',Made pm x bE aB cj->τ'.Ok (b+200)->k (.aF [x.av,bp bE,bp aB,bp cj]) (Gf τ')):a_ lv ij 47 (Gf τ) [.op t 0,iv pm,bv true] k kp:=by
 refine bw (rs:=[.cell 6 25,.tmp 7,.tmp 8,.tmp 9]) (nt:=240) Zo λhH hA=> ?_;simp only[bc,To];have uw:∀o:aa,dW (λτ=>Gf τ++[o]) t (N+1):=λo=>hT.more [o];have mV:∀τ (L:SA)(j:Nat),(Gf τ++L)[N+j]?=L[j]?:=λτ L j=>by rw[<- hT.len τ,aS]
 have dU:∀τ (L:SA)(j:Nat)(y:aa),(Gf τ++L).set (N+j) y=Gf τ++L.set j y:=λτ L j y=>by rw[<- hT.len τ,dg]
 have GK:∀τ (L:SA),(Gf τ++L)[N]?=L[0]?:=λτ L=>mV τ L 0;have Mc:∀τ (L:SA)(y:aa),(Gf τ++L).set N y=Gf τ++L.set 0 y:=λτ L y=>dU τ L 0 y;refine ai ?_;refine ai ?_;refine aK (oh (uw _) hτ (by omega) (by omega) ?_);have r1:=lC τ 90;generalize cR τ 90=u1 at r1⊢;(try simp only[seval,zE4,AX]);refine aK (J5 (ns:=[0,1,10,u1]) (uw _) hτ.tick (by omega) (by simp) (by simp) ?_);have r2:=JK (tick τ) (ns:=[0,1,10,u1]) (by simp);simp only[Th,Tv,or_false]at r2;generalize vV (tick τ) [0,1,10,u1]=first at r2⊢
 (try simp only[seval]);refine aK (aja (lo:=1) (hi:=3) (uw _) hτ.tick.tick (by omega) (by decide) (by decide) ?_);have r3:=atu (tick (tick τ)) (show (1:Int)<=3 by decide);generalize Eo (tick (tick τ)) 1 3=hours at r3⊢;(try simp only[seval,zE4,AX]);refine aK (J5 (ns:=[1,2,2,3]) (uw _) hτ.tick.tick.tick (by omega) (by simp) (by simp) ?_);have r4:=JK (tick (tick (tick τ))) (ns:=[1,2,2,3]) (by simp);simp only[Th,Tv,or_false]at r4;generalize vV (tick (tick (tick τ))) [1,2,2,3]=am at r4⊢;have rj:0<=first/\first<=90:=by omega
 have yc:1<=am/\am<=3:=by omega
 clear r1 r2 r4;have hσ:(tick (tick (tick (tick τ)))).Ok (b+4):=hτ.tick.tick.tick.tick.mono (by omega);generalize tick (tick (tick (tick τ)))=σ at hσ⊢;(try simp only[seval,hT.len,mV,dU,GK,Mc]);refine ah ?_;simp only[seval,mV,z1,AW]
 (repeat apply iA);refine vK (t:=11) (sz:=1) (el:=3) (by simp only[seval]<;>rfl) ?_
 simp only[seval,hT.len]
 (repeat apply iA);refine I7 (id:=N+1) (j:=4) (sz:=4) (fF:=68) (by simp only[seval,mV]<;>rfl) rfl ?_
 simp only[seval,dU,hT.len]
 (repeat apply iA);refine I7 (id:=N+1) (j:=5) (sz:=4) (fF:=68) (by simp only[seval,mV]<;>rfl) rfl ?_
 simp only[seval,dU,hT.len]
 (repeat apply iA);refine I7 (id:=N+1) (j:=3) (sz:=3) (fF:=29) (by simp only[seval,mV]<;>rfl) rfl ?_
 simp only[seval,dU,hT.len];refine Pp [11,10,6,0,1,2] ?_;show aZ _ _ _ _ _ ⟨[(11,.sl 1 [iv first] (.opn (N+2))),(10,.op (N+1) 0),(6,.op N 0),(0,.op t 0),(1,iv pm),(2,bv true)],_⟩ _;obtain⟨zc,Dr⟩:∃zc:aa,zc=.cells [iv 0,iv 0,iv 0,.sl 0 [] .exact,.sl 0 [] .exact,.sl 0 [] .exact] 25:=⟨_,rfl⟩;simp only[iv]at Dr;rw[<- Dr];obtain⟨hn,hhn⟩:∃hn:Nat,hours=hn:=⟨hours.toNat,by omega⟩;subst hhn;refine ai ?_;refine b_ ?_;refine fS hn (λi:Nat=>[(11,.sl (i+1) ((lg σ first am i).1.map iv) (.opn (N+2))),(12,iv i)]) (λi=>Gf (lg σ first am i).2++[zc,.cells [iv first,iv hn,iv am,.sl 0 [] (.opn (N+5)),.sl 0 [] (.opn (N+3)),.sl 0 [] (.opn (N+4))] 25,.tail (i+1) 1 3,.tail 0 4 68,.tail 0 4 68,.tail 0 3 29]) (λi=>True) (λ_ _=>rfl) (by simp only[lg];simp only[seval];simp[bP,Wk.refl]) rfl (λ_ _ _=>by simp[hT.len]) trivial (λbX cU i cK _ R hR=> ?_)
 ·clear bX cU;have au:=Sz σ first (am:=am) (by omega) i
  have qu:=aaa hσ first am i
  have eS:lg σ first am (i+1)=((lg σ first am i).1++[(lg σ first am i).1.getD i 0+wT (lg σ first am i).2 am],tick (tick (lg σ first am i).2)):=rfl
  have uE:=au.ge (by omega) i (Tm _);generalize lg σ first am i=m at au qu eS uE hR⊢
  obtain⟨l,ρ⟩:=m;dsimp only at au qu eS uE⊢;have iE:=au.len;refine ah ?_;simp only[seval,mV];refine aA ?_;refine⟨λh=> ?_,λh=> ?_⟩
  ·as_aux_lemma=>
   have bG:i<hn:=(by omega);obtain⟨w,hw⟩:=bU (xs:=l) (i:=i) (by omega);have Gc:l.getD i 0=w:=(by rw[Se,hw];rfl);rw[Gc]at eS uE;have aT:=adm ρ (am:=am) (by omega);have hsd:wT ρ am=vV (tick ρ) [0,am,cR ρ am]:=rfl;obtain⟨v,hv⟩:∃v,v=wT ρ am:=⟨_,rfl⟩;rw[<- hv]at eS aT hsd;have Do:Tc.wrap (w+v)=w+v:=Mo (aeb uE aT rj yc (by omega));have fW:=TL i (by omega);have iN:(0<=(i:Int)/\(i:Int)<(i:Int)+1)=True:=(by simp;omega);have mM:∀L:SA,dW (λτ=>Gf τ++L) t (N+L.length):=λL=>hT.more L;refine aL ?_;refine b_ ?_;obtain⟨X,hX⟩:∃X:Nat->SA,∀a,X a=[zc,.cells [iv first,iv hn,iv am,.sl 0 [] (.opn (N+5)),.sl 0 [] (.opn (N+3)),.sl 0 [] (.opn (N+4))] 25,.tail a 1 3,.tail 0 4 68,.tail 0 4 68,.tail 0 3 29]:=⟨_,λ_=>rfl⟩;have RL:=(hX (i+1)).symm;simp only[iv]at RL;have x1:∀τ a,(Gf τ++X a)[N+1]?=some (.cells [iv first,iv hn,iv am,.sl 0 [] (.opn (N+5)),.sl 0 [] (.opn (N+3)),.sl 0 [] (.opn (N+4))] 25):=λτ a=>(by rw[mV,hX];rfl);have x2:∀τ a,(Gf τ++X a)[N+2]?=some (.tail a 1 3):=λτ a=>(by rw[mV,hX];rfl);have OC:∀τ a a',(Gf τ++X a).set (N+2) (.tail a' 1 3)=Gf τ++X a':=λτ a a'=>(by rw[dU,hX,hX];rfl);rw[RL];refine oY [11,13,16] (Tt 18) (λD=>bif isDone 16 D then Gf (tick (tick ρ))++X (i+1+1)else bif isDone 13 D then Gf (tick (tick ρ))++X (i+1)else bif isDone 11 D then Gf (tick ρ)++X (i+1)else Gf ρ++X (i+1)) ?_;simp only[seval,OI,D3,z1,AW,x1,x2,OC,gW hw,iN,Do,iE];refine og _ _ (cO (oh (mM (X (i+1))) qu (by omega) (by omega) ⟨rfl,rfl⟩)) ?_;(try simp only[seval,OI,D3,z1,AW,x1,x2,OC,gW hw,iN,Do,iE]);refine og (iv v) _ (cO (J5 (ns:=[0,am,cR ρ am]) (mM (X (i+1))) qu.tick (by omega) (by simp) (by simp) ⟨by rw[hsd],rfl⟩)) ?_;(try simp only[seval,OI,D3,z1,AW,x1,x2,OC,gW hw,iN,Do,iE]);refine⟨by omega,?_⟩;refine ah ?_;simp only[seval,fW];refine hR _ ⟨bG,trivial,?_⟩;rw[eS,UJ,hX];exact dp
  ·as_aux_lemma=>
   have dx:i=hn:=(by omega);subst dx;clear hR;refine bT ?_;obtain⟨w,hw⟩:=bU (xs:=l) (i:=i) (by omega);have Gc:l.getD i 0=w:=(by rw[Se,hw];rfl);have GP:first<=w/\w<=first+9:=by
    rw[Gc]at uE;have:am* (i:Int)<=3* 3:=ZA (by omega) (by omega) (by omega) (by omega);generalize am* (i:Int)=q at uE this;omega
   obtain⟨mn,lL⟩:∃mn:Nat,w-first=mn:=⟨(w-first).toNat,by omega⟩
   have aam:mn<=9:=(by omega);have hwm:Tc.wrap (w-first)=mn:=(by rw[Mo (by omega),lL]);have iN:(0<=(i:Int)/\(i:Int)<(i:Int)+1)=True:=(by simp;omega);refine eo 8 ?_;simp only[seval,mV,gW hw,iN,hwm];have mM:∀L:SA,dW (λτ=>Gf τ++L) t (N+L.length):=λL=>hT.more L;refine ai ?_;refine aK (QM (n:=mn) (mM _) qu (by omega) (by omega) ?_);have qn:=abH ρ mn;have qu:=Hq qu mn mn;generalize io ρ mn mn=m2 at qn qu⊢;obtain⟨order,ρ⟩:=m2;dsimp only at qn qu⊢;(try simp only[seval]);refine ai ?_
   (repeat apply iA);refine vK (t:=15) (sz:=1) (el:=3) (by simp only[seval]<;>rfl) ?_
   simp only[seval,hT.len]
   (repeat apply iA);refine vK (t:=16) (sz:=1) (el:=3) (by simp only[seval]<;>rfl) ?_
   simp only[seval,hT.len];refine Pp [16,15,14,13,11,10,6,0,1,2] ?_;show aZ _ _ _ _ _ ⟨[(16,.sl 0 [] (.opn (N+7))),(15,.sl 0 [] (.opn (N+6))),(14,bp order),(13,iv mn),(11,.sl (i+1) (l.map iv) (.opn (N+2))),(10,.op (N+1) 0),(6,.op N 0),(0,.op t 0),(1,iv pm),(2,bv true)],_⟩ _;obtain⟨YY,jM⟩:∃YY:SC->Nat->Nat->Nat->Nat->Nat->SA,∀r a b c d e,YY r a b c d e=[zc,.cells r 25,.tail (i+1) 1 3,.tail a 4 68,.tail b 4 68,.tail c 3 29,.tail d 1 3,.tail e 1 3]:=⟨_,λ_ _ _ _ _ _=>rfl⟩;have hY:BL Gf N zc YY:=by
    refine⟨λr a b c d e=>by rw[jM];rfl,λτ r a b c d e=>by rw[GK,jM];rfl,λτ r a b c d e=>by rw[mV,jM];rfl,λτ r a b c d e=>by rw[mV,jM];rfl,λτ r a b c d e=>by rw[mV,jM];rfl,λτ r a b c d e=>by rw[mV,jM];rfl,λτ r a b c d e=>by rw[mV,jM];rfl,λτ r a b c d e=>by rw[mV,jM];rfl,λτ r r' a b c d e=>by rw[dU,jM,jM];rfl,λτ r a a' b c d e=>by rw[dU,jM,jM];rfl,λτ r a b b' c d e=>by rw[dU,jM,jM];rfl,λτ r a b c c' d e=>by rw[dU,jM,jM];rfl,λτ r a b c d d' e=>by rw[dU,jM,jM];rfl,λr a b c d e y=>⟨_,by rw[jM];rfl⟩,λτ r a b c d e e'=>by rw[dU,jM,jM];rfl⟩
   have RM:[zc,.cells [iv first,iv i,iv am,.sl 0 [] (.opn (N+5)),.sl 0 [] (.opn (N+3)),.sl 0 [] (.opn (N+4))] 25,.tail (i+1) 1 3,.tail 0 4 68,.tail 0 4 68,.tail 0 3 29,.tail 0 1 3,.tail 0 1 3]=YY [iv first,iv i,iv am,.sl 0 [] (.opn (N+5)),.sl 0 [] (.opn (N+3)),.sl 0 [] (.opn (N+4))] 0 0 0 0 0:=(by rw[jM]);simp only[iv]at RM;rw[RM];refine ai ?_;refine I5 (α:=Nat×bl) (λy=>⟨[(16,.sl 0 [] (.opn (N+7))),(15,.sl y.1 ((kJ first order y.1).map iv) (.opn (N+6))),(13,iv mn),(11,.sl (i+1) (l.map iv) (.opn (N+2))),(10,.op (N+1) 0),(6,.op N 0),(0,.op t 0),(2,bv true)],Gf y.2++YY [iv first,iv i,iv am,.sl 0 [] (.opn (N+5)),.sl y.1 ((kx l i (λj=>first+order.getD j 0) ρ y.1).1.flatMap aD.l) (.opn (N+3)),.sl 0 [] (.opn (N+4))] y.1 0 0 y.1 0⟩) (λy=>y.1<=pm/\y.1<=mn/\y.2.Ok (b+60)) ?_ (λy hy=> ?_)
   ·exact ajk hT hY hb s_ (by omega) rj iE aam qn (qu.mono (by omega))
   ·as_aux_lemma=>
    obtain⟨np,ρ1⟩:=y;obtain⟨alL,alM,Mn⟩:=hy;dsimp only at alL alM Mn⊢;have Gu:(kx l i (λj=>first+order.getD j 0) ρ np).1.length=np:=zW _ _ _ _ _;have aaz:∀(p:Nat) z,(kx l i (λj=>first+order.getD j 0) ρ np).1[p]?=some z->∃τ,z=lI τ l (first+order.getD p 0) i:=λp z hz=>KL (P:=λn z=>∃τ,z=lI τ l n i) (λτ n=>⟨τ,rfl⟩) np p z hz;generalize(kx l i (λj=>first+order.getD j 0) ρ np).1=cW at Gu aaz⊢;have je:=abS first order np
    have rz:∀n∈kJ first order np,first<=n/\n<w:=λn hn=>by
     unfold kJ at hn;obtain⟨p,hp,rfl⟩:=Um.1 hn;have hp:=UA.1 hp;obtain⟨o,ho⟩:=bU (xs:=order) (i:=p) (by rw[qn.len];omega);have:=qn.HU o (wI ho);rw[Se,ho];simp only[T9];omega
    have uJ:(kJ first order np).Nodup:=by
     have e:kJ first order np=(order.take np).map λo=>first+o:=by
      unfold kJ;refine aog (by rw[Un,U_,qn.len];omega) λp hp=> ?_;rw[Uo,U5,if_pos hp,Se];obtain⟨o,ho⟩:=bU (xs:=order) (i:=p) (by rw[qn.len];omega);rw[ho];rfl
     rw[e];have h1:(order.take np).Nodup:=Zm (af' _ _) qn.nodup;rw[Vm,ao'];exact(Vm.1 h1).imp λh e=>h (by omega)
    have hng:∀p,p<np->(kJ first order np).getD p 0=first+order.getD p 0:=λp hp=>by
     unfold kJ;rw[Se,Uo,au' hp];rfl
    generalize kJ first order np=aB at je rz uJ hng⊢
    refine ai ?_;refine aK (QM (n:=np) (mM _) Mn (by omega) (by omega) ?_);have td:=abH ρ1 np;have yn:=Hq Mn np np;generalize io ρ1 np np=m3 at td yn⊢;obtain⟨gX,ρ2⟩:=m3;dsimp only at td yn⊢;have yn:ρ2.Ok (b+64):=yn.mono (by omega);(try simp only[seval]);have hwe:bp gX=.sl np (gX.map iv) .shut:=(by rw[bp,td.len]);rw[hwe];refine ai ?_;refine I5 (α:=Nat×bl) (λy=>⟨[(16,.sl y.1 ((gX.take y.1).map iv) (.opn (N+7))),(15,.sl np (aB.map iv) (.opn (N+6))),(11,.sl (i+1) (l.map iv) (.opn (N+2))),(10,.op (N+1) 0),(6,.op N 0),(0,.op t 0),(2,bv true)],Gf y.2++YY [iv first,iv i,iv am,.sl 0 [] (.opn (N+5)),.sl np (cW.flatMap aD.l) (.opn (N+3)),.sl y.1 ((kx l i (λj=>aB.getD (gX.getD j 0).toNat 0) ρ2 y.1).1.flatMap aD.l) (.opn (N+4))] np y.1 0 np y.1⟩) (λy=>y.1<=np/\y.1<=3/\y.2.Ok (b+90)) ?_ (λy hy=> ?_)
    ·exact B1 (s':=⟨[(19,iv 0),(18,.sl np (gX.map iv) .shut),(16,.sl 0 [] (.opn (N+7))),(15,.sl np (aB.map iv) (.opn (N+6))),(11,.sl (i+1) (l.map iv) (.opn (N+2))),(10,.op (N+1) 0),(6,.op N 0),(0,.op t 0),(2,bv true)],Gf ρ2++YY [iv first,iv i,iv am,.sl 0 [] (.opn (N+5)),.sl np (cW.flatMap aD.l) (.opn (N+3)),.sl 0 [] (.opn (N+4))] np 0 0 np 0⟩) (fN (by simp only[seval];simp[bP,Wk.refl]) rfl) (ajh hT hY hb (by omega) rj GP iE (by omega) je rz td yn)
    ·as_aux_lemma=>
     obtain⟨ns,ρ3⟩:=y;obtain⟨alN,alO,Ds⟩:=hy;dsimp only at alN alO Ds⊢;have nO:(kx l i (λj=>aB.getD (gX.getD j 0).toNat 0) ρ2 ns).1.length=ns:=zW _ _ _ _ _;have aaG:∀(s:Nat) z,(kx l i (λj=>aB.getD (gX.getD j 0).toNat 0) ρ2 ns).1[s]?=some z->∃τ,z=lI τ l (aB.getD (gX.getD s 0).toNat 0) i:=λs z hz=>KL (P:=λn z=>∃τ,z=lI τ l n i) (λτ n=>⟨τ,rfl⟩) ns s z hz;generalize(kx l i (λj=>aB.getD (gX.getD j 0).toNat 0) ρ2 ns).1=eG at nO aaG⊢;have rJ:=td.len;have aE:(gX.take ns).length=ns:=(by rw[U_];omega);have jg:∀v∈gX.take ns,0<=v/\v<(np:Int):=λv hv=>td.HU v (YE hv);have aax:(gX.take ns).Nodup:=Zm (af' _ _) td.nodup;have aaw:∀s,s<ns->(gX.take ns).getD s 0=gX.getD s 0:=λs hs=>by
      rw[Se,Se,U5,if_pos hs]
     generalize gX.take ns=cj at aE jg aax aaw⊢;refine ajg hT (λτ'=>hT.au hH τ') hY Dr hb (by omega) rj yc au Ds Gu je nO aE λss τ' h1 h2 h3=>hk _ l aB cj τ' ⟨rj,by dsimp only;omega,yc,by simpa using au,by dsimp only;omega,by dsimp only;omega,λn hn=> ?_,uJ,λp y hy=> ?_,by dsimp only;omega,by dsimp only;omega,λv hv=>by rw[je];exact jg v hv,aax,λs y hy=> ?_,h1,h2⟩ h3
     ·have:=rz n hn;dsimp only;rw[Wc,Gc];exact this
     ·dsimp only at hy;have hp:=(Tj.1 hy).1;obtain⟨τ,e⟩:=aaz p y hy;exact⟨τ,by rw[hng p (by omega)];exact e⟩
     ·dsimp only at hy;have hp:=(Tj.1 hy).1;obtain⟨τ,e⟩:=aaG s y hy;exact⟨τ,by rw[aaw s (by omega)];exact e⟩
end
def Qv:(bx fL).isEmpty=false:=by kernel_rfl
def air{lo hi:Int}(h:Bounds (live fL) (λh=>h.getD 1 0) lo hi):lo=11/\hi=12:=by
 have k:Bounds (live fL) (λh=>h.getD 1 0) 11 12:=by
  rw[aiv];exact⟨⟨[10,11,13,14],by simp,rfl⟩,by decide,⟨[10,12,13,14],by simp,rfl⟩,by decide⟩
 exact h.uniq k
def aiu:Cn fL 2=[0,2]:=by kernel_rfl
def z3:fO (S_ .i64 0) 3=[iv 0,iv 0,iv 0]:=rfl
def z4:fO (S_ .i64 0) 4=[iv 0,iv 0,iv 0,iv 0]:=rfl
section
variable {H:SA}{k kp:SF}
def QC(hm:H[0]?=some .main)(hk:k (bv true) H):a_ true ij 12 H [] k kp:=by
 have aH:bx fL≠[]:=λh=>by have:=Qv;rw[h]at this;cases this
 refine bw (rs:=[.tmp 0]) (nt:=138) Tryz.f12 λhH hA=> ?_;simp only[bc,To];refine ai ?_;refine ai ?_;refine aK (xE ?_);(try simp only[seval]);refine aK (JW yH hm ?_);rw[ais];(try simp only[seval]);refine ai ?_;refine aK (xE ?_);(try simp only[seval]);refine aK (ai7 (hour:=1) yH (by decide) hm (λh=>absurd h aH) (λlo hi _ hb=> ?_));obtain⟨rfl,rfl⟩:=air hb;(try simp only[seval,TN,TS]);refine ai ?_;refine aK (xE ?_);(try simp only[seval]);refine aK (aje (q:=2) yH (by decide) (dF hm) (λh=>absurd h aH) (λ_=> ?_));rw[show xp (DW fL 2) fL.first 16=[13,14]from aiw];(try simp only[seval]);refine ai ?_;refine aK (xE ?_);(try simp only[seval]);refine aK (ai1 (s:=0) (q:=0) yH (by decide) (by decide) (dF hm) ?_);rw[Qv,Qw.1,Qw.2,show vM true false=1 from rfl];(try simp only[seval]);refine ai ?_;refine aK (xE ?_);(try simp only[seval]);refine aK (ai3 yH (dF hm) (λh=>absurd h aH) (λ_=> ?_));rw[show Cn fL fL.aC.length=[0,2]from aiu];(try simp only[seval]);refine ai ?_;refine aK (xE ?_);(try simp only[seval]);refine aK (ai4 (x:=fL) (s:=1) (q:=0) (y:=⟨⟨10,15⟩,⟨2,2⟩⟩) yH rfl (by decide) (dF hm) (λo ho=> ?_));rw[show zh (fL.wo [((1:Nat):Int)]) ⟨⟨10,15⟩,⟨2,2⟩⟩ 0 (fL.am.toNat+1)=1 from aiq]at ho;subst ho;(try simp only[seval]);refine ai ?_;refine aK (ajn ?_);(try simp only[seval]);refine aK (ai5 aoM (dF hm) (λl hl=> ?_) (λh=>by rw[Qu]at h;cases h));rw[Qu]at hl;cases hl;(try simp only[seval]);refine ai ?_;refine aK (xE ?_);(try simp only[seval]);refine aK (ai9 yH (dF hm) (λh=>absurd h aH) (λu l hu=> ?_));have kF:=ait;rw[hu]at kF;cases kF;(try simp only[seval]);refine eo 77 ?_;simp only[seval,Ww,TN,beq_self_eq_true];refine gE (.agg [iv 11,iv 12]) (cO (JX ⟨rfl,rfl⟩)) ?_;have dJ:∀k,dh ij .eql 27 (.agg [iv 11,iv 12]) (.agg [iv 11,iv 12]) k=k (bv true):=λk=>afg (P:=ij) (t:=27) (n:=2) (xs:=[11,12]) (ys:=[11,12]) (by kernel_rfl) (by kernel_rfl) rfl rfl k;simp only[iv,bv]at dJ;(try simp only[seval,dJ,Ww,beq_self_eq_true,z2]);(try refine⟨by decide,?_⟩);refine gE (bv true) (cO (zD (xs:=[13,14]) (ys:=[13,14]) (e:=.shut) (e':=.exact) (by decide) ⟨by rw[decide_eq_true rfl],rfl⟩)) ?_;(try simp only[seval,Ww,z1,z2,z3,z4]);(try refine⟨by decide,?_⟩);refine gE (bv true) (cO (zD (xs:=[0,2]) (ys:=[0,2]) (e:=.shut) (e':=.exact) (by decide) ⟨by rw[decide_eq_true rfl],rfl⟩)) ?_;(try simp only[seval,Ww,z1,z2,z3,z4]);(try refine⟨by decide,?_⟩);refine gE (bv true) (cO (zD (xs:=[0]) (ys:=[0]) (e:=.shut) (e':=.exact) (by decide) ⟨by rw[decide_eq_true rfl],rfl⟩)) ?_;(try simp only[seval,Ww,z1,z2,z3,z4]);(try refine⟨by decide,?_⟩);refine gE (bv true) (cO (zD (xs:=[10,11,13,14]) (ys:=[10,11,13,14]) (e:=.shut) (e':=.exact) (by decide) ⟨by rw[decide_eq_true rfl],rfl⟩)) ?_;(try simp only[seval,Ww,z1,z2,z3,z4]);(try refine⟨by decide,?_⟩);refine gE (bv true) (cO (zD (xs:=[12,11,13]) (ys:=[12,11,13]) (e:=.shut) (e':=.exact) (by decide) ⟨by rw[decide_eq_true rfl],rfl⟩)) ?_;(try simp only[seval,Ww,z1,z2,z3,z4]);(try refine⟨by decide,?_⟩);refine gE (bv true) (cO (zD (xs:=[0,2]) (ys:=[0,2]) (e:=.shut) (e':=.exact) (by decide) ⟨by rw[decide_eq_true rfl],rfl⟩)) ?_;(try simp only[seval,Ww,z1,z2,z3,z4]);refine aP ?_;exact eV hH (Wk.refl _) (.val _) hk
def an6{x:aj}{τ σ ρ:bl}(hf:0<=x.first/\x.first<=90)(hh:1<=x.hours/\x.hours<=3)(hp:1<=x.am/\x.am<=3):lZ x.hours ⟨cR τ x.hours,jU ρ (x.first+cR σ (x.hours* x.am)) 1 0 99⟩=0/\(jU ρ (x.first+cR σ (x.hours* x.am)) 1 0 99).min<=(jU ρ (x.first+cR σ (x.hours* x.am)) 1 0 99).max/\0<=x.hours* x.am/\x.hours* x.am<=9:=by
 have h1:x.hours* x.am<=3* 3:=ZA hh.2 hp.2 (by omega) (by omega);have h2:0<=x.hours* x.am:=Int.mul_nonneg (by omega) (by omega);have r1:=lC τ x.hours;have r2:=lC σ (x.hours* x.am);have a:=(BX (τ:=ρ) (n:=x.first+cR σ (x.hours* x.am)) (m:=1) (lo:=0) (hi:=99) (by omega) (by omega)).1;refine⟨yI.2 ⟨by dsimp only;omega,a.min,a.le,a.max⟩,a.le,h2,by omega⟩
def ajB{aB:SD}(hm:H[0]?=some .main)(hn:aB.length<=2^50)(hk:k (bv true) H):a_ true ij 9 H [bp aB] k kp:=by
 have lL:∀L:SA,(H++L)[0]?=some .main:=λL=>dF hm;refine bw (rs:=[.tmp 2]) (nt:=159) Xs λhH hA=> ?_;simp only[bc,To];refine ai ?_;refine ai ?_;refine aK (aiU ?_);(try simp only[seval]);refine ai ?_;refine aK (aji (pm:=3) (b:=0) (adO H) ⟨al_ _,al_ _,hn⟩ (by decide) (by decide) λx bE aB cj τ hM hτ=> ?_);have hx:=hM.ok (by decide);have aH:=hM.ne (by decide);have hsn:=hM.ve;have qp:=hx.cW;have aT:=hx.eG;clear hM;have oE:∀L:SA,(H++L).length=H.length+L.length:=λL=>Tx;(try simp only[seval,aj.av,TM,TO,Tb]);refine⟨⟨rfl,rfl,rfl⟩,?_⟩;have hT:∀L:SA,dW (λτ=>H++vp τ::L) H.length (H.length+1+L.length):=λL=>by
  have:=(adO H).more L;simpa using this
 obtain⟨wz,hle,iF,C3⟩:=an6 (τ:=τ) (σ:=tick τ) (ρ:=tick (tick τ)) hx.first hx.hours hx.am;obtain⟨n,uJ⟩:∃n,n=x.first+cR (tick τ) (x.hours* x.am):=⟨_,rfl⟩;have rz: -1000<=n/\n<=1000:=by have:=lC (tick τ) (x.hours* x.am);have:=hx.first;omega
 have bH:Tc.wrap (x.hours* x.am)=x.hours* x.am:=bF _ (by omega);have fj:Tc.wrap (x.first+cR (tick τ) (x.hours* x.am))=n:=by rw[<- uJ];exact bF _ (by omega)
 rw[<- uJ]at wz hle;obtain⟨s,hs⟩:∃s:Seen,s=⟨cR τ x.hours,jU (tick (tick τ)) n 1 0 99⟩:=⟨_,rfl⟩;have Ta:s.hour=cR τ x.hours:=by rw[hs]
 have As:s.next=jU (tick (tick τ)) n 1 0 99:=by rw[hs]
 rw[<- hs]at wz;rw[<- As]at hle;have Au:=Ta.symm;have LU:∀(L:SA)(k kp:SF),k (.agg [iv s.next.min,iv s.next.max]) (H++vp (tick (tick (tick (tick τ))))::L)->a_ true ij 38 (H++vp (tick (tick τ))::L) [.op H.length 0,iv n,iv 1,.agg [iv 0,iv 99]] k kp:=λL k kp hk=>FC (hT L) hτ.tick.tick (by decide) rz (by decide) (by rw[<- As];exact hk);have xY:=hx.hours;refine oY [3,13,16,18,19] (Tt 20) (λD=>H++(vp (bif isDone 16 D then tick (tick (tick (tick τ)))else bif isDone 13 D then tick (tick τ)else bif isDone 3 D then tick τ else τ):: .cells [iv x.first,iv x.hours,iv x.am,cz x.seen,aQ x.pieces,aQ x.aC] 25::(bif isDone 19 D then[.cells [iv s.hour,iv s.next.min,iv s.next.max] 29]else bif isDone 18 D then[.cells [iv 0,iv 0,iv 0] 29]else[]))) ?_;simp only[seval,TO,TR,TW,oE,bH,fj];refine og _ _ (cO (oh (hT [_]) hτ (by decide) (by omega) ⟨rfl,rfl⟩)) ?_;(try simp only[seval,TO,TR,TW,oE,bH,fj]);refine⟨og _ _ (cO (oh (hT [_,_]) hτ (by decide) (by omega) ⟨rfl,rfl⟩)) ⟨rfl,rfl⟩,?_⟩;refine og _ _ (cO (oh (hT [_]) hτ.tick (by decide) (by omega) ⟨rfl,rfl⟩)) ?_;(try simp only[seval,TO,TR,TW,oE,bH,fj]);refine⟨og _ _ (cO (oh (hT [_,_]) hτ.tick (by decide) (by omega) ⟨rfl,rfl⟩)) ⟨rfl,rfl⟩,?_⟩;refine gE (.agg [iv 0,iv 99]) (cO (JX ⟨rfl,rfl⟩)) ?_;(try simp only[seval,TO,TR,TW,oE,bH,fj]);refine⟨gE (.agg [iv 0,iv 99]) (cO (JX ⟨rfl,rfl⟩)) rfl,?_⟩;refine og _ _ (cO (LU [_] _ _ ⟨rfl,rfl⟩)) ?_;(try simp only[seval,TO,TR,TW,oE,bH,fj,Au]);refine⟨og _ _ (cO (LU [_,_] _ _ ⟨rfl,rfl⟩)) ⟨rfl,rfl⟩,?_⟩;clear LU Au Ta As hs bH fj uJ hT;generalize tick (tick (tick (tick τ)))=σ;have Ab:∀(L:SA),(H++L)[H.length+4]?=L[4]?:=λL=>aS H L 4;have As:∀(L:SA)(y:aa),(H++L).set (H.length+4) y=H++L.set 4 y:=λL y=>dg H L 4 y;have hq:∀L:SA,bY H.length (H++L) (bv true) k:=λL=>gQ hH hk;refine ah ?_;simp only[seval,TR,show decide (s.next.min>s.next.max)=false from decide_eq_false (by omega)];refine aA ?_;refine aL ?_;refine ah ?_;simp only[seval,TO,TR];refine aK (ajl (x:=x) (y:=s) (by omega) ?_);have ym:(fb x s).Ok:=O3 hx (by omega) wz;have hA:xi x s=if(live (fb x s)).isEmpty=true then 9 else 0:=by
  unfold xi;rw[if_pos (ud.2 hx),if_neg (by omega),if_pos wz];have:(live x).isEmpty=false:=by cases h:(live x).isEmpty with
   |false=>rfl
   |true=>exact absurd (abr.1 h) aH
  rw[this,W1,VO]
 have hcz:=atp hx ym;have Sa:0<cnt x:=(Ca x).2 aH;have tp:=λh a b=>atr (s:=s) (a:=a) (b:=b) hx ym h;have hzp:(fb x s).pieces=x.pieces:=rfl;have hE:(bx x).isEmpty=false:=by cases ht:bx x with
  |nil=>exact absurd ht aH
  |cons a l=>rfl
 have hAd:∀(L:SA)(k kp:SF),(0<cnt (fb x s)->k (.aF [(fb x s).av,iv 0]) (H++L))->(cnt (fb x s)=0->k (.aF [HS.av,iv 9]) (H++L))->a_ true ij 39 (H++L) [x.av,s.av] k kp:=λL k kp h1 h2=>ajb (lL L) (by omega) (by
  unfold EU;rw[hA];by_cases hc:(live (fb x s)).isEmpty=true
  ·rw[if_pos hc,if_neg (by decide)];refine h2 ?_;have:=(Ca (fb x s)).1;have h0:cnt (fb x s)=((live (fb x s)).length:Int):=rfl;rw[List.isEmpty_iff.1 hc]at h0;exact h0
  ·rw[if_neg hc,if_pos rfl];refine h1 ((Ca _).2 λh=>hc (abr.2 h)))
 clear hA wz;generalize fb x s=z at*;have lr:z.l=[iv z.first,iv z.hours,iv z.am,cz z.seen,aQ z.pieces,aQ z.aC]:=rfl;(try simp only[seval,aj.av,TU,Ta,lr]);refine⟨⟨rfl,rfl,rfl⟩,?_⟩;refine ah ?_;simp only[seval,TO];refine aK (JW (x:=x) hx (lL _) ?_);(try simp only[seval]);refine ah ?_;simp only[seval,TU];refine aK (JW (x:=z) ym (lL _) ?_);(try simp only[seval]);refine ah ?_;simp only[seval,TO,TR];refine aK (hAd _ _ _ (λhc=> ?ga) (λhc=> ?gb))
 all_goals
  have e1:decide (cnt x<1)=false:=decide_eq_false (by omega);have e2:decide (cnt z>cnt x)=false:=decide_eq_false (by omega)
 case' gb=>
  have je:HS.l=[iv 0,iv 0,iv 0,.sl 0 [] .shut,.sl 0 [] .shut,.sl 0 [] .shut]:=rfl;(try simp only[seval,aj.av,Ab,As,je]);refine ah ?_;simp only[seval,show ((0:Int)!=0)=false from rfl,e1,e2,uq,uo,ur,up];refine aA ?_;refine aL ?_;refine ah ?_;simp only[seval,hc,show ((0:Int)==0)=true from rfl];refine aA ?_;refine ah ?_;simp only[seval,show ((9:Int)==9)=true from rfl,show ((0:Int)==0)=true from rfl,uq,uo,ur,up,Ab];refine aK (QC (lL _) ?_);(try simp only[seval]);refine aP ?_;exact hq _
 (try simp only[seval,aj.av,Ab,As,lr]);refine⟨⟨rfl,rfl,rfl⟩,?_⟩;have e3:(cnt z==0)=false:=by rw[beq_eq_false_iff_ne];omega
 have Ak:=(Ca z).1 hc;have hEz:(bx z).isEmpty=false:=by cases ht:bx z with
  |nil=>exact absurd ht Ak
  |cons a l=>rfl
 refine ah ?_;simp only[seval,show ((0:Int)!=0)=false from rfl,e1,e2,uq,uo,ur,up];refine aA ?_;refine aL ?_;refine ah ?_;simp only[seval,e3];refine aA ?_;refine aL ?_;refine ah ?_;simp only[seval,show ((0:Int)!=0)=false from rfl,uq,uo,ur,up,TU,Ab];refine aK (aiZ (x:=z) (y:=z) (Vb ym.ve (by decide)) (Vb ym.cW (by decide)) (Vb ym.eG (by decide)) ?_);rw[decide_eq_true rfl];(try simp only[seval]);refine aA ?_;refine aL ?_;refine ai ?_;refine b_ ?_;refine fS x.pieces.length (λa:Nat=>[(16,iv (a:Int))]) (λi=>_) (λi=>True) (λ_ _=>rfl) (by simp only[seval];simp[bP,Wk.refl]) rfl (λ_ _ _=>by simp) trivial (λbX cU a CC au RR hR=> ?_);clear cU bX;refine ah ?_;simp only[seval,TO,aQ];refine aA ?_;refine⟨λcN=> ?_,λcN=> ?_⟩
 ·have fy:a<x.pieces.length:=by omega
  have bH:=TL a (by omega)
  refine aL ?_;refine ai ?_;refine b_ ?_;refine fS a (λb:Nat=>[(17,iv (b:Int))]) (λi=>_) (λi=>True) (λ_ _=>rfl) (by simp only[seval];simp[bP,Wk.refl]) rfl (λ_ _ _=>by simp) trivial (λbX cU b CI au RR2 uu=> ?_);clear cU bX;refine ai ?_;refine aA ?_;refine⟨λcx=> ?_,λcx=> ?_⟩
  ·have sQ:b<a:=(by omega);have fj:=TL b (by omega);have dJ:a≠b:=(by omega);have hv:=tp Ak a b fy (by omega) dJ;refine aL ?_;refine ah ?_;simp only[seval,TO];refine aK (QE (x:=x) (a:=a) (b:=b) hx fy (by omega) (lL _) (λh=>absurd h dJ) (λ_=> ?_));rw[hE,if_neg Xz,if_neg Xz];(try simp only[seval]);refine ah ?_;simp only[seval,TU];refine aK (QE (x:=z) (a:=a) (b:=b) ym (by rw[hzp];omega) (by rw[hzp];omega) (lL _) (λh=>absurd h dJ) (λ_=> ?_));rw[hEz,if_neg Xz,if_neg Xz];(try simp only[seval]);generalize vM (jk x a b) (jk x b a)=v at hv⊢;generalize vM (jk z a b) (jk z b a)=w at hv⊢;by_cases h3:v=3
   case' pos=>
    refine ah ?_;simp only[seval,show ((0:Int)!=0)=false from rfl,show (v !=3)=false by simpa using h3,uq,uo,ur,up]
   case' neg=>
    have h4:(w !=v)=false:=(by simpa using hv h3);refine ah ?_;simp only[seval,show ((0:Int)!=0)=false from rfl,show (v !=3)=true by simpa using h3,h4,uq,uo,ur,up]
   all_goals
    refine aA ?_;refine aL ?_;refine ah ?_;simp only[seval,fj];refine uu _ ⟨sQ,trivial,dp⟩
  ·have yd:b=a:=(by omega);subst yd;refine bT ?_;refine ah ?_;simp only[seval,bH];refine hR _ ⟨fy,trivial,dp⟩
 ·have yd:a=x.pieces.length:=by omega
  subst yd;refine bT ?_;refine ai ?_;refine aK (QC (lL _) ?_);(try simp only[seval]);refine aP ?_;exact hq _
end
open Go.ChangeShapes Go.WideShapes Go.ChangeAt Go.RowKit
def Bj (W:Ul):View:=⟨λb o=>W.cell? ⟨b,o,none⟩,λ_=>none,0,.plain⟩
def qW (W:Ul):Env:=⟨(Bj W).ab,1,λ_=>0,λ_ _=>(none,0),λ_=>0,λ_=>none,true⟩
def ard(W:Ul):Sat (Bj W) W:=⟨λ_ _ _ h=>h,λ_ _ h=>by cases h⟩
def vA (W:Ul):Prop:=W.cell? ⟨0,0,none⟩=some (.iface 209 (.agg #[.pointer (some ⟨1,92,none⟩)]))
def akq{W:Ul}(h:vA W):y8 (Bj W).ab:=λg v e=>by
 unfold Co at e;by_cases hg:g=0
 ·subst hg;simp[avF]at e;subst e;exact h
 ·have:(g==0)=false:=by simpa using hg
  simp[avF,this]at e
def ahe{W:Ul}(hL:vA W):Conc (qW W) (Bj W) [.main]where
 I:=rfl
 n:=rfl
 obj:=λk x h=>by
  match k,h with
  |0,h=>cases h;exact⟨rfl,akq hL⟩
  |k+1,h=>cases h
 inj:=λi j x y b hi hj h1 h2=>by
  match i,hi with
  |0,hi=>cases hi;cases h1
  |i+1,hi=>cases hi
 group:=λg h=>by cases h
 chan:=λc h=>by cases h
 top:=λ_=>⟨rfl,rfl⟩
 fr:=λb y h=>by cases h
def akt{f:UH}{W:Ul}(hL:vA W){args:SG}{jI:SC}{Q:T5->Prop}(hi:ij.inits.idxOf? f=none)(hd:bL (qW W) jI args)(h:a_ true ij f [.main] jI (λa _=>∀E v,ap E a v->Q v) (λ_ _=>False)):
  ∃M last o w' t',runNT ij (M+1) (solo (G (Frame.enter ij f args .normal) []) W) #[]=(.ended o w',t')/\runN ij M (solo (G (Frame.enter ij f args .normal) []) W)=.next last/\step ij last=.ended o w'/\Yq ij (λv w=>Q v/\Left W.heap.size W w) last o w' t':=
 aks hi (V:=Bj W) rfl rfl rfl (ard W) (h (qW W) (Bj W) args (ahe hL) hd) λo V' r=>by
  cases o with
  |ret v=>
   obtain⟨av,E',H',_,cg,_,bh,_,hk⟩:=r;exact⟨cg,v,rfl,λw _ hl=>⟨hk _ _ bh,hl⟩⟩
  |panic ch=>
   obtain⟨pv,v,E',H',_,_,_,_,_,_,hf⟩:=r;exact hf.elim
def Left.below{W w:Ul}(h:Left W.heap.size W w):Below W.heap.size W w:=⟨h.os,h.tape,h.out,h.size,h.old⟩
def Tz.own:ownKnob ij.godebug=none:=by kernel_rfl
def Tz.laidOut:laidOutB ij=true:=by kernel_rfl
def Tz.Ii:ij.underlying 30=some (.slice 3):=by kernel_rfl
def Tz.u3:ij.underlying 3=some (.int .i64):=by kernel_rfl
def Tz.u4:ij.underlying 4=some .bool:=by kernel_rfl
def Tz.b3:ij.bytesOf 3=8:=by kernel_rfl
def aqO{H:Type}{enc:TypeId×T5->H}{a:Assume}{C:Checked}{os:Os}{f:UH}{fn:avu}{s:avy}{conds:List PathCond}{apart fresh handsOn again:Bool}{X:Ul->Array T5->Prop}
  (hX:∀w args,X w args->vA w) (own:ownKnob C.prog.godebug=none) (started:os.Started) (uD:C.prog.funcs[f]?=some fn)
  (witness:∃(w:Ul)(tape:Tape)(i:Input),w.os=os/\(w.forCall tape i).Shaped C.prog/\i.vars=[]/\avt C.prog (w.forCall tape i) .any w.heap.size f i/\
   ((s.pre enc C.prog fn conds apart (w.forCall tape i).memory i.args/\X (w.forCall tape i).memory i.args)/\sizedMet enc C.prog fn (WJ s) apart (w.forCall tape i).memory i.args)/\a.holds C.prog (lone (Frame.enter C.prog f i.args .normal) [] (w.forCall tape i)))
  (runs:∀(W:Ul),vA W->∀(base:Nat)(args:SG)(ds gs:List (Zq H))(before:List X8),
   (∀(j:Nat) t v,fn.params[j]?=some t->args[j]?=some v->XU C.prog W .any base t v)->
   DataW.Whole enc C.prog fn.params.toList s.vars apart W args.toList ds gs before->
   conds.all (aww C.prog ⟨fn.params.toList,ds,s.plain.varTypes C.prog,gs⟩)=true->
   (W9 C.prog (fn.params.toList++s.plain.varTypes C.prog) (ds++gs)).all (·<=reachBytes)=true->
   a.holds C.prog (lone (Frame.enter C.prog f args .normal) [] W)->
   ∃M last o w' t',runNT C.prog (M+1) (solo (G (Frame.enter C.prog f args .normal) []) W) #[]=(.ended o w',t')/\runN C.prog M (solo (G (Frame.enter C.prog f args .normal) []) W)=.next last/\
    step C.prog last=.ended o w'/\Yq C.prog (λv W'=>s.post enc C.prog fn apart fresh handsOn again W args v W') last o w' t'):
  YC a C os f .any (λw args=>(s.pre enc C.prog fn conds apart w args/\X w args)/\sizedMet enc C.prog fn (WJ s) apart w args) (s.post enc C.prog fn apart fresh handsOn again):=by
 refine returnsInLeavingWide_of_good own started witness ?_;intro w tape i _ _ _ au LR alp;obtain⟨_,_,_,fG,aln,_,_,_,_,Dn⟩:=au;have e:fG=fn:=Wq (aln.symm.trans uD);subst e;obtain⟨⟨⟨ds,gs,before,hw,hc⟩,hx⟩,hz⟩:=LR;have nQ:=av' (w':=w.forCall tape i) (by rfl) hw;obtain⟨M,last,o,w',t',h1,h2,h3,h4⟩:=runs (w.forCall tape i) (by have h:=hX _ _ hx;exact h) w.heap.size i.args ds gs before Dn nQ hc (hz.weights hw) alp;exact⟨M,last,o,w',t',h1,h2,h3,h4.mono λv hp=>awl hp⟩
structure Rd (W:Ul)(e:TypeId){α:Type}(f:α->SC)(n:Nat):Prop where
 cells:ij.cellsOf e=n
 len:∀a,(f a).length=n
 rd:∀{H:Type}{enc:TypeId×T5->H}{fuel:Nat}{cs:List T5}{x:Zq H×List X8},Y7 enc ij W 0 (λ_=>true) true fuel e cs=some x->∃a,bL (qW W) (f a) cs.toArray
section
variable {W:Ul}
def Fu{E:Env}{a:AV}{v:T5}(h:ap E a v):bL E [a] [v].toArray:=⟨rfl,λi x e=>by
 match i,e with
 |0,e=>cases e;exact h⟩
def ahu{E:Env}{l m:SC}{xs ys:S5}(h:bL E l xs.toArray)(k:bL E m ys.toArray):bL E (l++m) (xs++ys).toArray:=by
 have:=zu h k;simpa using this
def aqB{e:TypeId}{k:UN}(hu:ij.underlying e=some (.int k))(hc:ij.cellsOf e=1):Rd W e (λz:Int=>[AV.val (.int k z)]) 1 where
 cells:=hc
 len:=λ_=>rfl
 rd:=λh=>by
  obtain⟨n,rfl,_,_⟩:=DataW.trod_int hu h;exact⟨n,Fu (.val _)⟩
def abp{α:Type}{Q:Nat->α->Prop}:∀n,(∀i,i<n->∃a,Q i a)->∃l:List α,l.length=n/\∀(i:Nat) a,l[i]?=some a->Q i a
 |0,_=>⟨[],rfl,λi a e=>by simp at e⟩
 |n+1,h=>by
  obtain⟨l,hl,hq⟩:=abp n λi hi=>h i (by omega);obtain⟨a,ha⟩:=h n (by omega);refine⟨l++[a],by simp[hl],λi b e=> ?_⟩;by_cases hi:i<n
  ·rw[Tw (by omega)]at e;exact hq i b e
  ·have rk:i=n:=(by have:=ep e;simp at this;omega);subst rk;rw[Ud (by omega),hl,WL]at e;cases e;exact ha
def QX{α:Type}{f:α->SC}{n:Nat}(hf:∀a,(f a).length=n):∀(l:List α)(q r:Nat),r<n->(l.flatMap f)[q* n+r]?=(l[q]?).bind λa=>(f a)[r]?
 |[],q,r,_=>by simp
 |a::l,0,r,h=>by
  rw[UQ,YX,WN,Tw (by rw[hf];exact h)];rfl
 |a::l,q+1,r,h=>by
  rw[UQ,Ud (by rw[hf,Xg];omega),hf,Vy,<- QX hf l q r h];congr 1;rw[Xg];omega
def QY{α:Type}{f:α->SC}{n:Nat}(hf:∀a,(f a).length=n):∀l:List α,(l.flatMap f).length=l.length* n
 |[]=>by simp
 |a::l=>by rw[UQ,Tx,hf,QY hf l,UU,Xg];omega
def ag5{a:Wp}{v:T5}(h:W.cell? a=some v):a.spot=none:=by
 unfold Vs at h;split at h
 ·split at h
  ·cases h
  ·rename_i hs;simpa using hs
 ·cases h
def add_zero(a:Wp):a.add 0=a:=by unfold Addr.add;simp
def aqC{α:Type}{t e:TypeId}{f:α->SC}{n:Nat}(hu:ij.underlying t=some (.slice e))(hc:ij.cellsOf t=1)(hR:Rd W e f n)(hn:0<n):Rd W t (λl:List α=>[AV.sl l.length (l.flatMap f) .shut]) 1 where
 cells:=hc
 len:=λ_=>rfl
 rd:=λ{H enc fuel cs x} h=>by
  rcases ah_ hu h with⟨rfl,_⟩|⟨a,len,cap,elems,rest,m,_,rfl,_,_,hl,_,hlen,CS,th,_⟩
  ·exact⟨[],Fu (.nil trivial)⟩
  ·have kE:=(th rfl).2;have tg:=(th rfl).1;have each:∀i,i<len->∃y cw,W.cells? 0 (a.add (i* n)) n=some cw/\bL (qW W) (f y) cw.toArray:=λi hi=>by
    have h1:=CS i hi;rw[hR.cells]at h1;obtain⟨z,hz⟩:=bU (xs:=elems) (i:=i) (by omega);rw[hz]at h1;obtain⟨cw,kz,hy⟩:=Uc.1 h1;obtain⟨y,hd⟩:=hR.rd hy;exact⟨y,cw,kz,hd⟩
   by_cases dK:cap=0
   ·subst dK;have:len=0:=(by omega);subst this;exact⟨[],Fu (.nil trivial)⟩
   ·have aaF:a.spot=none:=by
     have one:∀cw,W.cells? 0 a n=some cw->a.spot=none:=λcw kz=>by
      obtain⟨_,aV,o4⟩:=aa_ kz;obtain⟨v,hv⟩:=bU (xs:=cw) (i:=0) (by omega);have:=o4 0 hn;rw[hv,add_zero]at this;exact ag5 this
     by_cases hz:len=0
     ·have h1:=kE 0 (by omega);rw[hR.cells,hz,WN,YX,add_zero]at h1;obtain⟨z,hz⟩:=bU (xs:=rest) (i:=0) (by omega);rw[hz]at h1;obtain⟨cw,kz,_⟩:=Uc.1 h1;exact one cw kz
     ·obtain⟨y,cw,kz,_⟩:=each 0 (by omega);rw[YX,add_zero]at kz;exact one cw kz
    obtain⟨b,o,sp⟩:=a;simp only at aaF;subst aaF;obtain⟨l,iE,hq⟩:=abp (Q:=λi y=>∃cw,W.cells? 0 ((⟨b,o,none⟩:Wp).add (i* n)) n=some cw/\bL (qW W) (f y) cw.toArray) len each;have Pe:∀(q r:Nat),q<len->r<n->∃(y:α)(cw:S5),l[q]?=some y/\cw.length=n/\bL (qW W) (f y) cw.toArray/\W.cell? ⟨b,o+(q* n+r),none⟩=cw[r]?:=λq r Gw hr=>by
     obtain⟨y,hy⟩:=bU (xs:=l) (i:=q) (by omega);obtain⟨cw,kz,hd⟩:=hq q y hy;obtain⟨_,aV,o4⟩:=aa_ kz;refine⟨y,cw,hy,aV,hd,?_⟩;have:=o4 r hr;rw[add_plain,add_plain,X7]at this;exact this
    refine⟨l,Fu ?_⟩;have ie:=QY hR.len l;have hdiv:∀i,i<len* n->i/n<len/\i % n<n/\i/n* n+i % n=i:=λi hi=>⟨by rw[Nat.div_lt_iff_lt_mul hn];exact hi,Nat.mod_lt _ hn,by rw[Nat.mul_comm];exact Nat.div_add_mod i n⟩;rw[iE]at ie⊢;refine .sl b o cap (λi=>(W.cell? ⟨b,o+i,none⟩).getD undef) hl trivial (λi hi=> ?_) λi x hx=> ?_
    ·rw[ie]at hi;obtain⟨h1,h2,h3⟩:=hdiv i hi;obtain⟨y,cw,_,aV,_,o4⟩:=Pe _ _ h1 h2;rw[h3]at o4;obtain⟨v,hv⟩:=bU (xs:=cw) (i:=i % n) (by omega);rw[hv]at o4;show W.cell? ⟨b,o+i,none⟩=_;rw[o4];rfl
    ·have hi:=ep hx;rw[ie]at hi;obtain⟨h1,h2,h3⟩:=hdiv i hi;obtain⟨y,cw,hy,aV,hd,o4⟩:=Pe _ _ h1 h2;rw[<- h3,QX hR.len l _ _ h2,hy]at hx;have hx:(f y)[i % n]?=some x:=hx;rw[h3]at o4;obtain⟨v,hv⟩:=bU (xs:=cw) (i:=i % n) (by omega);rw[hv]at o4;rw[o4];have:=hd.2 _ x hx;rw[Td]at this;simpa[hv]using this
def fieldAt (P:Tg)(t i:Nat):Option (TypeId×Nat):=match P.underlying t with
 |some (.struct fs)=>(fs[i]?).map λf=>(f.type,f.offset)
 |_=>none
def ad2{H:Type}{enc:TypeId×T5->H}{t i ft off fuel:Nat}{cs:S5}{x:Zq H×List X8}(hf:fieldAt ij t i=some (ft,off))(h:Y7 enc ij W 0 (λ_=>true) true fuel t cs=some x):cs.length=ij.cellsOf t/\∃m y,Y7 enc ij W 0 (λ_=>true) true m ft ((cs.drop off).take (ij.cellsOf ft))=some y:=by
 unfold fieldAt at hf;split at hf
 ·rename_i fs hu;obtain⟨xs,n,_,_,hl,dB,hfs⟩:=DataW.trod_struct hu h;obtain⟨fd,Sl,e⟩:=Uq.1 hf;cases e;refine⟨hl,n,?_⟩;have:=hfs i fd Sl;obtain⟨y,hy⟩:=bU (xs:=xs) (i:=i) (by rw[dB];exact(Tl.1 Sl).1);exact⟨y,by rw[this,hy]⟩
 ·cases hf
structure xc (W:Ul)(t:TypeId){α:Type}(f:α->SC)(n:Nat):Prop where
 rd:∀{H:Type}{enc:TypeId×T5->H}{fuel:Nat}{cs:List T5}{x:Zq H×List X8},Y7 enc ij W 0 (λ_=>true) true fuel t cs=some x->∃a,bL (qW W) (f a) (cs.take n).toArray
def xc.nil{t:TypeId}:xc W t (λ_:Unit=>[]) 0 where
 rd:=λ_=>⟨(),rfl,λi x e=>by simp at e⟩
def xc.add{α β:Type}{t tb n m i:Nat}{f:α->SC}{g:β->SC}(h:xc W t f n)(hf:fieldAt ij t i=some (tb,n))(hb:Rd W tb g m):xc W t (λa:α×β=>f a.1++g a.2) (n+m)where
 rd:=λhd=>by
  obtain⟨a,ha⟩:=h.rd hd;obtain⟨_,m2,y2,GV⟩:=ad2 hf hd;rw[hb.cells]at GV;obtain⟨b,hdb⟩:=hb.rd GV;refine⟨(a,b),?_⟩;rw[List.take_add];exact ahu ha hdb
def xc.done{α δ:Type}{t n:Nat}{f:α->SC}{h:δ->SC}(hp:xc W t f n)(h0:∃i x,fieldAt ij t i=some x)(hc:ij.cellsOf t=n)(mk:α->δ)(pj:∀a,h (mk a)=f a)(hl:∀a,(h a).length=n):Rd W t h n where
 cells:=hc
 len:=hl
 rd:=λ{H enc fuel cs x} hd=>by
  obtain⟨a,ha⟩:=hp.rd hd;obtain⟨i,⟨ft,off⟩,hf⟩:=h0;obtain⟨aV,_⟩:=ad2 hf hd;refine⟨mk a,?_⟩;rw[pj];rw[Tn (by rw[aV,hc];exact Tm _)]at ha;exact ha
end
def O_{H:Type}{enc:TypeId×T5->H}{W W':Ul}(hb:Below W.heap.size W W'):∀(ts:List TypeId)(vs:S5)(ds:List (Zq H))(ps:List X8),(∀t∈ts,ij.readableRec t=true/\t<ij.types.size)->Xj enc ij W 0 (λ_=>true) true ts vs ds ps->(∀x∈ps,x.block<W.heap.size)->
  Xj enc ij W' 0 (λb=>decide (b<W.heap.size)) true ts vs ds ps
 |[],vs,ds,ps,_,h,_=>by
  obtain⟨rfl,rfl,rfl⟩:=trodAll_nil h;exact trodAll_mk0
 |t::ts,vs,ds,ps,ht,h,hlt=>by
  obtain⟨v,Oi,d,kT,p,q,rfl,rfl,rfl,h1,h2⟩:=trodAll_cons h;have h0:=ht t Ut;exact⟨p,q,Below.trod Tz.laidOut h0.1 h0.2 h1 hb λx hx=>hlt x (Ue _ hx),O_ hb ts Oi kT q (λt h=>ht t (T_ _ h)) h2 λx hx=>hlt x (T1 _ hx),rfl⟩
def Pa{H:Type}{enc:TypeId×T5->H}{W:Ul}:∀(ts:List TypeId)(vs:S5)(ds:List (Zq H))(ps:List X8),Xj enc ij W 0 (λ_=>true) true ts vs ds ps->ds.length=ts.length
 |[],vs,ds,ps,h=>by obtain⟨rfl,rfl,rfl⟩:=trodAll_nil h;rfl
 |t::ts,vs,ds,ps,h=>by
  obtain⟨v,Oi,d,kT,p,q,rfl,rfl,rfl,h1,h2⟩:=trodAll_cons h;rw[UU,UU,Pa ts Oi kT q h2]
def OO (f:UH)(ts:List TypeId):Prop:=∀(W:Ul){H:Type}(enc:TypeId×T5->H)(args:SG)(ds:List (Zq H))(ps:List X8)(base:Nat)(ws:List TypeId),(∀(j:Nat) t v,ts[j]?=some t->args[j]?=some v->XU ij W .any base t v)->
 Xj enc ij W 0 (λ_=>true) true ts args.toList ds ps->(W9 ij (ts++ws) ds).all (·<=reachBytes)=true->∃jI,bL (qW W) jI args/\a_ true ij f [.main] jI (λa _=>a=bv true) (λ_ _=>False)
set_option maxRecDepth 100000 in
def afK{f:UH}{fn:avu}{s:avy}{ts:List TypeId}{X:Ul->Array T5->Prop}(hX:∀w args,X w args->vA w)(hf:ij.funcs[f]?=some fn)(hp:fn.params=ts.toArray)(hr:fn.resultTypes=#[4])(hv:s.vars=[])(hs:∀(H:Type)(ds:List (Zq H)),ds.length=ts.length->s.fn H ds={results:=[.lit (.bool true)],args:=ds})(hi:ij.inits.idxOf? f=none)
  (amh:∀t∈ts,ij.readableRec t=true/\t<ij.types.size) (aly:OO f ts)
  (os:Os) (started:os.Started) (H:Type) (enc:TypeId×T5->H)
  (amE:∃(w:Ul)(tape:Tape)(i:Input),w.os=os/\(w.forCall tape i).Shaped Wl.prog/\i.vars=[]/\avt Wl.prog (w.forCall tape i) .any w.heap.size f i/\
   ((s.pre enc Wl.prog fn [] false (w.forCall tape i).memory i.args/\X (w.forCall tape i).memory i.args)/\sizedMet enc Wl.prog fn (WJ s) false (w.forCall tape i).memory i.args)/\({}:Assume).holds Wl.prog (lone (Frame.enter Wl.prog f i.args .normal) [] (w.forCall tape i))):
  YC {} Wl os f .any (λw args=>(s.pre enc ij fn [] false w args/\X w args)/\sizedMet enc ij fn (WJ s) false w args) (s.post enc ij fn false true false false):=by
 refine aqO (C:=Wl) hX Tz.own started hf amE ?_;intro W hLd base args ds gs before amB hW _ aaI _;have Dn:∀(j:Nat) t v,ts[j]?=some t->args[j]?=some v->XU ij W .any base t v:=λj t v e=>amB j t v (by rw[hp];simpa using e);have v5:=hW;obtain⟨p,q,Kt,hV,rfl,_,_⟩:=hW;have hA:Xj enc ij W 0 (λ_=>true) true ts args.toList ds p:=by
  have:Xj enc ij W 0 (λ_=>true) true fn.params.toList args.toList ds p:=Kt;rw[hp]at this;simpa using this
 have wc:=Pa _ _ _ _ hA;rw[hv]at hV;obtain⟨rfl,rfl⟩:=trodVars_none hV;have aX:(W9 ij (ts++s.plain.varTypes ij) ds).all (·<=reachBytes)=true:=by
  have h:(W9 ij (fn.params.toList++s.plain.varTypes ij) (ds++[])).all (·<=reachBytes)=true:=aaI;rw[Tu,hp]at h;simpa using h
 simp only[Tu]at v5;have hlt:∀x∈p,x.block<W.heap.size:=λx hx=>by simpa using v5.lt x hx
 obtain⟨jI,bh,uD⟩:=aly W enc args ds p base _ Dn hA aX;obtain⟨M,last,o,w',t',h1,h2,h3,h4⟩:=akt hLd (Q:=λv=>v=.bool true) (args:=args) (jI:=jI) hi bh (uD.mono (λa H' e E v bh=>by subst e;cases bh;rfl) λ_ _ h=>h);refine⟨M,last,o,w',t',h1,h2,h3,h4.mono λv ⟨hQ,hL⟩=> ?_⟩;subst hQ;have hb:=hL.below;refine⟨ds,[],_,[],p,[],v5,?_,?_,by rw[hv];exact(by rw[Tu,hs H ds wc];rfl),hb.frame _,λh=>by cases h⟩
 ·rw[Tu,hs H ds wc,hr];exact trodAll_mk1 (shut_bool Tz.u4 true)
 ·rw[Tu,hs H ds wc,hp];have e:ts.toArray.toList=ts:=by simp
  rw[e];exact O_ hb ts _ _ _ amh hA hlt
end Go.Gg
set_option maxRecDepth 100000
namespace Go.Gg
open Go.Conc Go.Proofs Go.ChangeShapes Go.WideShapes Go.ChangeAt Go.RowKit Go.Gg.Tk
def Rd.as{W:Ul}{e:TypeId}{α:Type}{f g:α->SC}{n:Nat}(h:Rd W e f n)(he:∀a,f a=g a):Rd W e g n:=by
 have:f=g:=funext he;subst this;exact h
def Tz.et : ij.globalNamed "errors.errorType" = some 0 := by kernel_rfl
def Tz.rt : (ij.cutTypes.find? (·.1 == "internal/reflectlite.rtype")).map (·.2) = some 209 := by kernel_rfl
def Tz.size:ij.types.size=257:=by kernel_rfl
def Tz.ao0:((Tt 257).filter λt=>ij.rowNamed t [101,114,114,111,114])=[92]:=by kernel_rfl
def anc {W : Ul} (h : laidMetH ij [("errors.errorType", Wj)] W) : vA W := by
 have h' : laidMet ij [] W /\ handlesMet ij [("errors.errorType", Wj)] W := h;obtain ⟨name, u, ty, e1, e2, e3, e4, e5⟩ := h'.2 _ (T7.2 rfl);have en : name = [101, 114, 114, 111, 114] := (Wq e1).symm;subst en;obtain rfl := Wq (Tz.rt.symm.trans e2);have hm : ty ∈ (Tt 257).filter λt => ij.rowNamed t [101, 114, 114, 111, 114] := Vq.2 ⟨UA.2 (by rw[<- Tz.size]; exact e3), e4⟩;rw[Tz.ao0] at hm;obtain rfl := T7.1 hm;have hh : typeHandle ij 92 = .pointer (some ⟨1, 92, none⟩) := by kernel_rfl
 rw[hh]at e5;unfold vA;simpa using World.var?_cell Tz.et e5 0
section
variable {W:Ul}
def aqz:Rd W 3 (λz:Int=>[iv z]) 1:=aqB (by kernel_rfl) (by kernel_rfl)
def ajV(xs:SD):(xs.flatMap λz=>[iv z])=xs.map iv:=by
 induction xs with
 |nil=>rfl
 |cons x xs ih=>rw[UQ,ih];rfl
def aqA:Rd W 30 (λxs:SD=>[bp xs]) 1:=(aqC (by kernel_rfl) (by kernel_rfl) aqz (by decide)).as λxs=>by rw[ajV];rfl
section
variable {H:Type}{enc:TypeId×T5->H}{base:Nat}{t:TypeId}{v:T5}{d:Zq H}{p:List X8}
def afJ{α:Type}{e:TypeId}{f:α->AV}(hu:ij.underlying t=some (.slice e))(hR:Rd W t (λa=>[f a]) 1)(au:XU ij W .any base t v)(h:avM enc ij W 0 (λ_=>true) true t v d p):∃a,ap (qW W) (f a) v:=by
 obtain⟨a,len,cap,rfl⟩:=okWide_slice hu au;obtain⟨fuel,h⟩:=h;obtain⟨x,hx⟩:=hR.rd h;exact⟨x,hx.2 0 _ rfl⟩
def MC (P:Tg)(t:TypeId):Bool:=match P.underlying t with
 |some (.struct _)=>true
 |_=>false
def MC.out{P:Tg}{t:TypeId}(h:MC P t=true):∃fs,P.underlying t=some (.struct fs):=by
 unfold MC at h;split at h
 ·exact⟨_,by assumption⟩
 ·cases h
def afI{ds:List (Zq H)}{ts:List TypeId}{j:Nat}(au:XU ij W .any base 30 v)(h:avM enc ij W 0 (λ_=>true) true 30 v d p)(aX:(W9 ij ts ds).all (·<=reachBytes)=true)(ht:ts[j]?=some 30)(hd:ds[j]?=some d):∃zs,zs.length<=2^50/\ap (qW W) (bp zs) v:=by
 obtain⟨zs,hz⟩:=afJ Tz.Ii aqA au h;refine⟨zs,?_,hz⟩;obtain⟨a,len,cap,rfl⟩:=okWide_slice Tz.Ii au;have lr:zs.length=len:=by
  unfold bp at hz;generalize zs.length=m at hz⊢;generalize zs.map iv=l at hz;cases hz with
  |sl=>rfl
  |nil=>rfl
 obtain⟨fuel,h⟩:=h;rcases ah_ Tz.Ii h with⟨e,_⟩|⟨a',ava,cap',elems,rest,n,_,e,ex,_,_,_,hlen,_⟩
 ·simp[avI]at e;obtain⟨_,rfl,_⟩:=e;rw[lr];exact Z1 _
 ·simp[avI]at e;obtain⟨_,rfl,_⟩:=e;simp only[VQ]at ex;obtain⟨rfl,_⟩:=ex;have:=sized_slice aX ht hd Tz.Ii;rw[Tz.b3]at this;simp only[Un,reachBytes]at this;omega
end
end
def aaV:List (SE):=[99,117,116]::[97,116]::[[67,111,117,110,116,115],[80,97,105,114,115],[65,112,97,114,116,115],[72,111,117,114,115],[70,105,114,115,116,115],[78,117,109,98,101,114,115],[76,111,111,107],[75,110,111,119,110]].map ([103,108,97,100,115,116,111,110,101,47,103,108,97,100,115,116,111,110,101,108,97,119,48,49,46,84,105,99,107,101,116]++·)
def aaU:SE:=[104,97,114,110,101,115,115,32,102,57,102,49,51,99,49,57,48,52,53,56,98,50,56,101,52,53,54,57,51,50,48,50,49,54,49,52,100,57,49,97,49,49,54,49,49,53,100,51,49,53,53,48,54,99,99,53,56,50,49,56,56,56,53,101,53,56,101,54,99,55,98,97]++aaV.flatMap (32::·)
set_option maxRecDepth 100000 in
def ioL:ij.initOrder.toList=aaU.map ae_:=by
 have h:ij.initOrder=String.ofList (aaU.map ae_):=by kernel_rfl
 rw[h,String.toList_ofList]
def My:List (List Char):=aaV.map λl=>l.map ae_
set_option maxRecDepth 100000 in
def ioW:behindMainWord (wordsSigns ij.initOrder.toList)=My:=by
 rw[ioL]
 kernel_rfl
section
variable {P:Tg}{c:List Char}{rest:List (List Char)}
def aoi (h : behindMainWord (wordsSigns P.initOrder.toList) = c :: rest) (hc : c = "cut".toList) (h1 : stripLifts liftWords (c :: rest) = ([], c :: rest)) (h2 : P.laysLater = false) (h3 : P.bearsReflect = false) (h4 : P.doorFits [] = true) : P.mayEnter = true := by
 unfold awE;rw[h];subst hc;simp only[h1,h2,h3,h4,au_,beq_self_eq_true,apH,W1,an_,Bool.or_true,avP,VO]
def alk (h : behindMainWord (wordsSigns P.initOrder.toList) = c :: rest) (hc : c = "cut".toList) (h1 : stripLifts liftWords (c :: rest) = ([], c :: rest)) : P.headLifts = [] := by
 unfold awH;rw[h];simp only[h1,ite_self]
def anM (h : behindMainWord (wordsSigns P.initOrder.toList) = c :: rest) (hc : c = "cut".toList) (h1 : stripLifts liftWords (c :: rest) = ([], c :: rest)) : P.liftsFinal = false := by
 unfold awG;rw[alk h hc h1, h];subst hc;simp only [au_, apH, ZD];have : (some "cut".toList == some "carried".toList) = false := by decide +kernel
 rw[this,Yy]
def aod (h : behindMainWord (wordsSigns P.initOrder.toList) = c :: rest) (hc : c = "cut".toList) : P.make = some .cut := by
 unfold awF;rw[h];subst hc;have e1 : ("cut".toList == "gc".toList) = false := by decide +kernel
 have e2 : ("cut".toList == "spec".toList) = false := by decide +kernel
 simp only[e1,e2,Bool.or_self,UB,if_false,beq_self_eq_true,av2,if_true]
end
def G6:List Char:=My.headD []
def Mw:List (List Char):=My.tail
def Mx:behindMainWord (wordsSigns ij.initOrder.toList)=G6::Mw:=ioW.trans (by kernel_rfl)
def Mv : G6 = "cut".toList := by kernel_rfl
def ioS:stripLifts liftWords (G6::Mw)=([],G6::Mw):=by kernel_rfl
def Tz.mayEnter:ij.mayEnter=true:=aoi Mx Mv ioS (by kernel_rfl) (by kernel_rfl) (by kernel_rfl)
def Tz.anL:ij.liftsFinal=false:=anM Mx Mv ioS
def Tz.make:ij.make=some .cut:=aod Mx Mv
def amR{P:Tg}{f:UH}{fn:avu}{s:avy}{c:Zg}
  (k0:(c.wf (WJ s))=true)
  (k1:(laidOutB P)=true)
  (k2:(mapsRowed P)=true)
  (k3:(fn.params.all (P.readableRec ·))=true)
  (k4:(namedTie P c.named s.vars)=true)
  (k5:(c.stops==[])=true)
  (k6:(P.stops==[])=true)
  (k7:(c.knobs==[])=true)
  (k8:(P.stopKnobs==[])=true)
  (k9:(c.inPlace==P.inPlace f)=true)
  (Dv:(c.unfollowed==P.unfollowed f)=true)
  (MD:(c.recurses==P.recurses f)=true)
  (AE:(c.named==P.varsNamed f)=true)
  (ME:(c.maps==(fn.params.toList++s.plain.varTypes P).any (P.mapsRec ·))=true)
  (Dw:(c.ifaces==(fn.params.toList++s.plain.varTypes P).any (P.ifacesRec ·))=true)
  (MF:(c.mapsOut==P.mapsAmong fn.resultTypes.toList)=true)
  (MG:(c.loops==(fn.params.toList++s.plain.varTypes P).any (P.loopsFrom ·))=true)
  (MH:(c.wideKeys==(fn.params.toList++s.plain.varTypes P++fn.resultTypes.toList).any (P.wideKeysFrom ·))=true)
  (k18:(s.vars.all (P.varReadable ·))=true)
  (k19:(fn.resultTypes.all (λt=>P.readableRec t&&decide (t<P.types.size)))=true)
  (MI:(c.ifacesOut==fn.resultTypes.toList.any (P.ifacesRec ·))=true)
  (MK:(c.loopsOut==fn.resultTypes.toList.any (P.loopsFrom ·))=true)
  (ML:(c.plainKeys==P.plainKeys)=true)
  (MM:(c.shortTexts.isNone)=true)
  (MN:(P.stopsHeard)=true)
  (MO:(P.mayEnter)=true)
  (k26:(c.lifted==P.liftsFinal)=true)
  (k27:(P.make==some c.make)=true)
  (k28:c.domain.isEmpty=true) (amV:c.kinds=[])
  (k29:(c.pinned==c.pinnedBy)=true)
  (k30:(c.veiled==(fn.params.toList++s.plain.varTypes P++fn.resultTypes.toList).any (P.veiledRec ·))=true)
  (k31:(c.veiledFits P fn.params.toList (fn.params.toList++s.plain.varTypes P++fn.resultTypes.toList))=true):joinedFacts P f fn s c=true:=by
 simp only[joinedFacts,k0,k1,k2,k3,k4,k5,k6,k7,k8,k9,Dv,MD,AE,ME,Dw,MF,MG,MH,k18,k19,MI,MK,ML,MM,MN,MO,k26,k27,k28,amV,if_true,beq_self_eq_true,k29,k30,k31,avP]
def anK{c:Zg}(h:c.lifted=false):(c.lifted==ij.liftsFinal)=true:=by rw[Tz.anL,h];rfl
def aoe{c:Zg}(h:c.make=.cut):(ij.make==some c.make)=true:=by rw[Tz.make,h];rfl
end Go.Gg
namespace Go.Proofs.YtckionbibpmloaaGreatDoor
open Go.Conc Go.Proofs Go.Gg Go.ChangeShapes Go.Gg.Tk
def asT(Lk:Looks){p:Pinned}{s:OpenSpec}{c:Zg}(al:List (List PathCond))(kinds:List LaidKind)(Ie:Bool)(v7:Bool×String)(lk:Bool)
  (hc:c.holds p s) (fy:∀D∈al,(c.withDomain D).holds p s) (hw:c.wfByText s=true) (amC:∀D∈al,(c.withDomain D).wfByText s=true)
  (amw:c.laidByTextAt Lk p kinds Ie)
  (aT:c.start=.entering) (rz:c.noBlocks=false/\c.again=false) (hm:p.checked.prog.mainIs=some (v7.1,v7.2.toList)) (hn:(!v7.1&&v7.2.isEmpty&& !lk)=false)
  (hl:∀f fn,p.checked.prog.funcNamed c.func=some f->p.checked.prog.funcs[f]?=some fn->lk=p.checked.prog.looks []/\∀(j:Nat) t,fn.params[j]?=some t->p.checked.prog.wantsStandIn t=false)
  (hg:true=c.goesBy p.checked.prog):
  Claim7.holds p (.plain s) {stood:={row:=c,standIns:=[],harness:=v7,looks:=lk},kinds:=[],alts:=al,goes:=true,laidByText:=true,laidKinds:=kinds,laidTests:=Ie,laidLooks:=Lk}:=by
 have h6:∀r:Zg,am' {stood:={row:=r,standIns:=[],harness:=v7,looks:=lk},kinds:=[]}=false:=λr=>by simpa[am']using hn
 refine⟨ZX Lk kinds Ie (ZN hc v7 lk aT rz hm (h6 c) hl) hw,λD hD=> ?_,amw,(λh=>by cases h),hg⟩;exact ZX Lk kinds Ie (ZN (fy D hD) v7 lk aT rz hm (h6 _) hl) (amC D hD)
def aba:ij.funcNamed Rows.ticketLookRow.func=some 9:=by kernel_rfl
def ani:joinedFacts ij 9 Xs Rows.ticketLookSpec Rows.ticketLookRow=true:=
 amR (by kernel_rfl) Tz.laidOut (by kernel_rfl) (by kernel_rfl) (by kernel_rfl) (by kernel_rfl) (by kernel_rfl) (by kernel_rfl) (by kernel_rfl) (by kernel_rfl) (by kernel_rfl) (by kernel_rfl) (by kernel_rfl) (by kernel_rfl) (by kernel_rfl) (by kernel_rfl) (by kernel_rfl) (by kernel_rfl) (by kernel_rfl) (by kernel_rfl) (by kernel_rfl) (by kernel_rfl) (by kernel_rfl) (by kernel_rfl) (by kernel_rfl) Tz.mayEnter (anK (by kernel_rfl)) (aoe (by kernel_rfl)) (by kernel_rfl) (by kernel_rfl) (by kernel_rfl) (by kernel_rfl) (by kernel_rfl)
def anh:Xs.isInstance ij Rows.ticketLookRow.origin Rows.ticketLookRow.targs:=of_decide_eq_true (by kernel_rfl)
def anj:Xs.isWrapper ij Rows.ticketLookRow.wrapper Rows.ticketLookRow.mainSum:=by unfold Func.isWrapper;first|(rw[if_pos (by decide+kernel)];kernel_rfl)|(rw[if_neg (by decide+kernel)];exact⟨rfl,rfl⟩)
def ang(os:Os)(args:SG):laidMetH ij Rows.ticketLookRow.laid ((ap_ ij 400 os).forCall (λ_ _=>0) ⟨#[],args,[]⟩).memory:=
 laidMetH_of_parts (laidMet_nil _ _) (by kernel_rfl)
def ank:OO 9 [30]:=λW {H} enc args ds ps base ws Dn hA aX=>by
 obtain⟨v0,r0,d0,e0,p0,q0,ha,rfl,rfl,h0,hA⟩:=trodAll_cons hA;obtain⟨rfl,rfl,rfl⟩:=trodAll_nil hA;have cM:args=#[v0]:=by
  have:=congrArg List.toArray ha;simpa using this
 subst cM;obtain⟨x0,hn,g0⟩:=afI (j:=0) (Dn 0 30 v0 rfl rfl) h0 aX rfl rfl;refine⟨[bp x0],⟨rfl,λi a e=> ?_⟩,ajB rfl hn rfl⟩
 match i,e with
 |0,e=>cases e;exact g0
def anl(os:Os)(started:os.Started)(H:Type)(enc:TypeId×T5->H):
  YC {} Wl os 9 .any (λw args=>(Rows.ticketLookSpec.pre enc ij Xs [] false w args/\laidMetH ij Rows.ticketLookRow.laid w)/\sizedMet enc ij Xs (WJ Rows.ticketLookSpec) false w args) (Rows.ticketLookSpec.post enc ij Xs false true false false):=
 afK (f:=9) (fn:=Xs) (s:=Rows.ticketLookSpec) (ts:=[30]) (X:=λw _=>laidMetH ij Rows.ticketLookRow.laid w) (λ_ _ h=>anc h) ac_ rfl rfl rfl (λH ds h=>by
   match ds,h with
   |[a],_=>rfl) (by kernel_rfl) (λt ht=>⟨Uv.1 (by kernel_rfl:[30].all ij.readableRec=true) t (by revert ht;simp),of_decide_eq_true (Uv.1 (by kernel_rfl:[30].all (λt=>decide (t<ij.types.size))=true) t (by revert ht;simp))⟩) ank os started H enc
  (awk (enc:=enc) (C:=Wl) (os:=os) (X:=λw _=>laidMetH ij Rows.ticketLookRow.laid w) false (ap_ ij 400 os) #[.slice none 0 0] 8 rfl (World.shaped_of_RefB (by kernel_rfl) (by kernel_rfl)) (by kernel_rfl) (by kernel_rfl) (by kernel_rfl) (ang os _))
def asS:Rows.TicketLookSaid:=
 awp 9 Xs rfl rfl rfl rfl rfl rfl rfl ⟨rfl,rfl,rfl,rfl,rfl⟩ rfl rfl rfl rfl rfl aba ac_ ani anh anj
  (λos started H enc _=>anl os started H enc)
theorem ticketLookCard_holds:Rows.TicketLookCardSaid:=
 asT .later [] [.handle] true (true, "f9f13c190458b28e456932021614d91a116115d315506cc58218885e58e6c7ba") true
  asS (λ_ h=>by cases h) (by kernel_rfl) (λ_ h=>by cases h) ticketLook_row_tie rfl ⟨rfl,rfl⟩ (by kernel_rfl) rfl
  (λf fn hf uD=>by
   obtain rfl:f=9:=Wq (aba.symm.trans hf)|>.symm;obtain rfl:fn=Xs:=(Wq (ac_.symm.trans uD)).symm;exact⟨by kernel_rfl,λj t ht=>by
    have h3:t∈[30]:=by
     have:=ZZ ht;rw[show Xs.params=#[30]from rfl]at this
     revert this;simp
    simp only[Th,Tv,or_false]at h3;rcases h3 with rfl
    ·exact(show ij.wantsStandIn 30=false by kernel_rfl)⟩)
  (by kernel_rfl)
end Go.Proofs.YtckionbibpmloaaGreatDoor
