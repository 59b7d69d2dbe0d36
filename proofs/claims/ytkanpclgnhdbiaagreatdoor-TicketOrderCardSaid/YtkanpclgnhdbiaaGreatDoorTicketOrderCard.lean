/- For every list of numbers, TicketOrder returns true and does not panic, in any order in which its goroutines run; errors.errorType starts as the text of the program lays it. -/
import Derived.Test.YtkanpclgnhdbiaaGreatDoorTicketOrderCard4
import Derived.Conc.LeavingOf
import Derived.Conc.Holds
import Derived.ProofKit
import Derived.Test.YtkanpclgnhdbiaaGreatDoorChecked
import Derived.Test.YtkanpclgnhdbiaaGreatDoorRows
import Derived.LaidMore
import Derived.SevenTiedAt
import Derived.Test.YtkanpclgnhdbiaaGreatDoorTie
import Derived.Test.YtkanpclgnhdbiaaGreatDoorCards
set_option linter.all false
set_option maxRecDepth 4000
set_option maxHeartbeats 4000000
open Bool renaming and_eq_true->Ti,and_self->ac',false_and->Xr,false_eq_true->TM,false_ne_true->WE,false_or->Zv,not_false->YF,or_false->YE,true_and->U5,true_or->ah'
open Char renaming ofNat->Zc
open Go renaming ChangeSpec->ZZ,DataW->am_,Func->YD,FuncId->TN,OpenClaim->Yi,Program->SK,ReturnsInLeavingWide->Xx,Value->SO,World->Tq
open Go.Addr renaming add->atB
open Go.ChangeSpec renaming post_blind->ap_,witness_shaped->apT
open Go.Claim7 renaming isSixth->Zu,new_of_sixth->YM,tied_new_at->YX
open Go.Conc renaming Good->W1
open Go.DataW renaming weightsEach->Za
open Go.DataW.Whole renaming of_heap->al'
open Go.Input renaming okWide->ZV
open Go.IntKind renaming i64->SF
open Go.OpenClaim renaming holds_of_wide_leaving->aq'
open Go.OpenSpec renaming ofChange->VB
open Go.PathCond renaming test->atu
open Go.Program renaming headLifts->atF,liftsFinal->atE,make->atD,mayEnter->atC
open Go.Proofs.Tryz renaming checked->Uz,f13->VY,func13->YU,prog->SC
open Go.Value renaming cells->Z_,okWide->Yw
open Go.World renaming doorLaid->Zz
open Int renaming le_refl->Zq
open List renaming append_assoc->SD,append_nil->SZ,contains_nil->Zh,drop->UD,exists_mem_of_ne_nil->WO,getD_eq_getElem?_getD->SE,getElem?_eq_getElem->SP,getElem?_map->Tj,getElem_mem->VF,head?_cons->ZR,length_drop->Uk,length_map->To,length_pos_iff->Vx,length_take->T_,map->U2,nodup_iff_pairwise_ne->Uv,pairwise_iff_getElem->WM,pairwise_map->XM,range->S0,take->Un
open List.Pairwise renaming filter->Z9,imp->Y_
open Nat renaming add_sub_cancel->VH,reduceAdd->SX
open Option renaming map_eq_some_iff->Tp
open Option.some renaming inj->VX
open Prod.mk renaming injEq->U0
namespace Go.Gg
open Go.Gg.Tk
namespace Tk
theorem acY{n:Int}:∀(h:List Int)(i:Nat),0<=dK i h n->(i:Int)<=dK i h n
 |[],i,h=>by simp[dK]at h
 |[a],i,h=>by simp[dK]at h
 |a::b::l,i,h=>by
  unfold dK at h⊢;split
  ·omega
  ·rename_i hn;rw[if_neg hn]at h;have:=acY (b::l) (i+1) h;omega
theorem ac0{n m:Int}(xK:n<=m):∀(h:List Int)(i:Nat),sr h->0<=dK i h n->0<=dK i h m->dK i h n<=dK i h m
 |[],i,_,h,_=>by simp[dK]at h
 |[a],i,_,h,_=>by simp[dK]at h
 |a::b::l,i,hm,h1,h2=>by
  have g1:=(Nc (a::b::l) i hm).1 h1;have e1:(a::b::l).headD 0=a:=rfl;rw[e1]at g1;unfold dK at h1 h2⊢;split
  ·rename_i hn;split
   ·omega
   ·rename_i hn2;rw[if_neg hn2]at h2;have:=acY (b::l) (i+1) h2;omega
  ·rename_i hn;rw[if_neg hn]at h1;rw[if_neg (by omega)]at h2⊢;exact ac0 xK (b::l) (i+1) hm.2 h1 h2
end Tk
theorem ap2{l:List Int}(h:l.Pairwise (·<·))(aC:l≠[]):∃a b,l[0]?=some a/\l[l.length-1]?=some b/\(∀v∈l,a<=v/\v<=b)/\a∈l/\b∈l:=by
 have hl:0<l.length:=Vx.2 aC;refine⟨l[0],l[l.length-1],SP _,SP _,λv hv=> ?_,VF _,VF _⟩;obtain⟨i,hi,rfl⟩:=List.getElem_of_mem hv;rw[WM]at h;constructor
 ·by_cases h0:i=0
  ·subst h0;omega
  ·have:=h 0 i hl hi (by omega);omega
 ·by_cases h0:i=l.length-1
  ·subst h0;omega
  ·have:=h i (l.length-1) hi (by omega) (by omega);omega
theorem afC(f:Nat->Bool)(m:Int)(i:Nat):(iI f m i).Pairwise (·<·):=by
 unfold iI;rw[XM];refine Y_ ?_ (Z9 f List.pairwise_lt_range);intro a b h;omega
theorem Ov(f:Nat->Bool)(m:Int)(i:Nat):(iI f m i).length<=i:=by
 unfold iI;rw[To];have:=List.length_filter_le f (S0 i);rwa [List.length_range]at this
variable {x:aj}
theorem aa9(hx:x.Ok){u:Tr}(hu:u∈bx x){a b:Nat}(ha:a<x.pieces.length)(hb:b<x.pieces.length)(dl:a≠b):u.aA.getD a 0≠u.aA.getD b 0:=by
 have h:=(Gl hx).1 hu;have hl:=h.wq;have hn:=Uv.1 h.Gt;rw[WM]at hn;rw[SE,SE,SP (by omega),SP (by omega)];rcases Nat.lt_or_gt_of_ne dl with h1|h1
 ·exact hn a b (by omega) (by omega) h1
 ·exact(hn b a (by omega) (by omega) h1).symm
theorem amj(hx:x.Ok)(aC:bx x≠[]){a b:Nat}(ha:a<x.pieces.length)(hb:b<x.pieces.length)(dl:a≠b):fK x a b=true\/fK x b a=true:=by
 obtain⟨u,hu⟩:=WO _ aC;have:=aa9 hx hu ha hb dl;rcases Int.lt_or_gt_of_ne this with h|h
 ·exact .inl (pN.2 ⟨u,hu,by simpa using h⟩)
 ·exact .inr (pN.2 ⟨u,hu,by simpa using h⟩)
theorem anB(hx:x.Ok)(aC:bx x≠[]){a b:Nat}(ha:a<x.pieces.length)(hb:b<x.pieces.length)(dl:a≠b):
  (vM (fK x a b) (fK x b a)==1)=(vM (fK x b a) (fK x a b)==2)/\(vM (fK x a b) (fK x b a)==3)=(vM (fK x b a) (fK x a b)==3)/\
  (vM (fK x a b) (fK x b a)=1->∀u∈bx x,u.aA.getD a 0<u.aA.getD b 0):=by
 have h:=amj hx aC ha hb dl;refine⟨?_,?_,λh1 u hu=> ?_⟩
 ·cases h1:fK x a b<;>cases h2:fK x b a<;>rw[h1,h2]at h<;>simp at h<;>rfl
 ·cases h1:fK x a b<;>cases h2:fK x b a<;>rfl
 ·have h2:fK x b a=false:=by
   cases h3:fK x a b<;>cases h4:fK x b a<;>rw[h3,h4]at h1 h<;>simp[vM]at h1 h⊢
  have h3:=aa9 hx hu ha hb dl;have h4:¬u.aA.getD b 0<u.aA.getD a 0:=λhl=>by
   have:fK x b a=true:=pN.2 ⟨u,hu,by simpa using hl⟩;rw[h2]at this;cases this
  omega
def lm (u:Tr)(p:Nat):Int:=gK u.bu (u.aA.getD p 0)
theorem Fw(hx:x.Ok){u:Tr}(hu:u∈bx x){p:Nat}(hp:p<x.pieces.length):0<=lm u p/\lm u p<3:=by
 have h:=(Gl hx).1 hu;have hh:=hx.hours;have hf:=h.piece p _ (SP hp);unfold Tk.fits at hf;rw[Ti,Ti,decide_eq_true_eq]at hf;have h1:dK 0 u.bu (u.aA.getD p 0)=lm u p:=rfl;have h2:=Ng u.bu 0 hf.1.1;have h3:=h.bu.len;rw[h1]at h2;exact⟨hf.1.1,by omega⟩
theorem Fy(hx:x.Ok){p:Nat}(hp:p<x.pieces.length){v:Int}:v∈iI (oD x p) 0 16<->∃u∈bx x,v=lm u p:=by
 constructor
 ·intro h;obtain⟨n,h1,h2,h3⟩:=afB.1 h;obtain⟨u,hu,e⟩:=pN.1 h2;have e:(lm u p).toNat=n:=of_decide_eq_true e;have:=Fw hx hu hp;exact⟨u,hu,by omega⟩
 ·rintro⟨u,hu,rfl⟩
  have:=Fw hx hu hp;have e:=Ox (f:=oD x p) (m:=0) (i:=16) (n:=(lm u p).toNat) (by omega) (pN.2 ⟨u,hu,by unfold lm;simp⟩);rwa [Int.add_zero,Int.toNat_of_nonneg this.1]at e
theorem RL(hx:x.Ok)(aC:bx x≠[]){p:Nat}(hp:p<x.pieces.length):∃a b,(iI (oD x p) 0 16)[0]?=some a/\(iI (oD x p) 0 16)[(iI (oD x p) 0 16).length-1]?=some b/\(∀u∈bx x,a<=lm u p/\lm u p<=b)/\(∃u∈bx x,a=lm u p)/\(∃u∈bx x,b=lm u p)/\0<(iI (oD x p) 0 16).length:=by
 obtain⟨u,hu⟩:=WO _ aC;have hm:=(Fy hx hp).2 ⟨u,hu,rfl⟩;have hn:iI (oD x p) 0 16≠[]:=λe=>by rw[e]at hm;cases hm
 obtain⟨a,b,h1,h2,h3,h4,h5⟩:=ap2 (afC _ _ _) hn;exact⟨a,b,h1,h2,λw hw=>h3 _ ((Fy hx hp).2 ⟨w,hw,rfl⟩),(Fy hx hp).1 h4,(Fy hx hp).1 h5,Vx.2 hn⟩
theorem RH(hx:x.Ok){u:Tr}(hu:u∈bx x){a b:Nat}(ha:a<x.pieces.length)(hb:b<x.pieces.length)(h:u.aA.getD a 0<u.aA.getD b 0):lm u a<=lm u b:=
 ac0 (by omega) u.bu 0 ((Gl hx).1 hu).bu.mono (Fw hx hu ha).1 (Fw hx hu hb).1
theorem aky(hx:x.Ok){p q:Nat}(hp:p<x.pieces.length)(hq:q<x.pieces.length)(h:∀u∈bx x,u.aA.getD p 0<u.aA.getD q 0){a b a' b':Int}(h1:∀u∈bx x,a<=lm u p/\lm u p<=b)(h2:∃u∈bx x,b=lm u p)(h3:∀u∈bx x,a'<=lm u q/\lm u q<=b')(h4:∃u∈bx x,a'=lm u q):a<=a'/\b<=b':=by
 obtain⟨u,hu,e⟩:=h2;obtain⟨w,hw,e'⟩:=h4;have m1:=RH hx hu hp hq (h u hu);have m2:=RH hx hw hp hq (h w hw);have:=h1 w hw;have:=h3 u hu;omega
open Go.Conc Go.Proofs Go.Gg.Tk
section
variable {H:List aa}{k kp:AV->List aa->Prop}
theorem ahp{aA:List Int}(hm:H[0]?=some .main)(hn:aA.length<=2^50)(hk:k (bv true) H):bc true SC 13 H [bk aA] k kp:=by
 have qi:∀L:List aa,(H++L)[0]?=some .main:=λL=>fF hm;refine bH (rs:=[.tmp 2]) (nt:=133) VY λhH hA=> ?_;simp only[br,SX];refine ai ?_;refine ai ?_;refine aK ((ahx ?_));(try simp only[seval]);refine aK ((aht (pm:=4) (b:=0) (ara H) ⟨Zq _,Zq _,hn⟩ (by decide) (by decide) λx bu aA cg τ hM _=> ?_));have hx:=hM.ok (by decide);have aC:=hM.ne (by decide);have rE:=hx.cT;have aT:=hx.fi;have bO:x.l=[iv x.first,iv x.hours,iv x.an,ek x.seen,bi x.pieces,bi x.aB]:=rfl;clear hM;have bf:x.l.length=6:=rfl;have dZ:Un 6 x.l=x.l:=rfl;obtain⟨B,hB⟩:∃B,B=H++[Aq τ]:=⟨_,rfl⟩;rw[<- hB];have xI:∀L:List aa,(B++L)[0]?=some .main:=λL=>by rw[hB,SD];exact qi _
 have b0:∀(L:List aa),(B++L)[B.length]?=L[0]?:=λL=>aW B L 0;have s0:∀(L:List aa)(y:aa),(B++L).set B.length y=B++L.set 0 y:=λL y=>ez B L 0 y;(try simp only[seval,aj.av,b0,s0,bf]);refine⟨kx x,?_⟩;have EZ:UD 4 x.l=[bi x.pieces,bi x.aB]:=rfl;have hE:(bx x).isEmpty=false:=by cases ht:bx x with
  |nil=>exact absurd ht aC
  |cons a l=>rfl
 refine ai ?_;refine cJ ?_;refine tX x.pieces.length (λa:Nat=>[(7,iv a)]) (λ_=>B++[.cells x.l 26]) (λ_=>True) trivial (λcp dz a BL _ R hR=> ?_);clear cp dz;refine ak ?_;simp only[seval,b0,EZ,bi];refine aD ?_;refine⟨λhc=> ?_,λhc=> ?_⟩
 ·have eP:a<x.pieces.length:=by omega
  have bZ:SF.wrap ((a:Int)+1)=((a+1:Nat):Int):=by rw[bI _ (by omega)];rfl
  refine aN ?_;refine ai ?_;refine cJ ?_;refine tX x.pieces.length (λb:Nat=>[(8,iv b)]) (λ_=>B++[.cells x.l 26]) (λ_=>True) trivial (λcp dz b ES _ R2 sN=> ?_);clear cp dz;refine ak ?_;simp only[seval,b0,EZ,bi];refine aD ?_;refine⟨λhc=> ?_,λhc=> ?_⟩
  ·have bX:b<x.pieces.length:=(by omega);have gY:SF.wrap ((b:Int)+1)=((b+1:Nat):Int):=(by rw[bI _ (by omega)];rfl);refine aN ?_;refine ai ?_;refine aD ?_;refine⟨λdl=> ?_,λdl=> ?_⟩
   ·refine bU ?_;refine ak ?_;simp only[seval,gY];refine sN _ ⟨bX,trivial,dE⟩
   ·have dl:a≠b:=(by intro e;rw[e]at dl;simp at dl);refine aN ?_;refine ak ?_;simp only[seval,b0,bf,dZ];refine aK ((Pz (x:=x) (a:=a) (b:=b) hx eP bX (xI _) (λh=>absurd h dl) (λ_=> ?_)));rw[hE,if_neg WE,if_neg WE];(try simp only[seval]);refine ak ?_;simp only[seval,b0,bf,dZ];refine aK ((Pz (x:=x) (a:=b) (b:=a) hx bX eP (xI _) (λh=>absurd h.symm dl) (λ_=> ?_)));rw[hE,if_neg WE,if_neg WE];(try simp only[seval]);refine ak ?_;simp only[seval,b0,bf,dZ];refine aK ((Py (x:=x) (q:=a) hx eP (xI _) (λh=>absurd h aC) (λ_=> ?_)));(try simp only[seval]);refine ak ?_;simp only[seval,b0,bf,dZ];refine aK ((Py (x:=x) (q:=b) hx bX (xI _) (λh=>absurd h aC) (λ_=> ?_)));(try simp only[seval]);obtain⟨ly,K4,hlt⟩:=anB hx aC eP bX dl;obtain⟨fa,ta,a1,a2,a3,a4,a5,a6⟩:=RL hx aC eP;obtain⟨fb,tb,c1,c2,c3,c4,c5,c6⟩:=RL hx aC bX;have hle:vM (fK x a b) (fK x b a)=1->fa<=fb/\ta<=tb:=λh=>aky hx eP bX (hlt h) a3 a5 c3 c4;clear a3 a4 a5 c3 c4 c5 hlt;generalize vM (fK x a b) (fK x b a)=v at ly K4 hle;generalize vM (fK x b a) (fK x a b)=w at ly K4;have l1:(iI (oD x a) 0 16).length<=16:=Ov _ _ _;have l2:(iI (oD x b) 0 16).length<=16:=Ov _ _ _;generalize iI (oD x a) 0 16=L1 at a1 a2 a6 l1;generalize iI (oD x b) 0 16=L2 at c1 c2 c6 l2;obtain⟨m1,B9⟩:∃m1,L1.length=m1+1:=⟨L1.length-1,by omega⟩;obtain⟨m2,pf⟩:∃m2,L2.length=m2+1:=⟨L2.length-1,by omega⟩;rw[B9,VH]at a2;rw[pf,VH]at c2;have vS:∀(c:Bool) k,dw SC .neq 4 (.val (.bool c)) (.val (.bool c)) k=k (.val (.bool false)):=λc k=>(by rw[aea (by kernel_rfl) (by kernel_rfl),bne_self_eq_false]);have z1:((L1.length:Int)==0)=false:=(by rw[beq_eq_false_iff_ne];omega);have z2:((L2.length:Int)==0)=false:=(by rw[beq_eq_false_iff_ne];omega);have g1:=fN a1;have g2:=fN a2;have g3:=fN c1;have g4:=fN c2;have y1:(U2 iv L1)[0]?=some (iv fa):=(by rw[Tj,a1];rfl);have y2:(U2 iv L2)[0]?=some (iv fb):=(by rw[Tj,c1];rfl);have n1:0<=(m1:Int)/\(m1:Int)<L1.length:=(by omega);have n2:0<=(m2:Int)/\(m2:Int)<L2.length:=(by omega);have n3:(0:Int)<(L1.length:Int):=(by omega);have n4:(0:Int)<(L2.length:Int):=(by omega);have w1:SF.wrap ((L1.length:Int)-1)=(m1:Int):=(by rw[bI _ (by omega)];omega);have w2:SF.wrap ((L2.length:Int)-1)=(m2:Int):=(by rw[bI _ (by omega)];omega);refine ak ?_;simp only[seval,show ((0:Int)!=0)=false from rfl,bk,z1,z2,ly,K4,vS];refine aD ?_;refine aN ?_;rw[show (w==2)=(v==1)from ly.symm];by_cases h1:v=1
    case' pos=>
     obtain⟨o1,o2⟩:=hle h1;have d1:decide (fa>fb)=false:=(by simpa using o1);have d2:decide (ta>tb)=false:=(by simpa using o2);rw[show (v==1)=true by simpa using h1];refine eO 26 ?_;simp only[seval,ly.symm,show (v==1)=true by simpa using h1,g1,g2,g3,g4,y1,y2,n1,n2,n3,n4,w1,w2,d1,d2]
    case' neg=>
     (repeat apply gQ);refine ae3 F.mixed 26 (by kernel_rfl) ?_
     rw[show (v==1)=false by simpa using h1];try simp only[seval,show (v==1)=false by simpa using h1]
    all_goals
     refine aD ?_;refine aN ?_;refine ak ?_;simp only[seval,gY];refine sN _ ⟨bX,trivial,dE⟩
  ·have K_:b=x.pieces.length:=(by omega);subst K_;refine bU ?_;refine ak ?_;simp only[seval,bZ];refine hR _ ⟨eP,trivial,dE⟩
 ·have K_:a=x.pieces.length:=by omega
  subst K_;refine bU ?_;refine ai ?_;refine aK ((ahA (xI _) ?_));(try simp only[seval]);refine aZ ?_;rw[hB,SD];exact iJ hH (Wk.refl _) (.val _) hk
end
open Go.ChangeShapes Go.WideShapes Go.ChangeAt Go.RowKit
def Dk (W:Tq):View:=⟨λb o=>W.cell? ⟨b,o,none⟩,λ_=>none,0,.plain⟩
def Bl (W:Tq):Env:=⟨(Dk W).ab,1,λ_=>0,λ_ _=>(none,0),λ_=>0,λ_=>none,true⟩
theorem apy(W:Tq):Sat (Dk W) W:=⟨λ_ _ _ h=>h,λ_ _ h=>by cases h⟩
theorem af7(W:Tq):Conc (Bl W) (Dk W) [.main]where
 I:=rfl
 n:=rfl
 obj:=λk x h=>by
  match k,h with
  |0,h=>cases h;exact rfl
  |k+1,h=>cases h
 inj:=λi j x y b hi hj h1 h2=>by
  match i,hi with
  |0,hi=>cases hi;cases h1
  |i+1,hi=>cases hi
 group:=λg h=>by cases h
 chan:=λc h=>by cases h
 top:=λ_=>⟨rfl,rfl⟩
 fr:=λb y h=>by cases h
theorem ai5{f:TN}{W:Tq}{args:Array SO}{l9:List AV}{Q:SO->Prop}(hi:SC.inits.idxOf? f=none)(hd:cN (Bl W) l9 args)(h:bc true SC f [.main] l9 (λa _=>∀E v,aq E a v->Q v) (λ_ _=>False)):
  ∃M last o w' t',runNT SC (M+1) (solo (G (Frame.enter SC f args .normal) []) W) #[]=(.ended o w',t')/\runN SC M (solo (G (Frame.enter SC f args .normal) []) W)=.next last/\step SC last=.ended o w'/\W1 SC (λv w=>Q v/\Left W.heap.size W w) last o w' t':=
 ai4 hi (V:=Dk W) rfl rfl rfl (apy W) (h (Bl W) (Dk W) args (af7 W) hd) λo V' r=>by
  cases o with
  |ret v=>
   obtain⟨av,E',H',_,bY,_,bp,_,hk⟩:=r;exact⟨bY,v,rfl,λw _ hl=>⟨hk _ _ bp,hl⟩⟩
  |panic ch=>
   obtain⟨pv,v,E',H',_,_,_,_,_,_,hf⟩:=r;exact hf.elim
theorem agk{W:Tq}{b o len cap:Nat}{zs:List Int}(hl:zs.length=len)(hc:len<=cap)(h:∀i,i<len->W.cell? ⟨b,o+i,none⟩=some (.int .i64 (zs.getD i 0))):aq (Bl W) (bk zs) (.slice (some ⟨b,o,none⟩) len cap):=by
 subst hl;refine .sl b o cap (λi=> .int .i64 (zs.getD i 0)) hc trivial (λi hi=> ?_) (λi x hx=> ?_)
 ·exact h i (by simpa using hi)
 ·rw[Tj]at hx;obtain⟨z,hz,rfl⟩:=Tp.1 hx;rw[SE,hz];exact .val _
theorem Left.below{W w:Tq}(h:Left W.heap.size W w):Below W.heap.size W w:=⟨h.os,h.tape,h.out,h.size,h.old⟩
theorem Tz.own:ownKnob SC.godebug=none:=by kernel_rfl
theorem Tz.laidOut:laidOutB SC=true:=by kernel_rfl
theorem Tz.Hi:SC.underlying 22=some (.slice 3):=by kernel_rfl
theorem Tz.u3:SC.underlying 3=some (.int .i64):=by kernel_rfl
theorem Tz.u4:SC.underlying 4=some .bool:=by kernel_rfl
theorem Tz.c3:SC.cellsOf 3=1:=by kernel_rfl
theorem Tz.b3:SC.bytesOf 3=8:=by kernel_rfl
theorem Tz.r22:SC.readableRec 22=true:=by kernel_rfl
theorem Tz.LJ:22<SC.types.size:=of_decide_eq_true (by kernel_rfl)
theorem ao8{H:Type}{enc:TypeId×SO->H}{a:Assume}{C:Checked}{os:Os}{f:TN}{fn:YD}{s:ZZ}{conds:List PathCond}{apart fresh handsOn again:Bool}{X:Tq->Array SO->Prop}
  (own:ownKnob C.prog.godebug=none) (started:os.Started) (xA:C.prog.funcs[f]?=some fn)
  (witness:∃(w:Tq)(tape:Tape)(i:Input),w.os=os/\(w.forCall tape i).Shaped C.prog/\i.vars=[]/\ZV C.prog (w.forCall tape i) .any w.heap.size f i/\
   ((s.pre enc C.prog fn conds apart (w.forCall tape i).memory i.args/\X (w.forCall tape i).memory i.args)/\sizedMet enc C.prog fn (VB s) apart (w.forCall tape i).memory i.args)/\a.holds C.prog (lone (Frame.enter C.prog f i.args .normal) [] (w.forCall tape i)))
  (runs:∀(W:Tq)(base:Nat)(args:Array SO)(ds gs:List (am_ H))(before:List MemPlace),
   (∀(j:Nat) t v,fn.params[j]?=some t->args[j]?=some v->Yw C.prog W .any base t v)->
   DataW.Whole enc C.prog fn.params.toList s.vars apart W args.toList ds gs before->
   conds.all (atu C.prog ⟨fn.params.toList,ds,s.plain.varTypes C.prog,gs⟩)=true->
   (Za C.prog (fn.params.toList++s.plain.varTypes C.prog) (ds++gs)).all (·<=reachBytes)=true->
   a.holds C.prog (lone (Frame.enter C.prog f args .normal) [] W)->
   ∃M last o w' t',runNT C.prog (M+1) (solo (G (Frame.enter C.prog f args .normal) []) W) #[]=(.ended o w',t')/\runN C.prog M (solo (G (Frame.enter C.prog f args .normal) []) W)=.next last/\
    step C.prog last=.ended o w'/\W1 C.prog (λv W'=>s.post enc C.prog fn apart fresh handsOn again W args v W') last o w' t'):
  Xx a C os f .any (λw args=>(s.pre enc C.prog fn conds apart w args/\X w args)/\sizedMet enc C.prog fn (VB s) apart w args) (s.post enc C.prog fn apart fresh handsOn again):=by
 refine returnsInLeavingWide_of_good own started witness ?_;intro w tape i _ _ _ am KL aj1;obtain⟨_,_,_,fE,ajZ,_,_,_,_,FS⟩:=am;have e:fE=fn:=VX (ajZ.symm.trans xA);subst e;obtain⟨⟨⟨ds,gs,before,hw,hc⟩,_⟩,hz⟩:=KL;have nO:=al' (w':=w.forCall tape i) (by rfl) hw;obtain⟨M,last,o,w',t',h1,h2,h3,h4⟩:=runs (w.forCall tape i) w.heap.size i.args ds gs before FS nO hc (hz.weights hw) aj1;exact⟨M,last,o,w',t',h1,h2,h3,h4.mono λv hp=>ap_ hp⟩
def adx (f:TN):Prop:=∀aA:List Int,aA.length<=2^50->bc true SC f [.main] [bk aA] (λa _=>a=bv true) (λ_ _=>False)
set_option maxRecDepth 100000 in
theorem alj{f:TN}{fn:YD}{s:ZZ}{X:Tq->Array SO->Prop}(hf:SC.funcs[f]?=some fn)(hp:fn.params=#[22]) (hr:fn.resultTypes=#[4]) (hv:s.vars=[]) (hs:∀(H:Type)(d:am_ H),s.fn H [d]={results:=[.lit (.bool true)],args:=[d]}) (hi:SC.inits.idxOf? f=none) (akb:adx f)
  (os:Os) (started:os.Started) (H:Type) (enc:TypeId×SO->H)
  (alh:∃(w:Tq)(tape:Tape)(i:Input),w.os=os/\(w.forCall tape i).Shaped Uz.prog/\i.vars=[]/\ZV Uz.prog (w.forCall tape i) .any w.heap.size f i/\
   ((s.pre enc Uz.prog fn [] false (w.forCall tape i).memory i.args/\X (w.forCall tape i).memory i.args)/\sizedMet enc Uz.prog fn (VB s) false (w.forCall tape i).memory i.args)/\({}:Assume).holds Uz.prog (lone (Frame.enter Uz.prog f i.args .normal) [] (w.forCall tape i))):
  Xx {} Uz os f .any (λw args=>(s.pre enc SC fn [] false w args/\X w args)/\sizedMet enc SC fn (VB s) false w args) (s.post enc SC fn false true false false):=by
 refine ao8 (C:=Uz) Tz.own started hf alh ?_;intro W base args ds gs before Si hW _ KX _;have aU:(Za SC (fn.params.toList++s.plain.varTypes SC) (ds++gs)).all (·<=reachBytes)=true:=KX;clear KX;have FS:∀(j:Nat) t v,fn.params[j]?=some t->args[j]?=some v->Yw SC W .any base t v:=Si;have vL:=hW;obtain⟨p,q,EE,hV,rfl,_,_⟩:=hW;have hA:DataW.TrodAll enc SC W 0 (λ_=>true) true fn.params.toList args.toList ds p:=EE;rw[hp]at hA FS aU;obtain⟨v0,d0,rfl,rfl,h0⟩:=trodAll_one hA;rw[hv]at hV;obtain⟨rfl,rfl⟩:=trodVars_none hV;have am:=FS 0 22 v0 rfl rfl;obtain⟨a0,len,cap,rfl⟩:=okWide_slice Tz.Hi am;have h0k:=h0;obtain⟨fuel,hfu⟩:=h0;clear EE Si;simp only[SZ]at vL;have hlt:∀x∈p,x.block<W.heap.size:=λx hx=>by simpa using vL.lt x hx
 have cP:∀(W':Tq),Below W.heap.size W W'->DataW.Trod enc SC W' 0 (λb=>decide (b<W.heap.size)) true 22 (.slice a0 len cap) d0 p:=
  λW' hn=>Below.trod Tz.laidOut Tz.r22 Tz.LJ h0k hn hlt
 have close:∀aA:List Int,aA.length<=2^50->aq (Bl W) (bk aA) (.slice a0 len cap)->
   ∃M last o w' t',runNT Uz.prog (M+1) (solo (G (Frame.enter Uz.prog f #[.slice a0 len cap] .normal) []) W) #[]=(.ended o w',t')/\
    runN Uz.prog M (solo (G (Frame.enter Uz.prog f #[.slice a0 len cap] .normal) []) W)=.next last/\step Uz.prog last=.ended o w'/\
    W1 Uz.prog (λv W'=>s.post enc Uz.prog fn false true false false W #[.slice a0 len cap] v W') last o w' t':=by
  intro aA hn hd;obtain⟨M,last,o,w',t',h1,h2,h3,h4⟩:=ai5 (Q:=λv=>v=.bool true) (args:=#[.slice a0 len cap]) (l9:=[bk aA]) hi ⟨rfl,λi a e=>by
   match i,e with
   |0,e=>cases e;exact hd⟩ ((akb aA hn).mono (λa H' e E v bp=>by subst e;cases bp;rfl) λ_ _ h=>h)
  refine⟨M,last,o,w',t',h1,h2,h3,h4.mono λv ⟨hQ,hL⟩=> ?_⟩;subst hQ;have hb:=hL.below;refine⟨[d0],[],_,[],p,[],vL,?_,?_,by rw[hv];exact(by rw[show ([d0]++[]:List (am_ H))=[d0]from rfl,hs];rfl),hb.frame _,λh=>by cases h⟩
  ·rw[show ([d0]++[]:List (am_ H))=[d0]from rfl,hs,hr];exact trodAll_mk1 (shut_bool Tz.u4 true)
  ·rw[show ([d0]++[]:List (am_ H))=[d0]from rfl,hs,hp];exact trodAll_mk1 (cP _ hb)
 rcases open_ints Tz.Hi Tz.u3 Tz.c3 hfu with⟨oZ,hx⟩|⟨a,atc,cap',zs,oZ,_,hl,hm,hz,hx,JO,hwz⟩
 ·simp[Z_]at oZ;obtain⟨rfl,rfl,rfl⟩:=oZ;exact close [] (by simp) (.nil trivial)
 ·simp[Z_]at oZ;obtain⟨rfl,rfl,rfl⟩:=oZ;simp only[U0]at hx;obtain⟨rfl,rfl⟩:=hx;simp only[if_true]at hz;have R6:a.spot=none:=by
   have:=am;simp only[Yw,Tz.Hi,Cell.okWide,Cell.ok]at this;exact this.2.2.2.1
  have as4:len* 8<=140737488355328:=by
   have:=sized_slice aU (j:=0) (t:=22) (e:=3) rfl rfl Tz.Hi;rw[Tz.b3]at this;simp only[lits,To,T_,Uk,reachBytes]at this;omega
  obtain⟨bl,off,spot⟩:=a;simp only at R6;subst R6;have oE:(zs.take len).length=len:=by rw[T_];omega
  refine close (zs.take len) (by rw[oE];omega) (agk oE hl λi hi=> ?_);have:=JO i (by omega);rw[show (atB ⟨bl,off,none⟩ i)=⟨bl,off+i,none⟩ by simp[atB]]at this;rw[this,SE,SE,List.getElem?_take_of_lt hi]
def Sw:List (List Nat):=[99,117,116]::[97,116]::[[70,105,114,115,116],[87,105,100,101,114],[71,105,118,101,110],[65,112,97,114,116],[70,111,114,103,101,100],[82,101,97,100],[71,114,101,97,116,101,114],[77,105,120,101,100],[84,114,117,101],[83,116,101,112,115],[79,114,100,101,114],[65,108,108]].map ([103,108,97,100,115,116,111,110,101,47,103,108,97,100,115,116,111,110,101,108,97,119,48,49,46,84,105,99,107,101,116]++·)
def Sv:List Nat:=[104,97,114,110,101,115,115,32,52,53,102,100,53,51,53,49,102,55,99,100,57,55,51,53,100,100,102,52,98,97,54,100,48,51,53,50,49,55,53,54,101,100,101,54,101,54,99,53,99,99,52,49,57,100,50,53,55,100,49,55,57,50,99,52,48,101,97,100,49,102,57,101]++Sw.flatMap (32::·)
set_option maxRecDepth 100000 in
theorem ioL:SC.initOrder.toList=Sv.map Zc:=by
 have h:SC.initOrder=String.ofList (Sv.map Zc):=by kernel_rfl
 rw[h,String.toList_ofList]
def Ls:List (List Char):=Sw.map λl=>l.map Zc
set_option maxRecDepth 100000 in
theorem ioW:behindMainWord (wordsSigns SC.initOrder.toList)=Ls:=by
 rw[ioL]
 kernel_rfl
section
variable {P:SK}{c:List Char}{rest:List (List Char)}
theorem amP (h : behindMainWord (wordsSigns P.initOrder.toList) = c :: rest) (hc : c = "cut".toList) (h1 : stripLifts liftWords (c :: rest) = ([], c :: rest)) (h2 : P.laysLater = false) (h3 : P.bearsReflect = false) (h4 : P.doorFits [] = true) : P.mayEnter = true := by
 unfold atC;rw[h];subst hc;simp only[h1,h2,h3,h4,ZR,beq_self_eq_true,Zh,YF,Zv,Bool.or_true,ac',U5]
theorem ajW (h : behindMainWord (wordsSigns P.initOrder.toList) = c :: rest) (hc : c = "cut".toList) (h1 : stripLifts liftWords (c :: rest) = ([], c :: rest)) : P.headLifts = [] := by
 unfold atF;rw[h];simp only[h1,ite_self]
theorem amm (h : behindMainWord (wordsSigns P.initOrder.toList) = c :: rest) (hc : c = "cut".toList) (h1 : stripLifts liftWords (c :: rest) = ([], c :: rest)) : P.liftsFinal = false := by
 unfold atE;rw [ajW h hc h1, h];subst hc;simp only [ZR, Zh, YE];have : (some "cut".toList == some "carried".toList) = false := by decide +kernel
 rw[this,Xr]
theorem amK (h : behindMainWord (wordsSigns P.initOrder.toList) = c :: rest) (hc : c = "cut".toList) : P.make = some .cut := by
 unfold atD;rw [h];subst hc;have e1 : ("cut".toList == "gc".toList) = false := by decide +kernel
 have e2 : ("cut".toList == "spec".toList) = false := by decide +kernel
 simp only[e1,e2,Bool.or_self,TM,if_false,beq_self_eq_true,ah',if_true]
end
def F4:List Char:=Ls.headD []
def Lq:List (List Char):=Ls.tail
theorem Lr:behindMainWord (wordsSigns SC.initOrder.toList)=F4::Lq:=ioW.trans (by kernel_rfl)
theorem Ln : F4 = "cut".toList := by kernel_rfl
theorem Sx:stripLifts liftWords (F4::Lq)=([],F4::Lq):=by kernel_rfl
theorem Tz.mayEnter:SC.mayEnter=true:=amP Lr Ln Sx (by kernel_rfl) (by kernel_rfl) (by kernel_rfl)
theorem Tz.aml:SC.liftsFinal=false:=amm Lr Ln Sx
theorem Tz.make:SC.make=some .cut:=amK Lr Ln
theorem alw{P:SK}{f:TN}{fn:YD}{s:ZZ}{c:Yi}
  (k0:(c.wf (VB s))=true)
  (k1:(laidOutB P)=true)
  (k2:(mapsRowed P)=true)
  (k3:(fn.params.all (P.readableRec ·))=true)
  (k4:(namedTie P c.named s.vars)=true)
  (k5:((c.stops==[]))=true)
  (k6:((P.stops==[]))=true)
  (k7:((c.knobs==[]))=true)
  (k8:((P.stopKnobs==[]))=true)
  (k9:((c.inPlace==P.inPlace f))=true)
  (CC:((c.unfollowed==P.unfollowed f))=true)
  (Lw:((c.recurses==P.recurses f))=true)
  (zQ:((c.named==P.varsNamed f))=true)
  (Lx:((c.maps==(fn.params.toList++s.plain.varTypes P).any (P.mapsRec ·)))=true)
  (CD:((c.ifaces==(fn.params.toList++s.plain.varTypes P).any (P.ifacesRec ·)))=true)
  (Ly:((c.mapsOut==P.mapsAmong fn.resultTypes.toList))=true)
  (Lz:((c.loops==(fn.params.toList++s.plain.varTypes P).any (P.loopsFrom ·)))=true)
  (LA:((c.wideKeys==(fn.params.toList++s.plain.varTypes P++fn.resultTypes.toList).any (P.wideKeysFrom ·)))=true)
  (k18:(s.vars.all (P.varReadable ·))=true)
  (k19:(fn.resultTypes.all (λt=>P.readableRec t&&decide (t<P.types.size)))=true)
  (LB:((c.ifacesOut==fn.resultTypes.toList.any (P.ifacesRec ·)))=true)
  (LC:((c.loopsOut==fn.resultTypes.toList.any (P.loopsFrom ·)))=true)
  (LD:((c.plainKeys==P.plainKeys))=true)
  (LF:(c.shortTexts.isNone)=true)
  (LH:(P.stopsHeard)=true)
  (LI:(P.mayEnter)=true)
  (k26:((c.lifted==P.liftsFinal))=true)
  (k27:((P.make==some c.make))=true)
  (k28:c.domain.isEmpty=true) (alz:c.kinds=[])
  (k29:((c.pinned==c.pinnedBy))=true)
  (k30:((c.veiled==(fn.params.toList++s.plain.varTypes P++fn.resultTypes.toList).any (P.veiledRec ·)))=true)
  (k31:(c.veiledFits P fn.params.toList (fn.params.toList++s.plain.varTypes P++fn.resultTypes.toList))=true):joinedFacts P f fn s c=true:=by
 simp only[joinedFacts,k0,k1,k2,k3,k4,k5,k6,k7,k8,k9,CC,Lw,zQ,Lx,CD,Ly,Lz,LA,k18,k19,LB,LC,LD,LF,LH,LI,k26,k27,k28,alz,if_true,beq_self_eq_true,k29,k30,k31,ac']
theorem amk{c:Yi}(h:c.lifted=false):(c.lifted==SC.liftsFinal)=true:=by rw[Tz.aml,h];rfl
theorem amL{c:Yi}(h:c.make=.cut):(SC.make==some c.make)=true:=by rw[Tz.make,h];rfl
end Go.Gg
namespace Go.Proofs.YtkanpclgnhdbiaaGreatDoor
open Go.Conc Go.Proofs Go.Gg
theorem aq9(Lk:Looks){p:Pinned}{s:OpenSpec}{c:Yi}(al:List (List PathCond))(kinds:List LaidKind)(Hd:Bool)(vO:Bool×String)(lk:Bool)
  (hc:c.holds p s) (eP:∀D∈al,(c.withDomain D).holds p s) (hw:c.wfByText s=true) (alf:∀D∈al,(c.withDomain D).wfByText s=true)
  (ala:c.laidByTextAt Lk p kinds Hd)
  (aT:c.start=.entering) (uz:c.noBlocks=false/\c.again=false) (hm:p.checked.prog.mainIs=some (vO.1,vO.2.toList)) (hn:(!vO.1&&vO.2.isEmpty&& !lk)=false)
  (hl:∀f fn,p.checked.prog.funcNamed c.func=some f->p.checked.prog.funcs[f]?=some fn->lk=p.checked.prog.looks []/\∀(j:Nat) t,fn.params[j]?=some t->p.checked.prog.wantsStandIn t=false)
  (hg:true=c.goesBy p.checked.prog):
  Claim7.holds p (.plain s) {stood:={row:=c,standIns:=[],harness:=vO,looks:=lk},kinds:=[],alts:=al,goes:=true,laidByText:=true,laidKinds:=kinds,laidTests:=Hd,laidLooks:=Lk}:=by
 have h6:∀r:Yi,Zu {stood:={row:=r,standIns:=[],harness:=vO,looks:=lk},kinds:=[]}=false:=λr=>by simpa[Zu]using hn
 refine⟨YX Lk kinds Hd (YM hc vO lk aT uz hm (h6 c) hl) hw,λD hD=> ?_,ala,(λh=>by cases h),hg⟩;exact YX Lk kinds Hd (YM (eP D hD) vO lk aT uz hm (h6 _) hl) (alf D hD)
theorem aaj:SC.funcNamed Rows.ticketOrderRow.func=some 13:=by kernel_rfl
theorem alT:joinedFacts SC 13 VY Rows.ticketOrderSpec Rows.ticketOrderRow=true:=
 alw (by kernel_rfl) Tz.laidOut (by kernel_rfl) (by kernel_rfl) (by kernel_rfl) (by kernel_rfl) (by kernel_rfl) (by kernel_rfl) (by kernel_rfl) (by kernel_rfl) (by kernel_rfl) (by kernel_rfl) (by kernel_rfl) (by kernel_rfl) (by kernel_rfl) (by kernel_rfl) (by kernel_rfl) (by kernel_rfl) (by kernel_rfl) (by kernel_rfl) (by kernel_rfl) (by kernel_rfl) (by kernel_rfl) (by kernel_rfl) (by kernel_rfl) Tz.mayEnter (amk (by kernel_rfl)) (amL (by kernel_rfl)) (by kernel_rfl) (by kernel_rfl) (by kernel_rfl) (by kernel_rfl) (by kernel_rfl)
theorem alS:VY.isInstance SC Rows.ticketOrderRow.origin Rows.ticketOrderRow.targs:=of_decide_eq_true (by kernel_rfl)
theorem alU:VY.isWrapper SC Rows.ticketOrderRow.wrapper Rows.ticketOrderRow.mainSum:=by unfold Func.isWrapper;first|(rw[if_pos (by decide+kernel)];kernel_rfl)|(rw[if_neg (by decide+kernel)];exact⟨rfl,rfl⟩)
theorem alR(os:Os)(args:Array SO):laidMetH SC Rows.ticketOrderRow.laid ((Zz SC 400 os).forCall (λ_ _=>0) ⟨#[],args,[]⟩).memory:=
 laidMetH_of_parts (laidMet_nil _ _) (by kernel_rfl)
theorem alV(os:Os)(started:os.Started)(H:Type)(enc:TypeId×SO->H):
  Xx {} Uz os 13 .any (λw args=>(Rows.ticketOrderSpec.pre enc SC VY [] false w args/\laidMetH SC Rows.ticketOrderRow.laid w)/\sizedMet enc SC VY (VB Rows.ticketOrderSpec) false w args) (Rows.ticketOrderSpec.post enc SC VY false true false false):=
 alj (f:=13) (fn:=VY) (s:=Rows.ticketOrderSpec) (X:=λw _=>laidMetH SC Rows.ticketOrderRow.laid w) YU rfl rfl rfl (λ_ _=>rfl) (by kernel_rfl) (λaA hn=>ahp rfl hn rfl) os started H enc
  (apT (enc:=enc) (C:=Uz) (os:=os) (X:=λw _=>laidMetH SC Rows.ticketOrderRow.laid w) false (Zz SC 400 os) #[.slice none 0 0] 8 rfl (World.shaped_of_RefB (by kernel_rfl) (by kernel_rfl)) (by kernel_rfl) (by kernel_rfl) (by kernel_rfl) (alR os _))
theorem aq8:Rows.TicketOrderSaid:=
 aq' 13 VY rfl rfl rfl rfl rfl rfl rfl ⟨rfl,rfl,rfl,rfl,rfl⟩ rfl rfl rfl rfl rfl aaj YU alT alS alU
  (λos started H enc _=>alV os started H enc)
theorem ticketOrderCard_holds:Rows.TicketOrderCardSaid:=
 aq9 .later [] [.handle] true (true, "45fd5351f7cd9735ddf4ba6d03521756ede6e6c5cc419d257d1792c40ead1f9e") true
  aq8 (λ_ h=>by cases h) (by kernel_rfl) (λ_ h=>by cases h) ticketOrder_row_tie rfl ⟨rfl,rfl⟩ (by kernel_rfl) rfl
  (λf fn hf xA=>by
   obtain rfl:f=13:=VX (aaj.symm.trans hf)|>.symm;obtain rfl:fn=VY:=(VX (YU.symm.trans xA)).symm;exact⟨by kernel_rfl,λj t ht=>by
    rw[show VY.params=#[22]from rfl]at ht;have h3:t=22:=by
     rcases j with _|j
     ·simpa using ht.symm
     ·simp at ht
    subst h3;exact(show SC.wantsStandIn 22=false by kernel_rfl)⟩)
  (by kernel_rfl)
end Go.Proofs.YtkanpclgnhdbiaaGreatDoor
