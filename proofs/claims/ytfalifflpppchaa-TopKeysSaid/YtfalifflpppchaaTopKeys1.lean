/- A part of the proof. -/
import Derived.Test.YtfalifflpppchaaTopKeys0
import Derived.Conc.LeavingOf
import Derived.Conc.AtomicLaws
import Derived.Conc.AtomicLaws2
import Derived.Conc.MarkLaws
import Derived.Conc.SmallLaws
import Derived.Laws.LoneSync
import Derived.KernelRfl
import Derived.Test.YtfalifflpppchaaProg
set_option linter.all false
set_option maxRecDepth 4000
set_option maxHeartbeats 1000000
namespace Go.Gg
open Go.Conc Go.ConcN
section
variable {P : Program} {n0 : Nat} {W0 : World} {V : View} {gs gs' : Array Goroutine} {w w' : World} {sl : Option (Nat × Nat)} {t : Trace} {K : Nat -> GS} {Im : Imm} {ic : Nat} {ph : Option Phase} {p : Phase} {st st' : Option Stage}
theorem Sat.imm_chan {c : Nat} {a : Nat} {x : Bool} {y z : Nat} {u : Bool} {buf : Array Value} (h : Sat V w) (hc : w.heap[c]? = some (.chan a buf x y z u)) (o : Nat) : V.imm c o = none:=by
 cases e : V.imm c o with
 | none => rfl
 | some v => have:=h.imm c o v e; simp [World.cell?,hc] at this
theorem Inv.noCloser (h : Inv P n0 W0 V gs w t K Im ic (some p) st) (hrv : p.recv = false) {i : Nat} (hi : 0 < i) : (K i).closer = false:=by
 have hx:=h.phase.2.2.2.2.2.2.2.2.2;rw [if_neg (by rw [hrv]; simp)] at hx;cases e : (K i).closer with
 | false => rfl
 | true => have:=h.theCloser hi e; have:=hx.2.1; omega
theorem Inv.goW (h : Inv P n0 W0 V gs w t K Im ic (some p) st) (hrv : p.recv = false) (hV0 : V.deaf = 0) {g' child : Goroutine} {x y : MemOp} (hx : x.g = 0 /\ x.act = .go gs.size) (hy : y.g = gs.size /\ y.act = .start) {hh : Ht} {sp : Spec} {S : List Spec} (hlen : p.Ss.length < 4) (hWi : ∀ o,V.imm p.Wg o = none)
  (hchild : WkJ P hh { imm:=V.imm,own:=fun _ => none,deaf:=0,role:=.work p.c p.Wg (sp :: S) } child) :
  Inv P n0 W0 { V with role:=.fork p.c p.Wg (p.Ss ++ [sp :: S]) } ((gs.setIfInBounds 0 g').push child) w (t ++ #[x,y]) (upd K gs.size (.work p.Ss.length hh { imm:=V.imm,own:=fun _ => none,deaf:=0,role:=.work p.c p.Wg (sp :: S) })) Im ic
   (some { p with Ss:=p.Ss ++ [sp :: S] }) (some .early):=by
 obtain ⟨his,hcr,hre,hph⟩:=h.out;obtain ⟨a1,a2,a3,a4,a5,a6,a7,a8,a9,a10⟩:=hph;rw [if_neg (by rw [hrv]; simp)] at a10;obtain ⟨c1,c2,c3,c4,c5,c6⟩:=a10;have hsz : ((gs.setIfInBounds 0 g').push child).size = gs.size + 1:=by simp
 have hs0 : Sat V w:=by have:=hcr.sat 0 h.pos; rwa [zl8] at this
 have hci:=hs0.imm_chan (hs0.own _ _ c1);have hidx : ∀ i j,0 < i -> i < gs.size -> (K i).idx = some j -> j < p.Ss.length:=fun i j hi hlt e => by
  have hik:=his i _ hi (Array.getElem?_eq_getElem hlt);have hik' : (K i).is P p.c p.Wg Im p.Ss (Deaf t i) gs[i]:=hik;cases hKi : K i <;> rw [hKi] at e hik' <;> simp [GS.idx] at e
  ·subst e; obtain ⟨_,_,S,e,_⟩:=hik'; exact (List.getElem?_eq_some_iff.1 e).1
  ·subst e; obtain ⟨_,_,_,_,_,_,_,e,_⟩:=hik'; exact (List.getElem?_eq_some_iff.1 e).1
 refine h.spawn hrv hV0 hx hy rfl rfl ⟨fun _ => .inr rfl,fun _ _ => .inr rfl,fun _ _ _ => rfl⟩ rfl rfl rfl (fun j S' e => ?_) ⟨rfl,hchild,sp :: S,by simp,rfl⟩ (fun i hi hact => ?_) (.inl rfl) ?_
 ·show (p.Ss ++ [sp :: S])[j]? = some S';rw [List.getElem?_append_left (List.getElem?_eq_some_iff.1 e).1]; exact e
 ·unfold zlP at hact ⊢;rw [if_neg (by show ¬ p.recv = true; rw [hrv]; simp)] at hact;rw [if_neg (by rw [hrv]; simp)];rw [zal _ _ (by omega)] at hact;exact hact.imp id fun z => ⟨hi,z.2⟩
 ·refine ⟨a1,a2,a3,a4,a5,by simp only [List.length_append,List.length_cons,List.length_nil]; omega,fun i hi => ?_,fun i i' j b1 b2 b3 b4 b5 b6 => ?_,fun j S' b1 b2 => ?_,?_⟩
  ·by_cases hiN : i = gs.size
   ·subst hiN; rw [zar];exact ⟨rfl,hci,rfl,hWi,fun e => by cases e⟩
   ·rw [zal _ _ hiN]; exact a7 i hi
  ·rw [hsz] at b2 b4;by_cases e1 : i = gs.size
   ·by_cases e2 : i' = gs.size
    ·omega
    ·rw [zal _ _ e2] at b6;have:=hidx i' j b3 (by omega) b6;subst e1; rw [zar] at b5;simp only [GS.idx,Option.some.injEq] at b5; omega
   ·rw [zal _ _ e1] at b5;by_cases e2 : i' = gs.size
    ·have:=hidx i j b1 (by omega) b5;subst e2; rw [zar] at b6;simp only [GS.idx,Option.some.injEq] at b6; omega
    ·rw [zal _ _ e2] at b6;exact a8 i i' j b1 (by omega) b3 (by omega) b5 b6
  ·rw [hsz];by_cases hj : j < p.Ss.length
   ·have : p.Ss[j]? = some S':=by
     have b1' : (p.Ss ++ [sp :: S])[j]? = some S':=b1;rwa [List.getElem?_append_left hj] at b1'
    obtain ⟨i,e1,e2,e3⟩:=a9 j S' this b2;exact ⟨i,e1,by omega,by rw [zal _ _ (by omega)]; exact e3⟩
   ·have hj' : j = p.Ss.length:=by
     have:=(List.getElem?_eq_some_iff.1 (show (p.Ss ++ [sp :: S])[j]? = some S' from b1)).1;simp at this; omega
    exact ⟨gs.size,h.pos,by omega,by rw [zar,hj']; rfl⟩
  ·show if p.recv = true then _ else _;rw [if_neg (by rw [hrv]; simp)];refine ⟨c1,c2,rfl,fun i b1 b2 => ?_,fun S' hS' => ?_,?_⟩
   ·rw [hsz] at b2;by_cases hiN : i = gs.size
    ·subst hiN; rw [zar]; exact .inl rfl
    ·rw [zal _ _ hiN]; exact c4 i b1 (by omega)
   ·rcases List.mem_append.1 hS' with z | z
    ·exact c5 S' z
    ·simp at z; subst z; simp
   ·rw [hsz,sumTo,zar,List.length_append,<- c6];rw [sumTo_congr (g:=fun i => (K i).cnt) fun i hi => by rw [zal _ _ (by omega)]];rfl
theorem Inv.goC (h : Inv P n0 W0 V gs w t K Im ic (some p) st) (hrv : p.recv = false) (hV0 : V.deaf = 0) {g' child : Goroutine} {x y : MemOp} (hx : x.g = 0 /\ x.act = .go gs.size) (hy : y.g = gs.size /\ y.act = .start) {n : Nat}
  (hWg : V.own p.Wg = some (zjD P (((p.Ss.length : Nat) : Int) * KK) 0)) (hWi : ∀ o,V.imm p.Wg o = none) (hchild : Slide P (CHead P V.imm p.c p.Wg 5) n 0 child) :
  Inv P n0 W0 { V with own:=fun b => if b = p.c \/ b = p.Wg then none else V.own b,role:=.recv p.c p.Wg p.Ss } ((gs.setIfInBounds 0 g').push child) w (t ++ #[x,y]) (upd K gs.size (.head 5 n)) V.imm gs.size (some { p with recv:=true }) (some .early):=by
 obtain ⟨his,hcr,hre,hph⟩:=h.out;obtain ⟨a1,a2,a3,a4,a5,a6,a7,a8,a9,a10⟩:=hph;rw [if_neg (by rw [hrv]; simp)] at a10;obtain ⟨c1,c2,c3,c4,c5,c6⟩:=a10;have hsz : ((gs.setIfInBounds 0 g').push child).size = gs.size + 1:=by simp
 have hs0 : Sat V w:=by have:=hcr.sat 0 h.pos; rwa [zl8] at this
 have hci:=hs0.imm_chan (hs0.own _ _ c1);have hpos:=h.pos;refine h.spawn hrv hV0 hx hy rfl rfl ⟨fun b => ?_,fun _ _ => .inr rfl,fun _ _ _ => rfl⟩ rfl rfl rfl (fun j S' e => e) hchild (fun i hi hact => ?_) (.inr rfl) ?_
 ·by_cases e : b = p.c \/ b = p.Wg
  ·exact .inl (by simp only [e,if_true])
  ·exact .inr (by simp only [e,if_false])
 ·unfold zlP at hact ⊢;rw [if_pos rfl] at hact;rw [if_neg (by rw [hrv]; simp)];rw [zal _ _ (by omega)] at hact;obtain ⟨z1,_,z2⟩:=hact;rcases c4 i z1 hi with z | ⟨q,z⟩
  ·exact .inr ⟨hi,z⟩
  ·exfalso;rw [z] at z2;rcases z2 with z2 | z2 | z2 | z2
   ·cases z2
   ·omega
   ·cases z2
   ·cases z2
 ·refine ⟨a1,a2,a3,a4,a5,a6,fun i hi => ?_,fun i i' j b1 b2 b3 b4 b5 b6 => ?_,fun j S' b1 b2 => ?_,?_⟩
  ·by_cases hiN : i = gs.size
   ·subst hiN; rw [zar];exact ⟨rfl,hci,rfl,hWi,fun _ => rfl⟩
   ·rw [zal _ _ hiN,GS.view_plain (h.noCloser hrv hi) Im];have:=a7 i hi;exact ⟨this.1,this.2.1,this.2.2.1,this.2.2.2.1,fun e => by rw [h.noCloser hrv hi] at e; cases e⟩
  ·rw [hsz] at b2 b4;by_cases e1 : i = gs.size
   ·subst e1; rw [zar] at b5; cases b5
   ·by_cases e2 : i' = gs.size
    ·subst e2; rw [zar] at b6; cases b6
    ·rw [zal _ _ e1] at b5;rw [zal _ _ e2] at b6;exact a8 i i' j b1 (by omega) b3 (by omega) b5 b6
  ·obtain ⟨i,e1,e2,e3⟩:=a9 j S' b1 b2;exact ⟨i,e1,by omega,by rw [zal _ _ (by omega)]; exact e3⟩
  ·show if true = true then _ else _;rw [if_pos rfl];refine ⟨⟨by simp,hci,by simp,hWi⟩,by omega,by rw [hsz]; omega,.early,rfl,?_⟩;rw [hsz];have e1 : sumTo (gs.size + 1) (fun i => (upd K gs.size (.head 5 n) i).cnt) = p.Ss.length:=by
    rw [sumTo,zar,<- c6];rw [sumTo_congr (g:=fun i => (K i).cnt) fun i hi => by rw [zal _ _ (by omega)]];rfl
   have e2 : sumTo (gs.size + 1) (fun i => (upd K gs.size (.head 5 n) i).late) = 0:=by
    have hz : ∀ N,sumTo N (fun _ => 0) = 0:=fun N => (by induction N with | zero => rfl | succ N ih => simp [sumTo,ih]);rw [sumTo,zar];rw [sumTo_congr (g:=fun _ => 0) fun i hi => ?_,hz]
    ·rfl
    ·rw [zal _ _ (by omega)];rcases Nat.eq_zero_or_pos i with rfl | hi0
     ·rw [h.k0]; rfl
     ·rcases c4 i hi0 hi with z | ⟨q,z⟩
      ·cases hKi : K i <;> rw [hKi] at z <;> first | rfl | cases z
      ·rw [z]; rfl
   unfold Mode;simp only [e1,e2,zar];exact .inl ⟨⟨0,hs0.own _ _ c1⟩,trivial,trivial,a6,hs0.own _ _ hWg,.inl ⟨5,rfl,by omega⟩⟩
theorem Inv.begin (h : Inv P n0 W0 V gs w t K Im ic none st) {c Wg : Nat} (hne : c ≠ Wg) (hc : V.own c = some (.chan 0 #[] false 0 0 false)) (hW : V.own Wg ≠ none) (hWi : ∀ o,V.imm Wg o = none) :
  Inv P n0 W0 { V with role:=.fork c Wg [] } gs w t (fun i => if i < gs.size then K i else .gone 0) Im 0 (some ⟨c,Wg,[],false⟩) (some .early):=by
 obtain ⟨his,hcr,hre,hph⟩:=h.out;have hs0 : Sat V w:=by have:=hcr.sat 0 h.pos; rwa [zl8] at this
 have hci:=hs0.imm_chan (hs0.own _ _ hc);have hgone : ∀ i,(∃ q,(if i < gs.size then K i else .gone 0) = GS.gone q):=fun i => by
  by_cases hi : i < gs.size
  ·rw [if_pos hi];rcases Nat.eq_zero_or_pos i with rfl | hi0
   ·exact ⟨0,h.k0⟩
   ·obtain ⟨q,hq,_⟩:=his i _ hi0 (Array.getElem?_eq_getElem hi); exact ⟨q,hq⟩
  ·rw [if_neg hi]; exact ⟨0,rfl⟩
 have hlow : ∀ {b x},V.own b = some x -> n0 <= b /\ b < w.heap.size:=fun {b x} e => by
  refine ⟨?_,hs0.lt e⟩;apply Nat.le_of_not_lt;intro hb;have:=hcr.oldOwn 0 h.pos b hb;rw [zl8,e] at this; cases this
 obtain ⟨xW,hxW⟩ : ∃ x,V.own Wg = some x:=by cases e : V.own Wg with | none => exact absurd e hW | some x => exact ⟨x,rfl⟩
 have hview : ∀ i,0 < i -> ((if i < gs.size then K i else .gone 0).view Im) = zlA:=fun i _ => by obtain ⟨q,e⟩:=hgone i; rw [e]; rfl
 refine Inv.mk' h.pos (by rw [if_pos h.pos]; exact h.k0) h.d0 (fun i x hi hx => ?_) ?_ ?_ ?_
 ·have hlt : i < gs.size:=(Array.getElem?_eq_some_iff.1 hx).1;obtain ⟨q,hq,hy⟩:=his i x hi hx;show (if i < gs.size then K i else .gone 0).is P c Wg Im [] _ x;rw [if_pos hlt,hq]; exact hy
 ·have hc' : Core (VVof { V with role:=.fork c Wg [] } Im (fun i => if i < gs.size then K i else .gone 0)) gs.size w t (shOf none) (zmC none gs.size ic K) ic n0 W0:=by
   refine (hcr.role (i:=0) (V':={ V with role:=.fork c Wg [] }) h.pos (by rw [zl8]) (by rw [zl8])).congr fun i hi => ?_;by_cases hi0 : i = 0
   ·subst hi0; rw [zar]; simp [VVof]
   ·rw [zal _ _ hi0]; simp [VVof,hi0,hi]
  refine ⟨hc'.sat,hc'.dis,?_,hc'.tape,hc'.os,hc'.out,hc'.old,hc'.oldOwn,hc'.n0⟩;refine hc'.ti.weaken (Nat.le_refl _) (fun i l _ x => .inl ⟨x.1,x.2.1,fun z => z.elim⟩) (fun i l _ x => ⟨x.1,x.2.1,fun z => z.elim⟩) (fun idx a ha hsh => ?_);have hk : Knows t 0 idx:=by
   have hw0 : WrV V a.loc:=by
    have hsh' : ShP c Wg a.loc:=hsh;cases hl : a.loc with
    | cell ad => rw [hl] at hsh'; have e : ad.block = Wg:=hsh'; exact ⟨by rw [e]; exact hW,by rw [e]; exact hWi _⟩
    | obj r => rw [hl] at hsh'; have e : r = c:=hsh'; show V.own r ≠ none; rw [e,hc]; simp
    | _ => rw [hl] at hsh'; exact hsh'.elim
   exact hcr.ti.kw 0 h.pos a.loc ⟨h.pos,by rw [zl8]; exact hw0,fun z => z.elim⟩ idx a ha rfl
  refine ⟨fun _ i hi => ?_,fun _ => hk⟩;have hi' : zlP ⟨c,Wg,[],false⟩ gs.size 0 (fun i => if i < gs.size then K i else .gone 0) i:=hi;unfold zlP at hi';rw [if_neg (by simp)] at hi';rcases hi' with rfl | ⟨_,e⟩
  ·exact hk
  ·obtain ⟨q,eq⟩:=hgone i; simp only [eq] at e; cases e
 ·have hst : st = none:=hph;intro idx a ha hm;rcases hre idx a ha hm with z | z | ⟨s,e,_⟩
  ·exact .inl z
  ·exact .inr (.inl z)
  ·rw [hst] at e; cases e
 ·refine ⟨(hlow hc).1,(hlow hxW).1,hne,(hlow hc).2,(hlow hxW).2,by simp,fun i hi => ?_,fun i i' j _ _ _ _ b5 => ?_,fun j S b1 => by simp at b1,?_⟩
  ·rw [hview i hi]; exact ⟨rfl,fun _ => rfl,rfl,fun _ => rfl,fun e => by obtain ⟨q,eq⟩:=hgone i; simp only [eq] at e; cases e⟩
  ·obtain ⟨q,eq⟩:=hgone i; simp only [eq] at b5; cases b5
  ·show if false = true then _ else _;rw [if_neg (by simp)];refine ⟨hc,rfl,rfl,fun i _ _ => .inr (hgone i),by simp,?_⟩;have hz : ∀ N,sumTo N (fun _ => 0) = 0:=fun N => (by induction N with | zero => rfl | succ N ih => simp [sumTo,ih]);rw [sumTo_congr (g:=fun _ => 0) fun i _ => by obtain ⟨q,eq⟩:=hgone i; show (if i < gs.size then K i else GS.gone 0).cnt = 0; rw [eq]; rfl];exact hz _
theorem Inv.shutEnd (h : Inv P n0 W0 V gs w t K Im ic (some p) st) (hrv : p.recv = true) (hV0 : V.deaf = 0) {g0 g' : Goroutine} {n : Nat} (hcl : w.heap[p.c]? = some (.chan 0 #[] true n n false)) {y : MemOp} (hy : y.g = 0 /\ y.act = .recvClosed p.c) :
  (∀ S ∈ p.Ss,S = []) /\ Inv P n0 W0 { V with role:=.plain } (gs.setIfInBounds 0 g') w (t ++ #[y]) K Im ic none none:=by
 obtain ⟨his,hcr,hre,hph⟩:=h.out;obtain ⟨a1,a2,a3,a4,a5,a6,a7,a8,a9,a10⟩:=hph;rw [if_pos hrv] at a10;obtain ⟨c1,c2,c3,s,c4,c5⟩:=a10;have hmode : (∃ pp n,s = .shut pp /\ t.act? pp = some (.close p.c) /\ t.heard pp /\ w.heap[p.c]? = some (.chan 0 #[] true n n false)) /\ (sumTo gs.size fun i => (K i).late) = 0 /\ (sumTo gs.size fun i => (K i).cnt) = 0 /\ (K ic).shape = .gone 0:=by
  have no : ¬ ∃ n,w.heap[p.c]? = some (.chan 0 #[] false n n false):=fun ⟨m,e⟩ => by rw [hcl] at e; simp at e
  unfold Mode at c5;rcases c5 with m | m | m | m | m | m | m
  ·exact absurd m.1 no
  ·exact absurd m.1 no
  ·exact absurd m.1 no
  ·exact absurd m.1 no
  ·exact absurd m.1 no
  ·exact absurd m.1 no
  ·exact m
 obtain ⟨⟨pp,n',rfl,m1,m2,_⟩,m3,m4,m5⟩:=hmode;have hgone : ∀ i,i < gs.size -> ∃ q,K i = .gone q:=fun i hi => by
  have e1 : (K i).cnt <= sumTo gs.size fun i => (K i).cnt:=le_sumTo (f:=fun i => (K i).cnt) hi;have e2 : (K i).late <= sumTo gs.size fun i => (K i).late:=le_sumTo (f:=fun i => (K i).late) hi;rcases Nat.eq_zero_or_pos i with rfl | hi0
  ·exact ⟨0,h.k0⟩
  ·have hc:=h.theCloser (i:=i) hi0;have z1 : (K i).cnt = 0:=(by omega);have z2 : (K i).late = 0:=(by omega);clear e1 e2;cases hKi : K i <;> rw [hKi] at z1 z2 hc <;> first
    | exact ⟨_,rfl⟩
    |(exfalso; simp [GS.cnt] at z1; done)
    |(exfalso; simp [GS.late] at z2; done)
    |(exfalso; have:=hc rfl; subst this; rw [hKi] at m5; cases m5)
 have bV : Blind p V:=⟨c1.1,c1.2.1,c1.2.2.1,c1.2.2.2⟩;have hd0 : Deaf t 0 = 0:=by rw [h.d0,hV0]
 have hstl : ∀ op ∈ (#[y] : Trace),op.act.touch? = none /\ zmE op.act /\ op.act.low w.heap.size /\ (∀ a,op.act ≠ .mark (.release a)) /\ op.g = 0:=by
  intro op hop;simp only [List.mem_toArray,List.mem_cons,List.not_mem_nil,or_false] at hop;subst hop; rw [hy.2];exact ⟨rfl,⟨by simp,by simp⟩,a4,by simp,hy.1⟩
 have hdf : ∀ i,Deaf (t ++ #[y]) i = Deaf t i:=fun i => zdR fun op hop => (hstl op hop).2.1;have hsz : (gs.setIfInBounds 0 g').size = gs.size:=by simp
 refine ⟨fun S hS => ?_,?_⟩
 ·obtain ⟨j,hj⟩:=List.mem_iff_getElem?.1 hS;apply Classical.byContradiction;intro hne;obtain ⟨i,e1,e2,e3⟩:=a9 j S hj hne;obtain ⟨q,e⟩:=hgone i e2;rw [e] at e3; cases e3
 ·refine Inv.mk' (by rw [hsz]; exact h.pos) h.k0 (by rw [hdf]; exact h.d0) (fun i x hi hx => ?_) ?_ ?_ rfl
  ·rw [Array.getElem?_setIfInBounds_ne (by omega)] at hx;have hlt : i < gs.size:=(Array.getElem?_eq_some_iff.1 hx).1;obtain ⟨q,e⟩:=hgone i hlt;have hk : (K i).is P p.c p.Wg Im p.Ss (Deaf t i) x:=his i x hi hx;rw [e] at hk;rw [hdf];exact ⟨q,e,hk⟩
  ·rw [hsz];have h1:=(hcr.role (i:=0) (V':={ V with role:=.plain }) h.pos (by rw [zl8]) (by rw [zl8])).congr (VV':=VVof { V with role:=.plain } Im K) fun i hi => by
    by_cases hi0 : i = 0
    ·subst hi0; rw [zar]; simp [VVof]
    ·rw [zal _ _ hi0]; simp [VVof,hi0]
   have notsh : ∀ i l,i < gs.size -> RdV (VVof { V with role:=.plain } Im K i) l -> ¬ ShP p.c p.Wg l:=fun i l hi hl => by
    by_cases hi0 : i = 0
    ·subst hi0;have b' : Blind p (VVof { V with role:=.plain } Im K 0):=(by simp only [VVof,if_true]; exact bV);exact b'.not_sh hl
    ·obtain ⟨q,e⟩:=hgone i hi;have : VVof { V with role:=.plain } Im K i = zlA:=(by simp only [VVof,hi0,if_false,e]; rfl);rw [this] at hl;exact blind_noView.not_sh hl
   refine ⟨h1.sat,h1.dis,?_,h1.tape,h1.os,h1.out,h1.old,h1.oldOwn,h1.n0⟩;have hti:=h1.ti.mute (u:=#[y]) (N':=gs.size) (rd':=fun i l => i < gs.size /\ RdV (VVof { V with role:=.plain } Im K i) l /\ ¬ shOf none l) (wr':=fun i l => i < gs.size /\ WrV (VVof { V with role:=.plain } Im K i) l /\ ¬ shOf none l) (act':=zmC (some p) gs.size ic K) (ic':=ic)
    (fun op hop => (hstl op hop).1) (fun op hop => (hstl op hop).2.2.1) (fun op hop => by rw [(hstl op hop).2.2.2.2]; exact h.pos) (Nat.le_refl _) (fun op hop => (hstl op hop).2.2.2.1)
    (fun i hi l hl idx a ha hal hw => (h1.ti.kr i hi l ⟨hl.1,hl.2.1,notsh i l hi hl.2.1⟩ idx a ha hal hw).app _) (fun i hi l hl idx a ha hal => (h1.ti.kw i hi l ⟨hl.1,hl.2.1,notsh i l hi hl.2.1.rd⟩ idx a ha hal).app _)
    (fun idx a ha hsh => ⟨fun hp i hi => ((h1.ti.sp idx a ha hsh).1 hp i hi).app _,fun hp => ((h1.ti.sp idx a ha hsh).2 hp).app _⟩)
   exact hti.weaken (Nat.le_refl _) (fun _ _ _ x => .inl x) (fun _ _ _ x => x) (fun idx a _ hx => hx.elim)
  ·have hr : Rest p.Wg t K ic st:=hre;rw [c4] at hr;intro idx a ha hm;have ha':=zbn (fun op hop => (hstl op hop).1) ha;obtain ⟨op,hop,_⟩:=touch_of ha';rcases hr idx a ha' hm with z | ⟨z1,z2⟩ | ⟨s,hs,hx⟩
   ·exact .inl (z.app _)
   ·exact .inr (.inl ⟨z1,fun z => z2 ((heard_old (lt_size_of_getElem? hop)).1 z)⟩)
   ·cases hs;exact .inl (zgT m1 m2 hy hd0 hx)
theorem Inv.mainParks (h : Inv P n0 W0 V gs w t K Im ic (some p) st) (hrv : p.recv = true) (x : Goroutine) : Inv P n0 W0 V (gs.setIfInBounds 0 x) w t K Im ic (some p) st:=by
 obtain ⟨his,hcr,hre,hph⟩:=h.out;obtain ⟨a1,a2,a3,a4,a5,a6,a7,a8,a9,a10⟩:=hph;have hsz : (gs.setIfInBounds 0 x).size = gs.size:=by simp
 rw [if_pos hrv] at a10;obtain ⟨c1,c2,c3,s,c4,c5⟩:=a10;refine Inv.mk' (by rw [hsz]; exact h.pos) h.k0 h.d0 (fun i z hi hz => ?_) (by rw [hsz]; exact hcr) hre ⟨a1,a2,a3,a4,a5,a6,a7,by rw [hsz]; exact a8,by rw [hsz]; exact a9,?_⟩
 ·rw [Array.getElem?_setIfInBounds_ne (by omega)] at hz;exact his i z hi hz
 ·rw [if_pos hrv];refine ⟨c1,c2,by rw [hsz]; exact c3,s,c4,?_⟩;rw [hsz];have e0 : t = t ++ #[]:=by simp
  rw [e0];exact c5.keep (fun _ => rfl) rfl rfl fun hrr g hg => by rw [Array.getElem?_setIfInBounds_ne (by omega)] at hg; exact hrr g hg
end
def MJ (P : Program) (Post : Value -> World -> Prop) (n0 : Nat) (W0 : World) (V : View) (g : Goroutine) : Prop :=
 g.status = .running /\ ∀ gs w sl t K Im ic ph st,Inv P n0 W0 V gs w t K Im ic ph st -> zmO V.role ph -> MainAt gs g -> Ok P Post (crowd gs w sl) t
section
variable {P : Program} {Post : Value -> World -> Prop} {n0 : Nat} {W0 : World}
def Step0 (P : Program) (Post : Value -> World -> Prop) (gs : Array Goroutine) (w : World) (sl : Option (Nat × Nat)) (t : Trace) : Prop :=
 (∃ m' ops,runT P (crowd gs w sl) 0 = (.next m',ops) /\ Ok P Post m' (t ++ ops)) \/ ∃ o w' ops,runT P (crowd gs w sl) 0 = (.ended o w',ops) /\ ∀ w0 sl0,Conc.Good P Post (crowd gs w0 sl0) o w' (t ++ ops)
theorem MainAt.pos {gs : Array Goroutine} {g : Goroutine} (h : MainAt gs g) : ∃ (i : Nat) (x : Goroutine),gs[i]? = some x /\ x.status = .running:=by
 obtain ⟨g0,h0,h1,_⟩:=h; exact ⟨0,g0,h0,h1⟩
theorem MJ.turn {V : View} {g : Goroutine} (hg : g.status = .running) (own : ∀ gs w sl t K Im ic ph st,Inv P n0 W0 V gs w t K Im ic ph st -> zmO V.role ph -> MainAt gs g -> Step0 P Post gs w sl t) : MJ P Post n0 W0 V g:=by
 refine ⟨hg,fun gs w sl t K Im ic ph st h hr hm => ?_⟩;generalize hN : gs.size = N;generalize hμ : ((fun j => (K j).rank),flag gs ic) = μ;induction μ using (zkt N).induction generalizing gs w sl t K st with
 | _ μ ih =>
  obtain ⟨i,gi,d,sl',hgi,hrun,hst⟩:=crowd_pick (P:=P) (w:=w) (sl:=sl) (h.awake (.inl hm)) hm.pos;have hd:=h.draw d;rcases Nat.eq_zero_or_pos i with rfl | hi
  ·rcases own _ _ sl' _ _ _ _ _ _ hd hr hm with ⟨m',ops,h1,h2⟩ | ⟨o,w',ops,h1,h2⟩
   ·exact Ok.step (hst.trans h1) h2
   ·exact Ok.end (hst.trans h1) (h2 w sl)
  ·rcases hd.other (sl:=sl') (.inl hm) hi hgi hrun with ⟨gs',w',ops,K',st',h1,h2,h3,h4,_,h5⟩ | ⟨p,_,_,hpk⟩
   ·have hmain : MainAt gs' g:=by
     cases ph with
     | none => exact (h4 g 0 (by simp)).1 hm
     | some p => exact (h4 g p.c (fun q hq => by cases hq; rfl)).1 hm
    exact Ok.step (hst.trans h1) (ih _ (by rw [<- hμ,<- hN]; exact h5) gs' w' sl' _ K' st' h3 hmain (by rw [h2,hN]) rfl)
   ·obtain ⟨g0,h0,hs,_⟩:=hm;obtain ⟨g1,z,h1,_⟩:=hpk;rw [h1] at h0; cases h0; cases hs
theorem MJ.recv {V : View} {g : Goroutine} {c Wg : Nat} {Ss : List (List Spec)} {z : Value} (hrole : V.role = .recv c Wg Ss) (hV0 : V.deaf = 0) (hg : g.status = .running)
  (hstep : ∀ w,Sat V w -> stepG P true g w = .comm g #[rcase c z] true (.recv true) w #[])
  (J1 : ∀ (i : Nat) sp S v Im Ow,Ss[i]? = some (sp :: S) -> sp v Im Ow -> (∀ b,V.own b ≠ none -> Ow b = none) -> (∀ b o,V.own b ≠ none -> Im b o ≠ none -> V.imm b o ≠ none) -> (∃ w,Sat V w /\ (∀ b o x,Im b o = some x -> w.cell? ⟨b,o,none⟩ = some x) /\ ∀ b x,Ow b = some x -> w.heap[b]? = some x) ->
   MJ P Post n0 W0 (zmy V Im Ow (.recv c Wg (Ss.set i S))) (Conc.served g (.tuple #[v,.bool true])))
  (J2 : (∀ S ∈ Ss,S = []) -> MJ P Post n0 W0 { V with role:=.plain } (Conc.served g (.tuple #[z,.bool false]))) : MJ P Post n0 W0 V g:=by
 have met : ∀ {gs w sl t K Im ic st i},Inv P n0 W0 V gs w t K Im ic (some ⟨c,Wg,Ss,true⟩) st -> Met P n0 W0 V gs w sl t Im ic ⟨c,Wg,Ss,true⟩ st g i -> ∀ {m},stepT P m = runT P (crowd gs w sl) i -> Ok P Post m t:=by
  rintro gs w sl t K Im ic st i _ ⟨gs',w',ops,K',j,sp,S,v,Im',Ow,h1,h2,h3,h4,h5,h6,h6',h7,h8⟩ m hm
  exact Ok.step (hm.trans h1) ((J1 j sp S v Im' Ow h4 h5 h6 h6' h7).2 gs' w' sl _ K' Im ic _ st h8 rfl h3)
 refine ⟨hg,fun gs w sl t K Im ic ph st h hr hm => ?_⟩;have hph : ph = some ⟨c,Wg,Ss,true⟩:=by rw [hrole] at hr; exact hr
 subst hph
 suffices key : ∀ N μ gs w sl t K st,Inv P n0 W0 V gs w t K Im ic (some ⟨c,Wg,Ss,true⟩) st -> gs.size = N -> ((fun j => (K j).rank),flag gs ic) = μ -> (MainAt gs g \/ (zhQ gs g c /\ Calm gs /\ Opn w c)) -> Ok P Post (crowd gs w sl) t from key _ _ gs w sl t K st h rfl rfl (.inl hm)
 clear h hr hm;intro N μ;induction μ using (zkt N).induction with
 | _ μ ih =>
  have A : ∀ gs w sl t K st,Inv P n0 W0 V gs w t K Im ic (some ⟨c,Wg,Ss,true⟩) st -> gs.size = N -> ((fun j => (K j).rank),flag gs ic) = μ -> zhQ gs g c -> Calm gs -> Opn w c -> Ok P Post (crowd gs w sl) t:=by
   intro gs w sl t K st h hN hμ hpk hcalm ho;have hmn : MainAt gs g \/ ∃ p,some (Phase.mk c Wg Ss true) = some p /\ p.recv = true /\ V.deaf = 0 /\ zhQ gs g p.c:=.inr ⟨_,rfl,rfl,hV0,hpk⟩;have hsome : ∃ (i : Nat) (x : Goroutine),gs[i]? = some x /\ x.status = .running:=by
    obtain ⟨i,x,_,h1,h2⟩:=h.someRuns rfl ho hcalm; exact ⟨i,x,h1,h2⟩
   obtain ⟨i,gi,d,sl',hgi,hrun,hst⟩:=crowd_pick (P:=P) (w:=w) (sl:=sl) (h.awake hmn) hsome;have hd:=h.draw d;have hi : 0 < i:=by
    rcases Nat.eq_zero_or_pos i with rfl | hi
    ·obtain ⟨g1,z1,h1,_⟩:=hpk;rw [h1] at hgi; cases hgi; cases hrun
    ·exact hi
   rcases hd.other (sl:=sl') hmn hi hgi hrun with ⟨gs',w',ops,K',st',h1,h2,h3,h4,h5,h6⟩ | ⟨p,hp,hmet,_⟩
   ·refine Ok.step (hst.trans h1) (ih _ (by rw [<- hμ,<- hN]; exact h6) gs' w' sl' _ K' st' h3 (by rw [h2,hN]) rfl ?_);rcases (h4 g c (fun q hq => by cases hq; rfl)).2 hpk ho with x | ⟨x,y⟩
    ·exact .inl x
    ·exact .inr ⟨x,h5 g c hpk hcalm,y⟩
   ·cases hp;exact met hd hmet hst
  intro gs w sl t K st h hN hμ hmain;rcases hmain with hm | ⟨h1,h2,h3⟩
  ·obtain ⟨i,gi,d,sl',hgi,hrun,hst⟩:=crowd_pick (P:=P) (w:=w) (sl:=sl) (h.awake (.inl hm)) hm.pos;have hd:=h.draw d;rcases Nat.eq_zero_or_pos i with rfl | hi
   ·
    obtain ⟨g0,h0,hg0,hf1,hf2,hf3⟩:=hm;have hsat : Sat V (w.at d):=(by have:=hd.core.sat 0 h.pos; rwa [zl8] at this);have hst0 : stepG P (0 == 0) g0 (w.at d) = .comm g #[rcase c z] true (.recv true) (w.at d) #[]:=(by rw [<- hstep _ hsat]; exact stepG_same hf1 hf2 hf3 _);have e0 : (t ++ MemOp.ofEvents 0 g0.frame.fn g0.frame.place #[]) = t:=(by simp [MemOp.ofEvents]);rcases hd.opens rfl with ⟨n,hopen⟩ | ⟨hnone,⟨n,hcl⟩,_⟩
    ·by_cases hpark : ∃ i j h' V₁ V₂ g1 v z1,0 < i /\ i < gs.size /\ K i = .park j h' V₁ V₂ g1 v z1
     ·exact met hd (hd.recvMeets (sl:=sl') rfl hV0 ⟨g0,h0,hg0,hf1,hf2,hf3⟩ (hstep _ hsat) hpark) hst
     ·have offers : ∀ m x,0 < m -> gs[m]? = some x -> x.status = .blocked -> x.offers = none:=by
       intro m x hm0 hx hb;rcases GS.runs (show (K m).is P c Wg Im Ss (Deaf t m) x from h.is m x hm0 hx) with e | ⟨e,_⟩ | ⟨j,h',V1,V2,g1,v,z1,e⟩ | ⟨_,_,e⟩
       ·rw [e] at hb; cases hb
       ·rw [e] at hb; cases hb
       ·exact absurd ⟨m,j,h',V1,V2,g1,v,z1,hm0,(Array.getElem?_eq_some_iff.1 hx).1,e⟩ hpark
       ·exact e
      have hw:=crowd_waits (P:=P) (sl:=sl') (i:=0) h0 hst0 (fun cc hcc => by
       simp only [List.mem_toArray,List.mem_cons,List.not_mem_nil,or_false] at hcc;subst hcc;refine ways_recv_none hopen (partners_nil fun m x hx => ?_);rcases getElem?_stand gs 0 m x hx with ⟨_,rfl⟩ | ⟨hm0,hx'⟩
       ·exact offersAt_ph _ _
       ·by_cases hb : x.status = .blocked
        ·unfold offersAt; simp [hb,offers m x (by omega) hx' hb]
        ·exact offersAt_of_not_blocked hb _ _)
      refine Ok.step (hst.trans hw) ?_;rw [e0];refine A _ (w.at d) sl' t K st (hd.mainParks rfl _) (by simp [hN]) ?_ ⟨g,z,?_,rfl,rfl,rfl⟩ (fun m x hm0 hx hb => ?_) ⟨n,hopen⟩
      ·rw [<- hμ];have hic : 0 < ic:=(by obtain ⟨_,_,x,_⟩:=h.mode rfl; exact x);unfold flag;rw [Array.getElem?_setIfInBounds_ne (by omega)]
      ·rw [Array.getElem?_setIfInBounds_self_of_lt h.pos]
      ·rw [Array.getElem?_setIfInBounds_ne (by omega)] at hx;exact offers m x hm0 hx hb
    ·have hp : partners (gs.setIfInBounds 0 ph) c true = []:=partners_nil fun m x hx => by
      rcases getElem?_stand gs 0 m x hx with ⟨_,rfl⟩ | ⟨hm0,hx'⟩
      ·exact offersAt_ph _ _
      ·have hlt : m < gs.size:=(Array.getElem?_eq_some_iff.1 hx').1;rcases GS.runs (show (K m).is P c Wg Im Ss (Deaf t m) x from h.is m x (by omega) hx') with e | ⟨e,_⟩ | ⟨j,h',V1,V2,g1,v,z1,e⟩ | ⟨_,eb,e⟩
       ·exact offersAt_of_not_blocked (by rw [e]; simp) _ _
       ·exact offersAt_of_not_blocked (by rw [e]; simp) _ _
       ·have:=hnone m (by omega) hlt; rw [e] at this; cases this
       ·unfold offersAt; simp [eb,e]
     have hw:=crowd_recv_closed (P:=P) (sl:=sl') (i:=0) h0 hst0 hcl hp;refine Ok.step (hst.trans hw) ?_;rw [finishComm_recv,<- Array.append_assoc,e0];obtain ⟨hS,hinv⟩:=hd.shutEnd rfl hV0 (g0:=g0) (g':=Conc.served g (recvd true z false)) hcl (y:={ g:=0,fn:=g.frame.fn,pos:=g.frame.place,act:=.recvClosed c }) ⟨rfl,rfl⟩;exact (J2 hS).2 _ (w.at d) sl' _ K Im ic none none hinv rfl ⟨Conc.served g (recvd true z false),by rw [Array.getElem?_setIfInBounds_self_of_lt h.pos],rfl,rfl,rfl,rfl⟩
   ·rcases hd.other (sl:=sl') (.inl hm) hi hgi hrun with ⟨gs',w',ops,K',st',h1,h2,h3,h4,_,h5⟩ | ⟨p,_,_,hpk⟩
    ·exact Ok.step (hst.trans h1) (ih _ (by rw [<- hμ,<- hN]; exact h5) gs' w' sl' _ K' st' h3 (by rw [h2,hN]) rfl (.inl ((h4 g c (fun q hq => by cases hq; rfl)).1 hm)))
    ·obtain ⟨g0,h0,hs,_⟩:=hm;obtain ⟨g1,z1,h1,_⟩:=hpk;rw [h1] at h0; cases h0; cases hs
  ·exact A gs w sl t K st h hN hμ h1 h2 h3
theorem zku : Closed true P true (MJ P Post n0 W0) where
 step V g hs h:=by
  refine MJ.turn hs fun gs w sl t K Im ic ph st hI hr ⟨g0,h0,hg0,hf1,hf2,hf3⟩ => .inl ?_;have hsat : Sat V w:=by have:=hI.core.sat 0 hI.pos; rwa [zl8] at this
  obtain ⟨g',w',es,V',h1,h2,h3⟩:=h w hsat;have hst : stepG P (0 == 0) g0 w = .go g' w' es:=by rw [<- h1]; exact stepG_same hf1 hf2 hf3 w
  refine ⟨_,_,runT_crowd_go h0 hst,h3.2 _ w' sl _ K Im ic ph st (hI.mainStep h0 h2 hr) (by rw [h2.role]; exact hr) ⟨g',?_,h3.1,rfl,rfl,rfl⟩⟩;rw [Array.getElem?_setIfInBounds_self_of_lt (by simpa using hI.pos)]
 ghost V V' g hg h:=⟨h.1,fun gs w sl t K Im ic ph st hI hr hm => h.2 gs w sl t K Im ic ph st (hI.mainGhost hg hr) (by rw [hg.role]; exact hr) hm⟩
 send V g c Wg sp S v z B hr hd hs ho h1 h2 h3:=⟨hs,fun gs w sl t K Im ic ph st hI hro hm => by rw [hr] at hro; exact hro.elim⟩
 done V g c Wg hr hd h1:=⟨h1.1,fun gs w sl t K Im ic ph st hI hro hm => by rw [hr] at hro; exact hro.elim⟩
 slip V g g' c Wg hr hs h1 h2:=⟨hs,fun gs w sl t K Im ic ph st hI hro hm => by rw [hr] at hro; exact hro.elim⟩
 more _:={
  start:=fun V g c Wg hr hne hc hW hWi h => ⟨h.1,fun gs w sl t K Im ic ph st hI hro hm => by
   rw [hr] at hro;cases hro;exact h.2 gs w sl t _ Im 0 _ _ (hI.begin hne hc hW hWi) rfl hm⟩
  goW:=fun V g g' child c Wg Ss sp S hr hd hs hc hW hlen hWi hst hch hwk h => by
   refine MJ.turn hs fun gs w sl t K Im ic ph st hI hro ⟨g0,h0,hg0,hf1,hf2,hf3⟩ => .inl ?_;rw [hr] at hro;cases hro;have hsat : Sat V w:=(by have:=hI.core.sat 0 hI.pos; rwa [zl8] at this);have hst' : stepG P (0 == 0) g0 w = .spawn g' child w #[]:=(by rw [<- hst w hsat]; exact stepG_same hf1 hf2 hf3 w);obtain ⟨hh,hk⟩:=hwk _ (zjP P);have hrun:=runT_crowd_spawn (P:=P) (sl:=sl) h0 hst';have e0 : MemOp.ofEvents 0 g0.frame.fn g0.frame.place #[] = #[]:=rfl;rw [e0] at hrun;have hinv:=hI.goW (g':=g') (x:={ g:=0,fn:=g0.frame.fn,pos:=g0.frame.place,act:=.go gs.size }) (y:={ g:=gs.size,fn:=child.frame.fn,pos:=g0.frame.place,act:=.start }) rfl hd ⟨rfl,rfl⟩ ⟨rfl,rfl⟩ hlen hWi hk;exact ⟨_,_,hrun,h.2 _ w sl _ _ Im ic _ _ hinv rfl ⟨g',by rw [Array.getElem?_push,if_neg (by simp; have:=hI.pos; omega),Array.getElem?_setIfInBounds_self_of_lt hI.pos],h.1,rfl,rfl,rfl⟩⟩
  goC:=fun V g g' child c Wg Ss hr hd hs hne hc hW hci hWi hst hch hcl h => by
   refine MJ.turn hs fun gs w sl t K Im ic ph st hI hro ⟨g0,h0,hg0,hf1,hf2,hf3⟩ => .inl ?_;rw [hr] at hro;cases hro;have hsat : Sat V w:=(by have:=hI.core.sat 0 hI.pos; rwa [zl8] at this);have hst' : stepG P (0 == 0) g0 w = .spawn g' child w #[]:=(by rw [<- hst w hsat]; exact stepG_same hf1 hf2 hf3 w);obtain ⟨n,hk⟩:=hcl;have hrun:=runT_crowd_spawn (P:=P) (sl:=sl) h0 hst';have e0 : MemOp.ofEvents 0 g0.frame.fn g0.frame.place #[] = #[]:=rfl;rw [e0] at hrun;have hinv:=hI.goC (g':=g') (x:={ g:=0,fn:=g0.frame.fn,pos:=g0.frame.place,act:=.go gs.size }) (y:={ g:=gs.size,fn:=child.frame.fn,pos:=g0.frame.place,act:=.start }) rfl hd ⟨rfl,rfl⟩ ⟨rfl,rfl⟩ hW hWi hk;exact ⟨_,_,hrun,h.2 _ w sl _ _ V.imm gs.size _ _ hinv rfl ⟨g',by rw [Array.getElem?_push,if_neg (by simp; have:=hI.pos; omega),Array.getElem?_setIfInBounds_self_of_lt hI.pos],h.1,rfl,rfl,rfl⟩⟩
  recv:=fun V g c Wg Ss z hr hd hs ho hst j1 j2 => MJ.recv hr hd hs hst j1 j2 }
structure Left (n0 : Nat) (W0 w : World) : Prop where
 tape : w.tape = W0.tape
 os : w.os = W0.os
 out : w.output = W0.output
 old : ∀ b,b < n0 -> w.heap[b]? = W0.heap[b]?
 size : n0 <= w.heap.size
theorem Inv.good {V : View} {gs : Array Goroutine} {w : World} {t : Trace} {K : Nat -> GS} {Im : Imm} {ic : Nat} {st : Option Stage} (h : Inv P n0 W0 V gs w t K Im ic none st) {v : Value} (hp : Post v w) (w0 : World) (sl0 : Option (Nat × Nat)) : Conc.Good P Post (crowd gs w0 sl0) (.done v) w t:=by
 obtain ⟨his,hcr,hre,hst⟩:=h.out;have hst' : st = none:=hst;refine ⟨v,rfl,hp,hcr.ti.nr,?_,⟨?_,rfl⟩,?_⟩
 ·intro i g hg hg0 ⟨x,hx,hm,hk⟩;rcases hre i x hx hm with ⟨q,z,h1,h2,h3⟩ | ⟨h1,h2⟩ | ⟨_,h1,_⟩
  ·rcases h3 with rfl | h3
   ·exfalso;simp only [Trace.g?,h1,Option.map_some,Option.some.injEq] at hg;omega
   ·exact ⟨q,by simp [Trace.g?,h1,h2],h3⟩
  ·rcases hk with hk | hk
   ·exact absurd h1 hk
   ·exact absurd hk h2
  ·rw [hst'] at h1; cases h1
 ·intro g hg;obtain ⟨i,hi⟩:=List.mem_iff_getElem?.1 hg;rw [List.getElem?_drop] at hi;have hi' : gs[1 + i]? = some g:=by simpa [crowd] using hi
  obtain ⟨q,_,hq⟩:=his (1 + i) g (by omega) hi';exact ⟨q,hq.leaves⟩
 ·intro i g hi hi0;obtain ⟨q,_,hq⟩:=his i g (by omega) hi;exact ⟨q,hq.hears _⟩
theorem MJ.end {V : View} {g : Goroutine} (hg : g.status = .running) (hr : V.role = .plain)
  (h : ∀ w,Sat V w -> Left n0 W0 w -> (∀ b,b < n0 -> V.own b = none) -> ∃ v w' es V',stepG P true g w = .ended (.done v) w' es /\ StepOk V w V' w' es /\ Post v w') : MJ P Post n0 W0 V g:=by
 refine MJ.turn hg fun gs w sl t K Im ic ph st hI hro ⟨g0,h0,hg0,hf1,hf2,hf3⟩ => .inr ?_;have hcr:=hI.out.2.1;have hsat : Sat V w:=by have:=hI.core.sat 0 hI.pos; rwa [zl8] at this
 obtain ⟨v,w',es,V',h1,h2,h3⟩:=h w hsat ⟨hcr.tape,hcr.os,hcr.out,hcr.old,hcr.n0⟩ (fun b hb => by have:=hcr.oldOwn 0 hI.pos b hb; rwa [zl8] at this);have hst : stepG P (0 == 0) g0 w = .ended (.done v) w' es:=by rw [<- h1]; exact stepG_same hf1 hf2 hf3 w
 refine ⟨_,w',_,runT_crowd_ended h0 hst,fun w0 sl0 => ?_⟩;have hph : ph = none:=by rw [hr] at hro; exact hro
 subst hph;have hinv:=hI.mainStep (g':=g0) h0 h2 hro;have hgd:=hinv.good (Post:=Post) h3 w0 sl0;obtain ⟨v',e,hp,hn,hh,hl,hd⟩:=hgd;refine ⟨v',e,hp,hn,hh,⟨?_,rfl⟩,?_⟩
 ·intro g hg';obtain ⟨i,hi⟩:=List.mem_iff_getElem?.1 hg';rw [List.getElem?_drop] at hi;have hi' : gs[1 + i]? = some g:=by simpa [crowd] using hi
  obtain ⟨q,_,hq⟩:=hI.out.1 (1 + i) g (by omega) hi';exact ⟨q,hq.leaves⟩
 ·intro i g hi hi0;obtain ⟨q,_,hq⟩:=hI.out.1 i g (by omega) hi;refine ⟨q,?_⟩;have : (t ++ MemOp.ofEvents 0 g0.frame.fn g0.frame.place es).deaf i (t ++ MemOp.ofEvents 0 g0.frame.fn g0.frame.place es).size = Deaf t i :=
   Deaf_other t (g:=i) (g':=0) (by omega) _ fun op hop => by obtain ⟨e,_,rfl⟩:=Conc.mem_ofEvents hop; rfl
  rw [this]; exact hq.hears _
theorem Inv.init (W : World) {V : View} (ho : V.own = fun _ => none) (hd : V.deaf = 0) (hs : Sat V W) (g : Goroutine) : Inv P W.heap.size W V #[g] W #[] (fun _ => .gone 0) V.imm 0 none none:=by
 have hno : ∀ i,i < (1 : Nat) -> VVof V V.imm (fun _ => .gone 0) i = V:=fun i hi => by
  obtain rfl : i = 0:=by omega
  simp [VVof]
 refine Inv.mk' (by simp) rfl (by rw [hd]; rfl) (fun i x hi hx => ?_) ⟨fun i hi => by rw [hno i hi]; exact hs,fun i j hi hj hij => ?_,?_,rfl,rfl,rfl,fun _ _ => rfl,fun i hi b _ => by rw [hno i hi,ho],Nat.le_refl _⟩ ?_ rfl
 ·exfalso;have:=(Array.getElem?_eq_some_iff.1 hx).1;simp at this; omega
 ·simp at hi hj; omega
 ·refine ⟨fun said hr => ?_,by simp,by simp,by simp,fun i _ l _ idx a ha => ?_,fun i _ l _ idx a ha => ?_,fun idx a ha => ?_⟩
  ·obtain ⟨i,j,_,⟨a,b,ha,_⟩,_⟩:=hr;obtain ⟨op,hop,_⟩:=touch_of ha;simp at hop
  ·obtain ⟨op,hop,_⟩:=touch_of ha; simp at hop
  ·obtain ⟨op,hop,_⟩:=touch_of ha; simp at hop
  ·obtain ⟨op,hop,_⟩:=touch_of ha; simp at hop
 ·intro idx a ha _;obtain ⟨op,hop,_⟩:=touch_of ha; simp at hop
theorem zgE {f : FuncId} {args : Array Value} {W : World} {V : View} {R : Out -> View -> Prop} (hi : P.inits.idxOf? f = none) (ho : V.own = fun _ => none) (hd : V.deaf = 0) (hro : V.role = .plain) (hs : Sat V W) (h : Body true P f args .normal V R)
  (hR : ∀ o V',R o V' -> V'.role = .plain /\ ∃ v,o = .ret v /\ ∀ w,Sat V' w -> Left W.heap.size W w -> Post v w) :
  ∃ M last o w' t',runNT P (M + 1) (solo (G (Frame.enter P f args .normal) []) W) #[] = (.ended o w',t') /\ runN P M (solo (G (Frame.enter P f args .normal) []) W) = .next last /\ step P last = .ended o w' /\ Conc.Good P Post last o w' t':=by
 have hJ : MJ P Post W.heap.size W V (G (Frame.enter P f args .normal) []):=by
  refine h true _ zku [] fun o V' fr r hl => ?_;obtain ⟨hr,v,rfl,hp⟩:=hR _ _ r;obtain ⟨rfl,hdf,hk,fn,hf,hm,hres⟩:=hl;refine MJ.end rfl hr fun w hw hleft hold => ?_;obtain ⟨es,w',V'',h1,h2,h3⟩:=hres.runs hw;rcases h3 with ⟨x,h3,rfl,rfl⟩ | ⟨_,_,hx⟩
  ·refine ⟨x,w',seen P fr.fn es,V'',by simp [G,stepG,unwind,doReturn,hm,hdf,hk,hf,h3,h2,GStep.after,hi],h1.seen P fr.fn,?_⟩;refine hp w' h1.sat ⟨h1.tape.trans hleft.tape,h1.os.trans hleft.os,h1.output.trans hleft.out,fun b hb => ?_,Nat.le_trans hleft.size h1.size⟩;rw [h1.frame b (Nat.lt_of_lt_of_le hb hleft.size) (hold b hb)]; exact hleft.old b hb
  ·exact hx.elim
 exact hJ.2 #[_] W none #[] _ _ _ none none (Inv.init W ho hd hs _) (by rw [hro]; rfl) ⟨_,rfl,rfl,rfl,rfl,rfl⟩
end
def nxt (P : Program) (main : Bool) (g : Goroutine) : Goroutine:=match stepG P main g default with
 | .go g' _ _ => g'
 | _ => g
def nxtE (P : Program) (main : Bool) (g : Goroutine) : Array Event:=match stepG P main g default with
 | .go _ _ es => es
 | _ => #[]
def nxts (P : Program) (main : Bool) : Nat -> Goroutine -> Goroutine
 | 0,g => g
 | n + 1,g => nxts P main n (nxt P main g)
def zhR (P : Program) (main : Bool) (w : World) : Nat -> Goroutine -> List GStep
 | 0,_ => []
 | n + 1,g => stepG P main g w :: zhR P main w n (nxt P main g)
def zkv (P : Program) (main : Bool) (w : World) : Nat -> Goroutine -> List GStep
 | 0,_ => []
 | n + 1,g => .go (nxt P main g) w (nxtE P main g) :: zkv P main w n (nxt P main g)
def isRun (g : Goroutine) : Bool:=match g.status with
 | .running => true
 | _ => false
theorem isRun.out {g : Goroutine} (h : isRun g = true) : g.status = .running:=by
 unfold isRun at h; split at h
 ·assumption
 ·cases h
def zlL (P : Program) (main : Bool) : Nat -> Goroutine -> Bool
 | 0,_ => true
 | n + 1,g => isRun g && (nxtE P main g).all Event.mute && zlL P main n (nxt P main g)
def zl0 (P : Program) (main : Bool) : Nat -> Goroutine -> Bool
 | 0,_ => true
 | n + 1,g => isRun g && (nxtE P main g).isEmpty && zl0 P main n (nxt P main g)
def zlW (P : Program) (main : Bool) : Nat -> Nat -> Goroutine -> Nat
 | 0,d,_ => d
 | n + 1,d,g => zlW P main n (deafBehind d (nxtE P main g)) (nxt P main g)
section
variable {P : Program}
theorem zew {n : Nat} {main : Bool} {g : Goroutine} (h : zlL P main (n + 1) g = true) : g.status = .running /\ (∀ e ∈ nxtE P main g,Event.mute e = true) /\ zlL P main n (nxt P main g) = true:=by
 simp only [zlL,Bool.and_eq_true] at h;exact ⟨isRun.out h.1.1,fun e he => Array.all_eq_true_iff_forall_mem.1 h.1.2 e he,h.2⟩
theorem zbT {Stop : Nat -> Goroutine -> Prop} : ∀ (n d : Nat) (g : Goroutine),(∀ w,zhR P false w n g = zkv P false w n g) -> zlL P false n g = true -> (∃ m,Slide P Stop m (zlW P false n d g) (nxts P false n g)) -> ∃ m,Slide P Stop m d g
 | 0,d,g,_,_,hs => hs
 | n + 1,d,g,h,hm,hs => by
  obtain ⟨h1,h2,h3⟩:=zew hm;obtain ⟨m,hm⟩:=zbT n _ (nxt P false g) (fun w => (List.cons.inj (h w)).2) h3 hs;exact ⟨m + 1,.inr ⟨h1,_,_,h2,fun w => (List.cons.inj (h w)).1,hm⟩⟩
theorem zgj {Wg : Nat} {Stop : Nat -> Goroutine -> Prop} : ∀ (n d : Nat) (g : Goroutine),(∀ w,zhR P false w n g = zkv P false w n g) -> zlL P false n g = true -> (∃ m,SlideW P Wg Stop m (zlW P false n d g) (nxts P false n g)) -> ∃ m,SlideW P Wg Stop m d g
 | 0,d,g,_,_,hs => hs
 | n + 1,d,g,h,hm,hs => by
  obtain ⟨h1,h2,h3⟩:=zew hm;obtain ⟨m,hm⟩:=zgj n _ (nxt P false g) (fun w => (List.cons.inj (h w)).2) h3 hs;exact ⟨m + 1,.inr ⟨h1,_,_,h2,fun w _ _ _ => (List.cons.inj (h w)).1,hm⟩⟩
theorem zen {Wg : Nat} {Stop : Nat -> Goroutine -> Prop} {d : Nat} {g g' : Goroutine} (hr : g.status = .running) (h : ∀ w x y,WgAt P Wg w x y -> stepG P false g w = .go g' w #[]) (hs : ∃ m,SlideW P Wg Stop m d g') : ∃ m,SlideW P Wg Stop m d g:=by
 obtain ⟨m,hm⟩:=hs;exact ⟨m + 1,.inr ⟨hr,g',#[],by simp,h,by simpa [deafBehind] using hm⟩⟩
theorem zd9 : ∀ (n d : Nat) (g : Goroutine),(∀ w,zhR P false w n g = zkv P false w n g) -> zlL P false n g = true -> (∃ q,QuitsD P q (zlW P false n d g) (nxts P false n g)) -> ∃ q,QuitsD P q d g
 | 0,d,g,_,_,hs => hs
 | n + 1,d,g,h,hm,hs => by
  obtain ⟨h1,h2,h3⟩:=zew hm;obtain ⟨m,hm⟩:=zd9 n _ (nxt P false g) (fun w => (List.cons.inj (h w)).2) h3 hs;exact ⟨m + 1,.inr ⟨h1,_,_,h2,fun w => (List.cons.inj (h w)).1,hm⟩⟩
theorem zer {d : Nat} {g : Goroutine} (h : g.status = .finished) (hd : d = 0) : ∃ q,QuitsD P q d g:=⟨0,h,hd⟩
theorem ziU {n : Nat} {main : Bool} {g : Goroutine} (h : zl0 P main (n + 1) g = true) : g.status = .running /\ nxtE P main g = #[] /\ zl0 P main n (nxt P main g) = true:=by
 simp only [zl0,Bool.and_eq_true] at h;exact ⟨isRun.out h.1.1,by simpa using h.1.2,h.2⟩
theorem zbX {lv main : Bool} {J : View -> Goroutine -> Prop} (C : Closed lv P main J) {V : View} : ∀ (n : Nat) (g : Goroutine),(∀ w,zhR P main w n g = zkv P main w n g) -> zl0 P main n g = true -> J V (nxts P main n g) -> J V g
 | 0,g,_,_,hs => hs
 | n + 1,g,h,hm,hs => by
  obtain ⟨h1,h2,h3⟩:=ziU hm;refine C.idle h1 (fun w => ?_) (zbX C n (nxt P main g) (fun w => (List.cons.inj (h w)).2) h3 hs);rw [(List.cons.inj (h w)).1,h2]
theorem Closed.mute {lv main : Bool} {J : View -> Goroutine -> Prop} (C : Closed lv P main J) {V : View} {g g' : Goroutine} {m : Mark} (hm : m = .disable \/ m = .enable) (hr : g.status = .running) (h : ∀ w,stepG P main g w = .go g' w #[⟨.mark m,false,true⟩]) (hJ : J { V with deaf:=deafBehind V.deaf #[⟨.mark m,false,true⟩] } g') : J V g:=by
 refine C.step _ _ hr fun w hw => ?_;have hs:=ziM (P:=P) (V:=V) (k:=(.pure () : Sem Unit)) (K:=fun _ V' => V' = { V with deaf:=deafBehind V.deaf #[⟨.mark m,false,true⟩] }) (Kp:=fun _ _ => False) hm (zan rfl);obtain ⟨es,w',V',k1,k2,k3⟩:=hs.runs hw;rcases k3 with ⟨x,k3,rfl⟩ | ⟨_,_,hx⟩
 ·have e1 : Result.ok () w = Result.ok x w':=k3;have e2 : es = #[⟨.mark m,false,true⟩]:=k2.symm;cases e1;subst e2;refine ⟨g',w,_,_,h w,?_,hJ⟩;rwa [zbe (by rcases hm with rfl | rfl <;> simp)] at k1
 ·exact hx.elim
def ready (g : Goroutine) : Option Oper:=match g with
 | { frame:={ fn:=_,tmps,todo:=.inRegion ops (i :: _) :: _,defers:=_,mode:=.run,kind,roundOf:=none },callers:=_,status:=.running,dying:=none,offers:=none } =>
  match ops[i]? with
  | some o => if Region.wanted o (yielded ops tmps) && !(kind == .early) then some o else none
  | none => none
 | _ => none
def fin (g : Goroutine) (v : Value) : Goroutine:={ g with frame:=g.frame.finish v }
theorem ready.out {g : Goroutine} {o : Oper} (h : ready g = some o) : ∃ (b : Frame) (a : Act) (ops : Array Oper) (i : Nat) (rest : List Nat) (k : List Item) (cs : List Frame),g = G (b.at a (.inRegion ops (i :: rest) :: k)) cs /\ ops[i]? = some o /\ Region.wanted o (yielded ops a.tmps) = true /\ b.kind ≠ .early /\ a.eval = g.frame.eval /\
  (∀ v,G (b.at (a.put o.dst v) (.inRegion ops rest :: k)) cs = fin g v) /\ b.fn = g.frame.fn /\ g.status = .running:=by
 unfold ready at h;split at h
 ·rename_i fn tmps ops i rest k defers kind cs;split at h
  ·rename_i o' ho;split at h
   ·rename_i hw;cases h;simp only [Bool.and_eq_true,Bool.not_eq_true',beq_eq_false_iff_ne,ne_eq] at hw;refine ⟨{ (default : Frame) with fn,kind },⟨tmps,defers⟩,ops,i,rest,k,cs,rfl,ho,hw.1,hw.2,?_,fun v => ?_,rfl,rfl⟩
    ·funext x; cases x <;> rfl
    ·unfold fin;have:=Frame.finish_at { (default : Frame) with fn,kind } ⟨tmps,defers⟩ ops i rest k v;rw [ho] at this;simp only [Frame.at,Option.bind_some] at this ⊢;rw [this]; rfl
   ·cases h
  ·cases h
 ·cases h
def callOf (g : Goroutine) : Option (FuncId × Array Value):=match ready g with
 | some { op:=.call { callee:=.value (.func f),args,.. },.. } => some (f,args.map g.frame.eval)
 | _ => none
theorem callOf.out {g : Goroutine} {f : FuncId} {vs : Array Value} (h : callOf g = some (f,vs)) : ∃ o zas ats,ready g = some o /\ o.op = .call { callee:=.value (.func f),args:=zas,argTypes:=ats } /\ zas.map g.frame.eval = vs:=by
 unfold callOf at h;split at h
 ·rename_i f' zas ats dst ty pos af gd ho;cases h;exact ⟨_,_,_,ho,rfl,rfl⟩
 ·cases h
structure Ext (P : Program) (f : FuncId) (e : Array Value -> Sem Value) : Prop where
 fn : ∃ fn, P.funcs[f]? = some fn /\ (fn.name == "runtime.NumGoroutine") = false /\ fn.body.isNone = true /\ Extern.findNext fn = none /\ Extern.find fn = some e
variable {main : Bool} {g : Goroutine} {f : FuncId} {w : World}
theorem zj7 {v d : Int} {k : IntKind} {ad : Addr} (h : callOf g = some (f,#[.pointer (some ad),.int k d])) (he : Ext P f (Extern.Atomic.update (Op.intArith .add) k true)) (hc : w.cell? ad = some (.int k v)) (hz : w.frozen? ad = false) :
  stepG P main g w = .go (fin g (.int k (k.wrap (v + d)))) (w.setCell ad (.int k (k.wrap (v + d)))) #[⟨.cell ad,false,true⟩,⟨.cell ad,true,true⟩]:=by
 obtain ⟨o,zas,ats,h1,h2,h3⟩:=callOf.out h;obtain ⟨b,a,ops,i,rest,kk,cs,e,q1,q2,q3,q4,q5,q6,_⟩:=ready.out h1;obtain ⟨fn,f1,f2,f3,f4,f5⟩:=he.fn;rw [<- q4] at h3;rw [<- q5];refine Eq.trans (congrArg (fun x => stepG P main x w) e) ?_;exact stepG_entry q1 q2 q3 h2 f1 f2 f3 f4 f5 (by rw [h3]; exact run_add_entry hc hz) (by rw [h3,events_add_entry hc hz]; rfl) (sync_rw ad)
theorem zfs {v : Int} {k : IntKind} {ad : Addr} (h : callOf g = some (f,#[.pointer (some ad)])) (he : Ext P f (Extern.Atomic.loadT (.int k))) (hc : w.cell? ad = some (.int k v)) :
  stepG P main g w = .go (fin g (.int k v)) w #[⟨.cell ad,false,true⟩]:=by
 obtain ⟨o,zas,ats,h1,h2,h3⟩:=callOf.out h;obtain ⟨b,a,ops,i,rest,kk,cs,e,q1,q2,q3,q4,q5,q6,_⟩:=ready.out h1;obtain ⟨fn,f1,f2,f3,f4,f5⟩:=he.fn;rw [<- q4] at h3;rw [<- q5];refine Eq.trans (congrArg (fun x => stepG P main x w) e) ?_;obtain ⟨x,rfl⟩ : ∃ x,zas = #[x]:=by
  have : zas.size = 1:=by have:=congrArg Array.size h3; simpa using this
  exact Array.size_eq_one_iff.1 this
 exact stepG_load_atomic q1 q2 q3 h2 f1 f2 f3 f4 k f5 (by simpa using h3) hc
theorem zj5 {v : Int} {u : Value} {k : IntKind} {ad : Addr} (h : callOf g = some (f,#[.pointer (some ad),.int k v])) (he : Ext P f Extern.Atomic.storeT) (hc : w.cell? ad = some u) (hz : w.frozen? ad = false) :
  stepG P main g w = .go (fin g (.tuple #[])) (w.setCell ad (.int k v)) #[⟨.cell ad,true,true⟩]:=by
 obtain ⟨o,zas,ats,h1,h2,h3⟩:=callOf.out h;obtain ⟨b,a,ops,i,rest,kk,cs,e,q1,q2,q3,q4,q5,q6,_⟩:=ready.out h1;obtain ⟨fn,f1,f2,f3,f4,f5⟩:=he.fn;rw [<- q4] at h3;rw [<- q5];refine Eq.trans (congrArg (fun x => stepG P main x w) e) ?_;obtain ⟨x,y,rfl⟩ : ∃ x y,zas = #[x,y]:=by
  have : zas.toList.length = 2:=by have:=congrArg Array.size h3; simpa using this
  obtain ⟨l⟩:=zas
  match l,this with
  | [x,y],_ => exact ⟨x,y,rfl⟩
 have h3' : a.eval x = .pointer (some ad) /\ a.eval y = .int k v:=by simpa using h3
 exact stepG_store_atomic q1 q2 q3 h2 f1 f2 f3 f4 f5 h3'.1 h3'.2 hc hz
theorem ziK {v n : Int} {k : IntKind} {ad : Addr} (h : callOf g = some (f,#[.pointer (some ad),.int k v,.int k n])) (he : Ext P f (Extern.Atomic.casT (.int k))) (hc : w.cell? ad = some (.int k v)) (hz : w.frozen? ad = false) :
  stepG P main g w = .go (fin g (.bool true)) (w.setCell ad (.int k n)) #[⟨.cell ad,false,true⟩,⟨.cell ad,true,true⟩]:=by
 obtain ⟨o,zas,ats,h1,h2,h3⟩:=callOf.out h;obtain ⟨b,a,ops,i,rest,kk,cs,e,q1,q2,q3,q4,q5,q6,_⟩:=ready.out h1;obtain ⟨fn,f1,f2,f3,f4,f5⟩:=he.fn;rw [<- q4] at h3;rw [<- q5];refine Eq.trans (congrArg (fun x => stepG P main x w) e) ?_;exact stepG_entry q1 q2 q3 h2 f1 f2 f3 f4 f5 (by rw [h3,casT_eq]; exact run_cas_hit_entry hc hz) (by rw [h3,casT_eq,events_cas_hit_entry hc hz]; rfl) (sync_rw ad)
theorem zhc {v old n : Int} {k : IntKind} {ad : Addr} (h : callOf g = some (f,#[.pointer (some ad),.int k old,.int k n])) (he : Ext P f (Extern.Atomic.casT (.int k))) (hc : w.cell? ad = some (.int k v)) (hz : w.frozen? ad = false) (hne : ¬ v = old) :
  stepG P main g w = .go (fin g (.bool false)) w #[⟨.cell ad,false,true⟩]:=by
 obtain ⟨o,zas,ats,h1,h2,h3⟩:=callOf.out h;obtain ⟨b,a,ops,i,rest,kk,cs,e,q1,q2,q3,q4,q5,q6,_⟩:=ready.out h1;obtain ⟨fn,f1,f2,f3,f4,f5⟩:=he.fn;rw [<- q4] at h3;rw [<- q5];refine Eq.trans (congrArg (fun x => stepG P main x w) e) ?_;exact stepG_entry q1 q2 q3 h2 f1 f2 f3 f4 f5 (by rw [h3,casT_eq]; exact run_cas_miss_entry hc hz hne) (by rw [h3,casT_eq,events_cas_miss_entry hc hz hne]; rfl) (sync_r ad)
theorem zfq {n : Int} {x y : Value} {ad : Addr} (h : callOf g = some (f,#[.pointer (some ad),x,y])) (he : Ext P f Extern.Sync.semrelease) (hc : w.cell? ad = some (.int .u32 n)) (hz : w.frozen? ad = false) :
  stepG P main g w = .go (fin g (.tuple #[])) (w.setCell ad (.int .u32 (IntKind.u32.wrap (n + 1)))) (semEvents ad):=by
 obtain ⟨o,zas,ats,h1,h2,h3⟩:=callOf.out h;obtain ⟨b,a,ops,i,rest,kk,cs,e,q1,q2,q3,q4,q5,q6,_⟩:=ready.out h1;obtain ⟨fn,f1,f2,f3,f4,f5⟩:=he.fn;rw [<- q4] at h3;rw [<- q5];refine Eq.trans (congrArg (fun x => stepG P main x w) e) ?_;exact stepG_semrelease q1 q2 q3 h2 f1 f2 f3 f4 f5 (by rw [h3]; rfl) hc hz
theorem zfr {n : Int} {x : Value} {ad : Addr} (h : callOf g = some (f,#[.pointer (some ad),x])) (he : Ext P f Extern.Sync.semacquire) (hc : w.cell? ad = some (.int .u32 n)) (hn : n ≠ 0) (hz : w.frozen? ad = false) :
  stepG P main g w = .go (fin g (.tuple #[])) (w.setCell ad (.int .u32 (n - 1))) (semEvents ad):=by
 obtain ⟨o,zas,ats,h1,h2,h3⟩:=callOf.out h;obtain ⟨b,a,ops,i,rest,kk,cs,e,q1,q2,q3,q4,q5,q6,_⟩:=ready.out h1;obtain ⟨fn,f1,f2,f3,f4,f5⟩:=he.fn;rw [<- q4] at h3;rw [<- q5];refine Eq.trans (congrArg (fun x => stepG P main x w) e) ?_;exact stepG_semacquire q1 q2 q3 h2 f1 f2 f3 f4 f5 (by rw [h3]; rfl) hc hn hz
theorem ziJ {x : Value} {ad : Addr} (h : callOf g = some (f,#[.pointer (some ad),x])) (he : Ext P f Extern.Sync.semacquire) (hc : w.cell? ad = some (.int .u32 0)) :
  stepG P main g w = .go { g with status:=.blocked } w #[]:=by
 obtain ⟨o,zas,ats,h1,h2,h3⟩:=callOf.out h;obtain ⟨b,a,ops,i,rest,kk,cs,e,q1,q2,q3,q4,q5,q6,_⟩:=ready.out h1;obtain ⟨fn,f1,f2,f3,f4,f5⟩:=he.fn;rw [<- q4] at h3;rw [e];exact stepG_semacquire_wait q1 q2 h2 f1 f2 f3 f4 f5 (by rw [h3]; rfl) hc
theorem zde {ad : Addr} (mk : Addr -> Mark) (hm : ∀ ad g,mk ad ≠ .extern g) (h : callOf g = some (f,#[.pointer (some ad)])) (he : Ext P f (Extern.Race.marked mk)) :
  stepG P main g w = .go (fin g (.tuple #[])) w #[⟨.mark (mk ad),false,true⟩]:=by
 obtain ⟨o,zas,ats,h1,h2,h3⟩:=callOf.out h;obtain ⟨b,a,ops,i,rest,kk,cs,e,q1,q2,q3,q4,q5,q6,_⟩:=ready.out h1;obtain ⟨fn,f1,f2,f3,f4,f5⟩:=he.fn;rw [<- q4] at h3;rw [<- q5];refine Eq.trans (congrArg (fun x => stepG P main x w) e) ?_;exact stepG_markAt mk hm q1 q2 q3 h2 f1 f2 f3 f4 f5 (by rw [h3]; rfl)
def zl9 (g : Goroutine) : Option (TypeId × TypeId × Value):=match ready g with
 | some { op:=.convert s d x,.. } => some (s,d,g.frame.eval x)
 | _ => none
theorem zdd {src dst t : TypeId} {ad : Addr} {v : Value} (h : zl9 g = some (src,dst,.pointer (some ad))) (hs : P.underlying src = some (.pointer t)) (hd : P.underlying dst = some .unsafePointer) (hsz : (P.info? t).map (fun i => decide (i.size = 0)) = some false) (hc : w.cell? ad = some v) :
  stepG P main g w = .go (fin g (.pointer (some ad))) w #[]:=by
 obtain ⟨o,x,h1,h2,h3⟩ : ∃ o x,ready g = some o /\ o.op = .convert src dst x /\ g.frame.eval x = .pointer (some ad):=by
  unfold zl9 at h;split at h
  ·rename_i s d x _ _ _ _ ho;simp only [Option.some.injEq,Prod.mk.injEq] at h;obtain ⟨rfl,rfl,h⟩:=h;exact ⟨_,x,ho,rfl,h⟩
  ·cases h
 obtain ⟨b,a,ops,i,rest,kk,cs,e,q1,q2,q3,q4,q5,q6,_⟩:=ready.out h1;rw [<- q4] at h3;rw [<- q5];refine Eq.trans (congrArg (fun x => stepG P main x w) e) ?_;have hr : (execOp a.eval o).run P w = .ok (.value (.pointer (some ad))) w:=by
  unfold execOp;simp only [h2,h3];simp [run_convert_to_unsafe hs hd hsz hc]
 have hev : (execOp a.eval o).events P w #[] = #[]:=by
  unfold execOp;simp only [h2,h3];simp [events_convert_to_unsafe hs hd hsz hc]
 rw [stepG_value q1 q2 q3 hr];unfold listed;rw [hev,seen_none]
end
open Go.Proofs
section
variable {P : Program}
theorem zdF {Stop : Nat -> Goroutine -> Prop} {d : Nat} {g g' : Goroutine} {es : Array Event} (hr : g.status = .running) (hm : ∀ e ∈ es,Event.mute e = true) (h : ∀ w,stepG P false g w = .go g' w es) (hs : ∃ m,Slide P Stop m (deafBehind d es) g') : ∃ m,Slide P Stop m d g:=by
 obtain ⟨m,hs⟩:=hs;exact ⟨m + 1,.inr ⟨hr,g',es,hm,h,hs⟩⟩
theorem zd6 {main : Bool} {g : Goroutine} {f : FuncId} {w : World} {m : Mark} (hm : ∀ g,m ≠ .extern g) (h : callOf g = some (f,#[])) (he : Ext P f (fun _ => do mark m; pure Extern.Race.none_)) : stepG P main g w = .go (fin g (.tuple #[])) w #[⟨.mark m,false,true⟩]:=by
 obtain ⟨o,xs,ats,h1,h2,h3⟩:=callOf.out h;obtain ⟨b,a,ops,i,rest,kk,cs,e,q1,q2,q3,q4,q5,q6,_⟩:=ready.out h1;obtain ⟨fn,f1,f2,f3,f4,f5⟩:=he.fn;rw [<- q4] at h3;rw [<- q5];refine Eq.trans (congrArg (fun x => stepG P main x w) e) ?_;exact stepG_mark0 m hm q1 q2 q3 h2 f1 f2 f3 f4 f5
theorem zj6 {main : Bool} {g : Goroutine} {f : FuncId} {w : World} {v : Value} {vs : Array Value} (h : callOf g = some (f,vs)) (he : Ext P f (fun _ => pure v)) : stepG P main g w = .go (fin g v) w #[]:=by
 obtain ⟨o,xs,ats,h1,h2,h3⟩:=callOf.out h;obtain ⟨b,a,ops,i,rest,kk,cs,e,q1,q2,q3,q4,q5,q6,_⟩:=ready.out h1;obtain ⟨fn,f1,f2,f3,f4,f5⟩:=he.fn;rw [<- q5];refine Eq.trans (congrArg (fun x => stepG P main x w) e) ?_;exact stepG_entry_pure v q1 q2 q3 h2 f1 f2 f3 f4 f5
theorem WgAt.st {Wg : Nat} {w : World} {st sm : Int} (h : WgAt P Wg w st sm) : w.cell? ⟨Wg,0,none⟩ = some (.int .u64 st) /\ w.cell? ⟨Wg,1,none⟩ = some (.int .u32 sm) /\ w.frozen? ⟨Wg,0,none⟩ = false /\ w.frozen? ⟨Wg,1,none⟩ = false:=by
 unfold WgAt zjD at h;refine ⟨?_,?_,?_,?_⟩ <;> simp [World.cell?,World.frozen?,h]
theorem zev {m : Mark} (hm : m = .disable \/ m = .enable) : ∀ e ∈ (#[⟨.mark m,false,true⟩] : Array Event),Event.mute e = true:=by
 intro e he;simp only [List.mem_toArray,List.mem_cons,List.not_mem_nil,or_false] at he;subst he;rcases hm with rfl | rfl <;> rfl
end
set_option maxRecDepth 100000
theorem e169 : Ext Try.prog 57 (Extern.Race.marked .releaseMerge):=⟨⟨Try.f57,by kernel_rfl,by kernel_rfl,by kernel_rfl,by kernel_rfl,by kernel_rfl⟩⟩
theorem e170 : Ext Try.prog 58 (fun _ => do mark .disable; pure Extern.Race.none_):=⟨⟨Try.f58,by kernel_rfl,by kernel_rfl,by kernel_rfl,by kernel_rfl,by kernel_rfl⟩⟩
theorem e171 : Ext Try.prog 59 (fun _ => do mark .enable; pure Extern.Race.none_):=⟨⟨Try.f59,by kernel_rfl,by kernel_rfl,by kernel_rfl,by kernel_rfl,by kernel_rfl⟩⟩
theorem e172 : Ext Try.prog 60 (fun _ => pure (.bool false)):=⟨⟨Try.f60,by kernel_rfl,by kernel_rfl,by kernel_rfl,by kernel_rfl,by kernel_rfl⟩⟩
theorem e177 : Ext Try.prog 65 (Extern.Race.marked .read):=⟨⟨Try.f65,by kernel_rfl,by kernel_rfl,by kernel_rfl,by kernel_rfl,by kernel_rfl⟩⟩
theorem e181 : Ext Try.prog 69 Extern.Sync.semrelease:=⟨⟨Try.f69,by kernel_rfl,by kernel_rfl,by kernel_rfl,by kernel_rfl,by kernel_rfl⟩⟩
theorem e182 : Ext Try.prog 71 (Extern.Race.marked .acquire):=⟨⟨Try.f71,by kernel_rfl,by kernel_rfl,by kernel_rfl,by kernel_rfl,by kernel_rfl⟩⟩
theorem e185 : Ext Try.prog 74 (Extern.Race.marked .write):=⟨⟨Try.f74,by kernel_rfl,by kernel_rfl,by kernel_rfl,by kernel_rfl,by kernel_rfl⟩⟩
theorem e186 : Ext Try.prog 75 Extern.Sync.semacquire:=⟨⟨Try.f75,by kernel_rfl,by kernel_rfl,by kernel_rfl,by kernel_rfl,by kernel_rfl⟩⟩
theorem e188 : Ext Try.prog 77 (Extern.Atomic.update (Op.intArith .add) .u64 true):=⟨⟨Try.f77,by kernel_rfl,by kernel_rfl,by kernel_rfl,by kernel_rfl,by kernel_rfl⟩⟩
theorem e189 : Ext Try.prog 78 (Extern.Atomic.loadT (.int .u64)):=⟨⟨Try.f78,by kernel_rfl,by kernel_rfl,by kernel_rfl,by kernel_rfl,by kernel_rfl⟩⟩
theorem e190 : Ext Try.prog 79 Extern.Atomic.storeT:=⟨⟨Try.f79,by kernel_rfl,by kernel_rfl,by kernel_rfl,by kernel_rfl,by kernel_rfl⟩⟩
theorem e191 : Ext Try.prog 80 (Extern.Atomic.casT (.int .u64)):=⟨⟨Try.f80,by kernel_rfl,by kernel_rfl,by kernel_rfl,by kernel_rfl,by kernel_rfl⟩⟩
theorem u189 : Try.prog.underlying 130 = some (.pointer 117):=by kernel_rfl
theorem u191 : Try.prog.underlying 132 = some .unsafePointer:=by kernel_rfl
theorem i182 : (Try.prog.info? 117).map (fun i => decide (i.size = 0)) = some false:=by kernel_rfl
noncomputable def rootF : Frame:={ (default : Frame) with fn:=101,defers:=[],mode:=.panicking [goexitEntry] }
noncomputable def retF (fn : FuncId) (tmps : Array Value) (todo : List Item) : Frame:={ fn,tmps,todo,defers:=[],mode:=.returning,kind:=.deferred,roundOf:=none }
noncomputable def pW (Wg o : Nat) : Value:=.pointer (some ⟨Wg,o,none⟩)
section
variable (Wg : Nat) (tmps : Array Value) (todo : List Item)
noncomputable def d0 : Goroutine:=G (Frame.enter Try.prog 47 #[pW Wg 0] .deferred) [retF 46 tmps todo,rootF]
noncomputable def d14 : Goroutine:=nxts Try.prog false 14 (d0 Wg tmps todo)
noncomputable def d15 : Goroutine:=fin (d14 Wg tmps todo) (pW Wg 0)
noncomputable def d16 : Goroutine:=fin (d15 Wg tmps todo) (.tuple #[])
noncomputable def d19 : Goroutine:=nxts Try.prog false 3 (d16 Wg tmps todo)
noncomputable def d20 : Goroutine:=fin (d19 Wg tmps todo) (.tuple #[])
noncomputable def d31 : Goroutine:=nxts Try.prog false 11 (d20 Wg tmps todo)
noncomputable def d32 : Goroutine:=fin (d31 Wg tmps todo) (.bool false)
noncomputable def d54 : Goroutine:=nxts Try.prog false 22 (d32 Wg tmps todo)
noncomputable def d55 (s : Int) : Goroutine:=fin (d54 Wg tmps todo) (.int .u64 s)
noncomputable def d158 : Goroutine:=nxts Try.prog false 103 (d55 Wg tmps todo 1)
noncomputable def d159 : Goroutine:=fin (d158 Wg tmps todo) (.int .u64 1)
noncomputable def d179 : Goroutine:=nxts Try.prog false 20 (d159 Wg tmps todo)
noncomputable def d180 : Goroutine:=fin (d179 Wg tmps todo) (.tuple #[])
noncomputable def d207 : Goroutine:=nxts Try.prog false 27 (d180 Wg tmps todo)
noncomputable def d208 : Goroutine:=fin (d207 Wg tmps todo) (.tuple #[])
set_option maxRecDepth 100000
variable (w : World)
theorem x0 : (zhR Try.prog false w 14 (d0 Wg tmps todo),zl0 Try.prog false 14 (d0 Wg tmps todo),isRun (d14 Wg tmps todo),isRun (d15 Wg tmps todo)) = (zkv Try.prog false w 14 (d0 Wg tmps todo),true,true,true):=by kernel_rfl
theorem x14 : zl9 (d14 Wg tmps todo) = some (130,132,pW Wg 0):=by kernel_rfl
theorem x15 : callOf (d15 Wg tmps todo) = some (57,#[pW Wg 0]):=by kernel_rfl
theorem x16 : (zhR Try.prog false w 3 (d16 Wg tmps todo),zlL Try.prog false 3 (d16 Wg tmps todo),isRun (d19 Wg tmps todo),zlW Try.prog false 3 0 (d16 Wg tmps todo)) = (zkv Try.prog false w 3 (d16 Wg tmps todo),true,true,0):=by kernel_rfl
theorem x19 : callOf (d19 Wg tmps todo) = some (58,#[]):=by kernel_rfl
theorem x20 : (zhR Try.prog false w 11 (d20 Wg tmps todo),zlL Try.prog false 11 (d20 Wg tmps todo),isRun (d31 Wg tmps todo),zlW Try.prog false 11 1 (d20 Wg tmps todo)) = (zkv Try.prog false w 11 (d20 Wg tmps todo),true,true,1):=by kernel_rfl
theorem x31 : callOf (d31 Wg tmps todo) = some (60,#[]):=by kernel_rfl
theorem x32 : (zhR Try.prog false w 22 (d32 Wg tmps todo),zlL Try.prog false 22 (d32 Wg tmps todo),isRun (d54 Wg tmps todo),zlW Try.prog false 22 1 (d32 Wg tmps todo)) = (zkv Try.prog false w 22 (d32 Wg tmps todo),true,true,1):=by kernel_rfl
theorem x54 : callOf (d54 Wg tmps todo) = some (77,#[pW Wg 0,.int .u64 18446744069414584320]):=by kernel_rfl
theorem q30 : (zhR Try.prog false w 94 (d55 Wg tmps todo (3 * 4294967296)),zlL Try.prog false 94 (d55 Wg tmps todo (3 * 4294967296)),(nxts Try.prog false 94 (d55 Wg tmps todo (3 * 4294967296))).status,zlW Try.prog false 94 1 (d55 Wg tmps todo (3 * 4294967296))) = (zkv Try.prog false w 94 (d55 Wg tmps todo (3 * 4294967296)),true,.finished,0):=by kernel_rfl
theorem q31 : (zhR Try.prog false w 94 (d55 Wg tmps todo (3 * 4294967296 + 1)),zlL Try.prog false 94 (d55 Wg tmps todo (3 * 4294967296 + 1)),(nxts Try.prog false 94 (d55 Wg tmps todo (3 * 4294967296 + 1))).status,zlW Try.prog false 94 1 (d55 Wg tmps todo (3 * 4294967296 + 1))) = (zkv Try.prog false w 94 (d55 Wg tmps todo (3 * 4294967296 + 1)),true,.finished,0):=by kernel_rfl
theorem q20 : (zhR Try.prog false w 94 (d55 Wg tmps todo (2 * 4294967296)),zlL Try.prog false 94 (d55 Wg tmps todo (2 * 4294967296)),(nxts Try.prog false 94 (d55 Wg tmps todo (2 * 4294967296))).status,zlW Try.prog false 94 1 (d55 Wg tmps todo (2 * 4294967296))) = (zkv Try.prog false w 94 (d55 Wg tmps todo (2 * 4294967296)),true,.finished,0):=by kernel_rfl
theorem q21 : (zhR Try.prog false w 94 (d55 Wg tmps todo (2 * 4294967296 + 1)),zlL Try.prog false 94 (d55 Wg tmps todo (2 * 4294967296 + 1)),(nxts Try.prog false 94 (d55 Wg tmps todo (2 * 4294967296 + 1))).status,zlW Try.prog false 94 1 (d55 Wg tmps todo (2 * 4294967296 + 1))) = (zkv Try.prog false w 94 (d55 Wg tmps todo (2 * 4294967296 + 1)),true,.finished,0):=by kernel_rfl
theorem q10 : (zhR Try.prog false w 94 (d55 Wg tmps todo (1 * 4294967296)),zlL Try.prog false 94 (d55 Wg tmps todo (1 * 4294967296)),(nxts Try.prog false 94 (d55 Wg tmps todo (1 * 4294967296))).status,zlW Try.prog false 94 1 (d55 Wg tmps todo (1 * 4294967296))) = (zkv Try.prog false w 94 (d55 Wg tmps todo (1 * 4294967296)),true,.finished,0):=by kernel_rfl
theorem q11 : (zhR Try.prog false w 94 (d55 Wg tmps todo (1 * 4294967296 + 1)),zlL Try.prog false 94 (d55 Wg tmps todo (1 * 4294967296 + 1)),(nxts Try.prog false 94 (d55 Wg tmps todo (1 * 4294967296 + 1))).status,zlW Try.prog false 94 1 (d55 Wg tmps todo (1 * 4294967296 + 1))) = (zkv Try.prog false w 94 (d55 Wg tmps todo (1 * 4294967296 + 1)),true,.finished,0):=by kernel_rfl
theorem q00 : (zhR Try.prog false w 94 (d55 Wg tmps todo 0),zlL Try.prog false 94 (d55 Wg tmps todo 0),(nxts Try.prog false 94 (d55 Wg tmps todo 0)).status,zlW Try.prog false 94 1 (d55 Wg tmps todo 0)) = (zkv Try.prog false w 94 (d55 Wg tmps todo 0),true,.finished,0):=by kernel_rfl
theorem x55 : (zhR Try.prog false w 103 (d55 Wg tmps todo 1),zlL Try.prog false 103 (d55 Wg tmps todo 1),isRun (d158 Wg tmps todo),zlW Try.prog false 103 1 (d55 Wg tmps todo 1)) = (zkv Try.prog false w 103 (d55 Wg tmps todo 1),true,true,1):=by kernel_rfl
theorem x158 : callOf (d158 Wg tmps todo) = some (78,#[pW Wg 0]):=by kernel_rfl
theorem x159 : (zhR Try.prog false w 20 (d159 Wg tmps todo),zlL Try.prog false 20 (d159 Wg tmps todo),isRun (d179 Wg tmps todo),zlW Try.prog false 20 1 (d159 Wg tmps todo)) = (zkv Try.prog false w 20 (d159 Wg tmps todo),true,true,1):=by kernel_rfl
theorem x179 : callOf (d179 Wg tmps todo) = some (79,#[pW Wg 0,.int .u64 0]):=by kernel_rfl
theorem x180 : (zhR Try.prog false w 27 (d180 Wg tmps todo),zlL Try.prog false 27 (d180 Wg tmps todo),isRun (d207 Wg tmps todo),zlW Try.prog false 27 1 (d180 Wg tmps todo)) = (zkv Try.prog false w 27 (d180 Wg tmps todo),true,true,1):=by kernel_rfl
theorem x207 : callOf (d207 Wg tmps todo) = some (69,#[pW Wg 1,.bool false,.int .i64 0]):=by kernel_rfl
theorem x208 : (zhR Try.prog false w 24 (d208 Wg tmps todo),zlL Try.prog false 24 (d208 Wg tmps todo),(nxts Try.prog false 24 (d208 Wg tmps todo)).status,zlW Try.prog false 24 1 (d208 Wg tmps todo)) = (zkv Try.prog false w 24 (d208 Wg tmps todo),true,.finished,0):=by kernel_rfl
theorem xm : mayWake Try.prog (d207 Wg tmps todo) = true:=by kernel_rfl
end
section
variable (Wg : Nat) (tmps : Array Value) (todo : List Item)
theorem prj {α β γ δ : Type} {a a' : α} {b b' : β} {c c' : γ} {d d' : δ} (h : (a,b,c,d) = (a',b',c',d')) : a = a' /\ b = b' /\ c = c' /\ d = d':=by
 simpa [Prod.mk.injEq] using h
theorem zbz {s : Int} (h : ∀ w,(zhR Try.prog false w 94 (d55 Wg tmps todo s),zlL Try.prog false 94 (d55 Wg tmps todo s),(nxts Try.prog false 94 (d55 Wg tmps todo s)).status,zlW Try.prog false 94 1 (d55 Wg tmps todo s)) = (zkv Try.prog false w 94 (d55 Wg tmps todo s),true,.finished,0)) : ∃ q,QuitsD Try.prog q 1 (d55 Wg tmps todo s) :=
 zd9 94 1 _ (fun w => (prj (h w)).1) (prj (h default)).2.1 (zer (prj (h default)).2.2.1 (prj (h default)).2.2.2)
theorem zpX : DSem Try.prog Wg 1 (d207 Wg tmps todo):=by
 refine ⟨rfl,isRun.out (prj (x180 Wg tmps todo default)).2.2.1,xm Wg tmps todo,d208 Wg tmps todo,fun w hw => ?_,?_⟩
 ·exact zfq (n:=0) (x207 Wg tmps todo) e181 hw.st.2.1 hw.st.2.2.2
 ·exact zd9 24 1 _ (fun w => (prj (x208 Wg tmps todo w)).1) (prj (x208 Wg tmps todo default)).2.1 (zer (prj (x208 Wg tmps todo default)).2.2.1 (prj (x208 Wg tmps todo default)).2.2.2)
theorem zjo : zn5 Try.prog Wg 1 (d179 Wg tmps todo):=by
 refine ⟨rfl,isRun.out (prj (x159 Wg tmps todo default)).2.2.1,d180 Wg tmps todo,fun w hw => ?_,?_⟩
 ·exact zj5 (x179 Wg tmps todo) e190 hw.st.1 hw.st.2.2.1
 ·refine zbT 27 1 _ (fun w => (prj (x180 Wg tmps todo w)).1) (prj (x180 Wg tmps todo default)).2.1 ?_;rw [(prj (x180 Wg tmps todo default)).2.2.2];exact ⟨0,zpX Wg tmps todo⟩
theorem zkQ : zqr Try.prog Wg 1 (d158 Wg tmps todo):=by
 refine ⟨rfl,isRun.out (prj (x55 Wg tmps todo default)).2.2.1,d159 Wg tmps todo,fun w hw => ?_,?_⟩
 ·exact zfs (x158 Wg tmps todo) e189 hw.st.1
 ·refine zbT 20 1 _ (fun w => (prj (x159 Wg tmps todo w)).1) (prj (x159 Wg tmps todo default)).2.1 ?_;rw [(prj (x159 Wg tmps todo default)).2.2.2];exact ⟨0,zjo Wg tmps todo⟩
theorem zpY : DAdd Try.prog Wg 1 (d54 Wg tmps todo):=by
 refine ⟨rfl,isRun.out (prj (x32 Wg tmps todo default)).2.2.1,fun v wt hwt hv => ⟨d55 Wg tmps todo ((v : Int) * KK + wt),fun w hw => ?_,fun h => ?_,fun h => ?_⟩⟩
 ·have e : IntKind.u64.wrap ((((v + 1 : Nat) : Int) * KK + wt) + 18446744069414584320) = (v : Int) * KK + wt:=by
   have h1 : IntKind.u64.bits = 64:=rfl;have h2 : IntKind.u64.signed = false:=rfl;unfold IntKind.wrap KK;rw [h1,h2];simp;omega
  have:=zj7 (P:=Try.prog) (main:=false) (w:=w) (x54 Wg tmps todo) e188 hw.st.1 hw.st.2.2.1;rw [e] at this;exact this
 ·obtain ⟨rfl,rfl⟩:=h;refine zbT 103 1 _ (fun w => (prj (x55 Wg tmps todo w)).1) (prj (x55 Wg tmps todo default)).2.1 ?_;have e:=(prj (x55 Wg tmps todo default)).2.2.2;exact ⟨0,by rw [show (((0 : Nat) : Int) * KK + ((1 : Nat) : Int)) = 1 from rfl,e]; exact zkQ Wg tmps todo⟩
 ·have hv4 : v = 0 \/ v = 1 \/ v = 2 \/ v = 3:=by omega
  have hw2 : wt = 0 \/ wt = 1:=by omega
  rcases hv4 with rfl | rfl | rfl | rfl <;> rcases hw2 with rfl | rfl
  ·exact zbz Wg tmps todo (q00 Wg tmps todo)
  ·exact absurd ⟨rfl,rfl⟩ h
  ·exact zbz Wg tmps todo (q10 Wg tmps todo)
  ·exact zbz Wg tmps todo (q11 Wg tmps todo)
  ·exact zbz Wg tmps todo (q20 Wg tmps todo)
  ·exact zbz Wg tmps todo (q21 Wg tmps todo)
  ·exact zbz Wg tmps todo (q30 Wg tmps todo)
  ·exact zbz Wg tmps todo (q31 Wg tmps todo)
theorem zfR : zmR Try.prog Wg (d15 Wg tmps todo):=by
 refine ⟨isRun.out (prj (x0 Wg tmps todo default)).2.2.2,d16 Wg tmps todo,fun w => zde .releaseMerge (fun _ _ h => by cases h) (x15 Wg tmps todo) e169,?_⟩;refine zbT 3 0 _ (fun w => (prj (x16 Wg tmps todo w)).1) (prj (x16 Wg tmps todo default)).2.1 ?_;rw [(prj (x16 Wg tmps todo default)).2.2.2];refine zdF (g:=d19 Wg tmps todo) (g':=d20 Wg tmps todo) (isRun.out (prj (x16 Wg tmps todo default)).2.2.1) (zev (.inl rfl)) (fun w => zd6 (fun _ h => by cases h) (x19 Wg tmps todo) e170) ?_;refine zbT 11 1 (d20 Wg tmps todo) (fun w => (prj (x20 Wg tmps todo w)).1) (prj (x20 Wg tmps todo default)).2.1 ?_;rw [(prj (x20 Wg tmps todo default)).2.2.2];refine zdF (es:=#[]) (g:=d31 Wg tmps todo) (g':=d32 Wg tmps todo) (isRun.out (prj (x20 Wg tmps todo default)).2.2.1) (by simp) (fun w => zj6 (x31 Wg tmps todo) e172) ?_;refine zbT 22 1 (d32 Wg tmps todo) (fun w => (prj (x32 Wg tmps todo w)).1) (prj (x32 Wg tmps todo default)).2.1 ?_;rw [(prj (x32 Wg tmps todo default)).2.2.2];exact ⟨0,zpY Wg tmps todo⟩
theorem zhK {J : View -> Goroutine -> Prop} (C : Closed0 Try.prog false J) {V : View} {c : Nat} (hr : V.role = .work c Wg []) (hd : V.deaf = 0) : J V (d0 Wg tmps todo):=by
 have C' : Closed false Try.prog false J:={ C with more:=fun h => by cases h };have hx:=prj (x0 Wg tmps todo default);refine zbX C' 14 _ (fun w => (prj (x0 Wg tmps todo w)).1) hx.2.1 ?_;refine C.slip V _ (d15 Wg tmps todo) c Wg hr (isRun.out hx.2.2.1) (fun w st hw hW => ?_) (C.done V _ c Wg hr hd (zfR Wg tmps todo));exact zdd (x14 Wg tmps todo) u189 u191 i182 hW.st.1
end
section
variable (Wg : Nat) (cs : List Frame) (main : Bool)
noncomputable def a0 : Goroutine:=G (Frame.enter Try.prog 45 #[pW Wg 0,.int .i64 1] .normal) cs
noncomputable def a12 : Goroutine:=nxts Try.prog main 12 (a0 Wg cs)
noncomputable def a13 : Goroutine:=fin (a12 Wg cs main) (.tuple #[])
noncomputable def a24 : Goroutine:=nxts Try.prog main 11 (a13 Wg cs main)
noncomputable def a25 : Goroutine:=fin (a24 Wg cs main) (.bool false)
noncomputable def a47 : Goroutine:=nxts Try.prog main 22 (a25 Wg cs main)
noncomputable def a48 (s : Int) : Goroutine:=fin (a47 Wg cs main) (.int .u64 s)
noncomputable def a135 (s : Int) : Goroutine:=nxts Try.prog main 87 (a48 Wg cs main s)
noncomputable def a100 : Goroutine:=nxts Try.prog main 52 (a48 Wg cs main 4294967296)
noncomputable def a101 : Goroutine:=fin (a100 Wg cs main) (pW Wg 1)
noncomputable def a102 : Goroutine:=fin (a101 Wg cs main) (.tuple #[])
noncomputable def a141 : Goroutine:=nxts Try.prog main 39 (a102 Wg cs main)
set_option maxRecDepth 100000
variable (w : World)
theorem y0 : (zhR Try.prog main w 12 (a0 Wg cs),zl0 Try.prog main 12 (a0 Wg cs),isRun (a12 Wg cs main),callOf (a12 Wg cs main)) = (zkv Try.prog main w 12 (a0 Wg cs),true,true,some (58,#[])):=by kernel_rfl
theorem y13 : (zhR Try.prog main w 11 (a13 Wg cs main),zl0 Try.prog main 11 (a13 Wg cs main),isRun (a24 Wg cs main),callOf (a24 Wg cs main)) = (zkv Try.prog main w 11 (a13 Wg cs main),true,true,some (60,#[])):=by kernel_rfl
theorem y25 : (zhR Try.prog main w 22 (a25 Wg cs main),zl0 Try.prog main 22 (a25 Wg cs main),isRun (a47 Wg cs main),callOf (a47 Wg cs main)) = (zkv Try.prog main w 22 (a25 Wg cs main),true,true,some (77,#[pW Wg 0,.int .u64 4294967296])):=by kernel_rfl
noncomputable def lv1 (g : Goroutine) : GStep × FrameMode × Nat × CallKind × List Deferred × Bool:=(.go (nxt Try.prog main g) w #[⟨.mark .enable,false,true⟩],(nxt Try.prog main g).frame.mode,(nxt Try.prog main g).frame.fn,(nxt Try.prog main g).frame.kind,(nxt Try.prog main g).frame.defers,isRun (nxt Try.prog main g))
theorem zqN : (zhR Try.prog main w 87 (a48 Wg cs main (2 * 4294967296)),zl0 Try.prog main 87 (a48 Wg cs main (2 * 4294967296)),isRun (a135 Wg cs main (2 * 4294967296)),lv1 main w (a135 Wg cs main (2 * 4294967296))) = (zkv Try.prog main w 87 (a48 Wg cs main (2 * 4294967296)),true,true,stepG Try.prog main (a135 Wg cs main (2 * 4294967296)) w,.returning,45,.normal,[],true):=by kernel_rfl
theorem zqM : (zhR Try.prog main w 87 (a48 Wg cs main (3 * 4294967296)),zl0 Try.prog main 87 (a48 Wg cs main (3 * 4294967296)),isRun (a135 Wg cs main (3 * 4294967296)),lv1 main w (a135 Wg cs main (3 * 4294967296))) = (zkv Try.prog main w 87 (a48 Wg cs main (3 * 4294967296)),true,true,stepG Try.prog main (a135 Wg cs main (3 * 4294967296)) w,.returning,45,.normal,[],true):=by kernel_rfl
theorem zqL : (zhR Try.prog main w 87 (a48 Wg cs main (4 * 4294967296)),zl0 Try.prog main 87 (a48 Wg cs main (4 * 4294967296)),isRun (a135 Wg cs main (4 * 4294967296)),lv1 main w (a135 Wg cs main (4 * 4294967296))) = (zkv Try.prog main w 87 (a48 Wg cs main (4 * 4294967296)),true,true,stepG Try.prog main (a135 Wg cs main (4 * 4294967296)) w,.returning,45,.normal,[],true):=by kernel_rfl
theorem y48_1 : (zhR Try.prog main w 52 (a48 Wg cs main 4294967296),zl0 Try.prog main 52 (a48 Wg cs main 4294967296),isRun (a100 Wg cs main),zl9 (a100 Wg cs main)) = (zkv Try.prog main w 52 (a48 Wg cs main 4294967296),true,true,some (137,132,pW Wg 1)):=by kernel_rfl
theorem y101 : callOf (a101 Wg cs main) = some (65,#[pW Wg 1]):=by kernel_rfl
theorem y102 : (zhR Try.prog main w 39 (a102 Wg cs main),zl0 Try.prog main 39 (a102 Wg cs main),isRun (a141 Wg cs main),lv1 main w (a141 Wg cs main)) = (zkv Try.prog main w 39 (a102 Wg cs main),true,true,stepG Try.prog main (a141 Wg cs main) w,.returning,45,.normal,[],true):=by kernel_rfl
theorem yr1 : isRun (a101 Wg cs main) = true:=by kernel_rfl
theorem u196 : ∃ t,Try.prog.underlying 137 = some (.pointer t) /\ (Try.prog.info? t).map (fun i => decide (i.size = 0)) = some false:=⟨115,by kernel_rfl,by kernel_rfl⟩
theorem f162r : ∃ fn,Try.prog.funcs[45]? = some fn /\ fn.results = #[]:=⟨Try.f45,by kernel_rfl,by kernel_rfl⟩
end
section
variable {P : Program} {V : View}
theorem zj2 {w : World} {b o : Nat} {v : Value} {c : Array Value} {el : TypeId} (hw : Sat V w) (ho : V.own b = some (.cells c el (0,0))) (hi' : V.imm b o = none) (hgc : V.role.chan ≠ some b) :
  StepOk V w (V.upd b (.cells (c.setIfInBounds o v) el (0,0))) (w.setCell ⟨b,o,none⟩ v) #[⟨.cell ⟨b,o,none⟩,false,true⟩,⟨.cell ⟨b,o,none⟩,true,true⟩]:=by
 refine ⟨hw.upd_cells ho hi',rfl,rfl,rfl,by rw [zlj]; exact Nat.le_refl _,fun b' hb' e => zaM _ _ _ (fun x => ?_),fun b' hb' e => ?_,fun _ _ _ e => e,fun _ _ _ e => .inl e,fun ev hev => ?_,by simp [deafBehind]; rfl,rfl,fun c' x hc' e => by rw [<- e]; simp only [View.upd,ite_eq_right_iff]; intro x'; subst x'; exact absurd hc' hgc,fun ev hev => ?_⟩
 ·have x' : b = b':=x;subst x'; rw [ho] at e; cases e
 ·have : b' ≠ b:=by intro x; subst x; rw [ho] at e; cases e
  simp only [View.upd,this,if_false]; exact e
 ·simp only [List.mem_toArray,List.mem_cons,List.not_mem_nil,or_false] at hev;rcases hev with rfl | rfl
  ·exact ⟨.inr (.inl (by show V.own b ≠ none; rw [ho]; simp)),.inl rfl⟩
  ·exact ⟨.inr ⟨by show V.own b ≠ none; rw [ho]; simp,hi'⟩,.inl rfl⟩
 ·simp only [List.mem_toArray,List.mem_cons,List.not_mem_nil,or_false] at hev;rcases hev with rfl | rfl <;> (show b < _; rw [zlj]; exact hw.lt ho)
theorem Closed.said {lv main : Bool} {J : View -> Goroutine -> Prop} (C : Closed lv P main J) {g g' : Goroutine} {a : Addr} (hr : g.status = .running) (ha : V.own a.block ≠ none /\ V.imm a.block a.off = none) (h : ∀ w,stepG P main g w = .go g' w #[⟨.mark (.read a),false,true⟩]) (hJ : J V g') : J V g:=by
 refine C.step _ _ hr fun w hw => ?_;have hs:=ziL (P:=P) (V:=V) (k:=(.pure () : Sem Unit)) (K:=fun _ V' => V' = V) (Kp:=fun _ _ => False) (m:=.read a) (.inl rfl) ha (zan rfl);obtain ⟨es,w',V',k1,k2,k3⟩:=hs.runs hw;rcases k3 with ⟨x,k3,rfl⟩ | ⟨_,_,hx⟩
 ·have e1 : Result.ok () w = Result.ok x w':=k3;have e2 : es = #[⟨.mark (.read a),false,true⟩]:=k2.symm;cases e1;subst e2;refine ⟨g',w,_,_,h w,?_,hJ⟩;rwa [zbe (by simp)] at k1
 ·exact hx.elim
end
inductive End where
 | exact
 | shut
 | opn (k : Nat)
 deriving DecidableEq
inductive AV where
 | val (x : Value)
 | agg (l : List AV)
 | tup (l : List AV)
 | sl (n : Nat) (l : List AV) (e : End)
 | osl (id off n cap : Nat)
 | rp (l : List AV)
 | op (id off : Nat)
 | fn (f : Fn) (first caps : List AV)
 | ifc (t : TypeId) (x : AV)
 | mp (id : Nat)
structure Env where
 I : Imm
 n : Nat
 blk : Nat -> Nat
 room : Nat -> Nat -> Option Addr × Nat
 ver : Nat -> Nat
 fr : Nat -> Option Obj
 main : Bool
structure Env.Le (E E' : Env) : Prop where
 I : ∀ b o v,E.I b o = some v -> E'.I b o = some v
 n : E.n <= E'.n
 blk : ∀ k,k < E.n -> E'.blk k = E.blk k
 ver : ∀ k,k < E.n -> E.ver k <= E'.ver k
 room : ∀ k v,k < E.n -> v <= E.ver k -> E'.room k v = E.room k v
 fr : E'.fr = E.fr
 main : E'.main = E.main
theorem Env.Le.refl (E : Env) : E.Le E:=⟨fun _ _ _ h => h,Nat.le_refl _,fun _ _ => rfl,fun _ _ => Nat.le_refl _,fun _ _ _ _ => rfl,rfl,rfl⟩
theorem Env.Le.trans {E E' E'' : Env} (h : E.Le E') (k : E'.Le E'') : E.Le E'' :=
 ⟨fun b o v e => k.I b o v (h.I b o v e),Nat.le_trans h.n k.n,fun i hi => (k.blk i (Nat.lt_of_lt_of_le hi h.n)).trans (h.blk i hi),fun i hi => Nat.le_trans (h.ver i hi) (k.ver i (Nat.lt_of_lt_of_le hi h.n)),
  fun i v hi hv => (k.room i v (Nat.lt_of_lt_of_le hi h.n) (Nat.le_trans hv (h.ver i hi))).trans (h.room i v hi hv),k.fr.trans h.fr,k.main.trans h.main⟩
def EndOk (E : Env) (e : End) (a : Option Addr) (n cap : Nat) : Prop:=match e with
 | .exact => cap = n
 | .shut => True
 | .opn k => k < E.n /\ n <= E.ver k /\ E.room k n = (a,cap)
inductive Den (E : Env) : AV -> Value -> Prop
 | val (x : Value) : Den E (.val x) x
 | agg {l : List AV} {cs : Array Value} (hs : cs.size = l.length) (h : ∀ (i : Nat) a,l[i]? = some a -> Den E a (cs.getD i undef)) : Den E (.agg l) (.agg cs)
 | tup {l : List AV} {cs : Array Value} (hs : cs.size = l.length) (h : ∀ (i : Nat) a,l[i]? = some a -> Den E a (cs.getD i undef)) : Den E (.tup l) (.tuple cs)
 | sl {n : Nat} {l : List AV} {e : End} (b o cap : Nat) (f : Nat -> Value) (hc : n <= cap) (he : EndOk E e (some ⟨b,o,none⟩) n cap)
   (h1 : ∀ i,i < l.length -> E.I b (o + i) = some (f i)) (h2 : ∀ (i : Nat) x,l[i]? = some x -> Den E x (f i)) : Den E (.sl n l e) (.slice (some ⟨b,o,none⟩) n cap)
 | nil {e : End} {a : Option Addr} (he : EndOk E e a 0 0) : Den E (.sl 0 [] e) (.slice a 0 0)
 | osl {id off n cap cap' : Nat} (hi : id < E.n) (hcap : n <= cap' /\ (n <= cap -> cap = cap') /\ (cap < n -> cap' <= (E.room id 0).2)) : Den E (.osl id off n cap) (.slice (some ⟨E.blk id,off,none⟩) n cap')
 | rp {l : List AV} (b o : Nat) (f : Nat -> Value) (h1 : ∀ i,i < l.length -> E.I b (o + i) = some (f i)) (h2 : ∀ (i : Nat) x,l[i]? = some x -> Den E x (f i)) : Den E (.rp l) (.pointer (some ⟨b,o,none⟩))
 | op {id off : Nat} (hi : id < E.n) : Den E (.op id off) (.pointer (some ⟨E.blk id,off,none⟩))
 | fn {f : Fn} {first caps : List AV} {fa ca : Array Value} (hs1 : fa.size = first.length) (hs2 : ca.size = caps.length) (h1 : ∀ (i : Nat) a,first[i]? = some a -> Den E a (fa.getD i undef)) (h2 : ∀ (i : Nat) a,caps[i]? = some a -> Den E a (ca.getD i undef)) : Den E (.fn f first caps) (.func f fa ca)
 | ifc {t : TypeId} {x : AV} {v : Value} (h : Den E x v) : Den E (.ifc t x) (.iface t v)
 | mp {id : Nat} (hi : id < E.n) : Den E (.mp id) (.map (some (E.blk id)))
theorem EndOk.mono {E E' : Env} (h : E.Le E') {e : End} {a : Option Addr} {n cap : Nat} (k : EndOk E e a n cap) : EndOk E' e a n cap:=by
 cases e with
 | exact => exact k
 | shut => trivial
 | opn i => exact ⟨Nat.lt_of_lt_of_le k.1 h.n,Nat.le_trans k.2.1 (h.ver i k.1),by rw [h.room i n k.1 k.2.1]; exact k.2.2⟩
theorem Den.mono {E E' : Env} (h : E.Le E') {a : AV} {v : Value} (d : Den E a v) : Den E' a v:=by
 induction d with
 | val x => exact .val x
 | agg hs _ ih => exact .agg hs ih
 | tup hs _ ih => exact .tup hs ih
 | sl b o cap f hc he h1 _ ih => exact .sl b o cap f hc (he.mono h) (fun i hi => h.I _ _ _ (h1 i hi)) ih
 | nil he => exact .nil (he.mono h)
 | osl hi hcap => rw [<- h.blk _ hi]; exact .osl (Nat.lt_of_lt_of_le hi h.n) ⟨hcap.1,hcap.2.1,fun e => by rw [h.room _ 0 hi (Nat.zero_le _)]; exact hcap.2.2 e⟩
 | rp b o f h1 _ ih => exact .rp b o f (fun i hi => h.I _ _ _ (h1 i hi)) ih
 | op hi => rw [<- h.blk _ hi]; exact .op (Nat.lt_of_lt_of_le hi h.n)
 | fn hs1 hs2 _ _ ih1 ih2 => exact .fn hs1 hs2 ih1 ih2
 | ifc _ ih => exact .ifc ih
 | mp hi => rw [<- h.blk _ hi]; exact .mp (Nat.lt_of_lt_of_le hi h.n)
def AV.leaf : AV -> Bool
 | .agg _ | .tup _ => false
 | .val x => x.one
 | _ => true
inductive AObj where
 | cells (l : List AV) (elem : TypeId)
 | part (p : Nat) (l : List AV) (elem : TypeId)
 | own (sz : Nat) (l : List AV) (elem : TypeId)
 | tail (n sz : Nat) (elem : TypeId)
 | obj (x : Obj)
 | iter (m since : Nat) (seen : Array Nat) (stepped : Nat)
 | loop (r : Nat) (st : LoopState) (pend : Option Code) (fn : FuncId) (T : List (Nat × AV)) (nt : Nat) (ps : Array Tmp) (asg body : Code) (df : Nat)
 | gone
 | main
def look : List (Nat × AV) -> Nat -> Option AV
 | [],_ => none
 |(k,a) :: l,t => if k = t then some a else look l t
def TOk (E : Env) (T : List (Nat × AV)) (tmps : Array Value) : Prop:=∀ t a,look T t = some a -> t < tmps.size /\ Den E a (tmps.getD t undef)
theorem TOk.mono {E E' : Env} (h : E.Le E') {T : List (Nat × AV)} {tmps : Array Value} (k : TOk E T tmps) : TOk E' T tmps:=fun t a e => ⟨(k t a e).1,(k t a e).2.mono h⟩
theorem TOk.put {E : Env} {T : List (Nat × AV)} {tmps : Array Value} (k : TOk E T tmps) {d : Nat} (hd : d < tmps.size) {a : AV} {v : Value} (hv : Den E a v) : TOk E ((d,a) :: T) (tmps.setIfInBounds d v):=by
 intro t x e;simp only [look] at e;by_cases h : d = t
 ·subst h;rw [if_pos rfl] at e; cases e;exact ⟨by simpa using hd,by simpa [Array.getD_eq_getD_getElem?,Array.getElem?_setIfInBounds_self_of_lt hd] using hv⟩
 ·rw [if_neg h] at e;have:=k t x e;exact ⟨by simpa using this.1,by simpa [Array.getD_eq_getD_getElem?,Array.getElem?_setIfInBounds_ne h] using this.2⟩
def Denl (E : Env) (l : List AV) (cs : Array Value) : Prop:=cs.size = l.length /\ ∀ (i : Nat) a,l[i]? = some a -> Den E a (cs.getD i undef)
theorem Denl.mono {E E' : Env} (h : E.Le E') {l : List AV} {cs : Array Value} (d : Denl E l cs) : Denl E' l cs:=⟨d.1,fun i a e => (d.2 i a e).mono h⟩
def Denp (E : Env) (l : List AV) (cs : Array Value) : Prop:=l.length <= cs.size /\ ∀ (i : Nat) a,l[i]? = some a -> Den E a (cs.getD i undef)
theorem Denp.mono {E E' : Env} (h : E.Le E') {l : List AV} {cs : Array Value} (d : Denp E l cs) : Denp E' l cs:=⟨d.1,fun i a e => (d.2 i a e).mono h⟩
theorem Denl.p {E : Env} {l : List AV} {cs : Array Value} (d : Denl E l cs) : Denp E l cs:=⟨Nat.le_of_eq d.1.symm,d.2⟩
def zfE (E : Env) (k : Nat) : AObj -> Option Nat
 | .tail n _ _ => if (E.room k n).2 = n then none else (E.room k n).1.map (·.block)
 | .gone | .main => none
 | _ => some (E.blk k)
def ObjOk (E : Env) (V : View) (k : Nat) : AObj -> Prop
 | .cells l elem => (∃ cs,V.own (E.blk k) = some (.cells cs elem (0,0)) /\ Denl E l cs) /\ ∀ o,V.imm (E.blk k) o = none
 | .part p l elem => (∃ cs,V.own (E.blk k) = some (.cells cs elem (0,0)) /\ Denp E l cs /\ ∀ o,o < p -> V.imm (E.blk k) o = cs[o]?) /\ ∀ o,p <= o -> V.imm (E.blk k) o = none
 | .own sz l elem => (∃ cs,V.own (E.blk k) = some (.cells cs elem (0,0)) /\ Denp E l cs /\ cs.size = (E.room k 0).2 * sz) /\ ∀ o,V.imm (E.blk k) o = none
 | .tail n sz elem => E.ver k = n /\ ((E.room k n).2 = n \/ ∃ b cap cs,E.room k n = (some ⟨b,0,none⟩,cap) /\ V.own b = some (.cells cs elem (0,0)) /\ cs.size = cap * sz /\ n < cap /\ ∀ o,n * sz <= o -> V.imm b o = none)
 | .obj x => V.own (E.blk k) = some x /\ x.isCells = false /\ x.isChan = false /\ ∀ o,V.imm (E.blk k) o = none
 | .iter m since seen stepped => m < E.n /\ V.own (E.blk k) = some (.mapIter (some (E.blk m)) since seen stepped) /\ ∀ o,V.imm (E.blk k) o = none
 | .loop r st pend fn T nt ps asg body df => (∃ tmps,V.own (E.blk k) = some (.loop { state:=st,pending:=pend,fn,tmps,params:=ps,assign:=asg,body,defers:=E.blk df }) /\ tmps.size = nt /\ TOk E T tmps) /\ df < E.n /\ (∀ o,V.imm (E.blk k) o = none) /\ E.blk k = r
 | .gone => True
 | .main => E.main = true
structure Conc (E : Env) (V : View) (H : List AObj) : Prop where
 I : E.I = V.imm
 n : E.n = H.length
 obj : ∀ k x,H[k]? = some x -> ObjOk E V k x
 inj : ∀ i j x y b,H[i]? = some x -> H[j]? = some y -> zfE E i x = some b -> zfE E j y = some b -> i = j
 group : ∀ g,V.role.group = some g -> V.own g ≠ none /\ (∀ o,V.imm g o = none) /\ ∀ (k : Nat) x,H[k]? = some x -> zfE E k x ≠ some g
 chan : ∀ c,V.role.chan = some c -> V.own c ≠ none /\ (∀ o,V.imm c o = none) /\ ∀ (k : Nat) x,H[k]? = some x -> zfE E k x ≠ some c
 top : E.main = true -> V.role = .plain /\ V.deaf = 0
 fr : ∀ b y,E.fr b = some y -> V.own b = some y /\ (∀ o,V.imm b o = none) /\ ∀ (k : Nat) x,H[k]? = some x -> zfE E k x ≠ some b
structure AS where
 T : List (Nat × AV)
 H : List AObj
def AS.Le (s s' : AS) : Prop:=(∀ t a,look s'.T t = some a -> look s.T t = some a) /\ s'.H = s.H
def AV.of : Value -> AV
 | .agg cs => .agg (cs.toList.map fun | .slice none 0 0 => .sl 0 [] .exact | v => .val v)
 | .slice none 0 0 => .sl 0 [] .exact
 | v => .val v
def AV.of1 : Value -> AV
 | .slice none 0 0 => .sl 0 [] .exact
 | v => .val v
theorem zhL (E : Env) (v : Value) : Den E (AV.of1 v) v:=by
 unfold AV.of1;split
 ·exact .nil rfl
 ·exact .val _
theorem zeL (E : Env) (v : Value) : Den E (AV.of v) v:=by
 unfold AV.of;split
 ·rename_i cs;refine .agg (by simp) fun i a h => ?_;rw [List.getElem?_map] at h;obtain ⟨x,hx,rfl⟩:=Option.map_eq_some_iff.1 h;have : cs[i]? = some x:=by simpa using hx
  rw [Array.getD_eq_getD_getElem?,this];exact zhL E x
 ·exact .nil rfl
 ·exact .val _
def AS.ev (s : AS) : Operand -> Option AV
 | .tmp t => look s.T t
 | .const v => some (AV.of v)
 | .func f => some (.fn (.func f) [] [])
 | .global _ => none
theorem Den.ev {E : Env} {s : AS} {a : Act} (k : TOk E s.T a.tmps) {x : Operand} {av : AV} (h : s.ev x = some av) : Den E av (a.eval x):=by
 cases x with
 | tmp t => exact (k t av h).2
 | const v => cases h; exact zeL E v
 | func f => cases h; exact .fn rfl rfl (by simp) (by simp)
 | global g => cases h
theorem ObjOk.blk_own {E : Env} {V : View} {k : Nat} {x : AObj} (h : ObjOk E V k x) {b : Nat} (hb : zfE E k x = some b) : ∃ y,V.own b = some y:=by
 cases x with
 | cells l el => cases hb; obtain ⟨⟨cs,h1,_⟩,_⟩:=h; exact ⟨_,h1⟩
 | part p l el => cases hb; obtain ⟨⟨cs,h1,_⟩,_⟩:=h; exact ⟨_,h1⟩
 | own p l el => cases hb; obtain ⟨⟨cs,h1,_⟩,_⟩:=h; exact ⟨_,h1⟩
 | tail n sz el =>
  obtain ⟨hv,h | ⟨b',cap,cs,h1,h2,h3,h4,h5⟩⟩:=h
  ·simp only [zfE,h,if_true] at hb; cases hb
  ·simp only [zfE,h1] at hb;rw [if_neg (by omega)] at hb;cases hb; exact ⟨_,h2⟩
 | obj x => cases hb; exact ⟨_,h.1⟩
 | iter m since seen stepped => cases hb; exact ⟨_,h.2.1⟩
 | loop => cases hb; obtain ⟨⟨tmps,h1,_⟩,_⟩:=h; exact ⟨_,h1⟩
 | gone => cases hb
 | main => cases hb
theorem zjw {E E' : Env} (hl : E.Le E') {k : Nat} (hk : k < E.n) {x : AObj} {V : View} (h : ObjOk E V k x) : zfE E' k x = zfE E k x:=by
 cases x with
 | tail n sz el => simp only [zfE]; rw [hl.room k n hk (Nat.le_of_eq h.1.symm)]
 | gone => rfl
 | main => rfl
 | _ => simp only [zfE,hl.blk k hk]
theorem ObjOk.mono {E E' : Env} {V V' : View} {k : Nat} {x : AObj} (h : ObjOk E V k x) (hl : E.Le E') (hk : k < E.n) (hver : E'.ver k = E.ver k)
  (ho : ∀ b y,zfE E k x = some b -> V.own b = some y -> V'.own b = some y) (hi : ∀ b,zfE E k x = some b -> ∀ o,V'.imm b o = V.imm b o) : ObjOk E' V' k x:=by
 cases x with
 | cells l el =>
  obtain ⟨⟨cs,h1,h2⟩,h3⟩:=h;simp only [ObjOk,hl.blk k hk];exact ⟨⟨cs,ho _ _ rfl h1,h2.mono hl⟩,fun o => (hi _ rfl o).trans (h3 o)⟩
 | part p l el =>
  obtain ⟨⟨cs,h1,h2,h4⟩,h3⟩:=h;simp only [ObjOk,hl.blk k hk];exact ⟨⟨cs,ho _ _ rfl h1,h2.mono hl,fun o hp => (hi _ rfl o).trans (h4 o hp)⟩,fun o hp => (hi _ rfl o).trans (h3 o hp)⟩
 | own sz l el =>
  obtain ⟨⟨cs,h1,h2,h4⟩,h3⟩:=h;simp only [ObjOk,hl.blk k hk,hl.room k 0 hk (Nat.zero_le _)];exact ⟨⟨cs,ho _ _ rfl h1,h2.mono hl,h4⟩,fun o => (hi _ rfl o).trans (h3 o)⟩
 | tail n sz el =>
  obtain ⟨hv,h⟩:=h;simp only [ObjOk,hver,hl.room k n hk (Nat.le_of_eq hv.symm)];refine ⟨hv,?_⟩;rcases h with h | ⟨b',cap,cs,h1,h2,h3,h4,h5⟩
  ·exact .inl h
  ·have hb : zfE E k (.tail n sz el) = some b':=(by simp only [zfE,h1]; rw [if_neg (by omega)]; rfl);exact .inr ⟨b',cap,cs,h1,ho _ _ hb h2,h3,h4,fun o hm => (hi _ hb o).trans (h5 o hm)⟩
 | obj x =>
  obtain ⟨h1,h2,h4,h3⟩:=h;simp only [ObjOk,hl.blk k hk];exact ⟨ho _ _ rfl h1,h2,h4,fun o => (hi _ rfl o).trans (h3 o)⟩
 | iter m since seen stepped =>
  obtain ⟨h0,h1,h2⟩:=h;simp only [ObjOk,hl.blk k hk,hl.blk m h0];exact ⟨Nat.lt_of_lt_of_le h0 hl.n,ho _ _ rfl h1,fun o => (hi _ rfl o).trans (h2 o)⟩
 | loop r st pend fn T nt ps asg body df =>
  obtain ⟨⟨tmps,h1,h2,h3⟩,h4,h5,h6⟩:=h;simp only [ObjOk,hl.blk k hk,hl.blk df h4];exact ⟨⟨tmps,ho _ _ rfl h1,h2,h3.mono hl⟩,Nat.lt_of_lt_of_le h4 hl.n,fun o => (hi _ rfl o).trans (h5 o),h6⟩
 | gone => trivial
 | main => exact hl.main.trans h
theorem Conc.turn {E E' : Env} {V V' : View} {H H' : List AObj} (hc : Conc E V H) (k : Nat) (x' : AObj) (hle : E.Le E') (hI : E'.I = V'.imm) (hn : E'.n = H'.length)
  (hH : ∀ (j : Nat) y,H'[j]? = some y -> (j = k /\ y = x') \/ (j ≠ k /\ H[j]? = some y)) (hr : V'.role = V.role)
  (hver : ∀ j,j ≠ k -> j < E.n -> E'.ver j = E.ver j)
  (ho : ∀ b y,(∀ x,H[k]? = some x -> zfE E k x ≠ some b) -> V.own b = some y -> V'.own b = some y /\ ∀ o,V'.imm b o = V.imm b o)
  (hx : ObjOk E' V' k x') (hb : ∀ b,zfE E' k x' = some b -> (∃ x,H[k]? = some x /\ zfE E k x = some b) \/ V.own b = none) (hdf : V'.deaf = V.deaf:=by rfl) : Conc E' V' H':=by
 have hlt : ∀ (j : Nat) y,H[j]? = some y -> j < E.n:=fun j y h => by rw [hc.n]; exact (List.getElem?_eq_some_iff.1 h).1
 have hbl : ∀ (j : Nat) y b,H[j]? = some y -> zfE E' j y = some b -> zfE E j y = some b:=fun j y b h e => by rw [<- zjw hle (hlt j y h) (hc.obj j y h)]; exact e
 have hother : ∀ (j : Nat) y b,j ≠ k -> H[j]? = some y -> zfE E j y = some b -> ∀ x,H[k]? = some x -> zfE E k x ≠ some b:=fun j y b hj h1 h2 x h3 h4 => hj (hc.inj j k y x b h1 h3 h2 h4);have hg : ∀ (j : Nat) y,H'[j]? = some y -> ∀ g,V.own g ≠ none -> (∀ (i : Nat) x,H[i]? = some x -> zfE E i x ≠ some g) -> zfE E' j y ≠ some g:=fun j y h g hog hno e => by
  rcases hH j y h with ⟨rfl,rfl⟩ | ⟨hj,h⟩
  ·rcases hb g e with ⟨x,h1,h2⟩ | h2
   ·exact hno _ x h1 h2
   ·exact hog h2
  ·exact hno j y h (hbl j y g h e)
 have hk : ∀ g,V.own g ≠ none -> (∀ (i : Nat) x,H[i]? = some x -> zfE E i x ≠ some g) -> V'.own g ≠ none /\ ∀ o,V'.imm g o = V.imm g o:=fun g hog hno => by
  cases e : V.own g with
  | none => exact absurd e hog
  | some y =>
   have:=ho g y (fun x hx => hno k x hx) e;exact ⟨by rw [this.1]; simp,this.2⟩
 refine ⟨hI,hn,fun j y h => ?_,fun i j y z b h1 h2 e1 e2 => ?_,fun g hgr' => ?_,fun c hch => ?_,fun hm => (by rw [hr,hdf]; exact hc.top (by rw [<- hle.main]; exact hm)),fun b y hfr => ?_⟩
 ·rcases hH j y h with ⟨rfl,rfl⟩ | ⟨hj,h⟩
  ·exact hx
  ·have hob:=hc.obj j y h;refine hob.mono hle (hlt j y h) (hver j hj (hlt j y h)) (fun b z hbk hz => ?_) (fun b hbk o => ?_)
   ·exact (ho b z (hother j y b hj h hbk) hz).1
   ·obtain ⟨z,hz⟩:=hob.blk_own hbk;exact (ho b z (hother j y b hj h hbk) hz).2 o
 ·have new : ∀ (j : Nat) y,j ≠ k -> H[j]? = some y -> zfE E' j y = some b -> zfE E' k x' ≠ some b:=fun j y hj h e e' => by
   have e:=hbl j y b h e;rcases hb b e' with ⟨x,hx1,hx2⟩ | h1
   ·exact hj (hc.inj j k y x b h hx1 e hx2)
   ·obtain ⟨q,hq⟩:=(hc.obj j y h).blk_own e;rw [h1] at hq; cases hq
  rcases hH i y h1 with ⟨rfl,rfl⟩ | ⟨hi,h1⟩ <;> rcases hH j z h2 with ⟨rfl,rfl⟩ | ⟨hj,h2⟩
  ·rfl
  ·exact absurd e1 (new j z hj h2 e2)
  ·exact absurd e2 (new i y hi h1 e1)
  ·exact hc.inj i j y z b h1 h2 (hbl i y b h1 e1) (hbl j z b h2 e2)
 ·rw [hr] at hgr';obtain ⟨h0,h1,h2⟩:=hc.group g hgr';exact ⟨(hk g h0 h2).1,fun o => ((hk g h0 h2).2 o).trans (h1 o),fun j y h => hg j y h g h0 h2⟩
 ·rw [hr] at hch;obtain ⟨h0,h1,h2⟩:=hc.chan c hch;exact ⟨(hk c h0 h2).1,fun o => ((hk c h0 h2).2 o).trans (h1 o),fun j y h => hg j y h c h0 h2⟩
 ·rw [hle.fr] at hfr;obtain ⟨h0,h1,h2⟩:=hc.fr b y hfr;have h0' : V.own b ≠ none:=by rw [h0]; simp
  exact ⟨(ho b y (fun x hx => h2 k x hx) h0).1,fun o => ((hk b h0' h2).2 o).trans (h1 o),fun j z h => hg j z h b h0' h2⟩
theorem zaF {α : Type} {H : List α} {k : Nat} {x' : α} : ∀ (j : Nat) y,(H.set k x')[j]? = some y -> (j = k /\ y = x') \/ (j ≠ k /\ H[j]? = some y):=fun j y h => by
 by_cases hj : j = k
 ·subst hj;rw [List.getElem?_set_self' ] at h;cases e : H[j]? with
  | none => rw [e] at h; cases h
  | some z => rw [e] at h; exact .inl ⟨rfl,by simpa using h.symm⟩
 ·rw [List.getElem?_set_ne (Ne.symm hj)] at h;exact .inr ⟨hj,h⟩
theorem zcj {α : Type} {H : List α} {x' : α} : ∀ (j : Nat) y,(H ++ [x'])[j]? = some y -> (j = H.length /\ y = x') \/ (j ≠ H.length /\ H[j]? = some y):=fun j y h => by
 by_cases hk : j < H.length
 ·rw [List.getElem?_append_left hk] at h; exact .inr ⟨by omega,h⟩
 ·rw [List.getElem?_append_right (by omega)] at h;have hk' : j - H.length = 0:=by
   have:=(List.getElem?_eq_some_iff.1 h).1; simpa using this
  rw [hk'] at h;exact .inl ⟨by omega,by simpa using h.symm⟩
theorem Conc.notGroup {E : Env} {V : View} {H : List AObj} (hc : Conc E V H) {k : Nat} {x : AObj} (hk : H[k]? = some x) {b : Nat} (hb : zfE E k x = some b) : V.role.group ≠ some b /\ V.role.chan ≠ some b :=
 ⟨fun e => (hc.group b e).2.2 k x hk hb,fun e => (hc.chan b e).2.2 k x hk hb⟩
theorem Conc.immNotGroup {E : Env} {V : View} {H : List AObj} (hc : Conc E V H) {b o : Nat} {v : Value} (h : E.I b o = some v) : V.role.group ≠ some b /\ V.role.chan ≠ some b :=
 ⟨fun e => (by have:=(hc.group b e).2.1 o; rw [<- hc.I,h] at this; cases this),fun e => (by have:=(hc.chan b e).2.1 o; rw [<- hc.I,h] at this; cases this)⟩
def AS.put (s : AS) (dst : Option Nat) (av : AV) : AS:=match dst with
 | some d => ⟨(d,av) :: s.T,s.H⟩
 | none => s
theorem TOk.putd {E : Env} {s : AS} {a : Act} (k : TOk E s.T a.tmps) {dst : Option Nat} (hd : ∀ d,dst = some d -> d < a.tmps.size) {av : AV} {v : Value} (hv : Den E av v) : TOk E (s.put dst av).T (a.put dst v).tmps:=by
 cases dst with
 | none => exact k
 | some d => exact TOk.put k (hd d rfl) hv
theorem zbx (s : AS) (dst : Option Nat) (av : AV) : (s.put dst av).H = s.H:=by cases dst <;> rfl
theorem zaA (a : Act) (dst : Option Nat) (v : Value) : (a.put dst v).tmps.size = a.tmps.size:=by cases dst <;> simp [Act.put]
theorem zaw (a : Act) (dst : Option Nat) (v : Value) : (a.put dst v).defers = a.defers:=by cases dst <;> rfl
structure Kept (E E' : Env) (V V' : View) (a a' : Act) : Prop where
 le : E.Le E'
 size : a'.tmps.size = a.tmps.size
 defers : a'.defers = a.defers
 role : V'.role = V.role
 deaf : V'.deaf = V.deaf
def Step (lv : Bool) (P : Program) (r : Option Nat) (o : Oper) (s : AS) (next : AS -> Prop) (bad : AV -> AS -> Prop) : Prop :=
 ∀ (E : Env) (V : View) (a : Act) (N : Act -> View -> Prop) (Q : Ex -> Act -> View -> Prop),Conc E V s.H -> TOk E s.T a.tmps -> (∀ d,o.dst = some d -> d < a.tmps.size) -> (r = none \/ zk9 o.op = false) ->
  (∀ E' V' a' s',Kept E E' V V' a a' -> Conc E' V' s'.H -> TOk E' s'.T a'.tmps -> next s' -> N a' V') ->
  (∀ E' V' s' pv v,Kept E E' V V' a a -> Conc E' V' s'.H -> TOk E' s'.T a.tmps -> Den E' pv v -> bad pv s' -> Q (.panic [{ v,recovered:=false }]) a V') -> OpWP lv P r o a V N Q
def QStep (lv : Bool) (P : Program) (r : Option Nat) (o : Oper) (s : AS) (av : AV) : Prop :=
 ∀ (E : Env) (V : View) (a : Act) (N : Act -> View -> Prop) (Q : Ex -> Act -> View -> Prop),Conc E V s.H -> TOk E s.T a.tmps -> (r = none \/ zk9 o.op = false) ->
  (∀ E' V' v,E.Le E' -> V'.role = V.role -> V'.deaf = V.deaf -> Conc E' V' s.H -> Den E' av v -> N (a.put o.dst v) V') -> OpWP lv P r o a V N Q
section
variable {lv : Bool} {P : Program} {r : Option Nat} {o : Oper} {s : AS} {next : AS -> Prop} {bad : AV -> AS -> Prop}
theorem Step.mono {next' : AS -> Prop} {bad' : AV -> AS -> Prop} (h : Step lv P r o s next bad) (hn : ∀ s,next s -> next' s) (hb : ∀ c s,bad c s -> bad' c s) : Step lv P r o s next' bad' :=
 fun E V a N Q h1 h2 h3 h4 h5 h6 => h E V a N Q h1 h2 h3 h4 (fun E' V' a' s' x1 x2 x3 x4 => h5 E' V' a' s' x1 x2 x3 (hn _ x4)) (fun E' V' s' pv v x1 x2 x3 x4 x5 => h6 E' V' s' pv v x1 x2 x3 x4 (hb _ _ x5))
theorem zbM {av : AV} (h : ∀ (E : Env) (V : View) (a : Act),Conc E V s.H -> TOk E s.T a.tmps -> SemOk P V (execOp a.eval o) (fun nx V' => V' = V /\ ∃ v,nx = .value v /\ Den E av v) (fun _ _ => False)) : QStep lv P r o s av:=by
 intro E V a N Q hc ht hdf h1;refine ⟨hdf,(h E V a hc ht).mono (fun nx V' hx => ?_) (fun _ _ hx => hx.elim)⟩;obtain ⟨rfl,v,rfl,hv⟩:=hx;exact h1 E V' v (Env.Le.refl E) rfl rfl hc hv
theorem zcu {av : AV} (h : ∀ (E : Env) (V : View) (a : Act),Conc E V s.H -> TOk E s.T a.tmps -> ∃ v,execOp a.eval o = .pure (.value v) /\ Den E av v) : QStep lv P r o s av :=
 zbM (fun E V a hc ht => by
  obtain ⟨v,h1,h2⟩:=h E V a hc ht;rw [h1]; exact zan ⟨rfl,v,rfl,h2⟩)
theorem QStep.step {av : AV} (h : QStep lv P r o s av) (hn : next (s.put o.dst av)) : Step lv P r o s next bad:=by
 intro E V a N Q hc ht hd hdf h1 _;refine h E V a N Q hc ht hdf fun E' V' v hle hro hde hc' hv => ?_;exact h1 E' V' (a.put o.dst v) (s.put o.dst av) ⟨hle,zaA _ _ _,zaw _ _ _,hro,hde⟩ (by rw [zbx]; exact hc') ((ht.mono hle).putd hd hv) hn
theorem zqy {x : Operand} {av : AV} (ho : o.op = .move x \/ o.op = .assign x) (hx : s.ev x = some av) : QStep lv P r o s (av) :=
 zcu (fun E V a hc ht => ⟨a.eval x,by unfold execOp; rcases ho with ho | ho <;> rw [ho] <;> rfl,Den.ev ht hx⟩)
theorem q_pick {c x y : Operand} {b : Bool} {av aw : AV} (ho : o.op = .pick c x y) (hc : s.ev c = some (.val (.bool b))) (hx : s.ev x = some av) (hy : s.ev y = some aw) : QStep lv P r o s ((if b then av else aw)) :=
 zcu (fun E V a hcc ht => by
  have h1:=Den.ev ht hc;generalize hv : a.eval c = v at h1;cases h1;refine ⟨if b then a.eval x else a.eval y,by unfold execOp; rw [ho]; simp only [hv]; cases b <;> rfl,?_⟩;cases b
  ·exact Den.ev ht hy
  ·exact Den.ev ht hx)
def zlK (op : BinOp) (k : IntKind) (x y : Int) : Option Value:=match op with
 | .add => some (.int k (k.wrap (x + y)))
 | .sub => some (.int k (k.wrap (x - y)))
 | .mul => some (.int k (k.wrap (x * y)))
 | .eql => some (.bool (x == y))
 | .neq => some (.bool (x != y))
 | .lss => some (.bool (x < y))
 | .leq => some (.bool (x <= y))
 | .gtr => some (.bool (x > y))
 | .geq => some (.bool (x >= y))
 | .and => some (.int k (k.wrap (BitVec.ofInt k.bits x &&& BitVec.ofInt k.bits y).toNat))
 | .or => some (.int k (k.wrap (BitVec.ofInt k.bits x ||| BitVec.ofInt k.bits y).toNat))
 | .xor => some (.int k (k.wrap (BitVec.ofInt k.bits x ^^^ BitVec.ofInt k.bits y).toNat))
 | .quo => if y = 0 then none else some (.int k (k.wrap (x.tdiv y)))
 | .rem => if y = 0 then none else some (.int k (x.tmod y))
 | _ => none
def zmq (op : BinOp) (k : IntKind) (x y : Int) : Option Value:=if y < 0 then none else match op with
 | .shl => some (.int k (k.wrap (x * 2 ^ (min y.toNat k.bits))))
 | .shr => some (.int k (x.fdiv (2 ^ (min y.toNat k.bits))))
 | _ => none
def zks : BinOp -> Bool
 | .shl | .shr => true
 | _ => false
theorem zlc {op : BinOp} {k : IntKind} {x y : Int} {v : Value} {t : TypeId} (h : zlK op k x y = some v) : binOp op t (.int k x) (.int k y) = .pure v:=by
 cases op <;> simp only [zlK,Option.some.injEq,reduceCtorEq] at h <;> try (subst h; simp [binOp,Op.intArith,Op.intCmp,Op.intBits]; rfl)
 ·split at h
  ·cases h
  ·rename_i hy;simp only [Option.some.injEq] at h; subst h; simp [binOp,Op.intDiv,hy]; rfl
 ·split at h
  ·cases h
  ·rename_i hy;simp only [Option.some.injEq] at h; subst h; simp [binOp,Op.intDiv,hy]; rfl
theorem zhh {op : BinOp} {k j : IntKind} {x y : Int} {v : Value} {t : TypeId} (h : zmq op k x y = some v) : binOp op t (.int k x) (.int j y) = .pure v:=by
 unfold zmq at h;split at h
 ·cases h
 ·rename_i hy;cases op <;> simp only [Option.some.injEq,reduceCtorEq] at h
  ·subst h; simp [binOp,Op.shift,hy]; rfl
  ·subst h; simp [binOp,Op.shift,hy]; rfl
theorem zeJ {op : BinOp} {t : TypeId} {x y : Operand} {j k : IntKind} {a b : Int} : eqGuard op t x y (.int j a) (.int k b) = .pure ():=by
 unfold eqGuard;cases op <;> rfl
theorem q_bin {op : BinOp} {xt yt : TypeId} {x y : Operand} {k : IntKind} {m n : Int} {v : Value} (ho : o.op = .binOp op xt x y yt) (hx : s.ev x = some (.val (.int k m))) (hy : s.ev y = some (.val (.int k n))) (hv : zlK op k m n = some v) : QStep lv P r o s ((.val v)) :=
 zcu (fun E V a hcc ht => by
  have h1:=Den.ev ht hx;have h2:=Den.ev ht hy;generalize hv1 : a.eval x = v1 at h1;generalize hv2 : a.eval y = v2 at h2;cases h1; cases h2;refine ⟨v,?_,.val v⟩;unfold execOp; rw [ho];simp only [hv1,hv2,zeJ,zlc hv];rfl)
theorem zq5 {op : BinOp} {xt yt : TypeId} {x y : Operand} {k j : IntKind} {m n : Int} {v : Value} (ho : o.op = .binOp op xt x y yt) (hx : s.ev x = some (.val (.int k m))) (hy : s.ev y = some (.val (.int j n))) (hv : zmq op k m n = some v) : QStep lv P r o s ((.val v)) :=
 zcu (fun E V a hcc ht => by
  have h1:=Den.ev ht hx;have h2:=Den.ev ht hy;generalize hv1 : a.eval x = v1 at h1;generalize hv2 : a.eval y = v2 at h2;cases h1; cases h2;refine ⟨v,?_,.val v⟩;unfold execOp; rw [ho];simp only [hv1,hv2,zeJ,zhh hv];rfl)
theorem q_not {t : TypeId} {x : Operand} {b : Bool} (ho : o.op = .unOp .not t x) (hx : s.ev x = some (.val (.bool b))) : QStep lv P r o s ((.val (.bool !b))) :=
 zcu (fun E V a hcc ht => by
  have h1:=Den.ev ht hx;generalize hv1 : a.eval x = v1 at h1;cases h1;exact ⟨_,by unfold execOp; rw [ho]; simp only [hv1]; rfl,.val _⟩)
theorem q_neg {t : TypeId} {x : Operand} {k : IntKind} {n : Int} (ho : o.op = .unOp .neg t x) (hx : s.ev x = some (.val (.int k n))) : QStep lv P r o s (.val (.int k (k.wrap (0 - n)))) :=
 zcu (fun E V a hcc ht => by
  have h1:=Den.ev ht hx;generalize hv1 : a.eval x = v1 at h1;cases h1;exact ⟨_,by unfold execOp; rw [ho]; simp only [hv1]; rfl,.val _⟩)
theorem zkh {x : Operand} {i : Nat} {l : List AV} {av : AV} (ho : o.op = .extract x i) (hx : s.ev x = some (.tup l)) (hi : l[i]? = some av) : QStep lv P r o s (av) :=
 zcu (fun E V a hcc ht => by
  have h1:=Den.ev ht hx;generalize hv1 : a.eval x = v1 at h1;cases h1 with
  | tup hs h =>
   rename_i cs;have hlt : i < cs.size:=(by rw [hs]; exact (List.getElem?_eq_some_iff.1 hi).1);refine ⟨cs[i],?_,?_⟩
   ·unfold execOp; rw [ho]; simp only [hv1,Instr.extract,Array.getElem?_eq_getElem hlt]; rfl
   ·have:=h i av hi; rwa [Array.getD_eq_getD_getElem?,Array.getElem?_eq_getElem hlt] at this)
end
theorem zbr (b o n : Nat) : (⟨b,o,none⟩ : Addr).add n = ⟨b,o + n,none⟩:=by
 unfold Addr.add; split
 ·rename_i h; subst h; rfl
 ·rfl
def AS.at (s : AS) : AV -> Option (List AV)
 | .rp l => some l
 | .op id off => match s.H[id]? with
  | some (.cells l _) => some (l.drop off)
  | some (.part _ l _) => some (l.drop off)
  | some (.own _ l _) => some (l.drop off)
  | _ => none
 | _ => none
def AV.shift (n : Nat) : AV -> Option AV
 | .rp l => if n <= l.length then some (.rp (l.drop n)) else none
 | .op id off => some (.op id (off + n))
 | _ => none
theorem Conc.at {E : Env} {V : View} {s : AS} (hc : Conc E V s.H) {p : AV} {v : Value} (hd : Den E p v) {l : List AV} (h : s.at p = some l) :
  ∃ (b o : Nat) (f : Nat -> Value),v = .pointer (some ⟨b,o,none⟩) /\ (∀ i,i < l.length -> V.get b (o + i) = some (f i)) /\ (0 < l.length -> V.role.group ≠ some b) /\ ∀ (i : Nat) x,l[i]? = some x -> Den E x (f i):=by
 cases hd with
 | rp b o f h1 h2 =>
  cases h;exact ⟨b,o,f,rfl,fun i hi => by unfold View.get; rw [<- hc.I,h1 i hi],fun hp => (hc.immNotGroup (h1 0 hp)).1,h2⟩
 | op hi =>
  rename_i id off;simp only [AS.at] at h;cases hk : s.H[id]? with
  | none => rw [hk] at h; cases h
  | some ob =>
   rw [hk] at h;cases ob with
   | cells l' el =>
    cases h;obtain ⟨⟨cs,ho,hs,hden⟩,him⟩:=hc.obj id _ hk;refine ⟨E.blk id,off,fun i => cs.getD (off + i) undef,rfl,fun i hi => ?_,fun _ => (hc.notGroup hk rfl).1,fun i x hx => ?_⟩
    ·unfold View.get;rw [him,ho];simp only [List.length_drop] at hi;have hlt : off + i < cs.size:=(by omega);simp only [Array.getD_eq_getD_getElem?,Array.getElem?_eq_getElem hlt,Option.getD_some]
    ·rw [List.getElem?_drop] at hx;exact hden _ _ hx
   | part p l' el =>
    cases h;obtain ⟨⟨cs,ho,⟨hs,hden⟩,hpt⟩,him⟩:=hc.obj id _ hk;refine ⟨E.blk id,off,fun i => cs.getD (off + i) undef,rfl,fun i hi => ?_,fun _ => (hc.notGroup hk rfl).1,fun i x hx => ?_⟩
    ·simp only [List.length_drop] at hi;have hlt : off + i < cs.size:=(by omega);unfold View.get;by_cases hp : off + i < p
     ·rw [hpt _ hp];simp only [Array.getD_eq_getD_getElem?,Array.getElem?_eq_getElem hlt,Option.getD_some]
     ·rw [him _ (by omega),ho];simp only [Array.getD_eq_getD_getElem?,Array.getElem?_eq_getElem hlt,Option.getD_some]
    ·rw [List.getElem?_drop] at hx;exact hden _ _ hx
   | own sz l' el =>
    cases h;obtain ⟨⟨cs,ho,⟨hs,hden⟩,_⟩,him⟩:=hc.obj id _ hk;refine ⟨E.blk id,off,fun i => cs.getD (off + i) undef,rfl,fun i hi => ?_,fun _ => (hc.notGroup hk rfl).1,fun i x hx => ?_⟩
    ·simp only [List.length_drop] at hi;have hlt : off + i < cs.size:=(by omega);unfold View.get;rw [him,ho];simp only [Array.getD_eq_getD_getElem?,Array.getElem?_eq_getElem hlt,Option.getD_some]
    ·rw [List.getElem?_drop] at hx;exact hden _ _ hx
   | _ => cases h
 | _ => cases h
theorem Den.shift {E : Env} {p q : AV} {v : Value} (hd : Den E p v) {n : Nat} (h : p.shift n = some q) : ∃ b o,v = .pointer (some ⟨b,o,none⟩) /\ Den E q (.pointer (some ⟨b,o + n,none⟩)):=by
 cases hd with
 | rp b o f h1 h2 =>
  simp only [AV.shift] at h;split at h
  ·rename_i hn;cases h;refine ⟨b,o,rfl,.rp b (o + n) (fun i => f (n + i)) (fun i hi => ?_) (fun i x hx => ?_)⟩
   ·simp only [List.length_drop] at hi;rw [Nat.add_assoc]; exact h1 _ (by omega)
   ·rw [List.getElem?_drop] at hx; exact h2 _ _ hx
  ·cases h
 | op hi => cases h; exact ⟨_,_,rfl,.op hi⟩
 | _ => cases h
section
variable {P : Program} {V : View} {α : Type} {K : α -> View -> Prop} {Kp : Value -> View -> Prop}
theorem zaj {t : TypeId} {d : TypeDesc} {k : TypeDesc -> Sem α} (h : P.underlying t = some d) (hk : SemOk P V (k d) K Kp) : SemOk P V (underlying t >>= k) K Kp:=by
 unfold underlying;refine zac (zac (zaG (zan ?_)));rw [h]; exact zbq hk
theorem zaY {t : TypeId} {i : TypeInfo} {k : TypeInfo -> Sem α} (h : P.info? t = some i) (hk : SemOk P V (k i) K Kp) : SemOk P V (typeInfo t >>= k) K Kp:=by
 unfold typeInfo;refine zac (zac (zaG (zan ?_)));rw [h]; exact zbq hk
theorem zav {t : TypeId} {i : TypeInfo} {k : Nat -> Sem α} (h : P.info? t = some i) (hk : SemOk P V (k i.size) K Kp) : SemOk P V (sizeOf t >>= k) K Kp:=by
 refine zac ?_;unfold sizeOf;exact zaY h (zbq hk)
def TypeDesc.agg : TypeDesc -> Bool
 | .struct _ | .array _ _ => true
 | _ => false
theorem zbK {t : TypeId} {d : TypeDesc} {k : Bool -> Sem α} (h : P.underlying t = some d) (hk : SemOk P V (k (TypeDesc.agg d)) K Kp) : SemOk P V (isAgg t >>= k) K Kp:=by
 refine zac ?_;unfold isAgg;refine zaj h ?_;cases d <;> exact zbq hk
theorem zhl {b o : Nat} {v : Value} {k : Value -> Sem α} (hg : V.role.group ≠ some b) (e : V.get b o = some v) (hk : SemOk P V (k v) K Kp) : SemOk P V (load ⟨b,o,none⟩ >>= k) K Kp :=
 zac (zdH e (.inl hg) (zan hk))
theorem zcs {b o : Nat} {f : Nat -> Value} {K : Array Value -> View -> Prop} : ∀ (n i : Nat) (acc : Array Value),(0 < n -> V.role.group ≠ some b) -> (∀ j,j < n -> V.get b (o + (i + j)) = some (f (i + j))) ->
  K (acc ++ ((List.range n).map fun j => f (i + j)).toArray) V -> SemOk P V (loadCellsFrom ⟨b,o,none⟩ i n acc) K Kp
 | 0,i,acc,_,_,h => zbq (by simpa using h)
 | n + 1,i,acc,hg,he,h => by
  have h0:=he 0 (by omega);unfold loadCellsFrom;rw [zbr];refine zhl (hg (by omega)) h0 ?_;refine zcs n (i + 1) _ (fun _ => hg (by omega)) (fun j hj => by have:=he (j + 1) (by omega); rwa [show i + (j + 1) = i + 1 + j by omega] at this) ?_;have e : (acc.push (f (i + 0)) ++ ((List.range n).map fun j => f (i + 1 + j)).toArray) = acc ++ ((List.range (n + 1)).map fun j => f (i + j)).toArray:=by
   rw [List.range_succ_eq_map];apply Array.ext';simp [Function.comp_def,Nat.add_assoc,Nat.add_comm 1]
  rw [e]; exact h
theorem zcd {b o n : Nat} {f : Nat -> Value} (hg : 0 < n -> V.role.group ≠ some b) {K : Array Value -> View -> Prop} (he : ∀ j,j < n -> V.get b (o + j) = some (f j)) (h : K ((List.range n).map f).toArray V) : SemOk P V (loadCells ⟨b,o,none⟩ n) K Kp :=
 zcs n 0 #[] hg (fun j hj => by simpa using he j hj) (by simpa using h)
end
theorem zmd {α β : Type} {x : Option α} {f : α -> β} {y : β} (h : x.map f = some y) : ∃ a,x = some a /\ f a = y:=Option.map_eq_some_iff.1 h
def Ty (P : Program) (t : TypeId) : Option (Nat × Bool):=(P.info? t).bind fun i => (P.underlying t).map fun d => (i.size,TypeDesc.agg d)
theorem Ty.out {P : Program} {t : TypeId} {n : Nat} {g : Bool} (h : Ty P t = some (n,g)) : ∃ i d,P.info? t = some i /\ P.underlying t = some d /\ i.size = n /\ TypeDesc.agg d = g:=by
 unfold Ty at h;obtain ⟨i,h1,h2⟩:=Option.bind_eq_some_iff.1 h;obtain ⟨d,h3,h4⟩:=zmd h2;cases h4;exact ⟨i,d,h1,h3,rfl,rfl⟩
theorem zfS {E : Env} {l : List AV} {f : Nat -> Value} {n : Nat} (hn : n <= l.length) (h : ∀ (i : Nat) x,l[i]? = some x -> Den E x (f i)) : Den E (.agg (l.take n)) (.agg ((List.range n).map f).toArray):=by
 refine .agg (by simp; omega) fun i x hx => ?_;rw [List.getElem?_take] at hx;split at hx
 ·rename_i hi;have:=h i x hx;simpa [Array.getD_eq_getD_getElem?,hi] using this
 ·cases hx
def AV.row : AV -> Option (Nat × AV)
 | .sl n l _ => some (n,.rp l)
 | .osl id off n _ => some (n,.op id off)
 | _ => none
theorem Den.row {E : Env} {a p : AV} {v : Value} {n : Nat} (hd : Den E a v) (h : a.row = some (n,p)) (h0 : 0 < n) : ∃ b o cap,v = .slice (some ⟨b,o,none⟩) n cap /\ Den E p (.pointer (some ⟨b,o,none⟩)):=by
 cases hd with
 | sl b o cap f hc he h1 h2 => cases h; exact ⟨b,o,cap,rfl,.rp b o f h1 h2⟩
 | nil he => cases h; exact absurd h0 (by simp)
 | osl hi => cases h; exact ⟨_,_,_,rfl,.op hi⟩
 | _ => cases h
def AV.len : AV -> Option Nat
 | .sl n _ _ => some n
 | .osl _ _ n _ => some n
 | _ => none
theorem Den.len {E : Env} {a : AV} {v : Value} {n : Nat} (hd : Den E a v) (h : a.len = some n) : ∃ ad cap,v = .slice ad n cap:=by
 cases hd with
 | sl b o cap f hc he h1 h2 => cases h; exact ⟨_,_,rfl⟩
 | nil he => cases h; exact ⟨_,_,rfl⟩
 | osl hi => cases h; exact ⟨_,_,rfl⟩
 | _ => cases h
def zf9 (P : Program) (t : TypeId) (k : Nat) : Option Nat:=match P.underlying t with
 | some (.struct fs) => match fs[k]? with
  | some f => match P.info? f.type with
   | some i => if i.size = 0 then none else some f.offset
   | none => none
  | none => none
 | _ => none
def zms (P : Program) (t : TypeId) : Option (Option Nat × Nat):=match P.underlying t with
 | some (.array n e) => (P.info? e).map fun i => (some n,i.size)
 | some (.slice e) => (P.info? e).map fun i => (none,i.size)
 | _ => none
inductive LenKind where
 | slice | map | str | arr (n : Nat)
def zl3 (P : Program) (t : TypeId) : Option LenKind:=match P.underlying t with
 | some (.slice _) => some .slice
 | some (.map _ _) => some .map
 | some .string => some .str
 | some (.array n _) => some (.arr n)
 | _ => none
def zoE (P : Program) (t : TypeId) (k : Nat) : Option (Nat × Nat × Bool):=match P.underlying t with
 | some (.struct fs) => match fs[k]? with
  | some f => (Ty P f.type).map fun x => (f.offset,x.1,x.2)
  | none => none
 | _ => none
def zoH (P : Program) (t : TypeId) : Option (Nat × Nat × Bool):=match P.underlying t with
 | some (.array n e) => (Ty P e).map fun x => (n,x.1,x.2)
 | _ => none
section
variable {lv : Bool} {P : Program} {r : Option Nat} {o : Oper} {s : AS} {next : AS -> Prop} {bad : AV -> AS -> Prop}
theorem q_load {t : TypeId} {x : Operand} {p : AV} {l : List AV} {n : Nat} (ho : o.op = .load t x) (ht : Ty P t = some (n,true)) (hx : s.ev x = some p) (hl : s.at p = some l) (hlen : n <= l.length) : QStep lv P r o s ((.agg (l.take n))) :=
 zbM (fun E V a hc htk => by
  obtain ⟨i,d,h1,h2,rfl,h4⟩:=Ty.out ht;obtain ⟨b,off,f,hv,hg,hgr,hd⟩:=hc.at (Den.ev htk hx) hl;unfold execOp; rw [ho]; simp only [hv];refine zac ?_;unfold Instr.loadAt Instr.sureAddr;refine zac (zbq ?_);unfold loadVar;refine zbK h2 ?_;rw [h4];simp only [if_true];refine zav h1 ?_;refine zac (zcd (f:=f) (fun h => hgr (by omega)) (fun j hj => hg j (by omega)) ?_);exact zbq (zbq ⟨rfl,_,rfl,zfS hlen hd⟩))
theorem zq6 {t : TypeId} {x : Operand} {p : AV} {l : List AV} {n : Nat} {av : AV} (ho : o.op = .load t x) (ht : Ty P t = some (n,false)) (hx : s.ev x = some p) (hl : s.at p = some l) (h0 : l[0]? = some av) : QStep lv P r o s (av) :=
 zbM (fun E V a hc htk => by
  obtain ⟨i,d,h1,h2,rfl,h4⟩:=Ty.out ht;obtain ⟨b,off,f,hv,hg,hgr,hd⟩:=hc.at (Den.ev htk hx) hl;unfold execOp; rw [ho]; simp only [hv];refine zac ?_;unfold Instr.loadAt Instr.sureAddr;refine zac (zbq ?_);unfold loadVar;refine zbK h2 ?_;rw [h4];simp only [Bool.false_eq_true,if_false];have hlen : 0 < l.length:=(List.getElem?_eq_some_iff.1 h0).1;have hg0:=hg 0 hlen;rw [Nat.add_zero] at hg0;exact zdH hg0 (.inl (hgr hlen)) (zan (zbq ⟨rfl,_,rfl,hd 0 av h0⟩)))
def AV.sure : AV -> Bool
 | .rp _ | .op _ _ => true
 | .fn (.func _) _ _ => true
 | .fn (.yield _) _ _ => true
 | .ifc _ _ => true
 | _ => false
theorem q_nil {x : Operand} {p : AV} (ho : o.op = .nilCheck x) (hx : s.ev x = some p) (hp : p.sure = true) : QStep lv P r o s (p) :=
 zcu (fun E V a hc htk => by
  have hd:=Den.ev htk hx;refine ⟨a.eval x,?_,hd⟩;unfold execOp; rw [ho];dsimp only;generalize a.eval x = v at hd ⊢;cases hd with
  | rp => rfl
  | op => rfl
  | ifc => rfl
  | fn hs1 hs2 h1 h2 =>
   rename_i f _ _ _ _;cases f with
   | func => rfl
   | yield => rfl
   | _ => cases hp
  | _ => cases hp)
theorem zq8 {t : TypeId} {x : Operand} {k n : Nat} {p q : AV} (ho : o.op = .fieldAddr t x k) (ht : zf9 P t k = some n) (hx : s.ev x = some p) (hp : p.shift n = some q) : QStep lv P r o s (q) :=
 zbM (fun E V a hc htk => by
  obtain ⟨b,off,hv,hq⟩:=(Den.ev htk hx).shift hp;unfold zf9 at ht;split at ht
  ·rename_i fs hu;split at ht
   ·rename_i f hf;split at ht
    ·rename_i i hi;split at ht
     ·cases ht
     ·rename_i hz;cases ht;unfold execOp; rw [ho]; simp only [hv];refine zac ?_;unfold Instr.fieldAt;refine zaj hu ?_;simp only [hf];unfold Instr.sureAddr;refine zac (zbq ?_);unfold fieldPlace;refine zac (zav hi ?_);rw [if_neg hz];refine zbq (zbq (zbq ⟨rfl,_,rfl,?_⟩));rw [zbr]; exact hq
    ·cases ht
   ·cases ht
  ·cases ht)
theorem zq7 {t : TypeId} {x ix : Operand} {a p q : AV} {k : IntKind} {i : Int} {n sz : Nat} (ho : o.op = .indexAddr t x ix) (ht : zms P t = some (none,sz)) (hx : s.ev x = some a) (ha : a.row = some (n,p)) (hi : s.ev ix = some (.val (.int k i))) (h0 : 0 <= i) (h1 : i < n)
  (hp : p.shift (i.toNat * sz) = some q) : QStep lv P r o s (q) :=
 zbM (fun E V ac hc htk => by
  obtain ⟨b,off,cap,hv,hpd⟩:=(Den.ev htk hx).row ha (by omega);obtain ⟨b',o',hb,hq⟩:=hpd.shift hp;cases hb;have hd:=Den.ev htk hi;generalize hvi : ac.eval ix = vi at hd;cases hd;unfold zms at ht;split at ht
  ·obtain ⟨_,_,h⟩:=zmd ht; cases h
  ·rename_i e hu;obtain ⟨inf,hinf,h⟩:=zmd ht;cases h;unfold execOp; rw [ho]; simp only [hv,hvi];refine zac ?_;unfold Instr.indexAt asIntOf;refine zac (zbq ?_);dsimp only;refine zaj hu ?_;refine zac (zbq ?_);dsimp only;refine zaj hu ?_;dsimp only;rw [if_pos ⟨h0,h1⟩];refine zav hinf ?_;refine zbq (zbq ⟨rfl,_,rfl,?_⟩);rw [zbr]; exact hq
  ·cases ht)
theorem zi0 {t : TypeId} {x ix : Operand} {p q : AV} {k : IntKind} {i : Int} {n sz : Nat} (ho : o.op = .indexAddr t x ix) (ht : zms P t = some (some n,sz)) (hx : s.ev x = some p) (hi : s.ev ix = some (.val (.int k i))) (h0 : 0 <= i) (h1 : i < n)
  (hp : p.shift (i.toNat * sz) = some q) : QStep lv P r o s (q) :=
 zbM (fun E V ac hc htk => by
  obtain ⟨b,off,hv,hq⟩:=(Den.ev htk hx).shift hp;have hd:=Den.ev htk hi;generalize hvi : ac.eval ix = vi at hd;cases hd;unfold zms at ht;split at ht
  ·rename_i m e hu;obtain ⟨inf,hinf,h⟩:=zmd ht;cases h;unfold execOp; rw [ho]; simp only [hv,hvi];refine zac ?_;unfold Instr.indexAt asIntOf;refine zac (zbq ?_);dsimp only;refine zaj hu ?_;dsimp only;unfold Instr.sureAddr;refine zac (zac (zbq (zbq ?_)));refine zaj hu ?_;dsimp only;rw [if_pos ⟨h0,h1⟩];refine zav hinf ?_;refine zbq (zbq ⟨rfl,_,rfl,?_⟩);rw [zbr]; exact hq
  ·obtain ⟨_,_,h⟩:=zmd ht; cases h
  ·cases ht)
theorem q_len {c : Call} {x : Operand} {t : TypeId} {a : AV} {n : Nat} (ho : o.op = .call c) (hcl : c.callee = .builtin .len) (hx0 : c.args[0]? = some x) (ht0 : c.argTypes[0]? = some t) (ht : zl3 P t = some .slice) (hx : s.ev x = some a) (ha : a.len = some n) : QStep lv P r o s (.val (.int .i64 n)) :=
 zbM (fun E V ac hc htk => by
  obtain ⟨ad,cap,hv⟩:=(Den.ev htk hx).len ha;unfold zl3 at ht;split at ht <;> cases ht;rename_i e hu;unfold execOp; rw [ho];dsimp only;unfold resolve;rw [hcl];dsimp only;refine zac (zbq ?_);unfold invoke builtin;dsimp only;refine zac ?_;unfold Builtin.len_;have e1 : (c.args.map ac.eval)[0]? = some (.slice ad n cap):=by simp [hx0,hv]
  simp only [ht0,e1];refine zaj hu ?_;exact zbq (zbq ⟨rfl,_,rfl,.val _⟩))
theorem zpa {c : Call} {x : Operand} {t : TypeId} {b : ByteArray} (ho : o.op = .call c) (hcl : c.callee = .builtin .len) (hx0 : c.args[0]? = some x) (ht0 : c.argTypes[0]? = some t) (ht : zl3 P t = some .str) (hx : s.ev x = some (.val (.string b))) : QStep lv P r o s (.val (.int .i64 b.size)) :=
 zbM (fun E V ac hc htk => by
  have hd:=Den.ev htk hx;generalize hv : ac.eval x = v at hd;cases hd;unfold zl3 at ht;split at ht <;> cases ht;rename_i hu;unfold execOp; rw [ho];dsimp only;unfold resolve;rw [hcl];dsimp only;refine zac (zbq ?_);unfold invoke builtin;dsimp only;refine zac ?_;unfold Builtin.len_;have e1 : (c.args.map ac.eval)[0]? = some (.string b):=by simp [hx0,hv]
  simp only [ht0,e1];refine zaj hu ?_;exact zbq (zbq ⟨rfl,_,rfl,.val _⟩))
theorem zpb {c : Call} {x : Operand} {t : TypeId} {id : Nat} {es : Array MapEntry} {ck : Nat} (ho : o.op = .call c) (hcl : c.callee = .builtin .len) (hx0 : c.args[0]? = some x) (ht0 : c.argTypes[0]? = some t) (ht : zl3 P t = some .map) (hx : s.ev x = some (.mp id)) (hk : s.H[id]? = some (.obj (.map es ck))) : QStep lv P r o s (.val (.int .i64 es.size)) :=
 zbM (fun E V ac hc htk => by
  have hd:=Den.ev htk hx;generalize hv : ac.eval x = v at hd;cases hd;obtain ⟨h1,h2,h3,h4⟩:=hc.obj id _ hk;unfold zl3 at ht;split at ht <;> cases ht;rename_i hu;unfold execOp; rw [ho];dsimp only;unfold resolve;rw [hcl];dsimp only;refine zac (zbq ?_);unfold invoke builtin;dsimp only;refine zac ?_;unfold Builtin.len_;have e1 : (c.args.map ac.eval)[0]? = some (.map (some (E.blk id))):=by simp [hx0,hv]
  simp only [ht0,e1];refine zaj hu ?_;refine zac (zaI h1 h2 h3 (hc.notGroup hk rfl).2 (zan ?_));exact zbq (zbq ⟨rfl,_,rfl,.val _⟩))
theorem ze7 {t : TypeId} {n off : Nat} {g : Bool} {E : Env} {V : View} {l : List AV} {cs : Array Value} {K : Value -> View -> Prop} {Kp : Value -> View -> Prop} (ht : Ty P t = some (n,g)) (hd : Denl E l cs) (hl : off + n <= l.length) (hn : g = false -> 0 < n)
  (h : ∀ v,(g = true -> Den E (.agg ((l.drop off).take n)) v) -> (g = false -> ∀ a,l[off]? = some a -> Den E a v) -> K v V) : SemOk P V (part t cs off) K Kp:=by
 obtain ⟨i,d,h1,h2,rfl,h4⟩:=Ty.out ht;unfold part;refine zbK h2 ?_;rw [h4];cases g with
 | true =>
  simp only [if_true];refine zav h1 (zbq (h _ (fun _ => .agg (by have:=hd.1; simp; omega) fun j a e => ?_) (by simp)));rw [List.getElem?_take] at e;split at e
  ·rename_i hj;rw [List.getElem?_drop] at e;have:=hd.2 _ _ e;have hlt : off + j < cs.size:=(by rw [hd.1]; omega);have hlt2 : j < (cs.extract off (off + i.size)).size:=(by have:=hd.1; simp; omega);rw [Array.getD_eq_getD_getElem?,Array.getElem?_eq_getElem hlt2];rw [Array.getD_eq_getD_getElem?,Array.getElem?_eq_getElem hlt] at this;simpa using this
  ·cases e
 | false =>
  simp only [Bool.false_eq_true,if_false];have hlt : off < cs.size:=by have:=hn rfl; rw [hd.1]; omega
  rw [Array.getElem?_eq_getElem hlt];refine zbq (h _ (by simp) fun _ a e => ?_);have:=hd.2 _ _ e;rwa [Array.getD_eq_getD_getElem?,Array.getElem?_eq_getElem hlt] at this
def AV.cut (l : List AV) (off n : Nat) (g : Bool) : Option AV:=if off + n <= l.length /\ (g = false -> 0 < n) then (if g then some (.agg ((l.drop off).take n)) else l[off]?) else none
theorem zi1 {t : TypeId} {x : Operand} {k off n : Nat} {g : Bool} {l : List AV} {av : AV} (ho : o.op = .field t x k) (ht : zoE P t k = some (off,n,g)) (hx : s.ev x = some (.agg l)) (hv : AV.cut l off n g = some av) : QStep lv P r o s av :=
 zbM (fun E V a hc htk => by
  have hd:=Den.ev htk hx;generalize he : a.eval x = v at hd;cases hd with
  | agg hs h =>
   unfold zoE at ht;split at ht
   ·rename_i fs hu;split at ht
    ·rename_i f hf;obtain ⟨⟨n',g'⟩,h1,h2⟩:=zmd ht;cases h2;unfold AV.cut at hv;split at hv
     ·rename_i hcond;unfold execOp; rw [ho]; simp only [he];refine zac ?_;unfold Instr.field;refine zaj hu ?_;simp only [hf];unfold asAgg;refine zac (zbq ?_);refine ze7 h1 ⟨hs,h⟩ hcond.1 hcond.2 fun v h3 h4 => zbq ⟨rfl,v,rfl,?_⟩;cases g' with
      | true => simp only [if_true,Option.some.injEq] at hv; subst hv; exact h3 rfl
      | false => simp only [Bool.false_eq_true,if_false] at hv; exact h4 rfl _ hv
     ·cases hv
    ·cases ht
   ·cases ht)
theorem ziY {t : TypeId} {x ix : Operand} {n sz : Nat} {g : Bool} {l : List AV} {av : AV} {k : IntKind} {i : Int} (ho : o.op = .index t x ix) (ht : zoH P t = some (n,sz,g)) (hx : s.ev x = some (.agg l)) (hi : s.ev ix = some (.val (.int k i))) (h0 : 0 <= i) (h1 : i < n) (hv : AV.cut l (i.toNat * sz) sz g = some av) : QStep lv P r o s av :=
 zbM (fun E V a hc htk => by
  have hd:=Den.ev htk hx;generalize he : a.eval x = v at hd;have hdi:=Den.ev htk hi;generalize hei : a.eval ix = vi at hdi;cases hdi;cases hd with
  | agg hs h =>
   unfold zoH at ht;split at ht
   ·rename_i m e hu;obtain ⟨⟨n',g'⟩,h2,h3⟩:=zmd ht;cases h3;unfold AV.cut at hv;split at hv
    ·rename_i hcond;obtain ⟨inf,d,q1,q2,q3,q4⟩:=Ty.out h2;unfold execOp; rw [ho]; simp only [he,hei];refine zac ?_;unfold Instr.index asIntOf;refine zac (zbq ?_);dsimp only;refine zaj hu ?_;dsimp only;rw [if_pos ⟨h0,h1⟩];refine zav q1 ?_;rw [q3];refine ze7 h2 ⟨hs,h⟩ hcond.1 hcond.2 fun v h4 h5 => zbq ⟨rfl,v,rfl,?_⟩;cases g' with
     | true => simp only [if_true,Option.some.injEq] at hv; subst hv; exact h4 rfl
     | false => simp only [Bool.false_eq_true,if_false] at hv; exact h5 rfl _ hv
    ·cases hv
   ·cases ht)
theorem ziZ {t : TypeId} {x ix : Operand} {b : ByteArray} {k : IntKind} {i : Int} {c : UInt8} (ho : o.op = .index t x ix) (ht : zl3 P t = some .str) (hx : s.ev x = some (.val (.string b))) (hi : s.ev ix = some (.val (.int k i))) (h0 : 0 <= i) (h1 : b[i.toNat]? = some c) : QStep lv P r o s (.val (.int .u8 c.toNat)) :=
 zbM (fun E V a hc htk => by
  have hd:=Den.ev htk hx;generalize he : a.eval x = v at hd;have hdi:=Den.ev htk hi;generalize hei : a.eval ix = vi at hdi;cases hdi;cases hd;unfold zl3 at ht;split at ht <;> cases ht;rename_i hu;unfold execOp; rw [ho]; simp only [he,hei];refine zac ?_;unfold Instr.index asIntOf;refine zac (zbq ?_);dsimp only;refine zaj hu ?_;dsimp only;rw [if_pos h0,h1];exact zbq (zbq ⟨rfl,_,rfl,.val _⟩))
theorem zkX {E : Env} {s : AS} {a : Act} (k : TOk E s.T a.tmps) {l : Array Operand} {zas : List AV} (h : l.toList.mapM s.ev = some zas) : Denl E zas (l.map a.eval):=by
 have key : ∀ (l : List Operand) (zas : List AV),l.mapM s.ev = some zas -> Denl E zas (l.map a.eval).toArray:=by
  intro l;induction l with
  | nil => intro zas h; simp at h; subst h; exact ⟨rfl,by simp⟩
  | cons x l ih =>
   intro zas h;simp only [List.mapM_cons,Option.pure_def,Option.bind_eq_bind,Option.bind_eq_some_iff,Option.some.injEq] at h;obtain ⟨b,h1,bs,h2,rfl⟩:=h;have:=ih bs h2;refine ⟨by have:=this.1; simpa using this,fun i c e => ?_⟩;cases i with
   | zero => simp at e; subst e; simpa [Array.getD_eq_getD_getElem?] using Den.ev k h1
   | succ i =>
    simp only [List.getElem?_cons_succ] at e;have:=this.2 i c e;simpa [Array.getD_eq_getD_getElem?] using this
 have:=key l.toList zas h;have e : l.map a.eval = (l.toList.map a.eval).toArray:=by apply Array.ext'; simp
 rw [e]; exact this
theorem ziX {f : Fn} {first caps : Array Operand} {fa ca : List AV} (ho : o.op = .makeFunc f first caps) (h1 : first.toList.mapM s.ev = some fa) (h2 : caps.toList.mapM s.ev = some ca) : QStep lv P r o s (.fn f fa ca) :=
 zcu (fun E V a hc ht => by
  have d1:=zkX ht h1;have d2:=zkX ht h2;exact ⟨_,by unfold execOp; rw [ho]; rfl,.fn d1.1 d2.1 d1.2 d2.2⟩)
def znC (P : Program) (t : TypeId) : Option Bool:=(P.underlying t).map fun | .interface _ => true | _ => false
theorem zkg {t : TypeId} {x : Operand} {av : AV} (ho : o.op = .makeInterface t x) (ht : znC P t = some false) (hx : s.ev x = some av) : QStep lv P r o s (.ifc t av) :=
 zbM (fun E V a hc htk => by
  obtain ⟨d,hu,hd⟩:=zmd ht;unfold execOp; rw [ho];dsimp only;refine zac ?_;unfold Instr.makeInterface;refine zaj hu ?_;split
  ·cases hd
  ·exact zbq (zbq ⟨rfl,_,rfl,.ifc (Den.ev htk hx)⟩))
def znM (P : Program) (src dst : TypeId) : Option (Option IntKind):=(P.underlying src).bind fun _ => match P.underlying dst with
 | some (.int k) => some (some k)
 | _ => none
theorem zki {src dst : TypeId} {x : Operand} {k j : IntKind} {n : Int} (ho : o.op = .convert src dst x) (ht : znM P src dst = some (some k)) (hx : s.ev x = some (.val (.int j n))) : QStep lv P r o s (.val (.int k (k.wrap n))) :=
 zbM (fun E V a hc htk => by
  have hd:=Den.ev htk hx;generalize he : a.eval x = v at hd;cases hd;unfold znM at ht;obtain ⟨d,h1,h2⟩:=Option.bind_eq_some_iff.1 ht;split at h2
  ·rename_i k' hu;cases h2;unfold execOp; rw [ho]; simp only [he];refine zac ?_;unfold convert;refine zaj h1 (zaj hu ?_);dsimp only;exact zbq (zbq ⟨rfl,_,rfl,.val _⟩)
  ·cases h2)
end
def Env.add (E : Env) (r : Nat) (I : Imm) : Env:={ E with I:=I,n:=E.n + 1,blk:=fun k => if k = E.n then r else E.blk k }
theorem Env.le_add (E : Env) (r : Nat) {I : Imm} (hI : ∀ b o v,E.I b o = some v -> I b o = some v) : E.Le (E.add r I) :=
 ⟨hI,Nat.le_succ _,fun k hk => by simp [Env.add,Nat.ne_of_lt hk],fun _ _ => Nat.le_refl _,fun _ _ _ _ => rfl,rfl,rfl⟩
def View.pubp (V : View) (b : Nat) (cs : Array Value) (p : Nat -> Bool) : View:={ V with imm:=fun b' o => if b' = b /\ p o = true then cs[o]? else V.imm b' o }
theorem zb9 {V : View} {b : Nat} {cs : Array Value} {el : TypeId} {f : Nat × Nat} {p : Nat -> Bool} (ho : V.own b = some (.cells cs el f)) (hp : ∀ o,p o = true -> V.imm b o = none) : Ghost V (V.pubp b cs p) where
 sat w h:=⟨fun b' o v e => by
   simp only [View.pubp] at e;split at e
   ·rename_i hb; obtain ⟨rfl,_⟩:=hb;have:=h.own _ _ ho;simpa [World.cell?,this] using e
   ·exact h.imm _ _ _ e,fun b' x e => h.own b' x e⟩
 own b' e:=e
 imm b' o v e:=by
  have hn : ¬ (b' = b /\ p o = true):=fun hb => by obtain ⟨rfl,h2⟩:=hb; rw [hp o h2] at e; cases e
  simp only [View.pubp,if_neg hn]; exact e
 immNew b' o v e:=by
  simp only [View.pubp] at e;split at e
  ·rename_i hb; obtain ⟨rfl,_⟩:=hb; exact .inr (by rw [ho]; simp)
  ·exact .inl e
 deaf:=rfl
 role:=rfl
 chan c x _ h:=h
def View.pub (V : View) (r : Nat) (cs : Array Value) : View:={ V with imm:=fun b o => if b = r then cs[o]? else V.imm b o }
theorem zkI {V : View} {r : Nat} {cs : Array Value} {el : TypeId} {f : Nat × Nat} (hf : V.fresh r) (hc : V.role.chan ≠ some r) : Ghost (V.upd r (.cells cs el f)) (V.pub r cs) where
 sat w h:=⟨fun b o v e => by
   simp only [View.pub] at e;split at e
   ·rename_i hb; subst hb;have:=h.own b (.cells cs el f) (by simp [View.upd]);simpa [World.cell?,this] using e
   ·exact h.imm b o v e,fun b x e => by
   have hb : b ≠ r:=fun hb => (by subst hb; rw [show (V.pub b cs).own b = V.own b from rfl,hf.1] at e; cases e);have e' : V.own b = some x:=e;exact h.own b x (by simpa [View.upd,hb] using e')⟩
 own b e:=by
  simp only [View.upd] at e;split at e
  ·cases e
  ·exact e
 imm b o v e:=by
  have e' : V.imm b o = some v:=e;have hb : b ≠ r:=fun hb => by subst hb; rw [hf.2 o] at e'; cases e'
  simpa [View.pub,hb] using e'
 immNew b o v e:=by
  simp only [View.pub] at e;split at e
  ·rename_i hb; exact .inr (by simp [View.upd,hb])
  ·exact .inl e
 deaf:=rfl
 role:=rfl
 chan c x hcx h:=by
  have hb : c ≠ r:=fun hb => by subst hb; exact hc hcx
  have h' : V.own c = some x:=by simpa [View.upd,hb] using h
  exact h'
theorem Conc.freshChan {E : Env} {V : View} {H : List AObj} (hc : Conc E V H) {r : Nat} (hf : V.own r = none) : V.role.chan ≠ some r /\ V.role.group ≠ some r :=
 ⟨fun e => (hc.chan r e).1 hf,fun e => (hc.group r e).1 hf⟩
theorem Conc.add {E : Env} {V : View} {H : List AObj} (hc : Conc E V H) {r : Nat} (hf : V.fresh r) (y : Obj) {x : AObj} (hx : ObjOk (E.add r V.imm) (V.upd r y) E.n x) (hb : ∀ b,zfE (E.add r V.imm) E.n x = some b -> b = r) : Conc (E.add r V.imm) (V.upd r y) (H ++ [x]):=by
 refine hc.turn (E':=E.add r V.imm) H.length x (E.le_add r (fun b o v h => by rw [<- hc.I]; exact h)) rfl (by simp [Env.add,hc.n]) zcj rfl (fun _ _ _ => rfl) (fun b z _ hz => ⟨?_,fun _ => rfl⟩) (by rw [<- hc.n]; exact hx) (fun b h => .inr ?_)
 ·have : b ≠ r:=fun e => by rw [e,hf.1] at hz; cases hz
  simpa [View.upd,this] using hz
 ·rw [<- hc.n] at h;rw [hb b h]; exact hf.1
theorem Env.add_blk (E : Env) (r : Nat) (I : Imm) : (E.add r I).blk E.n = r:=by simp [Env.add]
theorem zkW {E : Env} {H : List AObj} (hn : E.n = H.length) (r : Nat) (I : Imm) : Den (E.add r I) (.op H.length 0) (.pointer (some ⟨r,0,none⟩)):=by
 have:=Den.op (E:=E.add r I) (id:=H.length) (off:=0) (by show _ < E.n + 1; rw [hn]; omega);have e : (E.add r I).blk H.length = r:=by rw [<- hn]; exact E.add_blk r I
 rwa [e] at this
def AV.parts : AV -> Option (List AV)
 | .agg l => some l
 | .tup _ => none
 | .val (.agg _) => none
 | a => some [a]
theorem Den.parts {E : Env} {a : AV} {v : Value} {l : List AV} (h : Den E a v) (hp : a.parts = some l) : Denl E l v.cells:=by
 have one : ∀ a v,Den E a v -> v.cells = #[v] -> Denl E [a] v.cells:=fun a v h e => by
  rw [e];refine ⟨rfl,fun i x hx => ?_⟩;have hi : i = 0:=by have:=(List.getElem?_eq_some_iff.1 hx).1; simpa using this
  subst hi; simp at hx; subst hx; simpa using h
 cases h with
 | val => cases v <;> first | (cases hp; exact one _ _ (.val _) rfl) | cases hp
 | agg hs h => cases hp; exact ⟨hs,h⟩
 | tup hs h => cases hp
 | sl b o cap f hc he h1 h2 => cases hp; exact one _ _ (.sl b o cap f hc he h1 h2) rfl
 | nil he => cases hp; exact one _ _ (.nil he) rfl
 | osl hi hcap => cases hp; exact one _ _ (.osl hi hcap) rfl
 | rp b o f h1 h2 => cases hp; exact one _ _ (.rp b o f h1 h2) rfl
 | op hi => cases hp; exact one _ _ (.op hi) rfl
 | fn hs1 hs2 h1 h2 => cases hp; exact one _ _ (.fn hs1 hs2 h1 h2) rfl
 | ifc h => cases hp; exact one _ _ (.ifc h) rfl
 | mp hi => cases hp; exact one _ _ (.mp hi) rfl
def zh2 (P : Program) (t : TypeId) : Option Value:=(P.info? t).bind (·.zero)
def zmj (z : Value) : List AV:=z.cells.toList.map AV.of1
theorem zdP (E : Env) (z : Value) : Denl E (zmj z) z.cells:=by
 refine ⟨by simp [zmj],fun i a h => ?_⟩;unfold zmj at h;rw [List.getElem?_map] at h;obtain ⟨x,hx,rfl⟩:=Option.map_eq_some_iff.1 h;have : z.cells[i]? = some x:=by simpa using hx
 rw [Array.getD_eq_getD_getElem?,this];exact zhL E x
section
variable {P : Program} {V : View} {α : Type} {K : α -> View -> Prop} {Kp : Value -> View -> Prop}
theorem zdG {t : TypeId} {z : Value} {k : Value -> Sem α} (h : zh2 P t = some z) (hk : SemOk P V (k z) K Kp) : SemOk P V (zeroValue t >>= k) K Kp:=by
 unfold zh2 at h;obtain ⟨i,h1,h2⟩:=Option.bind_eq_some_iff.1 h;refine zac ?_;unfold zeroValue;refine zaY h1 ?_;rw [h2]; exact zbq hk
end
section
variable {lv : Bool} {P : Program} {r : Option Nat} {o : Oper} {s : AS} {next : AS -> Prop} {bad : AV -> AS -> Prop}
theorem zem {t : TypeId} {l : List AV} (h : ∀ (E : Env) (V : View) (a : Act),Conc E V s.H -> TOk E s.T a.tmps -> ∃ cs,Denl E l cs /\ SemOk P V (execOp a.eval o) (fun nx V' => ∃ rr,V.fresh rr /\ V' = V.upd rr (.cells cs t) /\ nx = .value (.pointer (some ⟨rr,0,none⟩))) (fun _ _ => False))
  (hn : next ((⟨s.T,s.H ++ [.cells l t]⟩ : AS).put o.dst (.op s.H.length 0))) : Step lv P r o s next bad:=by
 intro E V a N Q hc ht hd hdf h1 _;obtain ⟨cs,hcs,hsem⟩:=h E V a hc ht;refine ⟨hdf,hsem.mono (fun nx V' hx => ?_) (fun _ _ hx => hx.elim)⟩;obtain ⟨rr,hf,rfl,rfl⟩:=hx;have hle : E.Le (E.add rr V.imm):=E.le_add rr (fun b o v h => by rw [<- hc.I]; exact h);have hc' : Conc (E.add rr V.imm) (V.upd rr (.cells cs t)) (s.H ++ [.cells l t]):=by
  refine hc.add hf _ ⟨⟨cs,?_,hcs.mono hle⟩,fun o => ?_⟩ (fun b e => ?_)
  ·rw [Env.add_blk]; simp [View.upd]
  ·rw [Env.add_blk]; exact hf.2 o
  ·simp only [zfE,Env.add_blk,Option.some.injEq] at e; exact e.symm
 exact h1 _ _ (a.put o.dst (.pointer (some ⟨rr,0,none⟩))) ((⟨s.T,s.H ++ [.cells l t]⟩ : AS).put o.dst (.op s.H.length 0)) ⟨hle,zaA _ _ _,zaw _ _ _,rfl,rfl⟩ (by rw [zbx]; exact hc')
  (TOk.putd (s:=⟨s.T,s.H ++ [.cells l t]⟩) (ht.mono hle) hd (zkW hc.n rr V.imm)) hn
theorem zh4 {t : TypeId} {x : Operand} {av : AV} {l : List AV} (ho : o.op = .box t x) (hx : s.ev x = some av) (hl : av.parts = some l) (hn : next ((⟨s.T,s.H ++ [.cells l t]⟩ : AS).put o.dst (.op s.H.length 0))) : Step lv P r o s next bad :=
 zem (fun E V a hc ht => ⟨(a.eval x).cells,(Den.ev ht hx).parts hl,by
  unfold execOp; rw [ho];dsimp only;refine zac ?_;unfold Instr.box newVar newRow;refine zac (zac (zac (za7 fun rr hf => zan (zbq (zbq (zbq (zbq ⟨rr,hf,rfl,rfl⟩)))))))⟩) hn
theorem ze6 {t : TypeId} {z : Value} (ho : o.op = .alloc t) (hz : zh2 P t = some z) (hn : next ((⟨s.T,s.H ++ [.cells (zmj z) t]⟩ : AS).put o.dst (.op s.H.length 0))) : Step lv P r o s next bad :=
 zem (fun E V a hc ht => ⟨z.cells,zdP E z,by
  unfold execOp; rw [ho];dsimp only;refine zac ?_;unfold Instr.alloc;refine zdG hz ?_;unfold newVar newRow;refine zac (zac (zac (za7 fun rr hf => zan (zbq (zbq (zbq (zbq ⟨rr,hf,rfl,rfl⟩)))))))⟩) hn
theorem zgf {t : TypeId} (ho : o.op = .makeMap t none) (hn : next ((⟨s.T,s.H ++ [.obj (.map #[] 0)]⟩ : AS).put o.dst (.mp s.H.length))) : Step lv P r o s next bad:=by
 intro E V a N Q hc ht hd hdf h1 _;refine ⟨hdf,?_⟩;unfold execOp; rw [ho];dsimp only;refine zac ?_;unfold Instr.makeMap;refine zac (za7 fun rr hf => zan (zbq (zbq ?_)));have hle : E.Le (E.add rr V.imm):=E.le_add rr (fun b o v h => by rw [<- hc.I]; exact h);have hc' : Conc (E.add rr V.imm) (V.upd rr (.map #[] 0)) (s.H ++ [.obj (.map #[] 0)]):=by
  refine hc.add hf _ ⟨?_,rfl,rfl,fun o => ?_⟩ (fun b e => ?_)
  ·rw [Env.add_blk]; simp [View.upd]
  ·rw [Env.add_blk]; exact hf.2 o
  ·simp only [zfE,Env.add_blk,Option.some.injEq] at e; exact e.symm
 have hden : Den (E.add rr V.imm) (.mp s.H.length) (.map (some rr)):=by
  have:=Den.mp (E:=E.add rr V.imm) (id:=s.H.length) (by show _ < E.n + 1; rw [hc.n]; omega);have e : (E.add rr V.imm).blk s.H.length = rr:=by rw [<- hc.n]; exact E.add_blk rr _
  rwa [e] at this
 exact h1 _ _ (a.put o.dst (.map (some rr))) ((⟨s.T,s.H ++ [.obj (.map #[] 0)]⟩ : AS).put o.dst (.mp s.H.length)) ⟨hle,zaA _ _ _,zaw _ _ _,rfl,rfl⟩ (by rw [zbx]; exact hc')
  (TOk.putd (s:=⟨s.T,s.H ++ [.obj (.map #[] 0)]⟩) (ht.mono hle) hd hden) hn
end
def storeAt : Array Value -> Nat -> List Value -> Array Value
 | cs,_,[] => cs
 | cs,o,v :: vs => storeAt (cs.setIfInBounds o v) (o + 1) vs
theorem zcr : ∀ (vs : List Value) (cs : Array Value) (o : Nat),(storeAt cs o vs).size = cs.size
 | [],_,_ => rfl
 | v :: vs,cs,o => by rw [storeAt,zcr]; simp
theorem zc0 : ∀ (vs : List Value) (cs : Array Value) (o k : Nat),o + vs.length <= cs.size -> (storeAt cs o vs).getD k undef = if o <= k /\ k < o + vs.length then vs.getD (k - o) undef else cs.getD k undef
 | [],cs,o,k,_ => by
  have : ¬ (o <= k /\ k < o + ([] : List Value).length):=by intro h; simp only [List.length_nil] at h; omega
  rw [if_neg this]; rfl
 | v :: vs,cs,o,k,h => by
  simp only [List.length_cons] at h;rw [storeAt,zc0 vs _ (o + 1) k (by simp; omega)];by_cases h1 : k = o
  ·subst h1;rw [if_neg (by omega),if_pos (by simp)];simp [Array.getD_eq_getD_getElem?,Array.getElem?_setIfInBounds_self_of_lt (show k < cs.size by omega)]
  ·by_cases h2 : o + 1 <= k /\ k < o + 1 + vs.length
   ·rw [if_pos h2,if_pos (by simp only [List.length_cons]; omega)];have : k - o = (k - (o + 1)) + 1:=(by omega);rw [this]; simp [List.getD_eq_getElem?_getD]
   ·rw [if_neg h2,if_neg (by simp only [List.length_cons]; omega)];simp [Array.getD_eq_getD_getElem?,Array.getElem?_setIfInBounds_ne (Ne.symm h1)]
theorem zqQ (V : View) (b : Nat) (x y : Obj) : (V.upd b x).upd b y = V.upd b y:=by
 unfold View.upd;congr 1;funext k; dsimp only; split <;> rfl
theorem zjR {V : View} {b : Nat} {x : Obj} (h : V.own b = some x) : V.upd b x = V:=by
 unfold View.upd;have : (fun k => if k = b then some x else V.own k) = V.own:=by
  funext k; split
  ·rename_i e; subst e; rw [h]
  ·rfl
 rw [this]
section
variable {P : Program} {K : Unit -> View -> Prop} {Kp : Value -> View -> Prop} {b off : Nat} {el : TypeId}
theorem za5 : ∀ (vs : List Value) (i : Nat) (V : View) (cs : Array Value),V.role.group ≠ some b -> V.role.chan ≠ some b -> V.own b = some (.cells cs el (0,0)) -> (∀ o,off + i <= o -> o < off + i + vs.length -> V.imm b o = none) -> off + i + vs.length <= cs.size -> (∀ v ∈ vs,v.one = true) ->
  K () (V.upd b (.cells (storeAt cs (off + i) vs) el (0,0))) -> SemOk P V (storeCells ⟨b,off,none⟩ vs i) K Kp
 | [],i,V,cs,hg,hc,ho,hi,hl,hv,h => by
  unfold storeCells;rw [show storeAt cs (off + i) [] = cs from rfl,zjR ho] at h;exact zbq h
 | v :: vs,i,V,cs,hg,hc,ho,hi,hl,hv,h => by
  unfold storeCells;rw [zbr];simp only [List.length_cons] at hl hi;refine zac (zhj ho (by omega) (hi _ (by omega) (by omega)) (hv v (List.mem_cons_self ..)) (by omega) (.inl hg) hc (zan ?_));refine za5 vs (i + 1) (V.upd b (.cells (cs.setIfInBounds (off + i) v) el (0,0))) (cs.setIfInBounds (off + i) v) hg hc (by simp [View.upd]) (fun o h1 h2 => hi o (by omega) (by omega)) (by simp; omega) (fun x hx => hv x (List.mem_cons_of_mem _ hx)) ?_;rw [zqQ];exact h
end
theorem Conc.set {E : Env} {V : View} {H : List AObj} (hc : Conc E V H) {id : Nat} {l l' : List AV} {el : TypeId} (hk : H[id]? = some (.cells l el)) {cs' : Array Value} (hd : Denl E l' cs') : Conc E (V.upd (E.blk id) (.cells cs' el (0,0))) (H.set id (.cells l' el)):=by
 obtain ⟨⟨cs,h1,_⟩,h3⟩:=hc.obj id _ hk;refine hc.turn id (.cells l' el) (Env.Le.refl E) hc.I (by simpa using hc.n) zaF rfl (fun _ _ _ => rfl) (fun b y hb hy => ⟨?_,fun _ => rfl⟩) ⟨⟨cs',by simp [View.upd],hd⟩,h3⟩ (fun b h => .inl ⟨_,hk,h⟩);have : b ≠ E.blk id:=fun e => hb _ hk (by rw [e]; rfl);simpa [View.upd,this] using hy
theorem zcS : ∀ (vs : List Value) (cs : Array Value) (off o : Nat),o < off -> (storeAt cs off vs)[o]? = cs[o]?
 | [],_,_,_,_ => rfl
 | v :: vs,cs,off,o,h => by
  rw [storeAt,zcS vs _ (off + 1) o (by omega),Array.getElem?_setIfInBounds_ne (by omega)]
theorem Conc.setP {E : Env} {V : View} {H : List AObj} (hc : Conc E V H) {id p : Nat} {l l' : List AV} {el : TypeId} (hk : H[id]? = some (.part p l el)) {cs cs' : Array Value} (h1 : V.own (E.blk id) = some (.cells cs el (0,0))) (hd : Denp E l' cs') (hs : ∀ o,o < p -> cs'[o]? = cs[o]?) : Conc E (V.upd (E.blk id) (.cells cs' el (0,0))) (H.set id (.part p l' el)):=by
 obtain ⟨⟨cs1,q1,_,q2⟩,h3⟩:=hc.obj id _ hk;rw [h1] at q1;cases q1;refine hc.turn id (.part p l' el) (Env.Le.refl E) hc.I (by simpa using hc.n) zaF rfl (fun _ _ _ => rfl) (fun b y hb hy => ⟨?_,fun _ => rfl⟩) ⟨⟨cs',by simp [View.upd],hd,fun o ho => (q2 o ho).trans (hs o ho).symm⟩,h3⟩ (fun b h => .inl ⟨_,hk,h⟩);have : b ≠ E.blk id:=fun e => hb _ hk (by rw [e]; rfl);simpa [View.upd,this] using hy
theorem Conc.setO {E : Env} {V : View} {H : List AObj} (hc : Conc E V H) {id sz : Nat} {l l' : List AV} {el : TypeId} (hk : H[id]? = some (.own sz l el)) {cs' : Array Value} (hd : Denp E l' cs') (hz : cs'.size = (E.room id 0).2 * sz) : Conc E (V.upd (E.blk id) (.cells cs' el (0,0))) (H.set id (.own sz l' el)):=by
 obtain ⟨⟨cs,h1,_⟩,h3⟩:=hc.obj id _ hk;refine hc.turn id (.own sz l' el) (Env.Le.refl E) hc.I (by simpa using hc.n) zaF rfl (fun _ _ _ => rfl) (fun b y hb hy => ⟨?_,fun _ => rfl⟩) ⟨⟨cs',by simp [View.upd],hd,hz⟩,h3⟩ (fun b h => .inl ⟨_,hk,h⟩);have : b ≠ E.blk id:=fun e => hb _ hk (by rw [e]; rfl);simpa [View.upd,this] using hy
theorem Conc.setObj {E : Env} {V : View} {H : List AObj} (hc : Conc E V H) {id : Nat} {x y : Obj} (hk : H[id]? = some (.obj x)) (h1 : y.isCells = false) (h2 : y.isChan = false) : Conc E (V.upd (E.blk id) y) (H.set id (.obj y)):=by
 obtain ⟨p1,p2,p3,p4⟩:=hc.obj id _ hk;refine hc.turn id (.obj y) (Env.Le.refl E) hc.I (by simpa using hc.n) zaF rfl (fun _ _ _ => rfl) (fun b z hb hz => ⟨?_,fun _ => rfl⟩) ⟨by simp [View.upd],h1,h2,p4⟩ (fun b h => .inl ⟨_,hk,h⟩);have : b ≠ E.blk id:=fun e => hb _ hk (by rw [e]; rfl);simpa [View.upd,this] using hz
theorem zpF {E : Env} {a : AV} {v : Value} (h : Den E a v) (hl : a.leaf = true) : v.one = true:=by
 cases h with
 | val x => exact hl
 | agg _ _ => cases hl
 | tup _ _ => cases hl
 | _ => rfl
def putAt (l : List AV) (off : Nat) (lp : List AV) : List AV:=l.take off ++ lp ++ l.drop (off + lp.length)
theorem zcM {E : Env} {l lp : List AV} {cs vs : Array Value} {off : Nat} (h : Denl E l cs) (k : Denl E lp vs) (hl : off + lp.length <= l.length) : Denl E (putAt l off lp) (storeAt cs off vs.toList):=by
 have hv : vs.toList.length = lp.length:=by simpa using k.1
 refine ⟨by rw [zcr,h.1]; simp [putAt]; omega,fun i a e => ?_⟩;rw [zc0 _ _ _ _ (by rw [h.1,hv]; exact hl),hv];unfold putAt at e;by_cases h1 : i < off
 ·rw [if_neg (by omega)];rw [List.append_assoc,List.getElem?_append_left (by simp; omega),List.getElem?_take,if_pos h1] at e;exact h.2 i a e
 ·by_cases h2 : i < off + lp.length
  ·rw [if_pos ⟨by omega,h2⟩];rw [List.getElem?_append_left (by simp; omega),List.getElem?_append_right (by simp; omega)] at e;have e' : lp[i - off]? = some a:=by
    have : min off l.length = off:=(by omega);simpa [this] using e
   have:=k.2 _ a e';simpa [Array.getD_eq_getD_getElem?,List.getD_eq_getElem?_getD] using this
  ·rw [if_neg (by omega)];rw [List.getElem?_append_right (by simp; omega),List.getElem?_drop] at e;have e' : l[i]? = some a:=by
    have h3 : off + lp.length + (i - (l.take off ++ lp).length) = i:=(by simp; omega);rw [h3] at e; exact e
   exact h.2 i a e'
theorem znj {E : Env} {l lp : List AV} {cs vs : Array Value} {off : Nat} (h : Denp E l cs) (k : Denl E lp vs) (hl : off + lp.length <= l.length) : Denp E (putAt l off lp) (storeAt cs off vs.toList):=by
 have hv : vs.toList.length = lp.length:=by simpa using k.1
 refine ⟨by rw [zcr]; have:=h.1; simp [putAt]; omega,fun i a e => ?_⟩;rw [zc0 _ _ _ _ (by have:=h.1; rw [hv]; omega),hv];unfold putAt at e;by_cases h1 : i < off
 ·rw [if_neg (by omega)];rw [List.append_assoc,List.getElem?_append_left (by simp; omega),List.getElem?_take,if_pos h1] at e;exact h.2 i a e
 ·by_cases h2 : i < off + lp.length
  ·rw [if_pos ⟨by omega,h2⟩];rw [List.getElem?_append_left (by simp; omega),List.getElem?_append_right (by simp; omega)] at e;have e' : lp[i - off]? = some a:=by
    have : min off l.length = off:=(by omega);simpa [this] using e
   have:=k.2 _ a e';simpa [Array.getD_eq_getD_getElem?,List.getD_eq_getElem?_getD] using this
  ·rw [if_neg (by omega)];rw [List.getElem?_append_right (by simp; omega),List.getElem?_drop] at e;have e' : l[i]? = some a:=by
    have h3 : off + lp.length + (i - (l.take off ++ lp).length) = i:=(by simp; omega);rw [h3] at e; exact e
   exact h.2 i a e'
theorem zcn {E : Env} {lp : List AV} {vs : Array Value} (h : Denl E lp vs) (hleaf : ∀ a ∈ lp,a.leaf = true) : ∀ v ∈ vs.toList,v.one = true:=by
 intro v hv;obtain ⟨j,hj⟩:=List.mem_iff_getElem?.1 hv;have hjl : j < lp.length:=by have:=(List.getElem?_eq_some_iff.1 hj).1; have:=h.1; simp at *; omega
 have:=h.2 j lp[j] (List.getElem?_eq_getElem hjl);have hj' : vs[j]? = some v:=by simpa using hj
 rw [Array.getD_eq_getD_getElem?,hj'] at this;exact zpF this (hleaf _ (List.getElem_mem hjl))
section
variable {lv : Bool} {P : Program} {r : Option Nat} {o : Oper} {s : AS} {next : AS -> Prop} {bad : AV -> AS -> Prop}
theorem ze5 {t : TypeId} {x y : Operand} {id off n : Nat} {l lp : List AV} {el : TypeId} {g : Bool} {av : AV} (ho : o.op = .store t x y) (ht : Ty P t = some (n,g)) (hx : s.ev x = some (.op id off)) (hk : s.H[id]? = some (.cells l el)) (hy : s.ev y = some av) (hp : av.parts = some lp) (hn' : lp.length = n) (hl : off + lp.length <= l.length)
  (hleaf : ∀ a ∈ lp,a.leaf = true) (hn : next ((⟨s.T,s.H.set id (.cells (putAt l off lp) el)⟩ : AS).put o.dst (.val undef))) : Step lv P r o s next bad:=by
 intro E V a N Q hc htk hd hdf h1 _;obtain ⟨i,d,q1,q2,rfl,q4⟩:=Ty.out ht;have hdx:=Den.ev htk hx;generalize hvx : a.eval x = vx at hdx;cases hdx with
 | op hid =>
  have hden:=(Den.ev htk hy).parts hp;obtain ⟨⟨cs,p1,p2⟩,p3⟩:=hc.obj id _ hk;obtain ⟨g1,g2⟩:=hc.notGroup hk rfl;refine ⟨hdf,?_⟩;unfold execOp; rw [ho]; simp only [hvx];refine zac ?_;unfold Instr.storeAt Instr.sureAddr;refine zac (zbq ?_);unfold storeVar;refine zav q1 ?_;rw [if_neg (by rw [hden.1,hn']; simp)];refine za5 _ 0 V cs g1 g2 p1 (fun o _ _ => p3 o) (by have:=hden.1; have:=p2.1; simp; omega) (zcn hden hleaf) ?_;rw [Nat.add_zero];exact zbq (h1 E _ (a.put o.dst undef) _ ⟨Env.Le.refl E,zaA _ _ _,zaw _ _ _,rfl,rfl⟩ (by rw [zbx]; exact hc.set hk (zcM p2 hden hl))
   (TOk.putd (s:=⟨s.T,s.H.set id (.cells (putAt l off lp) el)⟩) htk hd (.val undef)) hn)
theorem zg9 {t : TypeId} {x y : Operand} {id off n p : Nat} {l lp : List AV} {el : TypeId} {g : Bool} {av : AV} (ho : o.op = .store t x y) (ht : Ty P t = some (n,g)) (hx : s.ev x = some (.op id off)) (hk : s.H[id]? = some (.part p l el)) (hpo : p <= off) (hy : s.ev y = some av) (hp : av.parts = some lp) (hn' : lp.length = n) (hl : off + lp.length <= l.length)
  (hleaf : ∀ a ∈ lp,a.leaf = true) (hn : next ((⟨s.T,s.H.set id (.part p (putAt l off lp) el)⟩ : AS).put o.dst (.val undef))) : Step lv P r o s next bad:=by
 intro E V a N Q hc htk hd hdf h1 _;obtain ⟨i,d,q1,q2,rfl,q4⟩:=Ty.out ht;have hdx:=Den.ev htk hx;generalize hvx : a.eval x = vx at hdx;cases hdx with
 | op hid =>
  have hden:=(Den.ev htk hy).parts hp;obtain ⟨⟨cs,p1,p2,p4⟩,p3⟩:=hc.obj id _ hk;obtain ⟨g1,g2⟩:=hc.notGroup hk rfl;refine ⟨hdf,?_⟩;unfold execOp; rw [ho]; simp only [hvx];refine zac ?_;unfold Instr.storeAt Instr.sureAddr;refine zac (zbq ?_);unfold storeVar;refine zav q1 ?_;rw [if_neg (by rw [hden.1,hn']; simp)];refine za5 _ 0 V cs g1 g2 p1 (fun o _ _ => p3 o (by omega)) (by have:=hden.1; have:=p2.1; simp; omega) (zcn hden hleaf) ?_;rw [Nat.add_zero];exact zbq (h1 E _ (a.put o.dst undef) _ ⟨Env.Le.refl E,zaA _ _ _,zaw _ _ _,rfl,rfl⟩ (by rw [zbx]; exact hc.setP hk p1 (znj p2 hden hl) fun o ho => zcS _ _ _ _ (by omega))
   (TOk.putd (s:=⟨s.T,s.H.set id (.part p (putAt l off lp) el)⟩) htk hd (.val undef)) hn)
theorem zmU {t : TypeId} {x y : Operand} {id off n p : Nat} {l lp : List AV} {el : TypeId} {g : Bool} {av : AV} (ho : o.op = .store t x y) (ht : Ty P t = some (n,g)) (hx : s.ev x = some (.op id off)) (hk : s.H[id]? = some (.own p l el)) (hy : s.ev y = some av) (hp : av.parts = some lp) (hn' : lp.length = n) (hl : off + lp.length <= l.length)
  (hleaf : ∀ a ∈ lp,a.leaf = true) (hn : next ((⟨s.T,s.H.set id (.own p (putAt l off lp) el)⟩ : AS).put o.dst (.val undef))) : Step lv P r o s next bad:=by
 intro E V a N Q hc htk hd hdf h1 _;obtain ⟨i,d,q1,q2,rfl,q4⟩:=Ty.out ht;have hdx:=Den.ev htk hx;generalize hvx : a.eval x = vx at hdx;cases hdx with
 | op hid =>
  have hden:=(Den.ev htk hy).parts hp;obtain ⟨⟨cs,p1,p2,p4⟩,p3⟩:=hc.obj id _ hk;obtain ⟨g1,g2⟩:=hc.notGroup hk rfl;refine ⟨hdf,?_⟩;unfold execOp; rw [ho]; simp only [hvx];refine zac ?_;unfold Instr.storeAt Instr.sureAddr;refine zac (zbq ?_);unfold storeVar;refine zav q1 ?_;rw [if_neg (by rw [hden.1,hn']; simp)];refine za5 _ 0 V cs g1 g2 p1 (fun o _ _ => p3 o) (by have:=hden.1; have:=p2.1; simp; omega) (zcn hden hleaf) ?_;rw [Nat.add_zero];exact zbq (h1 E _ (a.put o.dst undef) _ ⟨Env.Le.refl E,zaA _ _ _,zaw _ _ _,rfl,rfl⟩ (by rw [zbx]; exact hc.setO hk (znj p2 hden hl) (by rw [zcr]; exact p4))
   (TOk.putd (s:=⟨s.T,s.H.set id (.own p (putAt l off lp) el)⟩) htk hd (.val undef)) hn)
theorem Conc.pub {E : Env} {V : View} {H : List AObj} (hc : Conc E V H) {r : Nat} (hf : V.fresh r) (cs : Array Value) : E.Le { E with I:=(V.pub r cs).imm } /\ Conc { E with I:=(V.pub r cs).imm } (V.pub r cs) H:=by
 have hle : E.Le { E with I:=(V.pub r cs).imm }:=⟨fun b o v h => by
  rw [hc.I] at h;have hb : b ≠ r:=fun hb => by subst hb; rw [hf.2 o] at h; cases h
  simpa [View.pub,hb] using h,Nat.le_refl _,fun _ _ => rfl,fun _ _ => Nat.le_refl _,fun _ _ _ _ => rfl,rfl,rfl⟩
 have hlt : ∀ (k : Nat) y,H[k]? = some y -> k < E.n:=fun k y h => by rw [hc.n]; exact (List.getElem?_eq_some_iff.1 h).1
 refine ⟨hle,rfl,hc.n,fun k x h => (hc.obj k x h).mono hle (hlt k x h) rfl (fun b y _ hb => hb) (fun b hb o => ?_),hc.inj,fun g hg => ?_,fun g hg => ?_,hc.top,fun b y hg => ?_⟩
 ·obtain ⟨y,hy⟩:=(hc.obj k x h).blk_own hb;have hne : b ≠ r:=fun e => by subst e; rw [hf.1] at hy; cases hy
  simp [View.pub,hne]
 ·obtain ⟨h0,h1,h2⟩:=hc.group g hg;have hne : g ≠ r:=fun e => by subst e; exact h0 hf.1
  exact ⟨h0,fun o => by simp [View.pub,hne,h1 o],h2⟩
 ·obtain ⟨h0,h1,h2⟩:=hc.chan g hg;have hne : g ≠ r:=fun e => by subst e; exact h0 hf.1
  exact ⟨h0,fun o => by simp [View.pub,hne,h1 o],h2⟩
 ·obtain ⟨h0,h1,h2⟩:=hc.fr b y hg;have hne : b ≠ r:=fun e => by subst e; rw [hf.1] at h0; cases h0
  exact ⟨h0,fun o => by simp [View.pub,hne,h1 o],h2⟩
theorem Den.published {E : Env} {V : View} {H : List AObj} (hc : Conc E V H) {r : Nat} (hf : V.fresh r) {cs : Array Value} {l : List AV} (h : Denl E l cs) {n cap : Nat} (hcap : n <= cap) {e : End} (he : EndOk { E with I:=(V.pub r cs).imm } e (some ⟨r,0,none⟩) n cap) : Den { E with I:=(V.pub r cs).imm } (.sl n l e) (.slice (some ⟨r,0,none⟩) n cap):=by
 refine .sl r 0 cap (fun i => cs.getD i undef) hcap he (fun i hi => ?_) fun i x hx => (h.2 i x hx).mono (hc.pub hf cs).1;have hlt : i < cs.size:=by rw [h.1]; exact hi
 simp [View.pub,Array.getD_eq_getD_getElem?,Array.getElem?_eq_getElem hlt]
def zmL (place : Nat -> Option (Nat × Nat)) (cells : List AV) : List (Nat × AV) -> Option (List AV)
 | [] => some cells
 |(i,a) :: rest => match place i,a.parts with
  | some (off,size),some lp => if lp.length ≠ size \/ off + lp.length > cells.length then none else zmL place (putAt cells off lp) rest
  | _,_ => none
theorem zds : ∀ (vs : List Value) (k off : Nat) (cs : Array Value),(vs.zipIdx k).foldl (fun (cs : Array Value) (x : Value × Nat) => cs.setIfInBounds (off + x.2) x.1) cs = storeAt cs (off + k) vs
 | [],_,_,_ => rfl
 | v :: vs,k,off,cs => by
  rw [List.zipIdx_cons,List.foldl_cons,zds vs (k + 1) off];rfl
theorem zfO {E : Env} {place : Nat -> Option (Nat × Nat)} : ∀ {parts : List (Nat × AV)} {vs : List (Nat × Value)} {l l' : List AV} {cs : Array Value},Denl E l cs -> parts.length = vs.length -> (∀ (j : Nat) p q,parts[j]? = some p -> vs[j]? = some q -> p.1 = q.1 /\ Den E p.2 q.2) ->
  zmL place l parts = some l' -> ∃ cs',Instr.fill place cs vs = some cs' /\ Denl E l' cs'
 | [],[],l,l',cs,h,_,_,e => by cases e; exact ⟨cs,rfl,h⟩
 | [],_ :: _,_,_,_,_,h,_,_ => by simp at h
 | _ :: _,[],_,_,_,_,h,_,_ => by simp at h
 |(i,a) :: parts,(i',v) :: vs,l,l',cs,h,hl,hp,e => by
  obtain ⟨e1,hd⟩:=hp 0 (i,a) (i',v) rfl rfl;have e1' : i = i':=e1;subst e1';simp only [zmL] at e;split at e
  ·rename_i off size lp hpl hpa;split at e
   ·cases e
   ·rename_i hc;have hden:=Den.parts (v:=v) hd hpa;have hsz : v.cells.size = lp.length:=hden.1;have hle : off + lp.length <= l.length:=(by omega);obtain ⟨cs',h1,h2⟩:=zfO (zcM h hden hle) (by simpa using hl) (fun j p q x y => hp (j + 1) p q (by simpa using x) (by simpa using y)) e;refine ⟨cs',?_,h2⟩;unfold Instr.fill;rw [hpl];simp only;rw [if_neg (by rw [hsz,h.1]; simp; omega)];have:=zds v.cells.toList 0 off cs;rw [Nat.add_zero] at this;rw [<- h1,<- this];congr 1;rw [<- Array.toList_zipIdx,Array.foldl_toList]
  ·cases e
def evp (s : AS) : List (Nat × Operand) -> Option (List (Nat × AV))
 | [] => some []
 |(i,x) :: l => match s.ev x,evp s l with
  | some a,some zas => some ((i,a) :: zas)
  | _,_ => none
theorem zhJ {E : Env} {s : AS} {a : Act} (k : TOk E s.T a.tmps) : ∀ {l : List (Nat × Operand)} {zas : List (Nat × AV)},evp s l = some zas -> zas.length = (l.map fun (i,x) => (i,a.eval x)).length /\ ∀ (j : Nat) p q,zas[j]? = some p -> (l.map fun (i,x) => (i,a.eval x))[j]? = some q -> p.1 = q.1 /\ Den E p.2 q.2
 | [],zas,h => by cases h; exact ⟨rfl,by simp⟩
 |(i,x) :: l,zas,h => by
  simp only [evp] at h;split at h
  ·rename_i av avs h1 h2;cases h;obtain ⟨ih1,ih2⟩:=zhJ k h2;refine ⟨by simpa using ih1,fun j p q e1 e2 => ?_⟩;cases j with
   | zero => simp at e1 e2; subst e1 e2; exact ⟨rfl,Den.ev k h1⟩
   | succ j => exact ih2 j p q (by simpa using e1) (by simpa using e2)
  ·cases h
def zlM (P : Program) (t : TypeId) : Option (TypeId × Nat × Value):=match P.underlying t with
 | some (.slice e) => (P.info? e).bind fun i => i.zero.map fun z => (e,i.size,z)
 | _ => none
def zfA (z : Value) (m : Nat) : List AV:=(List.range m).map fun i => AV.of1 (z.cells[i % z.cells.size]!)
inductive Places where
 | fields (l : List (Nat × Nat))
 | elems (sz : Nat)
def Places.at : Places -> Nat -> Option (Nat × Nat)
 | .fields l,i => l[i]?
 | .elems sz,i => some (i * sz,sz)
def zlx (P : Program) (t : TypeId) : Option (Places × Value):=(zh2 P t).bind fun z => match P.underlying t with
 | some (.struct fs) => (fs.toList.mapM fun f => (P.info? f.type).map fun i => (f.offset,i.size)).map fun l => (.fields l,z)
 | some (.array _ e) => (P.info? e).map fun i => (.elems i.size,z)
 | _ => none
theorem zdX {P : Program} {V : View} {Kp : Value -> View -> Prop} : ∀ (fs : List Field) (l : List (Nat × Nat)) {K : List (Nat × Nat) -> View -> Prop},fs.mapM (fun f => (P.info? f.type).map fun i => (f.offset,i.size)) = some l ->
  K l V -> SemOk P V (fs.mapM fun f => (do pure (f.offset,<- sizeOf f.type) : Sem (Nat × Nat))) K Kp
 | [],l,K,h,hk => by
  simp at h; subst h;rw [List.mapM_nil];exact zbq hk
 | f :: fs,l,K,h,hk => by
  simp only [List.mapM_cons,Option.pure_def,Option.bind_eq_bind,Option.bind_eq_some_iff,Option.some.injEq] at h;obtain ⟨b,h1,bs,h2,rfl⟩:=h;obtain ⟨i,hi,rfl⟩:=zmd h1;rw [List.mapM_cons];exact zac (zav hi (zbq (zac (zdX fs bs h2 (zbq hk)))))
theorem zra {t : TypeId} {parts : Array (Nat × Operand)} {pl : Places} {z : Value} {zas : List (Nat × AV)} {l : List AV} (ho : o.op = .build t parts) (ht : zlx P t = some (pl,z)) (hp : evp s parts.toList = some zas)
  (hl : zmL pl.at (zmj z) zas = some l) : QStep lv P r o s (.agg l) :=
 zbM (fun E V a hc htk => by
  unfold zlx at ht;obtain ⟨z',hz,ht⟩:=Option.bind_eq_some_iff.1 ht;obtain ⟨hlen,hden⟩:=zhJ htk hp;unfold execOp; rw [ho];dsimp only;refine zac ?_;unfold Instr.build;refine zdG hz ?_;split at ht
  ·rename_i fs hu;obtain ⟨lp,h1,h2⟩:=zmd ht;cases h2;obtain ⟨cs',hfill,hcs'⟩:=zfO (zdP E z) hlen hden hl;refine zaj hu ?_;dsimp only;have e : fs = fs.toList.toArray:=(by simp);rw [e,List.mapM_toArray];refine zac ?_;refine zac (zdX fs.toList lp h1 ?_);refine zbq ?_;rw [Array.toList_map];have e2 : (fun x => lp.toArray[x]?) = Places.at (.fields lp):=(by funext x; simp [Places.at]);rw [e2,hfill];exact zbq (zbq ⟨rfl,_,rfl,.agg hcs'.1 hcs'.2⟩)
  ·rename_i n e hu;obtain ⟨i,h1,h2⟩:=zmd ht;cases h2;obtain ⟨cs',hfill,hcs'⟩:=zfO (zdP E z) hlen hden hl;refine zaj hu ?_;dsimp only;refine zav h1 ?_;rw [Array.toList_map];have e2 : (fun j => some (j * i.size,i.size)) = Places.at (.elems i.size):=rfl;rw [e2,hfill];exact zbq (zbq ⟨rfl,_,rfl,.agg hcs'.1 hcs'.2⟩)
  ·cases ht)
theorem zd2 {E : Env} (z : Value) (m : Nat) : Denl E (zfA z m) ((Array.range m).map (fun x => z.cells[x % z.cells.size]!)):=by
 refine ⟨by simp [zfA],fun j x hx => ?_⟩;unfold zfA at hx;rw [List.getElem?_map] at hx;obtain ⟨k,hk,rfl⟩:=Option.map_eq_some_iff.1 hx;have hj : j < m:=by have:=(List.getElem?_eq_some_iff.1 hk).1; simpa using this
 have hmj : k = j:=by rw [List.getElem?_range hj] at hk; cases hk; rfl
 subst hmj;simp only [Array.getD_eq_getD_getElem?,Array.getElem?_map,Array.getElem?_range,hj,if_true,Option.map_some,Option.getD_some];exact zhL E _
theorem zgo {t e : TypeId} {len sz : Nat} {z : Value} {parts : Array (Nat × Operand)} {zas : List (Nat × AV)} {l : List AV} (ho : o.op = .buildSlice t len parts) (ht : zlM P t = some (e,sz,z)) (hsz : len * sz <= 2 ^ 24) (hp : evp s parts.toList = some zas)
  (hl : zmL (Places.at (.elems sz)) (zfA z (len * sz)) zas = some l) : QStep lv P r o s (.sl len l .exact):=by
 intro E V a N Q hc htk hdf h1;unfold zlM at ht;split at ht
 ·rename_i e' hu;obtain ⟨i,hi,ht⟩:=Option.bind_eq_some_iff.1 ht;obtain ⟨z',hz,ht⟩:=Option.map_eq_some_iff.1 ht;cases ht;refine ⟨hdf,?_⟩;unfold execOp; rw [ho];dsimp only;refine zac ?_;unfold Instr.buildSlice;refine zaj hu ?_;dsimp only;refine zav hi ?_;rw [if_neg (by omega)];obtain ⟨hlen,hden⟩:=zhJ htk hp;obtain ⟨cs',hfill,hcs'⟩:=zfO (zd2 (E:=E) z (len * i.size)) hlen hden hl;have fin : ∀ (rr : Nat),V.fresh rr -> SemOk P (V.upd rr (.cells cs' e)) (pure (Next.value (.slice (some ⟨rr,0,none⟩) len len))) (Upon lv P r o a N Q) (fun v V' => Q (.panic [{ v,recovered:=false }]) a V'):=fun rr hf =>
   SemOk.ghost (zkI hf (hc.freshChan hf.1).1) (zbq (h1 _ _ _ (hc.pub hf cs').1 rfl rfl (hc.pub hf cs').2 (Den.published hc hf hcs' (Nat.le_refl _) rfl)))
  have e2 : (fun j => some (j * i.size,i.size)) = Places.at (.elems i.size):=rfl;rw [e2];by_cases h0 : len * i.size = 0
  ·rw [if_pos h0];refine zac (zbq ?_);rw [h0] at hfill ⊢;rw [show Array.range 0 = #[] from rfl] at hfill ⊢;simp only [List.map_toArray,List.map_nil,Array.toList_map] at hfill ⊢;rw [hfill];unfold newRow;exact zac (zac (zac (za7 fun rr hf => zan (zbq (zbq (zbq (fin rr hf)))))))
  ·rw [if_neg h0];refine zac (zac ?_);unfold typeInfo;refine zac (zaG (zan ?_));rw [hi];refine zbq ?_;rw [hz];refine zbq (zac (zbq ?_));rw [Array.toList_map,hfill];unfold newRow;exact zac (zac (zac (za7 fun rr hf => zan (zbq (zbq (zbq (fin rr hf)))))))
 ·cases ht
end
def zqA (P : Program) (t : TypeId) : Bool:=match P.underlying t with
 | some (.int _) => false
 | some _ => true
 | none => false
def AppOf (P : Program) (t t' : TypeId) : Option (TypeId × Nat × Value):=match P.underlying t with
 | some (.slice e) => (P.info? e).bind fun i => i.zero.bind fun z => if z.cells.size = i.size /\ i.bytes <= 2 ^ 16 /\ i.bytes ≠ 0 /\ zqA P t' = true then some (e,i.size,z) else none
 | _ => none
theorem AppOf.out {P : Program} {t t' e : TypeId} {sz : Nat} {z : Value} (h : AppOf P t t' = some (e,sz,z)) : ∃ i d,P.underlying t = some (.slice e) /\ P.info? e = some i /\ i.zero = some z /\ i.size = sz /\ z.cells.size = sz /\ i.bytes <= 2 ^ 16 /\ i.bytes ≠ 0 /\ P.underlying t' = some d /\ (∀ k,d ≠ .int k):=by
 unfold AppOf at h;split at h
 ·rename_i e' hu;obtain ⟨i,h1,h⟩:=Option.bind_eq_some_iff.1 h;obtain ⟨z',h2,h⟩:=Option.bind_eq_some_iff.1 h;split at h
  ·rename_i hc;obtain ⟨c1,c2,c3,c4⟩:=hc;cases h;unfold zqA at c4;split at c4
   ·cases c4
   ·rename_i d hd hne;exact ⟨i,d,hu,h1,h2,rfl,c1,c2,c3,hne,fun k e => hd k e⟩
   ·cases c4
  ·cases h
 ·cases h
def AS.src (s : AS) (sz : Nat) : AV -> Option (Nat × List AV)
 | .sl m l _ => some (m,l.take (m * sz))
 | .osl id off m _ => match s.H[id]? with
  | some (.cells l _) | some (.part _ l _) | some (.own _ l _) => some (m,(l.drop off).take (m * sz))
  | _ => none
 | _ => none
section
variable {P : Program} {E : Env} {V : View} {s : AS} {K : Array Value -> View -> Prop} {Kp : Value -> View -> Prop}
theorem zgN {l : List AV} {f : Nat -> Value} {n : Nat} (hn : n <= l.length) (h : ∀ (i : Nat) x,l[i]? = some x -> Den E x (f i)) : Denl E (l.take n) ((List.range n).map f).toArray:=by
 have:=zfS hn h;cases this with
 | agg h1 h2 => exact ⟨h1,h2⟩
theorem zbL (hc : Conc E V s.H) {av : AV} {v : Value} (hd : Den E av v) {sz m k : Nat} {l : List AV} (h : s.src sz av = some (m,l)) (hl : l.length = m * sz) (hk : k <= m) (hK : ∀ cs,Denl E (l.take (k * sz)) cs -> K cs V) : SemOk P V (Builtin.firstCells sz k v) K Kp:=by
 have hks : k * sz <= m * sz:=Nat.mul_le_mul_right _ hk;cases hd with
 | sl b o cap f hcap he h1 h2 =>
  cases h;rename_i l _;simp only [List.length_take] at hl;have e : (l.take (m * sz)).take (k * sz) = l.take (k * sz):=by rw [List.take_take]; congr 1; omega
  rw [e] at hK;unfold Builtin.firstCells;exact zcd (f:=f) (fun hp => (hc.immNotGroup (h1 0 (by omega))).1) (fun j hj => by unfold View.get; rw [<- hc.I,h1 j (by omega)]) (hK _ (zgN (by omega) h2))
 | nil he =>
  cases h;have : k = 0:=by omega
  subst this;have hK:=hK #[] ⟨by simp,by simp⟩;unfold Builtin.firstCells;split
  ·rw [Nat.zero_mul]; exact zbq hK
  ·exact zbq hK
  ·rename_i h; cases h
  ·rename_i a _ _ h1 h2 _;cases a with
   | none => exact (h2 _ _ rfl).elim
   | some x => exact (h1 _ _ _ rfl).elim
 | osl hi hcap =>
  rename_i id off m' cap cap';simp only [AS.src] at h;cases hq : s.H[id]? with
  | none => rw [hq] at h; cases h
  | some ob =>
   rw [hq] at h;cases ob with
   | cells l' el =>
    cases h;obtain ⟨⟨cs,ho,hs,hden⟩,him⟩:=hc.obj id _ hq;simp only [List.length_take,List.length_drop] at hl;have e : ((l'.drop off).take (m * sz)).take (k * sz) = (l'.drop off).take (k * sz):=(by rw [List.take_take]; congr 1; omega);rw [e] at hK;unfold Builtin.firstCells;refine zcd (f:=fun i => cs.getD (off + i) undef) (fun _ => (hc.notGroup hq rfl).1) (fun j hj => ?_) (hK _ (zgN (by simp only [List.length_drop]; omega) fun i x hx => ?_))
    ·unfold View.get;rw [him,ho];have hlt : off + j < cs.size:=(by omega);simp only [Array.getD_eq_getD_getElem?,Array.getElem?_eq_getElem hlt,Option.getD_some]
    ·rw [List.getElem?_drop] at hx;exact hden _ _ hx
   | part p l' el =>
    cases h;obtain ⟨⟨cs,ho,⟨hs,hden⟩,hpt⟩,him⟩:=hc.obj id _ hq;simp only [List.length_take,List.length_drop] at hl;have e : ((l'.drop off).take (m * sz)).take (k * sz) = (l'.drop off).take (k * sz):=(by rw [List.take_take]; congr 1; omega);rw [e] at hK;unfold Builtin.firstCells;refine zcd (f:=fun i => cs.getD (off + i) undef) (fun _ => (hc.notGroup hq rfl).1) (fun j hj => ?_) (hK _ (zgN (by simp only [List.length_drop]; omega) fun i x hx => ?_))
    ·have hlt : off + j < cs.size:=(by omega);unfold View.get;by_cases hp : off + j < p
     ·rw [hpt _ hp];simp only [Array.getD_eq_getD_getElem?,Array.getElem?_eq_getElem hlt,Option.getD_some]
     ·rw [him _ (by omega),ho];simp only [Array.getD_eq_getD_getElem?,Array.getElem?_eq_getElem hlt,Option.getD_some]
    ·rw [List.getElem?_drop] at hx;exact hden _ _ hx
   | own sz' l' el =>
    cases h;obtain ⟨⟨cs,ho,⟨hs,hden⟩,_⟩,him⟩:=hc.obj id _ hq;simp only [List.length_take,List.length_drop] at hl;have e : ((l'.drop off).take (m * sz)).take (k * sz) = (l'.drop off).take (k * sz):=(by rw [List.take_take]; congr 1; omega);rw [e] at hK;unfold Builtin.firstCells;refine zcd (f:=fun i => cs.getD (off + i) undef) (fun _ => (hc.notGroup hq rfl).1) (fun j hj => ?_) (hK _ (zgN (by simp only [List.length_drop]; omega) fun i x hx => ?_))
    ·have hlt : off + j < cs.size:=(by omega);unfold View.get;rw [him,ho];simp only [Array.getD_eq_getD_getElem?,Array.getElem?_eq_getElem hlt,Option.getD_some]
    ·rw [List.getElem?_drop] at hx;exact hden _ _ hx
   | _ => cases h
 | _ => cases h
theorem zft {av : AV} {v : Value} (hd : Den E av v) {sz m : Nat} {l : List AV} (h : s.src sz av = some (m,l)) : Builtin.lenOf v = pure m:=by
 cases hd with
 | sl => cases h; rfl
 | nil => cases h; rfl
 | osl =>
  simp only [AS.src] at h;split at h
  ·cases h; rfl
  ·cases h; rfl
  ·cases h; rfl
  ·cases h
 | _ => cases h
end
theorem zgD (need : Nat) : ∀ (r c : Nat),c <= 2 * need + 200 -> Builtin.growBy need r c <= 2 * need + 200
 | 0,c,h => h
 | r + 1,c,h => by
  unfold Builtin.growBy;split
  ·exact h
  ·exact zgD need r _ (by omega)
theorem zi6 (need cap : Nat) (h : cap < need) : Builtin.nextslicecap need cap <= 2 * need + 200:=by
 unfold Builtin.nextslicecap;split
 ·omega
 ·split
  ·omega
  ·exact zgD need 4 cap (by omega)
theorem zcN {E : Env} {l m : List AV} {x y : Array Value} (h : Denl E l x) (k : Denl E m y) : Denl E (l ++ m) (x ++ y):=by
 refine ⟨by simp [h.1,k.1],fun i a e => ?_⟩;by_cases hi : i < l.length
 ·rw [List.getElem?_append_left hi] at e;have:=h.2 i a e;rw [Array.getD_eq_getD_getElem?,Array.getElem?_append_left (by rw [h.1]; exact hi)];rwa [Array.getD_eq_getD_getElem?] at this
 ·rw [List.getElem?_append_right (by omega)] at e;have:=k.2 _ a e;rw [Array.getD_eq_getD_getElem?,Array.getElem?_append_right (by rw [h.1]; omega),h.1];rwa [Array.getD_eq_getD_getElem?] at this
theorem zc3 {P : Program} {V : View} {α : Type} {K : α -> View -> Prop} {Kp : Value -> View -> Prop} {b : Bool} {k : Bool -> Sem α} (hb : b = false) (h : SemOk P V (k false) K Kp) : SemOk P V (pure b >>= k) K Kp:=by
 subst hb; exact zac (zbq h)
section
variable {P : Program} {E : Env} {V : View} {s : AS} {K : Value -> View -> Prop} {Kp : Value -> View -> Prop}
theorem zdj {n : Nat} {K : Unit -> View -> Prop} (h : K () V) : SemOk P V (askRoom n) K Kp:=by
 unfold askRoom;split
 ·exact zgk (zan h)
 ·exact zbq h
theorem zlZ (hc : Conc E V s.H) {t t' e : TypeId} {sz n m cap : Nat} {z : Value} {base : Option Addr} {av : AV} {v : Value} {ax : AV} {l l' : List AV} {ty : TypeId} (ht : AppOf P t t' = some (e,sz,z)) (hd : Den E ax (.slice base n cap)) (hs0 : s.src sz ax = some (n,l)) (hd' : Den E av v) (hs : s.src sz av = some (m,l'))
  (hl : l.length = n * sz) (hl' : l'.length = m * sz) (hb : n + m <= 2 ^ 30) (hgt : cap < n + m)
  (hK : ∀ r cs cap',V.fresh r -> Denl E (l ++ l') (cs.extract 0 ((n + m) * sz)) -> n + m <= cap' -> cs.size = cap' * sz -> K (.slice (some ⟨r,0,none⟩) (n + m) cap') (V.upd r (.cells cs e))) : SemOk P V (Builtin.append_ #[t,t'] ty #[.slice base n cap,v]) K Kp:=by
 obtain ⟨i,d,h1,h2,h3,h4,h5,h6,h7,h8,h9⟩:=AppOf.out ht;unfold Builtin.append_;simp only [List.getElem?_toArray,List.getElem?_cons_zero,List.getElem?_cons_succ];refine zaj h1 ?_;dsimp only;refine zav h2 ?_;rw [h4];refine zaj h8 ?_;refine zc3 (by cases d <;> first | rfl | exact absurd rfl (h9 _)) ?_;simp only [Bool.false_eq_true,if_false,Bool.not_false,if_true];rw [zft hd' hs];refine zac (zbq ?_);rw [if_neg (by omega)];refine zaY h2 ?_;rw [if_neg (by intro hx; exact hx.2.elim (fun x => x.elim) h7)];refine zaY h2 ?_;have hcap:=zi6 (n + m) cap hgt;have hmul : Builtin.nextslicecap (n + m) cap * i.bytes <= (2 * 2 ^ 30 + 200) * 2 ^ 16:=Nat.mul_le_mul (by omega) h6;rw [if_neg (by omega)];refine zac (zdY (fun hf => by cases hf) (fun _ t => zan ?_));generalize hcc : Question.cut (.appendCap (n + m) cap e) t = cap';have hcap' : n + m <= cap':=by rw [<- hcc]; exact Nat.le_add_right _ _
 refine zaY h2 (zac (zdj (zac ?_)));refine zbL hc hd hs0 hl (Nat.le_refl _) fun cs1 hcs1 => ?_;refine zac (zbL hc hd' hs hl' (Nat.le_refl _) fun cs2 hcs2 => ?_);refine zdG (z:=z) (by unfold zh2; rw [h2]; exact h3) ?_;rw [<- hl,List.take_length] at hcs1;rw [<- hl',List.take_length] at hcs2;unfold newRow;refine zac (zac (za7 fun r hf => zan (zbq (zbq ?_))));have hsz1 : cs1.size = n * sz:=by rw [hcs1.1,hl]
 have hsz2 : cs2.size = m * sz:=by rw [hcs2.1,hl']
 have hsz : (cs1 ++ cs2).size = (n + m) * sz:=by rw [Array.size_append,hsz1,hsz2,Nat.add_mul]
 refine hK r _ cap' hf ?_ hcap' ?_
 ·have e1 : (cs1 ++ cs2 ++ Builtin.zeroCells z.cells (cap' - (n + m))).extract 0 ((n + m) * sz) = cs1 ++ cs2:=by
   rw [<- hsz];generalize cs1 ++ cs2 = q;apply Array.ext';simp [Array.toList_extract,List.extract_eq_take_drop]
  rw [e1]; exact zcN hcs1 hcs2
 ·rw [Array.size_append,hsz];have : (Builtin.zeroCells z.cells (cap' - (n + m))).size = (cap' - (n + m)) * sz:=by simp [Builtin.zeroCells,h5]
  rw [this,<- Nat.add_mul]; congr 1; omega
theorem zb1 (hc : Conc E V s.H) {t t' e : TypeId} {sz n m cap : Nat} {z : Value} {base : Option Addr} {av : AV} {v : Value} {en : End} {l l' : List AV} {ty : TypeId} (ht : AppOf P t t' = some (e,sz,z)) (hd : Den E (.sl n l en) (.slice base n cap)) (hd' : Den E av v) (hs : s.src sz av = some (m,l'))
  (hl : l.length = n * sz) (hl' : l'.length = m * sz) (hb : n + m <= 2 ^ 30) (hgt : cap < n + m)
  (hK : ∀ r cs cap',V.fresh r -> Denl E (l ++ l') (cs.extract 0 ((n + m) * sz)) -> n + m <= cap' -> cs.size = cap' * sz -> K (.slice (some ⟨r,0,none⟩) (n + m) cap') (V.upd r (.cells cs e))) : SemOk P V (Builtin.append_ #[t,t'] ty #[.slice base n cap,v]) K Kp :=
 zlZ hc ht hd (by simp only [AS.src]; rw [<- hl,List.take_length]) hd' hs hl hl' hb hgt hK
theorem zbw (hc : Conc E V s.H) {t t' e : TypeId} {sz n cap : Nat} {z : Value} {base : Option Addr} {av : AV} {v : Value} {l' : List AV} {ty : TypeId} (ht : AppOf P t t' = some (e,sz,z)) (hd' : Den E av v) (hs : s.src sz av = some (0,l'))
  (hl' : l'.length = 0 * sz) (hle : n <= cap) (hK : K (.slice base n cap) V) : SemOk P V (Builtin.append_ #[t,t'] ty #[.slice base n cap,v]) K Kp:=by
 obtain ⟨i,d,h1,h2,h3,h4,h5,h6,h7,h8,h9⟩:=AppOf.out ht;unfold Builtin.append_;simp only [List.getElem?_toArray,List.getElem?_cons_zero,List.getElem?_cons_succ];refine zaj h1 ?_;dsimp only;refine zav h2 ?_;rw [h4];refine zaj h8 ?_;refine zc3 (by cases d <;> first | rfl | exact absurd rfl (h9 _)) ?_;simp only [Bool.false_eq_true,if_false,Bool.not_false,if_true];rw [zft hd' hs];refine zac (zbq ?_);rw [if_pos (by omega)];refine zac (zbL hc hd' hs hl' (Nat.le_refl _) fun cs2 hcs2 => ?_);have hsz2 : cs2 = #[]:=by
  have:=hcs2.1;apply Array.eq_empty_of_size_eq_zero;rw [this]; simp
 subst hsz2;rw [Nat.add_zero];cases base with
 | none => exact zbq hK
 | some a =>
  dsimp only;unfold storeCells;exact zac (zbq (zbq hK))
theorem zd4 (hc : Conc E V s.H) {t t' e : TypeId} {sz n m cap : Nat} {z : Value} {b : Nat} {av : AV} {v : Value} {l' : List AV} {ty : TypeId} {cs : Array Value} {el : TypeId} (ht : AppOf P t t' = some (e,sz,z)) (hd' : Den E av v) (hs : s.src sz av = some (m,l'))
  (hl' : l'.length = m * sz) (hle : n + m <= cap) (ho : V.own b = some (.cells cs el (0,0))) (hsz : cap * sz <= cs.size) (hi : ∀ o,n * sz <= o -> V.imm b o = none) (hg : V.role.group ≠ some b /\ V.role.chan ≠ some b) (hleaf : ∀ a ∈ l',a.leaf = true)
  (hK : ∀ cs2,Denl E l' cs2 -> K (.slice (some ⟨b,0,none⟩) (n + m) cap) (V.upd b (.cells (storeAt cs (n * sz) cs2.toList) el (0,0)))) : SemOk P V (Builtin.append_ #[t,t'] ty #[.slice (some ⟨b,0,none⟩) n cap,v]) K Kp:=by
 obtain ⟨i,d,h1,h2,h3,h4,h5,h6,h7,h8,h9⟩:=AppOf.out ht;unfold Builtin.append_;simp only [List.getElem?_toArray,List.getElem?_cons_zero,List.getElem?_cons_succ];refine zaj h1 ?_;dsimp only;refine zav h2 ?_;rw [h4];refine zaj h8 ?_;refine zc3 (by cases d <;> first | rfl | exact absurd rfl (h9 _)) ?_;simp only [Bool.false_eq_true,if_false,Bool.not_false,if_true];rw [zft hd' hs];refine zac (zbq ?_);rw [if_pos (by omega)];refine zac (zbL hc hd' hs hl' (Nat.le_refl _) fun cs2 hcs2 => ?_);rw [<- hl',List.take_length] at hcs2;rw [zbr];have hms : (n + m) * sz <= cap * sz:=Nat.mul_le_mul_right _ hle;rw [Nat.add_mul] at hms;refine zac (za5 _ 0 V cs hg.1 hg.2 ho (fun o h _ => hi o (by omega)) (by have:=hcs2.1; simp; omega) (zcn hcs2 hleaf) ?_);rw [Nat.zero_add,Nat.add_zero];exact zbq (hK cs2 hcs2)
end
def Env.tok (E : Env) (I : Imm) (rm : Option Addr × Nat) (v : Nat) : Env:={ E with I:=I,n:=E.n + 1,room:=fun k u => if k = E.n /\ u = v then rm else E.room k u,ver:=fun k => if k = E.n then v else E.ver k }
theorem Env.le_tok (E : Env) {I : Imm} (hI : ∀ b o v,E.I b o = some v -> I b o = some v) (rm : Option Addr × Nat) (v : Nat) : E.Le (E.tok I rm v) :=
 ⟨hI,Nat.le_succ _,fun k hk => rfl,fun k hk => by simp [Env.tok,Nat.ne_of_lt hk],fun k u hk _ => by simp [Env.tok,Nat.ne_of_lt hk],rfl,rfl⟩
def Env.grow (E : Env) (I : Imm) (k : Nat) (rm : Option Addr × Nat) (v : Nat) : Env:={ E with I:=I,room:=fun j u => if j = k /\ u = v then rm else E.room j u,ver:=fun j => if j = k then v else E.ver j }
theorem Env.le_grow (E : Env) {I : Imm} (hI : ∀ b o v,E.I b o = some v -> I b o = some v) {k : Nat} (rm : Option Addr × Nat) {v : Nat} (hv : E.ver k < v) : E.Le (E.grow I k rm v) :=
 ⟨hI,Nat.le_refl _,fun _ _ => rfl,fun j _ => by
  simp only [Env.grow]; split
  ·rename_i e; subst e; omega
  ·exact Nat.le_refl _,fun j u _ hu => by
  simp only [Env.grow]; split
  ·rename_i e; obtain ⟨rfl,rfl⟩:=e; omega
  ·rfl,rfl,rfl⟩
abbrev View.laid (V : View) (b : Nat) (cs : Array Value) (el : TypeId) (p : Nat -> Bool) : View:=(V.upd b (.cells cs el (0,0))).pubp b cs p
theorem zfH {V : View} {b b' : Nat} {cs : Array Value} {el : TypeId} {p : Nat -> Bool} (h : b' ≠ b) : (V.laid b cs el p).own b' = V.own b':=by simp [View.laid,View.pubp,View.upd,h]
theorem zfJ {V : View} {b b' : Nat} {cs : Array Value} {el : TypeId} {p : Nat -> Bool} (h : b' ≠ b) (o : Nat) : (V.laid b cs el p).imm b' o = V.imm b' o:=by simp [View.laid,View.pubp,View.upd,h]
theorem zfI {V : View} {b : Nat} {cs : Array Value} {el : TypeId} {p : Nat -> Bool} (hp : ∀ o,p o = true -> V.imm b o = none) : ∀ b' o v,V.imm b' o = some v -> (V.laid b cs el p).imm b' o = some v:=fun b' o v h => by
 have hn : ¬ (b' = b /\ p o = true):=fun hb => by obtain ⟨rfl,h2⟩:=hb; rw [hp o h2] at h; cases h
 simp only [View.laid,View.pubp,View.upd,if_neg hn]; exact h
theorem zhA {V : View} {b : Nat} {cs : Array Value} {el : TypeId} {p : Nat -> Bool} {o : Nat} (h : p o = true) : (V.laid b cs el p).imm b o = cs[o]?:=by simp [View.laid,View.pubp,h]
theorem zeC {V : View} {b : Nat} {cs : Array Value} {el : TypeId} {p : Nat -> Bool} : (V.laid b cs el p).own b = some (.cells cs el (0,0)):=by simp [View.laid,View.pubp,View.upd]
theorem zkV {E : Env} {I : Imm} {b n cap : Nat} {cs : Array Value} {l : List AV} {e : End} {sz : Nat} (hI : E.I = I) (hd : Denl E l (cs.extract 0 (n * sz))) (hl : l.length = n * sz) (hs : n * sz <= cs.size) (hi : ∀ o,o < n * sz -> I b o = cs[o]?) (hc : n <= cap) (he : EndOk E e (some ⟨b,0,none⟩) n cap) : Den E (.sl n l e) (.slice (some ⟨b,0,none⟩) n cap):=by
 refine .sl b 0 cap (fun i => cs.getD i undef) hc he (fun i h => ?_) (fun i x hx => ?_)
 ·rw [hl] at h;have hlt : i < cs.size:=by omega
  rw [hI,Nat.zero_add,hi i h];simp only [Array.getD_eq_getD_getElem?,Array.getElem?_eq_getElem hlt,Option.getD_some]
 ·have hi' : i < n * sz:=by rw [<- hl]; exact (List.getElem?_eq_some_iff.1 hx).1
  have:=hd.2 i x hx;have hlt : i < cs.size:=by omega
  rw [Array.getD_eq_getD_getElem?,Array.getElem?_eq_getElem hlt];rw [Array.getD_eq_getD_getElem?] at this;rw [Array.getElem?_extract] at this;have hmin : i < min (n * sz) cs.size:=by omega
  simpa [hi',hlt,hmin] using this
section
variable {E : Env} {V : View} {H : List AObj}
theorem Conc.tok0 (hc : Conc E V H) {n : Nat} (sz : Nat) (el : TypeId) (a : Option Addr) : Conc (E.tok V.imm (a,n) n) V (H ++ [.tail n sz el]) /\ E.Le (E.tok V.imm (a,n) n):=by
 have hle:=E.le_tok (I:=V.imm) (fun b o v h => by rw [<- hc.I]; exact h) (a,n) n;refine ⟨hc.turn H.length (.tail n sz el) hle rfl (by simp [Env.tok,hc.n]) zcj rfl (fun j hj _ => by simp [Env.tok,hc.n,hj]) (fun b y _ hy => ⟨hy,fun _ => rfl⟩) ?_ (fun b h => ?_),hle⟩
 ·rw [<- hc.n];exact ⟨by simp [Env.tok],.inl (by simp [Env.tok])⟩
 ·rw [<- hc.n] at h;simp [zfE,Env.tok] at h
theorem Conc.tok1 (hc : Conc E V H) {r n cap sz : Nat} {el : TypeId} {cs : Array Value} (hf : V.fresh r) (hs : cs.size = cap * sz) (hn : n <= cap) :
  Conc (E.tok (V.laid r cs el (· < n * sz)).imm (some ⟨r,0,none⟩,cap) n) (V.laid r cs el (· < n * sz)) (H ++ [.tail n sz el]) /\ E.Le (E.tok (V.laid r cs el (· < n * sz)).imm (some ⟨r,0,none⟩,cap) n):=by
 have hle:=E.le_tok (I:=(V.laid r cs el (· < n * sz)).imm) (fun b o v h => zfI (fun o _ => hf.2 o) b o v (by rw [<- hc.I]; exact h)) (some ⟨r,0,none⟩,cap) n;refine ⟨hc.turn H.length (.tail n sz el) hle rfl (by simp [Env.tok,hc.n]) zcj rfl (fun j hj _ => by simp [Env.tok,hc.n,hj]) (fun b y _ hy => ?_) ?_ (fun b h => .inr ?_),hle⟩
 ·have hb : b ≠ r:=fun e => by subst e; rw [hf.1] at hy; cases hy
  exact ⟨by rw [zfH hb]; exact hy,fun o => zfJ hb o⟩
 ·rw [<- hc.n];refine ⟨by simp [Env.tok],?_⟩;by_cases e : cap = n
  ·exact .inl (by simp [Env.tok,e])
  ·refine .inr ⟨r,cap,cs,by simp [Env.tok],zeC,hs,by omega,fun o ho => ?_⟩;have : ¬ (decide (o < n * sz) = true):=(by simpa using ho);simp only [View.laid,View.pubp];rw [if_neg (fun x => this x.2)];exact hf.2 o
 ·rw [<- hc.n] at h;simp [zfE,Env.tok] at h;obtain ⟨_,rfl⟩:=h; exact hf.1
theorem Conc.grow1 (hc : Conc E V H) {k r n n' cap sz : Nat} {el el' : TypeId} {cs : Array Value} (hk : H[k]? = some (.tail n sz el')) (hf : V.fresh r) (hs : cs.size = cap * sz) (hn : n' <= cap) (hlt : n < n') :
  Conc (E.grow (V.laid r cs el (· < n' * sz)).imm k (some ⟨r,0,none⟩,cap) n') (V.laid r cs el (· < n' * sz)) (H.set k (.tail n' sz el)) /\ E.Le (E.grow (V.laid r cs el (· < n' * sz)).imm k (some ⟨r,0,none⟩,cap) n'):=by
 have hver : E.ver k = n:=(hc.obj k _ hk).1;have hle:=E.le_grow (I:=(V.laid r cs el (· < n' * sz)).imm) (fun b o v h => zfI (fun o _ => hf.2 o) b o v (by rw [<- hc.I]; exact h)) (k:=k) (some ⟨r,0,none⟩,cap) (v:=n') (by omega);refine ⟨hc.turn k (.tail n' sz el) hle rfl (by simpa [Env.grow] using hc.n) zaF rfl (fun j hj _ => by simp [Env.grow,hj]) (fun b y _ hy => ?_) ?_ (fun b h => .inr ?_),hle⟩
 ·have hb : b ≠ r:=fun e => by subst e; rw [hf.1] at hy; cases hy
  exact ⟨by rw [zfH hb]; exact hy,fun o => zfJ hb o⟩
 ·refine ⟨by simp [Env.grow],?_⟩;by_cases e : cap = n'
  ·exact .inl (by simp [Env.grow,e])
  ·refine .inr ⟨r,cap,cs,by simp [Env.grow],zeC,hs,by omega,fun o ho => ?_⟩;have : ¬ (decide (o < n' * sz) = true):=(by simpa using ho);simp only [View.laid,View.pubp];rw [if_neg (fun x => this x.2)];exact hf.2 o
 ·simp [zfE,Env.grow] at h;obtain ⟨_,rfl⟩:=h; exact hf.1
theorem Conc.grow2 (hc : Conc E V H) {k b n n' cap sz : Nat} {el el' : TypeId} {cs cs' : Array Value} (hk : H[k]? = some (.tail n sz el')) (hrm : E.room k n = (some ⟨b,0,none⟩,cap)) (ho : V.own b = some (.cells cs el (0,0))) (hi : ∀ o,n * sz <= o -> V.imm b o = none) (hs : cs'.size = cap * sz) (hn : n' <= cap) (hlt : n < n') :
  Conc (E.grow (V.laid b cs' el (fun o => n * sz <= o && o < n' * sz)).imm k (some ⟨b,0,none⟩,cap) n') (V.laid b cs' el (fun o => n * sz <= o && o < n' * sz)) (H.set k (.tail n' sz el)) /\ E.Le (E.grow (V.laid b cs' el (fun o => n * sz <= o && o < n' * sz)).imm k (some ⟨b,0,none⟩,cap) n'):=by
 have hver : E.ver k = n:=(hc.obj k _ hk).1;have hp : ∀ o,(fun o => decide (n * sz <= o) && decide (o < n' * sz)) o = true -> V.imm b o = none:=fun o h => hi o (by simp at h; exact h.1);have hle:=E.le_grow (I:=(V.laid b cs' el (fun o => n * sz <= o && o < n' * sz)).imm) (fun b o v h => zfI hp b o v (by rw [<- hc.I]; exact h)) (k:=k) (some ⟨b,0,none⟩,cap) (v:=n') (by omega);have hbk : zfE E k (.tail n sz el') = some b:=by
  simp only [zfE,hrm];rw [if_neg (by omega)]; rfl
 refine ⟨hc.turn k (.tail n' sz el) hle rfl (by simpa [Env.grow] using hc.n) zaF rfl (fun j hj _ => by simp [Env.grow,hj]) (fun b' y hno hy => ?_) ?_ (fun b' h => .inl ⟨_,hk,?_⟩),hle⟩
 ·have hb : b' ≠ b:=fun e => by subst e; exact hno _ hk hbk
  exact ⟨by rw [zfH hb]; exact hy,fun o => zfJ hb o⟩
 ·refine ⟨by simp [Env.grow],?_⟩;by_cases e : cap = n'
  ·exact .inl (by simp [Env.grow,e])
  ·have hnn : n * sz <= n' * sz:=Nat.mul_le_mul_right _ (by omega);refine .inr ⟨b,cap,cs',by simp [Env.grow],zeC,hs,by omega,fun o ho' => ?_⟩;have : ¬ ((decide (n * sz <= o) && decide (o < n' * sz)) = true):=(by simp; omega);simp only [View.laid,View.pubp];rw [if_neg (fun x => this x.2)];exact hi o (by omega)
 ·simp [zfE,Env.grow] at h;obtain ⟨_,rfl⟩:=h; exact hbk
end
section
variable {lv : Bool} {P : Program} {r : Option Nat} {o : Oper} {s : AS} {next : AS -> Prop} {bad : AV -> AS -> Prop}
def zm6 (s : AS) (dst : Option Nat) (next : AS -> Prop) (n m sz : Nat) (elem : TypeId) (l l' : List AV) : End -> Prop
 | .exact => next ((⟨s.T,s.H ++ [.tail (n + m) sz elem]⟩ : AS).put dst (.sl (n + m) (l ++ l') (.opn s.H.length)))
 | .opn k => (match s.H[k]? with
   | some (.tail n' sz' el') => n' = n /\ sz' = sz /\ el' = elem
   | _ => False) /\ (∀ a ∈ l',a.leaf = true) /\ next ((⟨s.T,s.H.set k (.tail (n + m) sz elem)⟩ : AS).put dst (.sl (n + m) (l ++ l') (.opn k)))
 | .shut => m = 0 /\ next (s.put dst (.sl n l .shut))
theorem zjq {E E' : Env} {n : Nat} {l : List AV} {en : End} {base : Option Addr} {cap : Nat} (h : Den E (.sl n l en) (.slice base n cap)) (hl : E.Le E') {e' : End} (he : EndOk E' e' base n cap) : Den E' (.sl n l e') (.slice base n cap):=by
 cases h with
 | sl b o cap f hc _ h1 h2 => exact .sl b o cap f hc he (fun i hi => hl.I _ _ _ (h1 i hi)) (fun i x hx => (h2 i x hx).mono hl)
 | nil _ => exact .nil he
theorem zcc {c : Call} {x y : Operand} {t t' elem : TypeId} {sz n m : Nat} {z : Value} {en : End} {l l' : List AV} {av : AV} (ho : o.op = .call c) (hcl : c.callee = .builtin .append) (hargs : c.args = #[x,y]) (hts : c.argTypes = #[t,t']) (ht : AppOf P t t' = some (elem,sz,z))
  (hx : s.ev x = some (.sl n l en)) (hy : s.ev y = some av) (hs : s.src sz av = some (m,l')) (hl : l.length = n * sz) (hl' : l'.length = m * sz) (hb : n + m <= 2 ^ 30) (hn : zm6 s o.dst next n m sz elem l l' en) : Step lv P r o s next bad:=by
 intro E V a N Q hc htk hd hdf h1 _;refine ⟨hdf,?_⟩;have hdx:=Den.ev htk hx;have hdy:=Den.ev htk hy;generalize hvx : a.eval x = vx at hdx;generalize hvy : a.eval y = vy at hdy;unfold execOp; rw [ho];dsimp only;unfold resolve;rw [hcl];dsimp only;refine zac (zbq ?_);unfold invoke builtin;dsimp only;refine zac ?_;have hmap : c.args.map a.eval = #[vx,vy]:=by rw [hargs]; simp [hvx,hvy]
 rw [hmap,hts];obtain ⟨base,cap,rfl⟩ : ∃ base cap,vx = .slice base n cap:=by
  cases hdx with
  | sl b o cap f hcap he q1 q2 => exact ⟨_,_,rfl⟩
  | nil he => exact ⟨_,_,rfl⟩
 have hcap : n <= cap:=by
  cases hdx with
  | sl b o cap f hcap he q1 q2 => exact hcap
  | nil he => exact Nat.le_refl _
 have fin : ∀ E' V' H' (av' : AV) v',E.Le E' -> V'.role = V.role -> V'.deaf = V.deaf -> Conc E' V' H' -> Den E' av' v' -> next ((⟨s.T,H'⟩ : AS).put o.dst av') -> SemOk P V' (pure (Next.value v')) (Upon lv P r o a N Q) (fun v V' => Q (.panic [{ v,recovered:=false }]) a V'):=fun E' V' H' av' v' hle hr hdeaf hc' hden hnx =>
  zbq (h1 E' V' (a.put o.dst v') ((⟨s.T,H'⟩ : AS).put o.dst av') ⟨hle,zaA _ _ _,zaw _ _ _,hr,hdeaf⟩ (by rw [zbx]; exact hc') (TOk.putd (s:=⟨s.T,H'⟩) (htk.mono hle) hd hden) hnx)
 have hsum : (l ++ l').length = (n + m) * sz:=by rw [List.length_append,hl,hl',Nat.add_mul]
 cases en with
 | exact =>
  have hcn : cap = n:=by
   cases hdx with
   | sl b o cap f hcap he q1 q2 => exact he
   | nil he => rfl
  subst hcn;have hn':=hn;simp only [zm6] at hn';by_cases hm : m = 0
  ·subst hm;have hl0 : l' = []:=(by simpa using hl');subst hl0;refine zbw hc ht hdy hs hl' (Nat.le_refl _) ?_;obtain ⟨hc',hle⟩:=hc.tok0 (n:=cap) sz elem base;refine fin _ V _ _ _ hle rfl rfl hc' (zjq (e':=.opn s.H.length) hdx hle ⟨?_,?_,?_⟩) (by simpa using hn')
   ·simp [Env.tok,hc.n]
   ·simp [Env.tok,hc.n]
   ·simp [Env.tok,hc.n]
  ·refine zb1 hc ht hdx hdy hs hl hl' hb (by omega) fun rr cs cap' hf hden hle hsz => ?_;obtain ⟨hc',hle'⟩:=hc.tok1 (el:=elem) hf hsz hle;have hsize : (cap + m) * sz <= cs.size:=(by rw [hsz]; exact Nat.mul_le_mul_right _ hle);refine SemOk.ghost (zb9 (f:=(0,0)) (cs:=cs) (el:=elem) (p:=(· < (cap + m) * sz)) (by simp [View.upd]) (fun o _ => hf.2 o)) ?_;refine fin _ _ _ _ _ hle' rfl rfl hc' (zkV (I:=(V.laid rr cs elem (· < (cap + m) * sz)).imm) (e:=.opn s.H.length) (sz:=sz) (cs:=cs) rfl (hden.mono hle') hsum hsize (fun o h => zhA (by simpa using h)) hle ⟨?_,?_,?_⟩) hn'
   ·simp [Env.tok,hc.n]
   ·simp [Env.tok,hc.n]
   ·simp [Env.tok,hc.n]
 | shut =>
  obtain ⟨rfl,hn'⟩:=hn;have hl0 : l' = []:=by simpa using hl'
  subst hl0;refine zbw hc ht hdy hs hl' hcap ?_;exact fin E V s.H _ _ (Env.Le.refl E) rfl rfl hc hdx hn'
 | opn k =>
  obtain ⟨hk0,hleaf,hn'⟩:=hn;split at hk0
  ·rename_i n' sz' el' hk;obtain ⟨rfl,rfl,rfl⟩:=hk0;have heo : EndOk E (.opn k) base n' cap:=by
    cases hdx with
    | sl b o cap f hcap he q1 q2 => exact he
    | nil he => exact he
   obtain ⟨e1,e2,e3⟩:=heo;obtain ⟨hver,hroom⟩:=hc.obj k _ hk;have hset : s.H.set k (.tail n' sz' el') = s.H:=by
    apply List.ext_getElem?;intro i;by_cases hi : i = k
    ·subst hi;rw [List.getElem?_set_self (List.getElem?_eq_some_iff.1 hk).1,hk]
    ·rw [List.getElem?_set_ne (Ne.symm hi)]
   by_cases hm : m = 0
   ·subst hm;have hl0 : l' = []:=(by simpa using hl');subst hl0;refine zbw hc ht hdy hs hl' hcap ?_;refine fin E V s.H _ _ (Env.Le.refl E) rfl rfl hc hdx ?_;rw [Nat.add_zero,hset,List.append_nil] at hn';exact hn'
   ·by_cases hfit : n' + m <= cap
    ·rcases hroom with hroom | ⟨b,cap0,cs,r1,r2,r3,r4,r5⟩
     ·rw [e3] at hroom; simp only at hroom; omega
     ·rw [e3] at r1;cases r1;have hbk : zfE E k (.tail n' sz' el') = some b:=by
       simp only [zfE,e3];rw [if_neg (by omega)]; rfl
      refine zd4 hc ht hdy hs hl' hfit r2 (Nat.le_of_eq r3.symm) r5 (hc.notGroup hk hbk) hleaf fun cs2 hcs2 => ?_;have hsz2 : cs2.toList.length = m * sz':=(by have:=hcs2.1; simp; omega);have hms : (n' + m) * sz' <= cap * sz':=Nat.mul_le_mul_right _ hfit;rw [Nat.add_mul] at hms;have hss : (storeAt cs (n' * sz') cs2.toList).size = cap * sz':=(by rw [zcr]; exact r3);obtain ⟨hc',hle'⟩:=hc.grow2 hk e3 r2 r5 hss hfit (by omega);refine SemOk.ghost (zb9 (f:=(0,0)) (cs:=storeAt cs (n' * sz') cs2.toList) (el:=el') (p:=fun o => n' * sz' <= o && o < (n' + m) * sz') (by simp [View.upd]) (fun o h => r5 o (by simp at h; exact h.1))) ?_;refine fin _ _ _ _ _ hle' rfl rfl hc' ?_ hn';cases hdx with
      | nil he => exact absurd hfit (by omega)
      | sl b' o' cap f hcap' he q1 q2 =>
       have q1' : ∀ i,i < l.length -> V.imm b i = some (f i):=fun i hi => (by have:=q1 i hi; rwa [hc.I,Nat.zero_add] at this);refine .sl b 0 cap (fun i => if i < n' * sz' then f i else (storeAt cs (n' * sz') cs2.toList).getD i undef) (by omega) ⟨?_,?_,?_⟩ (fun i hi => ?_) (fun i x hx => ?_)
       ·exact e1
       ·simp [Env.grow]
       ·simp [Env.grow]
       ·rw [hsum,Nat.add_mul] at hi;show (V.laid b (storeAt cs (n' * sz') cs2.toList) el' (fun o => n' * sz' <= o && o < (n' + m) * sz')).imm b (0 + i) = _;rw [Nat.zero_add];by_cases hi' : i < n' * sz'
        ·rw [if_pos hi'];exact zfI (fun o h => r5 o (by simp at h; exact h.1)) _ _ _ (q1' i (by omega))
        ·rw [if_neg hi',zhA (by simp [Nat.add_mul]; omega)];have hlt : i < (storeAt cs (n' * sz') cs2.toList).size:=(by rw [hss]; omega);simp only [Array.getD_eq_getD_getElem?,Array.getElem?_eq_getElem hlt,Option.getD_some]
       ·by_cases hi' : i < n' * sz'
        ·rw [List.getElem?_append_left (by omega)] at hx;rw [if_pos hi']; exact (q2 i x hx).mono hle'
        ·rw [List.getElem?_append_right (by omega)] at hx;have hi2 : i - l.length < l'.length:=(List.getElem?_eq_some_iff.1 hx).1;rw [if_neg hi',zc0 _ _ _ _ (by rw [hsz2,r3]; omega),if_pos (by rw [hsz2]; omega)];have:=(hcs2.2 _ _ hx).mono hle';rw [hl] at this;simpa [Array.getD_eq_getD_getElem?,List.getD_eq_getElem?_getD] using this
    ·refine zb1 hc ht hdx hdy hs hl hl' hb (by omega) fun rr cs cap' hf hden hle hsz => ?_;obtain ⟨hc',hle'⟩:=hc.grow1 (el:=el') (n':=n' + m) hk hf hsz hle (by omega);have hsize : (n' + m) * sz' <= cs.size:=(by rw [hsz]; exact Nat.mul_le_mul_right _ hle);refine SemOk.ghost (zb9 (f:=(0,0)) (cs:=cs) (el:=el') (p:=(· < (n' + m) * sz')) (by simp [View.upd]) (fun o _ => hf.2 o)) ?_;refine fin _ _ _ _ _ hle' rfl rfl hc' (zkV (I:=(V.laid rr cs el' (· < (n' + m) * sz')).imm) (e:=.opn k) (sz:=sz') (cs:=cs) rfl (hden.mono hle') hsum hsize (fun o h => zhA (by simpa using h)) hle ⟨?_,?_,?_⟩) hn'
     ·exact e1
     ·simp [Env.grow]
     ·simp [Env.grow]
  ·exact hk0.elim
def Env.addR (E : Env) (r : Nat) (I : Imm) (c : Nat) : Env:={ E with I:=I,n:=E.n + 1,blk:=fun k => if k = E.n then r else E.blk k,room:=fun k u => if k = E.n /\ u = 0 then (none,c) else E.room k u }
theorem Env.le_addR (E : Env) (r c : Nat) {I : Imm} (hI : ∀ b o v,E.I b o = some v -> I b o = some v) : E.Le (E.addR r I c) :=
 ⟨hI,Nat.le_succ _,fun k hk => by simp [Env.addR,Nat.ne_of_lt hk],fun _ _ => Nat.le_refl _,fun k u hk _ => by simp [Env.addR,Nat.ne_of_lt hk],rfl,rfl⟩
theorem Env.addR_blk (E : Env) (r c : Nat) (I : Imm) : (E.addR r I c).blk E.n = r:=by simp [Env.addR]
theorem Env.addR_room (E : Env) (r c : Nat) (I : Imm) : (E.addR r I c).room E.n 0 = (none,c):=by simp [Env.addR]
theorem Conc.addR {E : Env} {V : View} {H : List AObj} (hc : Conc E V H) {r c : Nat} (hf : V.fresh r) {cs : Array Value} {sz : Nat} {l : List AV} {el : TypeId} (hd : Denp (E.addR r V.imm c) l cs) (hs : cs.size = c * sz) : Conc (E.addR r V.imm c) (V.upd r (.cells cs el)) (H ++ [.own sz l el]):=by
 refine hc.turn (E':=E.addR r V.imm c) H.length (.own sz l el) (E.le_addR r c (fun b o v h => by rw [<- hc.I]; exact h)) rfl (by simp [Env.addR,hc.n]) zcj rfl (fun _ _ _ => rfl) (fun b z _ hz => ⟨?_,fun _ => rfl⟩) ?_ (fun b h => .inr ?_)
 ·have : b ≠ r:=fun e => by rw [e,hf.1] at hz; cases hz
  simpa [View.upd,this] using hz
 ·rw [<- hc.n];refine ⟨⟨cs,by rw [Env.addR_blk]; simp [View.upd],hd,by rw [Env.addR_room]; exact hs⟩,fun o => ?_⟩;rw [Env.addR_blk]; exact hf.2 o
 ·rw [<- hc.n] at h;simp only [zfE,Env.addR_blk,Option.some.injEq] at h;subst h; exact hf.1
theorem znt {E : Env} {H : List AObj} (hn : E.n = H.length) {r c n : Nat} (I : Imm) (h : n <= c) {cap : Nat} (hn0 : n <= cap) (hc : cap <= c) (h0 : 0 < n) : Den (E.addR r I c) (.osl H.length 0 n 0) (.slice (some ⟨r,0,none⟩) n cap):=by
 have:=Den.osl (E:=E.addR r I c) (id:=H.length) (off:=0) (n:=n) (cap:=0) (cap':=cap) (by show _ < E.n + 1; rw [hn]; omega) ⟨hn0,fun e => by omega,fun _ => by rw [<- hn,Env.addR_room]; exact hc⟩;have e : (E.addR r I c).blk H.length = r:=by rw [<- hn]; exact E.addR_blk r c I
 rwa [e] at this
theorem Conc.relabel {E : Env} {V : View} {H : List AObj} (hc : Conc E V H) {id sz : Nat} {l : List AV} {el : TypeId} (hk : H[id]? = some (.own sz l el)) : Conc (E.addR (E.blk id) V.imm (E.room id 0).2) V (H.set id .gone ++ [.own sz l el]):=by
 have hle:=E.le_addR (E.blk id) (E.room id 0).2 (I:=V.imm) (fun b o v h => by rw [<- hc.I]; exact h);have hidl:=(List.getElem?_eq_some_iff.1 hk).1;have hlt : ∀ (j : Nat) y,H[j]? = some y -> j < E.n:=fun j y h => by rw [hc.n]; exact (List.getElem?_eq_some_iff.1 h).1
 have hget : ∀ (j : Nat) y,(H.set id .gone ++ [AObj.own sz l el])[j]? = some y -> (j = H.length /\ y = .own sz l el) \/ (j = id /\ y = .gone) \/ (j ≠ id /\ H[j]? = some y):=fun j y h => by
  rcases zcj j y h with ⟨h1,h2⟩ | ⟨_,h⟩
  ·exact .inl ⟨by simpa using h1,h2⟩
  ·rcases zaF j y h with h | h
   ·exact .inr (.inl h)
   ·exact .inr (.inr h)
 have hbl : ∀ (j : Nat) y b,H[j]? = some y -> zfE (E.addR (E.blk id) V.imm (E.room id 0).2) j y = some b -> zfE E j y = some b:=fun j y b h e => by rw [<- zjw hle (hlt j y h) (hc.obj j y h)]; exact e
 have hnew : ∀ b,zfE (E.addR (E.blk id) V.imm (E.room id 0).2) H.length (.own sz l el) = some b -> b = E.blk id:=fun b e => by
  simp only [zfE,<- hc.n,Env.addR_blk,Option.some.injEq] at e; exact e.symm
 have hno : ∀ g,(∀ (k : Nat) x,H[k]? = some x -> zfE E k x ≠ some g) -> ∀ (k : Nat) x,(H.set id .gone ++ [AObj.own sz l el])[k]? = some x -> zfE (E.addR (E.blk id) V.imm (E.room id 0).2) k x ≠ some g:=fun g h0 k x hx e => by
  rcases hget k x hx with ⟨rfl,rfl⟩ | ⟨_,rfl⟩ | ⟨_,hx⟩
  ·have:=hnew g e;exact h0 id _ hk (by rw [this]; rfl)
  ·cases e
  ·exact h0 k x hx (hbl k x g hx e)
 refine ⟨rfl,by simp [Env.addR,hc.n],fun j y h => ?_,fun i j y z b h1 h2 e1 e2 => ?_,fun g hg => ?_,fun g hg => ?_,fun hm => hc.top hm,fun b y hf => ?_⟩
 ·rcases hget j y h with ⟨rfl,rfl⟩ | ⟨_,rfl⟩ | ⟨_,h⟩
  ·obtain ⟨⟨cs,q1,q2,q3⟩,q4⟩:=hc.obj id _ hk;rw [<- hc.n];refine ⟨⟨cs,by rw [Env.addR_blk]; exact q1,q2.mono hle,by rw [Env.addR_room]; exact q3⟩,fun o => ?_⟩;rw [Env.addR_blk]; exact q4 o
  ·trivial
  ·exact (hc.obj j y h).mono hle (hlt j y h) rfl (fun _ _ _ h => h) (fun _ _ _ => rfl)
 ·rcases hget i y h1 with ⟨rfl,rfl⟩ | ⟨_,rfl⟩ | ⟨hi,h1⟩
  ·rcases hget j z h2 with ⟨rfl,rfl⟩ | ⟨_,rfl⟩ | ⟨hj,h2⟩
   ·rfl
   ·cases e2
   ·have:=hnew b e1;exact absurd (hc.inj id j _ z b hk h2 (by rw [this]; rfl) (hbl j z b h2 e2)).symm hj
  ·cases e1
  ·rcases hget j z h2 with ⟨rfl,rfl⟩ | ⟨_,rfl⟩ | ⟨hj,h2⟩
   ·have:=hnew b e2;exact absurd (hc.inj id i _ y b hk h1 (by rw [this]; rfl) (hbl i y b h1 e1)).symm hi
   ·cases e2
   ·exact hc.inj i j y z b h1 h2 (hbl i y b h1 e1) (hbl j z b h2 e2)
 ·obtain ⟨h0,h1,h2⟩:=hc.group g hg;exact ⟨h0,h1,hno g h2⟩
 ·obtain ⟨h0,h1,h2⟩:=hc.chan g hg;exact ⟨h0,h1,hno g h2⟩
 ·obtain ⟨h0,h1,h2⟩:=hc.fr b y hf;exact ⟨h0,h1,hno b h2⟩
theorem Conc.leave {E : Env} {V : View} {H : List AObj} (hc : Conc E V H) (id : Nat) : Conc E V (H.set id .gone) :=
 hc.turn id .gone (Env.Le.refl E) hc.I (by simpa using hc.n) zaF rfl (fun _ _ _ => rfl) (fun _ _ _ hy => ⟨hy,fun _ => rfl⟩) trivial (fun b h => by cases h)
theorem zpZ {E : Env} {l l' : List AV} {cs vs : Array Value} (h : Denp E l cs) (k : Denl E l' vs) (hl : l.length + l'.length <= cs.size) : Denp E (l ++ l') (storeAt cs l.length vs.toList):=by
 have hv : vs.toList.length = l'.length:=by simpa using k.1
 refine ⟨by rw [zcr,List.length_append]; exact hl,fun i a e => ?_⟩;rw [zc0 _ _ _ _ (by rw [hv]; exact hl),hv];by_cases h1 : i < l.length
 ·rw [if_neg (by omega)];rw [List.getElem?_append_left h1] at e;exact h.2 i a e
 ·rw [List.getElem?_append_right (by omega)] at e;have h2:=(List.getElem?_eq_some_iff.1 e).1;rw [if_pos ⟨by omega,by omega⟩];have:=k.2 _ a e;simpa [Array.getD_eq_getD_getElem?,List.getD_eq_getElem?_getD] using this
theorem znG {E : Env} {l : List AV} {cs : Array Value} {k : Nat} (h : Denl E l (cs.extract 0 k)) (hk : l.length = k) (hs : k <= cs.size) : Denp E l cs:=by
 refine ⟨by omega,fun i a e => ?_⟩;have hi:=(List.getElem?_eq_some_iff.1 e).1;have hic : i < cs.size:=by omega
 have:=h.2 i a e;rw [Array.getD_eq_getD_getElem?,Array.getElem?_extract_of_lt (by omega)] at this;rw [Array.getD_eq_getD_getElem?];simpa [Array.getElem?_eq_getElem hic] using this
theorem zny {c : Call} {x y : Operand} {t t' elem : TypeId} {sz n m : Nat} {z : Value} {l l' : List AV} {av : AV} (ho : o.op = .call c) (hcl : c.callee = .builtin .append) (hargs : c.args = #[x,y]) (hts : c.argTypes = #[t,t']) (ht : AppOf P t t' = some (elem,sz,z))
  (hx : s.ev x = some (.sl n l .exact)) (hy : s.ev y = some av) (hs : s.src sz av = some (m,l')) (hl : l.length = n * sz) (hl' : l'.length = m * sz) (hb : n + m <= 2 ^ 30) (hm : 0 < m) (hn : next ((⟨s.T,s.H ++ [.own sz (l ++ l') elem]⟩ : AS).put o.dst (.osl s.H.length 0 (n + m) 0))) : Step lv P r o s next bad:=by
 intro E V a N Q hc htk hd hdf h1 _;refine ⟨hdf,?_⟩;have hdx:=Den.ev htk hx;have hdy:=Den.ev htk hy;generalize hvx : a.eval x = vx at hdx;generalize hvy : a.eval y = vy at hdy;unfold execOp; rw [ho];dsimp only;unfold resolve;rw [hcl];dsimp only;refine zac (zbq ?_);unfold invoke builtin;dsimp only;refine zac ?_;have hmap : c.args.map a.eval = #[vx,vy]:=by rw [hargs]; simp [hvx,hvy]
 rw [hmap,hts];obtain ⟨base,cap,rfl⟩ : ∃ base cap,vx = .slice base n cap:=by
  cases hdx with
  | sl b o cap f hcap he q1 q2 => exact ⟨_,_,rfl⟩
  | nil he => exact ⟨_,_,rfl⟩
 have hcn : cap = n:=by
  cases hdx with
  | sl b o cap f hcap he q1 q2 => exact he
  | nil he => rfl
 subst hcn;refine zb1 hc ht hdx hdy hs hl hl' hb (by omega) fun rr cs cap' hf hden hle hsz => ?_;have hsum : (l ++ l').length = (cap + m) * sz:=by rw [List.length_append,hl,hl',Nat.add_mul]
 have hsize : (cap + m) * sz <= cs.size:=by rw [hsz]; exact Nat.mul_le_mul_right _ hle
 have hlE : E.Le (E.addR rr V.imm cap'):=E.le_addR rr cap' (fun b o v h => by rw [<- hc.I]; exact h);have hc':=hc.addR (el:=elem) (c:=cap') hf ((znG hden hsum hsize).mono hlE) hsz;have hdn:=znt hc.n (r:=rr) V.imm hle (n:=cap + m) (cap:=cap') hle (Nat.le_refl _) (by omega);exact zbq (h1 _ _ (a.put o.dst _) _ ⟨hlE,zaA _ _ _,zaw _ _ _,rfl,rfl⟩ (by rw [zbx]; exact hc') (TOk.putd (s:=⟨s.T,s.H ++ [.own sz (l ++ l') elem]⟩) (htk.mono hlE) hd hdn) hn)
theorem zmN {c : Call} {x y : Operand} {t t' elem el : TypeId} {sz n m c0 id : Nat} {z : Value} {l l' : List AV} {av : AV} (ho : o.op = .call c) (hcl : c.callee = .builtin .append) (hargs : c.args = #[x,y]) (hts : c.argTypes = #[t,t']) (ht : AppOf P t t' = some (elem,sz,z))
  (hx : s.ev x = some (.osl id 0 n c0)) (hc0 : c0 < n) (hid : s.H[id]? = some (.own sz l el)) (hel : el = elem) (hy : s.ev y = some av) (hs : s.src sz av = some (m,l')) (hl : l.length = n * sz) (hl' : l'.length = m * sz) (hb : n + m <= 2 ^ 30) (hleaf : ∀ a ∈ l',a.leaf = true) (hn : next ((⟨s.T,s.H.set id .gone ++ [.own sz (l ++ l') elem]⟩ : AS).put o.dst (.osl s.H.length 0 (n + m) 0))) : Step lv P r o s next bad:=by
 subst hel;intro E V a N Q hc htk hd hdf h1 _;refine ⟨hdf,?_⟩;have hdx:=Den.ev htk hx;have hdy:=Den.ev htk hy;generalize hvx : a.eval x = vx at hdx;generalize hvy : a.eval y = vy at hdy;unfold execOp; rw [ho];dsimp only;unfold resolve;rw [hcl];dsimp only;refine zac (zbq ?_);unfold invoke builtin;dsimp only;refine zac ?_;have hmap : c.args.map a.eval = #[vx,vy]:=by rw [hargs]; simp [hvx,hvy]
 rw [hmap,hts];have hdx0:=hdx;have hsum : (l ++ l').length = (n + m) * sz:=by rw [List.length_append,hl,hl',Nat.add_mul]
 have hs0 : s.src sz (.osl id 0 n c0) = some (n,l):=by
  simp only [AS.src]; rw [hid]; simp only [List.drop_zero]; rw [<- hl,List.take_length]
 cases hdx with
 | osl hi hcap =>
  rename_i cap';obtain ⟨q1,_,q3⟩:=hcap;have q3:=q3 hc0;obtain ⟨⟨cs,p1,p2,p3⟩,p4⟩:=hc.obj id _ hid;by_cases hfit : n + m <= cap'
  ·have hb1 : (n + m) * sz <= cap' * sz:=Nat.mul_le_mul_right _ hfit;have hb2 : cap' * sz <= cs.size:=(by rw [p3]; exact Nat.mul_le_mul_right _ q3);refine zd4 hc ht hdy hs hl' hfit p1 hb2 (fun o _ => p4 o) (hc.notGroup hid rfl) hleaf fun cs2 hcs2 => ?_;have hdp : Denp E (l ++ l') (storeAt cs (n * sz) cs2.toList):=by
    rw [<- hl]; exact zpZ p2 hcs2 (by rw [<- List.length_append,hsum]; omega)
   have hc1:=hc.setO hid hdp (by rw [zcr]; exact p3);have hget : (s.H.set id (.own sz (l ++ l') el))[id]? = some (.own sz (l ++ l') el):=(by rw [List.getElem?_set_self ((List.getElem?_eq_some_iff.1 hid).1)]);have hc2:=hc1.relabel hget;rw [List.set_set] at hc2;have hlE : E.Le (E.addR (E.blk id) V.imm (E.room id 0).2):=E.le_addR _ _ (fun b o v h => by rw [<- hc.I]; exact h);have hdn : Den (E.addR (E.blk id) V.imm (E.room id 0).2) (.osl s.H.length 0 (n + m) 0) (.slice (some ⟨E.blk id,0,none⟩) (n + m) cap'):=znt hc.n V.imm (by omega) hfit q3 (by omega);exact zbq (h1 _ _ (a.put o.dst _) _ ⟨hlE,zaA _ _ _,zaw _ _ _,rfl,rfl⟩ (by rw [zbx]; exact hc2) (TOk.putd (s:=⟨s.T,s.H.set id .gone ++ [.own sz (l ++ l') el]⟩) (htk.mono hlE) hd hdn) hn)
  ·refine zlZ hc ht hdx0 hs0 hdy hs hl hl' hb (by omega) fun rr cs' cap2 hf hden hle hsz => ?_;have hsize : (n + m) * sz <= cs'.size:=(by rw [hsz]; exact Nat.mul_le_mul_right _ hle);have hlE : E.Le (E.addR rr V.imm cap2):=E.le_addR rr cap2 (fun b o v h => by rw [<- hc.I]; exact h);have hc0':=hc.leave id;have hc':=hc0'.addR (el:=el) (c:=cap2) hf ((znG hden hsum hsize).mono hlE) hsz;have hdn : Den (E.addR rr V.imm cap2) (.osl s.H.length 0 (n + m) 0) (.slice (some ⟨rr,0,none⟩) (n + m) cap2):=znt hc.n V.imm hle hle (Nat.le_refl _) (by omega);exact zbq (h1 _ _ (a.put o.dst _) _ ⟨hlE,zaA _ _ _,zaw _ _ _,rfl,rfl⟩ (by rw [zbx]; exact hc') (TOk.putd (s:=⟨s.T,s.H.set id .gone ++ [.own sz (l ++ l') el]⟩) (htk.mono hlE) hd hdn) hn)
end
theorem zau (n : Int) (h : -9223372036854775808 <= n /\ n <= 9223372036854775807) : IntKind.i64.wrap n = n:=by
 have e : IntKind.i64.wrap n = if n % 18446744073709551616 >= 9223372036854775808 then n % 18446744073709551616 - 18446744073709551616 else n % 18446744073709551616:=by
  unfold IntKind.wrap;simp [IntKind.bits,IntKind.signed]
 rw [e]; split <;> omega
def Sure (P : Program) {α : Type} (s : Sem α) (x : α) : Prop:=∀ w es,s.runT P w es = (.ok x w,es)
theorem Sure.ok {P : Program} {α : Type} {V : View} {s : Sem α} {x : α} {K : α -> View -> Prop} {Kp : Value -> View -> Prop} (h : Sure P s x) (hk : K x V) : SemOk P V s K Kp :=
 fun w hw es0 => ⟨#[],w,V,by simpa [zk0] using StepOk.idle hw,.inl ⟨x,by rw [h w es0]; simp,hk⟩⟩
theorem Sure.bind {P : Program} {α β : Type} {V : View} {s : Sem α} {x : α} {f : α -> Sem β} {K : β -> View -> Prop} {Kp : Value -> View -> Prop} (h : Sure P s x) (hk : SemOk P V (f x) K Kp) : SemOk P V (s >>= f) K Kp :=
 zac (h.ok hk)
def AV.asI : AV -> Option Int
 | .val (.int _ n) => some n
 | _ => none
theorem Den.asI {E : Env} {a : AV} {v : Value} {n : Int} (hd : Den E a v) (h : a.asI = some n) : ∃ k,v = .int k n:=by
 cases hd with
 | val x => unfold AV.asI at h; split at h <;> simp_all
 | _ => cases h
def AS.bnd (s : AS) : Option Operand -> Option (Option Int)
 | none => some none
 | some x => match s.ev x with
  | some a => a.asI.map some
  | none => none
theorem zdQ {E : Env} {s : AS} {a : Act} (k : TOk E s.T a.tmps) {x : Option Operand} {i : Option Int} (h : s.bnd x = some i) : (i = none /\ x.map a.eval = none) \/ ∃ n kd,i = some n /\ x.map a.eval = some (.int kd n):=by
 cases x with
 | none => cases h; exact .inl ⟨rfl,rfl⟩
 | some x =>
  simp only [AS.bnd] at h;split at h
  ·rename_i av hav;obtain ⟨n,hn,rfl⟩:=zmd h;obtain ⟨kd,hv⟩:=(Den.ev k hav).asI hn;exact .inr ⟨n,kd,rfl,by simp [hv]⟩
  ·cases h
section
variable {P : Program} {V : View} {Kp : Value -> View -> Prop}
theorem zaU {kd : IntKind} {n : Int} {y : Nat} {code : BoundsCode} {K : Nat -> View -> Prop} (h0 : 0 <= n) (h1 : n <= y) (h : K n.toNat V) : SemOk P V (Instr.sliceBound (.int kd n) y code) K Kp:=by
 unfold Instr.sliceBound asIntOf;refine zac (zbq ?_);dsimp only;rw [if_pos ⟨h0,h1⟩];exact zbq h
theorem zbv {E : Env} {s : AS} {a : Act} (k : TOk E s.T a.tmps) {isS : Bool} {len cap : Nat} {lo hi mx : Option Operand} {l h m : Option Int} (hl : s.bnd lo = some l) (hh : s.bnd hi = some h) (hm : s.bnd mx = some m) {K : Nat × Nat × Nat -> View -> Prop}
  (hlc : len <= cap) (c0 : 0 <= l.getD 0) (c1 : l.getD 0 <= h.getD len) (c2 : h.getD len <= m.getD cap) (c3 : m.getD cap <= cap) (c4 : m.isSome = true -> h.isSome = true) (hK : K ((l.getD 0).toNat,(h.getD len).toNat,(m.getD cap).toNat) V) :
  SemOk P V (Instr.sliceBounds isS len cap (lo.map a.eval) (hi.map a.eval) (mx.map a.eval)) K Kp:=by
 unfold Instr.sliceBounds;rcases zdQ k hm with ⟨rfl,em⟩ | ⟨vm,km,rfl,em⟩
 ·rw [em];refine zac (zbq ?_);rcases zdQ k hh with ⟨rfl,eh⟩ | ⟨vh,kh,rfl,eh⟩
  ·rw [eh];refine zac (zbq ?_);rcases zdQ k hl with ⟨rfl,el⟩ | ⟨vl,kl,rfl,el⟩
   ·rw [el]; exact zac (zbq (zbq (by simpa using hK)))
   ·rw [el];simp only [Option.getD_some,Option.getD_none] at c0 c1 c2;exact zac (zaU c0 c1 (zbq (by simpa using hK)))
  ·rw [eh];simp only [Option.getD_some,Option.getD_none] at c0 c1 c2 c3;refine zac (zaU (by omega) c2 ?_);rcases zdQ k hl with ⟨rfl,el⟩ | ⟨vl,kl,rfl,el⟩
   ·rw [el]; exact zac (zbq (zbq (by simpa using hK)))
   ·rw [el];simp only [Option.getD_some,Option.getD_none] at c0 c1 c2;exact zac (zaU c0 (by omega) (zbq (by simpa using hK)))
 ·rw [em];simp only [Option.getD_some,Option.isSome_some,true_implies] at c2 c3 c4;rcases zdQ k hh with ⟨rfl,eh⟩ | ⟨vh,kh,rfl,eh⟩
  ·cases c4
  ·rw [eh];simp only [Option.getD_some] at c1 c2 c0;refine zac (zaU (by omega) c3 ?_);refine zac (zaU (by omega) (by omega) ?_);rcases zdQ k hl with ⟨rfl,el⟩ | ⟨vl,kl,rfl,el⟩
   ·rw [el]; exact zac (zbq (zbq (by simpa using hK)))
   ·rw [el];simp only [Option.getD_some] at c0 c1;exact zac (zaU c0 (by omega) (zbq (by simpa using hK)))
end
def SlCut (n : Nat) (l : List AV) (e : End) (sz : Nat) (lo hi mx : Option Int) (k : AV -> Prop) : Prop :=
 l.length = n * sz /\ 0 <= lo.getD 0 /\ lo.getD 0 <= hi.getD n /\ hi.getD n <= mx.getD n /\ mx.getD n <= n /\ (mx.isSome = true -> hi.isSome = true) /\
 k (.sl ((hi.getD n).toNat - (lo.getD 0).toNat) ((l.drop ((lo.getD 0).toNat * sz)).take (((hi.getD n).toNat - (lo.getD 0).toNat) * sz))
  (if mx.isSome && mx.getD n == hi.getD n then .exact else if lo.getD 0 == 0 && hi.getD n == n && mx.isNone then e else .shut))
def zgX (P : Program) (t : TypeId) : Option (TypeId × Nat):=match P.underlying t with
 | some (.slice e) => (P.info? e).map fun i => (e,i.size)
 | _ => none
def zm5 (P : Program) (t : TypeId) : Option (Nat × Nat):=match P.underlying t with
 | some (.array n e) => (P.info? e).map fun i => (n,i.size)
 | _ => none
section
variable {lv : Bool} {P : Program} {r : Option Nat} {o : Oper} {s : AS} {next : AS -> Prop} {bad : AV -> AS -> Prop}
theorem zq4 {t e : TypeId} {x : Operand} {lo hi mx : Option Operand} {l h m : Option Int} {n sz : Nat} {li : List AV} {en : End} (ho : o.op = .slice t x lo hi mx) (ht : zgX P t = some (e,sz)) (hx : s.ev x = some (.sl n li en)) (hl : s.bnd lo = some l) (hh : s.bnd hi = some h) (hm : s.bnd mx = some m)
  {k : AV -> Prop} (hc : SlCut n li en sz l h m k) : ∃ av,QStep lv P r o s av /\ k av:=by
 obtain ⟨hlen,c0,c1,c2,c3,c4,hk⟩:=hc;refine ⟨_,zbM (fun E V a hc htk => ?_),hk⟩;have hd:=Den.ev htk hx;generalize hv : a.eval x = v at hd;unfold zgX at ht;split at ht
 ·rename_i e' hu;obtain ⟨i,hi',ht⟩:=zmd ht;cases ht;unfold execOp; rw [ho]; simp only [hv];refine zac ?_;unfold Instr.sliceAt;refine zaj hu ?_;dsimp only;unfold Instr.slice;refine zaj hu ?_;obtain ⟨base,cap,rfl⟩ : ∃ base cap,v = .slice base n cap:=by
   cases hd with
   | sl b o cap f hcap he q1 q2 => exact ⟨_,_,rfl⟩
   | nil he => exact ⟨_,_,rfl⟩
  have hcap : n <= cap:=by
   cases hd with
   | sl b o cap f hcap he q1 q2 => exact hcap
   | nil he => exact Nat.le_refl _
  dsimp only;have hmm : m.getD (cap : Int) = if m.isSome then m.getD n else cap:=by cases m <;> simp
  refine zac (zbv htk hl hh hm hcap c0 c1 ?_ ?_ c4 ?_)
  ·cases m with
   | none => simp only [Option.getD_none] at c2 ⊢; omega
   | some m => simpa using c2
  ·cases m with
   | none => simp
   | some m => simp only [Option.getD_some] at c3 ⊢; omega
  refine zav hi' ?_;refine zbq (zbq ⟨rfl,_,rfl,?_⟩);generalize hA : (l.getD 0).toNat = A;generalize hB : (h.getD (n : Int)).toNat = B;have hAB : A <= B:=by omega
  have hBn : B <= n:=by omega
  generalize hM : (m.getD (cap : Int)).toNat = M;have hBM : B <= M:=by
   cases m with
   | none => simp only [Option.getD_none] at hM; omega
   | some m => simp only [Option.getD_some] at hM c2; omega
  cases hd with
  | nil he =>
   have hA0 : A = 0:=(by omega);have hB0 : B = 0:=(by omega);have hM0 : M = 0:=by
    cases m with
    | none => simp only [Option.getD_none] at hM; omega
    | some m => simp only [Option.getD_some] at hM c3; omega
   rw [hA0,hB0,hM0];simp only [if_true,Nat.sub_zero,Nat.zero_mul,List.take_zero];refine .nil ?_;split
   ·rfl
   ·split
    ·exact he
    ·trivial
  | sl b o cap f hcap he q1 q2 =>
   have hadr : (if M = A then some (⟨b,o,none⟩ : Addr) else (some (⟨b,o,none⟩ : Addr)).map fun x => x.add (A * i.size)) = some ⟨b,if M = A then o else o + A * i.size,none⟩:=by
    split
    ·rfl
    ·simp only [Option.map_some,zbr]
   rw [hadr];have hb : (B - A) * i.size + A * i.size <= n * i.size:=(by rw [<- Nat.add_mul]; exact Nat.mul_le_mul_right _ (by omega));refine .sl b _ (M - A) (fun j => f (A * i.size + j)) (by omega) ?_ (fun j hj => ?_) (fun j y hj => ?_)
   ·split
    ·rename_i hx;simp only [Bool.and_eq_true,beq_iff_eq] at hx;cases m with
     | none => simp at hx
     | some m =>
      simp only [Option.getD_some] at hM hx;show M - A = B - A;omega
    ·split
     ·rename_i hx;simp only [Bool.and_eq_true,beq_iff_eq] at hx;obtain ⟨⟨x1,x2⟩,x3⟩:=hx;have : A = 0:=(by omega);have : B = n:=(by omega);cases m with
      | some m => cases x3
      | none =>
       simp only [Option.getD_none] at hM;have hMc : M = cap:=(by omega);subst hMc;have e1 : M - A = M:=(by omega);have e2 : B - A = n:=(by omega);have e3 : (if M = A then o else o + A * i.size) = o:=(by split <;> simp_all);rw [e1,e2,e3]; exact he
     ·trivial
   ·simp only [List.length_take,List.length_drop] at hj;have hMA : M ≠ A:=by
     intro e;have : B - A = 0:=(by omega);rw [this] at hj; omega
    rw [if_neg hMA,Nat.add_assoc];exact q1 _ (by omega)
   ·rw [List.getElem?_take] at hj;split at hj
    ·rw [List.getElem?_drop] at hj;exact q2 _ _ hj
    ·cases hj
 ·cases ht
def OwnCut (id off n cap sz : Nat) (lo hi mx : Option Int) (k : AV -> Prop) : Prop :=
 n <= cap /\ 0 <= lo.getD 0 /\ lo.getD 0 <= hi.getD n /\ hi.getD n <= mx.getD cap /\ mx.getD cap <= cap /\ (mx.isSome = true -> hi.isSome = true) /\ (lo.getD 0 = 0 \/ lo.getD 0 < mx.getD cap) /\
 k (.osl id (off + (lo.getD 0).toNat * sz) ((hi.getD n).toNat - (lo.getD 0).toNat) ((mx.getD cap).toNat - (lo.getD 0).toNat))
theorem ziV {t e : TypeId} {x : Operand} {lo hi mx : Option Operand} {l h m : Option Int} {id off n cap sz : Nat} (ho : o.op = .slice t x lo hi mx) (ht : zgX P t = some (e,sz)) (hx : s.ev x = some (.osl id off n cap)) (hl : s.bnd lo = some l) (hh : s.bnd hi = some h) (hm : s.bnd mx = some m)
  {k : AV -> Prop} (hc : OwnCut id off n cap sz l h m k) : ∃ av,QStep lv P r o s av /\ k av:=by
 obtain ⟨hlen,c0,c1,c2,c3,c4,c5,hk⟩:=hc;refine ⟨_,zbM (fun E V a hc htk => ?_),hk⟩;have hd:=Den.ev htk hx;generalize hv : a.eval x = v at hd;unfold zgX at ht;split at ht
 ·rename_i e' hu;obtain ⟨i,hi',ht⟩:=zmd ht;cases ht;unfold execOp; rw [ho]; simp only [hv];refine zac ?_;unfold Instr.sliceAt;refine zaj hu ?_;dsimp only;unfold Instr.slice;refine zaj hu ?_;cases hd with
  | osl hid hcap =>
   rename_i cap';obtain rfl : cap = cap':=hcap.2.1 hlen;dsimp only;refine zac (zbv htk hl hh hm hlen c0 c1 c2 c3 c4 ?_);refine zav hi' ?_;refine zbq (zbq ⟨rfl,_,rfl,?_⟩);have hadr : (if (m.getD (cap : Int)).toNat = (l.getD 0).toNat then some (⟨E.blk id,off,none⟩ : Addr) else (some (⟨E.blk id,off,none⟩ : Addr)).map fun x => x.add ((l.getD 0).toNat * i.size)) = some ⟨E.blk id,off + (l.getD 0).toNat * i.size,none⟩:=by
    split
    ·have : (l.getD 0).toNat = 0:=(by omega);rw [this]; simp
    ·simp only [Option.map_some,zbr]
   rw [hadr];exact .osl hid ⟨by dsimp only; omega,fun _ => rfl,fun h => absurd h (by omega)⟩
 ·cases ht
theorem ziW {t : TypeId} {x : Operand} {lo hi mx : Option Operand} {l h m : Option Int} {id off n sz : Nat} (ho : o.op = .slice t x lo hi mx) (ht : zm5 P t = some (n,sz)) (hx : s.ev x = some (.op id off)) (hl : s.bnd lo = some l) (hh : s.bnd hi = some h) (hm : s.bnd mx = some m)
  {k : AV -> Prop} (hc : OwnCut id off n n sz l h m k) : ∃ av,QStep lv P r o s av /\ k av:=by
 obtain ⟨hlen,c0,c1,c2,c3,c4,c5,hk⟩:=hc;refine ⟨_,zbM (fun E V a hc htk => ?_),hk⟩;have hd:=Den.ev htk hx;generalize hv : a.eval x = v at hd;unfold zm5 at ht;split at ht
 ·rename_i m' e' hu;obtain ⟨i,hi',ht⟩:=zmd ht;cases ht;unfold execOp; rw [ho]; simp only [hv];refine zac ?_;unfold Instr.sliceAt;refine zaj hu ?_;cases hd with
  | op hid =>
   dsimp only;unfold Instr.sureAddr;refine zac (zbq ?_);refine zac (zbv htk hl hh hm hlen c0 c1 c2 c3 c4 ?_);refine zav hi' ?_;refine zbq (zbq ⟨rfl,_,rfl,?_⟩);have hadr : (if (m.getD (n : Int)).toNat = (l.getD 0).toNat then (⟨E.blk id,off,none⟩ : Addr) else (⟨E.blk id,off,none⟩ : Addr).add ((l.getD 0).toNat * i.size)) = ⟨E.blk id,off + (l.getD 0).toNat * i.size,none⟩:=by
    split
    ·have : (l.getD 0).toNat = 0:=(by omega);rw [this]; simp
    ·rw [zbr]
   rw [hadr];exact .osl hid ⟨by dsimp only; omega,fun _ => rfl,fun h => absurd h (by omega)⟩
 ·cases ht
theorem zj1 {c : Call} {x y : Operand} {t t' e : TypeId} {id off n cap sz m : Nat} {l l' : List AV} {el : TypeId} {av : AV} (ho : o.op = .call c) (hcl : c.callee = .builtin .copy) (hargs : c.args = #[x,y]) (hts : c.argTypes = #[t,t']) (ht : zgX P t = some (e,sz)) (hx : s.ev x = some (.osl id off n cap))
  (hk : s.H[id]? = some (.cells l el)) (hy : s.ev y = some av) (hs : s.src sz av = some (m,l')) (hl' : l'.length = m * sz) (hl : off + min m n * sz <= l.length) (hleaf : ∀ a ∈ l',a.leaf = true)
  (hn : next ((⟨s.T,s.H.set id (.cells (putAt l off (l'.take (min m n * sz))) el)⟩ : AS).put o.dst (.val (.int .i64 (min m n : Nat))))) : Step lv P r o s next bad:=by
 intro E V a N Q hc htk hd hdf h1 _;refine ⟨hdf,?_⟩;have hdx:=Den.ev htk hx;have hdy:=Den.ev htk hy;generalize hvx : a.eval x = vx at hdx;generalize hvy : a.eval y = vy at hdy;unfold execOp; rw [ho];dsimp only;unfold resolve;rw [hcl];dsimp only;refine zac (zbq ?_);unfold invoke builtin;dsimp only;refine zac ?_;have hmap : c.args.map a.eval = #[vx,vy]:=by rw [hargs]; simp [hvx,hvy]
 rw [hmap,hts];unfold zgX at ht;split at ht
 ·rename_i e' hu;obtain ⟨i,hi',ht⟩:=zmd ht;cases ht;cases hdx with
  | osl hid _ =>
   obtain ⟨⟨cs,p1,p2⟩,p3⟩:=hc.obj id _ hk;obtain ⟨g1,g2⟩:=hc.notGroup hk rfl;unfold Builtin.copy_;simp only [List.getElem?_toArray,List.getElem?_cons_zero,List.getElem?_cons_succ];refine zaj hu ?_;dsimp only;rw [zft hdy hs];refine zac (zbq ?_);refine zav hi' ?_;refine zac (zbL hc hdy hs hl' (Nat.min_le_left _ _) fun cs2 hcs2 => ?_);have h2 : (l'.take (min m n * i.size)).length = min m n * i.size:=by
    have : min m n * i.size <= m * i.size:=Nat.mul_le_mul_right _ (Nat.min_le_left _ _);simp; omega
   refine zac (za5 _ 0 V cs g1 g2 p1 (fun o _ _ => p3 o) (by
    have hq : cs2.size = min m n * i.size:=(by (rw [hcs2.1]; exact h2));have:=p2.1; simp only [Array.length_toList]; omega) (zcn hcs2 (fun a ha => hleaf a (List.mem_of_mem_take ha))) ?_)
   rw [Nat.add_zero];refine zbq (zbq (h1 E _ (a.put o.dst _) _ ⟨Env.Le.refl E,zaA _ _ _,zaw _ _ _,rfl,rfl⟩ (by rw [zbx]; exact hc.set hk (zcM p2 hcs2 (by rw [h2]; exact hl)))
    (TOk.putd (s:=⟨s.T,s.H.set id (.cells (putAt l off (l'.take (min m n * i.size))) el)⟩) htk hd (.val _)) hn))
 ·cases ht
def znK (P : Program) (t : TypeId) : Option (TypeId × Nat × Value):=match P.underlying t with
 | some (.slice e) => (P.info? e).bind fun i => i.zero.bind fun z => if z.cells.size = i.size /\ i.bytes <= 2 ^ 16 then some (e,i.size,z) else none
 | _ => none
theorem zeY {t e : TypeId} {x y : Operand} {n sz : Nat} {z : Value} {k k' : IntKind} (ho : o.op = .makeSlice t x y) (ht : znK P t = some (e,sz,z)) (hx : s.ev x = some (.val (.int k n))) (hy : s.ev y = some (.val (.int k' n))) (hb : n <= 2 ^ 30)
  (hn : next ((⟨s.T,s.H ++ [.cells (zfA z (n * sz)) e]⟩ : AS).put o.dst (.osl s.H.length 0 n n))) : Step lv P r o s next bad:=by
 intro E V a N Q hc htk hd hdf h1 _;refine ⟨hdf,?_⟩;have hdx:=Den.ev htk hx;have hdy:=Den.ev htk hy;generalize hvx : a.eval x = vx at hdx;generalize hvy : a.eval y = vy at hdy;cases hdx; cases hdy;unfold znK at ht;split at ht
 ·rename_i e' hu;obtain ⟨i,q1,ht⟩:=Option.bind_eq_some_iff.1 ht;obtain ⟨z',q2,ht⟩:=Option.bind_eq_some_iff.1 ht;split at ht
  ·rename_i hcond;cases ht;unfold execOp; rw [ho]; simp only [hvx,hvy];refine zac ?_;unfold Instr.makeSlice;refine zaj hu ?_;dsimp only;refine zac (zbq ?_);refine zac (zbq ?_);refine zaY q1 ?_;have hw : IntKind.i64.wrap (n : Int) = n:=zau _ (by omega);rw [hw];have hmul : i.bytes * n <= 2 ^ 16 * 2 ^ 30:=Nat.mul_le_mul hcond.2 hb;have hmul' : (i.bytes : Int) * n <= 2 ^ 46:=(by exact_mod_cast hmul);rw [if_neg (by simp; omega)];refine zac (zdj ?_);refine zav q1 ?_;rw [Int.toNat_natCast];have fin : ∀ (zero : Array Value),(∀ j,j < n * i.size -> zero[j % zero.size]! = z.cells[j % z.cells.size]!) -> SemOk P V (do let a <- newRow e ((Array.range (n * i.size)).map (zero[· % zero.size]!)); pure (Value.slice (some a) n n)) (fun x V' => SemOk P V' (pure (Next.value x)) (Upon lv P r o a N Q) (fun v V' => Q (.panic [{ v,recovered:=false }]) a V')) (fun v V' => Q (.panic [{ v,recovered:=false }]) a V'):=by
    intro zero hz;unfold newRow;refine zac (zac (za7 fun rr hf => zan (zbq (zbq (zbq ?_)))));have hle : E.Le (E.add rr V.imm):=E.le_add rr (fun b o v h => by rw [<- hc.I]; exact h);have hcells : (Array.range (n * i.size)).map (zero[· % zero.size]!) = (Array.range (n * i.size)).map (fun x => z.cells[x % z.cells.size]!):=by
     apply Array.ext';simp only [Array.toList_map];apply List.map_congr_left;intro j hj;exact hz j (by simpa using hj)
    rw [hcells];have hc' : Conc (E.add rr V.imm) (V.upd rr (.cells ((Array.range (n * i.size)).map (fun x => z.cells[x % z.cells.size]!)) e)) (s.H ++ [.cells (zfA z (n * i.size)) e]):=by
     refine hc.add hf _ ⟨⟨_,?_,zd2 z _⟩,fun o => ?_⟩ (fun b e => ?_)
     ·rw [Env.add_blk]; simp [View.upd]
     ·rw [Env.add_blk]; exact hf.2 o
     ·simp only [zfE,Env.add_blk,Option.some.injEq] at e; exact e.symm
    have hden : Den (E.add rr V.imm) (.osl s.H.length 0 n n) (.slice (some ⟨rr,0,none⟩) n n):=by
     have:=Den.osl (E:=E.add rr V.imm) (id:=s.H.length) (off:=0) (n:=n) (cap:=n) (cap':=n) (by show _ < E.n + 1; rw [hc.n]; omega) ⟨Nat.le_refl _,fun _ => rfl,fun h => absurd h (Nat.lt_irrefl _)⟩;have e : (E.add rr V.imm).blk s.H.length = rr:=(by rw [<- hc.n]; exact E.add_blk rr _);rwa [e] at this
    exact h1 _ _ (a.put o.dst _) ((⟨s.T,s.H ++ [.cells (zfA z (n * i.size)) e]⟩ : AS).put o.dst (.osl s.H.length 0 n n)) ⟨hle,zaA _ _ _,zaw _ _ _,rfl,rfl⟩ (by rw [zbx]; exact hc')
     (TOk.putd (s:=⟨s.T,s.H ++ [.cells (zfA z (n * i.size)) e]⟩) (htk.mono hle) hd hden) hn
   by_cases h0 : n * i.size = 0
   ·rw [if_pos h0];refine zac (zbq ?_);exact fin #[] (fun j hj => by omega)
   ·rw [if_neg h0];refine zac (zac ?_);unfold typeInfo;refine zac (zaG (zan ?_));rw [q1];refine zbq ?_;rw [q2];refine zbq (zac (zbq ?_));exact fin z.cells (fun j _ => rfl)
  ·cases ht
 ·cases ht
def AV.raw1 : AV -> Option Value
 | .val x => some x
 | _ => none
def AV.raw : AV -> Option Value
 | .val x => some x
 | .agg l => (l.mapM AV.raw1).map fun vs => .agg vs.toArray
 | _ => none
theorem Den.raw1 {E : Env} {a : AV} {v x : Value} (h : Den E a v) (hr : a.raw1 = some x) : v = x:=by
 cases h <;> cases hr; rfl
theorem Den.raw {E : Env} {a : AV} {v x : Value} (h : Den E a v) (hr : a.raw = some x) : v = x:=by
 cases h with
 | val => cases hr; rfl
 | agg hs h =>
  obtain ⟨vs,h1,rfl⟩:=zmd hr;congr 1;rename_i l cs;have key : ∀ (l : List AV) (vs : List Value) (cs : List Value),l.mapM AV.raw1 = some vs -> cs.length = l.length -> (∀ (i : Nat) a,l[i]? = some a -> Den E a (cs.getD i undef)) -> cs = vs:=by
   intro l;induction l with
   | nil => intro vs cs h1 h2 _; simp at h1; subst h1; simpa using h2
   | cons a l ih =>
    intro vs cs h1 h2 h3;simp only [List.mapM_cons,Option.pure_def,Option.bind_eq_bind,Option.bind_eq_some_iff,Option.some.injEq] at h1;obtain ⟨b,e1,bs,e2,rfl⟩:=h1;cases cs with
    | nil => simp at h2
    | cons c cs =>
     have hc:=(h3 0 a rfl).raw1 e1;have:=ih bs cs e2 (by simpa using h2) (fun i x hx => by simpa using h3 (i + 1) x (by simpa using hx));subst this;simp only [List.getD_cons_zero] at hc;rw [hc]
  have:=key l vs cs.toList h1 (by simpa using hs) (fun i a e => by have:=h i a e; rw [Array.getD_eq_getD_getElem?] at this; simpa [List.getD_eq_getElem?_getD] using this);rw [<- this]
 | _ => cases hr
def zni : Value -> Value -> Bool
 | .agg _,.agg _ => true
 | .bool _,.bool _ => true
 | _,_ => false
theorem q_eq {op : BinOp} {xt yt : TypeId} {x y : Operand} {a b : AV} {X Y : Value} {e : Bool} (ho : o.op = .binOp op xt x y yt) (hop : op = .eql \/ op = .neq) (hx : s.ev x = some a) (hy : s.ev y = some b) (hX : a.raw = some X) (hY : b.raw = some Y) (hk : zni X Y = true) (hg : P.eqGuardType P.depth xt = false) (he : Sure P (Op.equal xt X Y) e) :
  QStep lv P r o s (.val (.bool (if op == .neq then !e else e))) :=
 zbM (fun E V ac hc htk => by
  have e1:=(Den.ev htk hx).raw hX;have e2:=(Den.ev htk hy).raw hY;unfold execOp; rw [ho];simp only [e1,e2];refine zac ?_;have guard : ∀ {K : Unit -> View -> Prop},K () V -> SemOk P V (eqGuard op xt x y X Y) K (fun _ _ => False):=fun hK => by
   unfold eqGuard;unfold zni at hk;split at hk
   ·rcases hop with rfl | rfl
    all_goals
     simp only [Bool.not_true,Bool.false_eq_true,if_false];refine zac (zaG (zan ?_));refine zac (zaG (zan ?_));rw [hg];exact zbq hK
   ·rcases hop with rfl | rfl <;> exact zbq hK
   ·cases hk
  refine zac (guard ?_);unfold zni at hk;split at hk
  ·rcases hop with rfl | rfl <;> (unfold binOp; refine he.bind (zbq (zbq ⟨rfl,_,rfl,?_⟩)); exact .val _)
  ·rcases hop with rfl | rfl <;> (unfold binOp; refine he.bind (zbq (zbq ⟨rfl,_,rfl,?_⟩)); exact .val _)
  ·cases hk)
theorem zeI {t : TypeId} {d : TypeId × Nat} {b : Option Addr} {n cap : Nat} {V : View} {K : Bool -> View -> Prop} {Kp : Value -> View -> Prop} (ht : zgX P t = some d) (hk : K b.isNone V) : SemOk P V (Op.equal t (.slice b n cap) (.slice none 0 0)) K Kp:=by
 obtain ⟨el,hu⟩ : ∃ el,P.underlying t = some (.slice el):=by
  unfold zgX at ht;split at ht
  ·rename_i e he; exact ⟨e,he⟩
  ·cases ht
 have e : Op.equal t (.slice b n cap) (.slice none 0 0) = Op.equalIn (9999 + 1) t (.slice b n cap) (.slice none 0 0):=rfl;rw [e,Op.equalIn];refine zaj hu ?_;cases b with
 | none => exact zbq hk
 | some a => exact zbq hk
theorem ziF {op : BinOp} {t yt : TypeId} {x : Operand} {n : Nat} {av : AV} {d : TypeId × Nat} (ho : o.op = .binOp op t x (.const (.slice none 0 0)) yt) (hop : op = .eql \/ op = .neq) (hx : s.ev x = some av) (hlen : av.len = some n) (ht : zgX P t = some d)
  (hn : ∀ b : Bool,(0 < n -> b = false) -> next (s.put o.dst (.val (.bool (if op == .neq then !b else b))))) : Step lv P r o s next bad:=by
 intro E V a N Q hc htk hd hdf h1 _;refine ⟨hdf,?_⟩;have hdx:=Den.ev htk hx;generalize hvx : a.eval x = vx at hdx;obtain ⟨base,cap,rfl,hb⟩ : ∃ base cap,vx = .slice base n cap /\ (0 < n -> base.isNone = false):=by
  cases hdx with
  | sl b o cap f hcap he q1 q2 => cases hlen; exact ⟨_,_,rfl,fun _ => rfl⟩
  | nil he => cases hlen; exact ⟨_,_,rfl,fun h => absurd h (by omega)⟩
  | osl hi => cases hlen; exact ⟨_,_,rfl,fun _ => rfl⟩
  | _ => cases hlen
 unfold execOp; rw [ho];have hy : a.eval (.const (.slice none 0 0)) = .slice none 0 0:=rfl;simp only [hvx,hy];have fin : SemOk P V (pure (Next.value (.bool (if op == .neq then !base.isNone else base.isNone)))) (Upon lv P r o a N Q) (fun v V' => Q (.panic [{ v,recovered:=false }]) a V') :=
  zbq (h1 E V (a.put o.dst _) _ ⟨Env.Le.refl E,zaA _ _ _,zaw _ _ _,rfl,rfl⟩ (by rw [zbx]; exact hc) (htk.putd hd (.val _)) (hn _ hb))
 rcases hop with rfl | rfl
 ·refine zac (zac (zbq ?_));unfold binOp;exact zac (zeI ht (zbq fin))
 ·refine zac (zac (zbq ?_));unfold binOp;exact zac (zeI ht (zbq fin))
theorem q_max {c : Call} {x y : Operand} {k j : IntKind} {m n : Int} (ho : o.op = .call c) (hcl : c.callee = .builtin .max) (hargs : c.args = #[x,y]) (hx : s.ev x = some (.val (.int k m))) (hy : s.ev y = some (.val (.int j n))) : QStep lv P r o s (.val (.int k (if n > m then n else m))) :=
 zcu (fun E V a hc htk => by
  have h1:=Den.ev htk hx;have h2:=Den.ev htk hy;generalize hv1 : a.eval x = v1 at h1;generalize hv2 : a.eval y = v2 at h2;cases h1; cases h2;refine ⟨_,?_,.val _⟩;unfold execOp; rw [ho];dsimp only;unfold resolve;rw [hcl];have hmap : c.args.map a.eval = #[.int k m,.int j n]:=by rw [hargs]; simp [hv1,hv2]
  rw [hmap];rfl)
theorem q_min {c : Call} {x y : Operand} {k j : IntKind} {m n : Int} (ho : o.op = .call c) (hcl : c.callee = .builtin .min) (hargs : c.args = #[x,y]) (hx : s.ev x = some (.val (.int k m))) (hy : s.ev y = some (.val (.int j n))) : QStep lv P r o s (.val (.int k (if n < m then n else m))) :=
 zcu (fun E V a hc htk => by
  have h1:=Den.ev htk hx;have h2:=Den.ev htk hy;generalize hv1 : a.eval x = v1 at h1;generalize hv2 : a.eval y = v2 at h2;cases h1; cases h2;refine ⟨_,?_,.val _⟩;unfold execOp; rw [ho];dsimp only;unfold resolve;rw [hcl];have hmap : c.args.map a.eval = #[.int k m,.int j n]:=by rw [hargs]; simp [hv1,hv2]
  rw [hmap];rfl)
theorem zic {x : Operand} {xt zas t : TypeId} {ok : Bool} {av : AV} {z : Value} (ho : o.op = .typeAssert x xt zas ok) (ht : znC P zas = some false) (hz : zh2 P zas = some z) (hx : s.ev x = some (.ifc t av)) (hok : ok = true \/ t = zas) :
  QStep lv P r o s (if t = zas then (if ok then .tup [av,.val (.bool true)] else av) else .tup [AV.of z,.val (.bool false)]) :=
 zbM (fun E V a hc htk => by
  have hd:=Den.ev htk hx;generalize hv : a.eval x = v at hd;cases hd with
  | ifc hd =>
   obtain ⟨d,hu,hdd⟩:=zmd ht;unfold execOp; rw [ho]; simp only [hv];refine zac ?_;unfold Instr.typeAssert;refine zaj hu ?_;split
   ·rename_i h; cases hdd
   ·rename_i h; cases hdd
   ·rename_i h; cases h
   ·rename_i t' v' h;cases h;by_cases e : t = zas
    ·rw [if_pos e,if_pos e];cases ok
     ·exact zbq (zbq ⟨rfl,_,rfl,hd⟩)
     ·refine zbq (zbq ⟨rfl,_,rfl,.tup rfl fun i b hb => ?_⟩)
      match i,hb with
      | 0,hb => cases hb; exact hd
      | 1,hb => cases hb; exact .val _
    ·rw [if_neg e,if_neg e];have hok' : ok = true:=hok.resolve_right e;subst hok';simp only [if_true];refine zac (zac ?_);unfold zh2 at hz;obtain ⟨inf,z1,z2⟩:=Option.bind_eq_some_iff.1 hz;unfold typeInfo;refine zac (zaG (zan ?_));rw [z1];refine zbq ?_;rw [z2];refine zbq (zbq (zbq ⟨rfl,_,rfl,.tup rfl fun i b hb => ?_⟩))
     match i,hb with
     | 0,hb => cases hb; exact zeL E z
     | 1,hb => cases hb; exact .val _
   ·exfalso; simp_all)
theorem zhn {x : Operand} {xt zas : TypeId} {z : Value} (ho : o.op = .typeAssert x xt zas true) (ht : znC P zas = some false) (hz : zh2 P zas = some z) (hx : s.ev x = some (.val .nilIface)) : QStep lv P r o s (.tup [AV.of z,.val (.bool false)]) :=
 zbM (fun E V a hc htk => by
  have hd:=Den.ev htk hx;generalize hv : a.eval x = v at hd;cases hd;obtain ⟨d,hu,hdd⟩:=zmd ht;unfold execOp; rw [ho]; simp only [hv];refine zac ?_;unfold Instr.typeAssert;refine zaj hu ?_;unfold zh2 at hz;obtain ⟨inf,z1,z2⟩:=Option.bind_eq_some_iff.1 hz;split
  ·rename_i h; cases hdd
  ·rename_i h; cases h
  ·simp only [if_true];refine zac (zac ?_);unfold typeInfo;refine zac (zaG (zan ?_));rw [z1];refine zbq ?_;rw [z2];refine zbq (zbq (zbq ⟨rfl,_,rfl,.tup rfl fun i b hb => ?_⟩))
   match i,hb with
   | 0,hb => cases hb; exact zeL E z
   | 1,hb => cases hb; exact .val _
  ·rename_i h; cases h
  ·exfalso; simp_all)
def znn (P : Program) (t : TypeId) (name : String) : Prop:=∀ v,Sure P (nilAhead (P.types.size + Made.depth) t v name) (some false)
theorem zkf {x : Operand} {name : String} {t : TypeId} {av : AV} (ho : o.op = .nilCheck x) (hx : s.ev x = some (.fn (.method name) [.ifc t av] [])) (hn : znn P t name) : QStep lv P r o s (.fn (.method name) [.ifc t av] []) :=
 zbM (fun E V a hc htk => by
  have hd:=Den.ev htk hx;unfold execOp; rw [ho];dsimp only;generalize hv : a.eval x = v at hd ⊢;have hd':=hd;cases hd with
  | fn hs1 hs2 h1 h2 =>
   rename_i fa ca;have hfa : fa.size = 1:=hs1;have:=h1 0 _ rfl;rw [Array.getD_eq_getD_getElem?,Array.getElem?_eq_getElem (by omega)] at this;simp only [Option.getD_some] at this;have hg : fa[0]? = some fa[0]:=Array.getElem?_eq_getElem (by omega);generalize hq : fa[0] = q at this hg;cases this with
   | ifc hx' =>
    dsimp only;rw [hg];dsimp only;refine zac (zaG (zan ?_));refine (hn _).bind ?_;simp only [bne_self_eq_false,Bool.false_eq_true,if_false];exact zbq ⟨rfl,_,rfl,hd'⟩)
def znb (P : Program) (t : TypeId) : Option (TypeId × TypeId):=match P.underlying t with
 | some (.map k e) => some (k,e)
 | _ => none
def zne (es : Array MapEntry) (ck : Nat) (k x : Value) : Option (Nat × Value) -> Obj
 | none => .map (es.push { key:=k,val:=x,born:=ck }) (ck + 1)
 | some (i,_) => .map (es.modify i fun e => { e with key:=k,val:=x }) ck
theorem zeX {t kt et : TypeId} {m k x : Operand} {id ck : Nat} {es : Array MapEntry} {a b : AV} {K X : Value} {fd : Option (Nat × Value)} (ho : o.op = .mapUpdate t m k x \/ o.op = .insert t m k x) (ht : znb P t = some (kt,et)) (hm : s.ev m = some (.mp id)) (hk : s.ev k = some a) (hx : s.ev x = some b) (hK : a.raw = some K) (hX : b.raw = some X)
  (hH : s.H[id]? = some (.obj (.map es ck))) (hc : Sure P (Instr.checkKey false 10000 kt K) ()) (hf : Sure P (Instr.findKey kt K es.toList) fd) (hsame : ∀ i v,fd = some (i,v) -> Instr.sameBits 10000 (((es[i]?).map (·.key)).getD K) K = true)
  (hn : next ((⟨s.T,s.H.set id (.obj (zne es ck K X fd))⟩ : AS).put o.dst (.val undef))) : Step lv P r o s next bad:=by
 intro E V ac N Q hcc htk hd hdf h1 _;refine ⟨hdf,?_⟩;have e1:=(Den.ev htk hk).raw hK;have e2:=(Den.ev htk hx).raw hX;have hdm:=Den.ev htk hm;generalize hvm : ac.eval m = vm at hdm;cases hdm;obtain ⟨p1,p2,p3,p4⟩:=hcc.obj id _ hH;obtain ⟨g1,g2⟩:=hcc.notGroup hH rfl;have go : SemOk P V (do Instr.mapUpdate t (.map (some (E.blk id))) K X; pure Next.skip) (Upon lv P r o ac N Q) (fun v V' => Q (.panic [{ v,recovered:=false }]) ac V'):=by
  refine zac ?_;unfold znb at ht;split at ht
  ·rename_i k' e' hu;cases ht;unfold Instr.mapUpdate;refine zaj hu ?_;dsimp only;refine zac (zaI p1 p2 p3 g2 (zan ?_));dsimp only;refine hc.bind (hf.bind ?_);have fin : ∀ y,y = zne es ck K X fd -> SemOk P V (setObj (E.blk id) y) (fun _ V' => SemOk P V' (pure Next.skip) (Upon lv P r o ac N Q) (fun v V' => Q (.panic [{ v,recovered:=false }]) ac V')) (fun v V' => Q (.panic [{ v,recovered:=false }]) ac V'):=fun y hy => by
    have hy1 : y.isCells = false:=(by rw [hy]; cases fd <;> rfl);have hy2 : y.isChan = false:=(by rw [hy]; cases fd <;> rfl);refine za6 p1 p2 hy2 g2 (zan (zbq ?_));exact h1 E _ (ac.put o.dst undef) _ ⟨Env.Le.refl E,zaA _ _ _,zaw _ _ _,rfl,rfl⟩ (by rw [zbx]; rw [hy]; exact hcc.setObj hH (by cases fd <;> rfl) (by cases fd <;> rfl))
     (TOk.putd (s:=⟨s.T,s.H.set id (.obj (zne es ck K X fd))⟩) htk hd (.val undef)) hn
   cases fd with
   | none => exact fin _ rfl
   | some iv =>
    obtain ⟨i,v⟩:=iv;dsimp only;unfold Instr.keyThatStays;rw [hsame i v rfl];simp only [if_true];exact zac (zbq (fin _ rfl))
  ·cases ht
 unfold execOp;rcases ho with ho | ho
 all_goals
  rw [ho];simp only [hvm,e1,e2];exact go
def znk (es : Array MapEntry) : Option (Nat × Value) -> Array MapEntry
 | some (i,_) => es.eraseIdxIfInBounds i
 | none => es
theorem zha {c : Call} {t t' kt et : TypeId} {m k : Operand} {id ck : Nat} {es : Array MapEntry} {a : AV} {K : Value} {fd : Option (Nat × Value)} (ho : o.op = .call c) (hcl : c.callee = .builtin .delete) (hargs : c.args = #[m,k]) (hts : c.argTypes = #[t,t']) (ht : znb P t = some (kt,et)) (hm : s.ev m = some (.mp id)) (hk : s.ev k = some a) (hK : a.raw = some K)
  (hH : s.H[id]? = some (.obj (.map es ck))) (hc : Sure P (Instr.checkKey es.isEmpty 10000 kt K) ()) (hf : Sure P (Instr.findKey kt K es.toList) fd)
  (hn : next ((⟨s.T,s.H.set id (.obj (.map (znk es fd) ck))⟩ : AS).put o.dst (.val undef))) : Step lv P r o s next bad:=by
 intro E V ac N Q hcc htk hd hdf h1 _;refine ⟨hdf,?_⟩;have e1:=(Den.ev htk hk).raw hK;have hdm:=Den.ev htk hm;generalize hvm : ac.eval m = vm at hdm;cases hdm;obtain ⟨p1,p2,p3,p4⟩:=hcc.obj id _ hH;obtain ⟨g1,g2⟩:=hcc.notGroup hH rfl;unfold execOp; rw [ho];dsimp only;unfold resolve;rw [hcl];dsimp only;refine zac (zbq ?_);unfold invoke builtin;dsimp only;refine zac ?_;have hmap : c.args.map ac.eval = #[.map (some (E.blk id)),K]:=by rw [hargs]; simp [hvm,e1]
 rw [hmap,hts];unfold znb at ht;split at ht
 ·rename_i k' e' hu;cases ht;unfold Builtin.delete_;simp only [List.getElem?_toArray,List.getElem?_cons_zero,List.getElem?_cons_succ];refine zaj hu ?_;dsimp only;refine zac (zaI p1 p2 p3 g2 (zan ?_));dsimp only;refine hc.bind (hf.bind ?_);have fin : ∀ es',es' = (znk es fd) -> SemOk P V (setObj (E.blk id) (.map es' ck)) (fun _ V' => SemOk P V' (pure (Value.tuple #[])) (fun x V' => SemOk P V' (pure (Next.value x)) (Upon lv P r o ac N Q) (fun v V' => Q (.panic [{ v,recovered:=false }]) ac V')) (fun v V' => Q (.panic [{ v,recovered:=false }]) ac V')) (fun v V' => Q (.panic [{ v,recovered:=false }]) ac V'):=fun y hy => by
   refine za6 p1 p2 rfl g2 (zan (zbq (zbq ?_)));exact h1 E _ (ac.put o.dst undef) _ ⟨Env.Le.refl E,zaA _ _ _,zaw _ _ _,rfl,rfl⟩ (by rw [zbx]; rw [hy]; exact hcc.setObj hH rfl rfl)
    (TOk.putd (s:=⟨s.T,s.H.set id (.obj (.map (znk es fd) ck))⟩) htk hd (.val undef)) hn
  cases fd with
  | none => exact zac (fin _ rfl)
  | some iv => exact zac (fin _ rfl)
 ·cases ht
theorem ziG {t kt et : TypeId} {x : Operand} {m ck : Nat} {es : Array MapEntry} (ho : o.op = .range t x) (ht : znb P t = some (kt,et)) (hx : s.ev x = some (.mp m)) (hH : s.H[m]? = some (.obj (.map es ck)))
  (hn : next ((⟨s.T,s.H ++ [.iter m ck #[] ck]⟩ : AS).put o.dst (.op s.H.length 0))) : Step lv P r o s next bad:=by
 intro E V ac N Q hc htk hd hdf h1 _;refine ⟨hdf,?_⟩;have hdm:=Den.ev htk hx;generalize hvm : ac.eval x = vm at hdm;cases hdm with
 | mp hm =>
  obtain ⟨p1,p2,p3,p4⟩:=hc.obj m _ hH;obtain ⟨g1,g2⟩:=hc.notGroup hH rfl;unfold execOp; rw [ho]; simp only [hvm];refine zac ?_;unfold znb at ht;split at ht
  ·rename_i k' e' hu;cases ht;unfold Instr.range;refine zaj hu ?_;refine zac (zaI p1 p2 p3 g2 (zan ?_));dsimp only;refine zac (zbq ?_);refine zac (za7 fun rr hf => zan (zbq (zbq ?_)));have hle : E.Le (E.add rr V.imm):=E.le_add rr (fun b o v h => by rw [<- hc.I]; exact h);have hc' : Conc (E.add rr V.imm) (V.upd rr (.mapIter (some (E.blk m)) ck #[] ck)) (s.H ++ [.iter m ck #[] ck]):=by
    refine hc.add hf _ ⟨?_,?_,fun o => ?_⟩ (fun b e => ?_)
    ·exact Nat.lt_succ_of_lt hm
    ·rw [Env.add_blk,hle.blk m hm]; simp [View.upd]
    ·rw [Env.add_blk]; exact hf.2 o
    ·simp only [zfE,Env.add_blk,Option.some.injEq] at e; exact e.symm
   exact h1 _ _ (ac.put o.dst (.pointer (some ⟨rr,0,none⟩))) ((⟨s.T,s.H ++ [.iter m ck #[] ck]⟩ : AS).put o.dst (.op s.H.length 0)) ⟨hle,zaA _ _ _,zaw _ _ _,rfl,rfl⟩ (by rw [zbx]; exact hc')
    (TOk.putd (s:=⟨s.T,s.H ++ [.iter m ck #[] ck]⟩) (htk.mono hle) hd (zkW hc.n rr V.imm)) hn
  ·cases ht
theorem Conc.setIter {E : Env} {V : View} {H : List AObj} (hc : Conc E V H) {id m a c : Nat} {b : Array Nat} (hk : H[id]? = some (.iter m a b c)) (a' : Nat) (b' : Array Nat) (c' : Nat) : Conc E (V.upd (E.blk id) (.mapIter (some (E.blk m)) a' b' c')) (H.set id (.iter m a' b' c')):=by
 obtain ⟨p1,p2,p4⟩:=hc.obj id _ hk;refine hc.turn id (.iter m a' b' c') (Env.Le.refl E) hc.I (by simpa using hc.n) zaF rfl (fun _ _ _ => rfl) (fun b z hb hz => ⟨?_,fun _ => rfl⟩) ⟨p1,by simp [View.upd],p4⟩ (fun b h => .inl ⟨_,hk,h⟩);have : b ≠ E.blk id:=fun e => hb _ hk (by rw [e]; rfl);simpa [View.upd,this] using hz
theorem zj0 {it : Operand} {id m since ck stepped : Nat} {seen : Array Nat} {es : Array MapEntry} (ho : o.op = .next it false) (hi : s.ev it = some (.op id 0)) (hI : s.H[id]? = some (.iter m since seen stepped)) (hM : s.H[m]? = some (.obj (.map es ck)))
  (hok : es.all (fun e => decide (e.born >= stepped)) = false \/ es.isEmpty = true \/ seen.isEmpty = true)
  (hn : ∀ e ∈ es,e.born ∉ seen -> next ((⟨s.T,s.H.set id (.iter m since (seen.push e.born) ck)⟩ : AS).put o.dst (.tup [.val (.bool true),AV.of e.key,AV.of e.val])))
  (hover : (∀ e ∈ es,e.born < since -> e.born ∈ seen) -> next (s.put o.dst (.tup [.val (.bool false)]))) : Step lv P r o s next bad:=by
 intro E V ac N Q hc htk hd hdf h1 _;refine ⟨hdf,?_⟩;have hdi:=Den.ev htk hi;generalize hvi : ac.eval it = vi at hdi;cases hdi with
 | op hid =>
  obtain ⟨q1,q2,q3⟩:=hc.obj id _ hI;obtain ⟨p1,p2,p3,p4⟩:=hc.obj m _ hM;have gi:=hc.notGroup hI rfl;have gm:=hc.notGroup hM rfl;unfold execOp; rw [ho]; simp only [hvi];refine zac ?_;unfold Instr.next;dsimp only;refine zac (zaI q2 rfl rfl gi.2 (zan ?_));dsimp only;refine zac (zaI p1 p2 p3 gm.2 (zan ?_));dsimp only;rw [if_neg (by
   intro h;simp only [Bool.and_eq_true,Bool.not_eq_true'] at h;rcases hok with hk | hk | hk
   ·rw [hk] at h; cases h.2
   ·rw [hk] at h; cases h.1.2
   ·rw [hk] at h; cases h.1.1)]
  generalize hcand : (if ((es.filter fun e => !seen.contains e.born).filter (fun e => decide (e.born < since))).isEmpty = true then #[none] else #[]) ++ ((es.filter fun e => !seen.contains e.born).filter (fun e => decide (e.born < since)) ++ (es.filter fun e => !seen.contains e.born).filter (fun e => decide (e.born >= since))).map some = cand;have hin : ∀ x ∈ cand,match x with
    | some e => e ∈ es /\ e.born ∉ seen
    | none => ∀ e ∈ es,e.born < since -> e.born ∈ seen:=by
   intro x hx;rw [<- hcand] at hx;rcases Array.mem_append.1 hx with hx | hx
   ·split at hx
    ·rename_i hem;simp at hx;subst hx;intro e he hlt;apply Classical.byContradiction;intro hns;have : e ∈ ((es.filter fun e => !seen.contains e.born).filter (fun e => decide (e.born < since))):=(by simp [he,hlt,hns]);rw [Array.isEmpty_iff] at hem;rw [hem] at this; simp at this
    ·simp at hx
   ·rw [Array.mem_map] at hx;obtain ⟨e,he,rfl⟩:=hx;rcases Array.mem_append.1 he with he | he <;> simp at he <;> exact ⟨he.1,he.2.2⟩
  have hpos : 0 < cand.size:=by
   rw [<- hcand];split
   ·simp; omega
   ·rename_i hem;have : 0 < ((es.filter fun e => !seen.contains e.born).filter (fun e => decide (e.born < since))).size:=by
     rw [Array.isEmpty_iff] at hem;exact Array.size_pos_iff.2 hem
    simp only [Array.size_append,Array.size_map,List.size_toArray,List.length_nil];omega
  have fin : ∀ j,j < cand.size -> SemOk P V (match cand[j]? with
    | some (some e) => do setObj (E.blk id) (.mapIter (some (E.blk m)) since (seen.push e.born) ck); pure (Value.tuple #[.bool true,e.key,e.val])
    | some none => pure (Value.tuple #[.bool false])
    | none => stuck "Next: no such candidate") (fun x V' => SemOk P V' (pure (Next.value x)) (Upon lv P r o ac N Q) (fun v V' => Q (.panic [{ v, recovered := false }]) ac V')) (fun v V' => Q (.panic [{ v, recovered := false }]) ac V') := by
   intro j hj;rw [Array.getElem?_eq_getElem hj];have hm:=hin cand[j] (Array.getElem_mem hj);generalize cand[j] = x at hm;cases x with
   | none =>
    dsimp only;refine zbq (zbq ?_);exact h1 E V (ac.put o.dst _) (s.put o.dst (.tup [.val (.bool false)])) ⟨Env.Le.refl E,zaA _ _ _,zaw _ _ _,rfl,rfl⟩ (by rw [zbx]; exact hc)
     (TOk.putd htk hd (.tup rfl fun i b hb => by
      match i,hb with
      | 0,hb => cases hb; exact .val _)) (hover hm)
   | some e =>
    dsimp only;refine zac (za6 q2 rfl rfl gi.2 (zan (zbq (zbq ?_))));exact h1 E _ (ac.put o.dst _) _ ⟨Env.Le.refl E,zaA _ _ _,zaw _ _ _,rfl,rfl⟩ (by rw [zbx]; exact hc.setIter hI since (seen.push e.born) ck)
     (TOk.putd (s:=⟨s.T,s.H.set id (.iter m since (seen.push e.born) ck)⟩) htk hd (.tup rfl fun i b hb => by
      match i,hb with
      | 0,hb => cases hb; exact .val _
      | 1,hb => cases hb; exact zeL E _
      | 2,hb => cases hb; exact zeL E _)) (hn e hm.1 hm.2)
  refine zac (zdY (fun hf => zan (fin 0 hpos)) (fun hf t => zan (fin _ (Nat.mod_lt _ hpos))))
theorem zq9 {it : Operand} {id m since ck : Nat} {seen : Array Nat} {es : Array MapEntry} {b : Nat} {e : MapEntry} (ho : o.op = .entry it) (hi : s.ev it = some (.op id 0)) (hI : s.H[id]? = some (.iter m since seen ck)) (hM : s.H[m]? = some (.obj (.map es ck)))
  (hb : seen.back? = some b) (he : es.find? (·.born == b) = some e) : QStep lv P r o s (.tup [AV.of e.key,AV.of e.val]) :=
 zbM (fun E V ac hc htk => by
  have hdi:=Den.ev htk hi;generalize hvi : ac.eval it = vi at hdi;cases hdi with
  | op hid =>
   obtain ⟨q1,q2,q3⟩:=hc.obj id _ hI;obtain ⟨p1,p2,p3,p4⟩:=hc.obj m _ hM;have gi:=hc.notGroup hI rfl;have gm:=hc.notGroup hM rfl;unfold execOp; rw [ho]; simp only [hvi];refine zac ?_;unfold Instr.entry;dsimp only;refine zac (zaI q2 rfl rfl gi.2 (zan ?_));dsimp only;rw [hb];dsimp only;refine zac (zaI p1 p2 p3 gm.2 (zan ?_));dsimp only;rw [if_neg (by simp)];rw [he];refine zbq (zbq ⟨rfl,_,rfl,.tup rfl fun i b hb => ?_⟩)
   match i,hb with
   | 0,hb => cases hb; exact zeL E _
   | 1,hb => cases hb; exact zeL E _)
end
def RetC (E : Env) (V : View) (k : AV -> List AObj -> Prop) (kp : AV -> List AObj -> Prop) : Out -> View -> Prop
 | .ret v,V' => ∃ av E' H',E.Le E' /\ V'.role = V.role /\ V'.deaf = V.deaf /\ Den E' av v /\ Conc E' V' H' /\ k av H'
 | .panic ch,V' => ∃ pv v E' H',ch = [{ v,recovered:=false }] /\ E.Le E' /\ V'.role = V.role /\ V'.deaf = V.deaf /\ Den E' pv v /\ Conc E' V' H' /\ kp pv H'
def FnC (lv : Bool) (P : Program) (f : FuncId) (H : List AObj) (args : List AV) (k : AV -> List AObj -> Prop) (kp : AV -> List AObj -> Prop) : Prop :=
 ∀ (E : Env) (V : View) (vs : Array Value),Conc E V H -> Denl E args vs -> Body lv P f vs .normal V (RetC E V k kp)
def Nx (lv : Bool) (P : Program) (R : Out -> View -> Prop) : Next -> View -> Prop
 | .value v,V => R (.ret v) V
 | .skip,V => R (.ret undef) V
 | .enter f args,V => Body lv P f args .normal V R
 | .round l f tmps assign body,V => Runs lv P (Frame.round l f tmps assign body .normal) V R
 | _,_ => False
def CallC (lv : Bool) (P : Program) (c : AV) (H : List AObj) (args : List AV) (k : AV -> List AObj -> Prop) (kp : AV -> List AObj -> Prop) : Prop :=
 ∀ (E : Env) (V : View) (cv : Value) (vs : Array Value),Conc E V H -> Den E c cv -> Denl E args vs ->
  SemOk P V (do let d <- Deferred.ofValue cv vs; invoke d.target d.args) (fun nx V' => Nx lv P (RetC E V k kp) nx V') (fun v V' => RetC E V k kp (.panic [{ v,recovered:=false }]) V')
def InvC (lv : Bool) (P : Program) (c : AV) (name : String) (H : List AObj) (args : List AV) (k : AV -> List AObj -> Prop) (kp : AV -> List AObj -> Prop) : Prop :=
 ∀ (E : Env) (V : View) (cv : Value) (vs : Array Value),Conc E V H -> Den E c cv -> Denl E args vs ->
  SemOk P V (invoke (.fn (.method name) #[]) (#[cv] ++ vs)) (fun nx V' => Nx lv P (RetC E V k kp) nx V') (fun v V' => RetC E V k kp (.panic [{ v,recovered:=false }]) V')
theorem RetC.mono {E : Env} {V : View} {k k' kp kp' : AV -> List AObj -> Prop} (h : ∀ a H,k a H -> k' a H) (hp : ∀ a H,kp a H -> kp' a H) : ∀ {o V'},RetC E V k kp o V' -> RetC E V k' kp' o V'
 | .ret _,_,⟨av,E',H',a,b,c,d,e,f⟩ => ⟨av,E',H',a,b,c,d,e,h _ _ f⟩
 | .panic _,_,⟨pv,v,E',H',a,b,c,d,e,f,g⟩ => ⟨pv,v,E',H',a,b,c,d,e,f,hp _ _ g⟩
theorem Nx.mono {lv : Bool} {P : Program} {R R' : Out -> View -> Prop} (h : ∀ o V,R o V -> R' o V) : ∀ {nx V},Nx lv P R nx V -> Nx lv P R' nx V:=by
 intro nx V hn;cases nx with
 | value v => exact h _ _ hn
 | skip => exact h _ _ hn
 | enter f args => exact Body.mono hn h
 | round l f tmps a b => exact Runs.mono hn h
 | _ => exact hn
theorem FnC.mono {lv : Bool} {P : Program} {f : FuncId} {H : List AObj} {args : List AV} {k k' kp kp' : AV -> List AObj -> Prop} (h : FnC lv P f H args k kp) (hk : ∀ a H,k a H -> k' a H) (hp : ∀ a H,kp a H -> kp' a H) : FnC lv P f H args k' kp':=fun E V vs hc hd =>
 (h E V vs hc hd).mono fun _ _ x => x.mono hk hp
theorem CallC.mono {lv : Bool} {P : Program} {f : AV} {H : List AObj} {args : List AV} {k k' kp kp' : AV -> List AObj -> Prop} (h : CallC lv P f H args k kp) (hk : ∀ a H,k a H -> k' a H) (hp : ∀ a H,kp a H -> kp' a H) : CallC lv P f H args k' kp':=fun E V cv vs hc hd hds =>
 (h E V cv vs hc hd hds).mono (fun _ _ x => Nx.mono (fun _ _ y => y.mono hk hp) x) (fun _ _ y => y.mono hk hp)
def zkT (P : Program) (g : FuncId) : Bool:=match P.funcs[g]? with
 | some fn => fn.body.isSome && !(fn.name == "runtime.NumGoroutine")
 | none => false
theorem zcU {lv : Bool} {P : Program} {V : View} {g : FuncId} {vs : Array Value} {R : Out -> View -> Prop} {Kp : Value -> View -> Prop} (hg : zkT P g = true) (h : Body lv P g vs .normal V R) : SemOk P V (callFunc g vs) (fun nx V' => Nx lv P R nx V') Kp:=by
 unfold callFunc;refine zac (zaG (zan ?_));unfold zkT at hg;split at hg
 ·rename_i fn hfn;simp only [Bool.and_eq_true,Bool.not_eq_true'] at hg;rw [hfn];dsimp only;have hbn : fn.body.isNone = false:=by
   have h1:=hg.1;cases hb : fn.body with
   | none => rw [hb] at h1; cases h1
   | some _ => rfl
  rw [if_neg (by rw [hg.2]; simp),if_neg (by rw [hbn]; simp)];exact zbq h
 ·cases hg
section
variable {lv : Bool} {P : Program} {H : List AObj} {args : List AV} {k kp : AV -> List AObj -> Prop}
theorem zad {g : FuncId} {first caps : List AV} (hg : zkT P g = true) (hf : FnC lv P g H (first ++ args ++ caps) k kp) : CallC lv P (.fn (.func g) first caps) H args k kp:=by
 intro E V cv vs hc hd hds;cases hd with
 | fn hs1 hs2 h1 h2 =>
  rename_i fa ca;unfold Deferred.ofValue;refine zac (zbq ?_);unfold invoke;dsimp only;exact zcU hg (hf E V _ hc (zcN (zcN ⟨hs1,h1⟩ hds) ⟨hs2,h2⟩))
def zoF (P : Program) (t : TypeId) (name : String) (f : FuncId) : Prop:=∀ v,Sure P (method (P.types.size + Made.depth) t v name) (f,v)
theorem invC {t : TypeId} {a : AV} {name : String} {g : FuncId} (hm : zoF P t name g) (hg : zkT P g = true) (hf : FnC lv P g H (a :: args) k kp) : InvC lv P (.ifc t a) name H args k kp:=by
 intro E V cv vs hc hd hds;cases hd with
 | ifc hd =>
  rename_i v;unfold invoke;have e : (#[Value.iface t v] ++ vs)[0]? = some (.iface t v):=by rw [Array.getElem?_append_left (by simp)]; rfl
  simp only [e];have e2 : (#[Value.iface t v] ++ vs).extract 1 (#[Value.iface t v] ++ vs).size = vs:=by
   apply Array.ext';simp [Array.toList_extract,List.extract_eq_take_drop]
  rw [e2];unfold callMethod;dsimp only;refine zac (zaG (zan ?_));refine (hm v).bind ?_;dsimp only;refine zcU hg (hf E V _ hc ?_);have:=zcN (l:=[a]) (x:=#[v]) (E:=E) ⟨rfl,fun i b hb => by
   match i,hb with
   | 0,hb => cases hb; exact hd⟩ hds
  exact this
end
def evs (s : AS) : List Operand -> Option (List AV)
 | [] => some []
 | x :: l => match s.ev x,evs s l with
  | some a,some zas => some (a :: zas)
  | _,_ => none
theorem zdO {E : Env} {s : AS} {a : Act} (k : TOk E s.T a.tmps) : ∀ {l : List Operand} {zas : List AV},evs s l = some zas -> Denl E zas (l.map a.eval).toArray
 | [],_,h => by cases h; exact ⟨rfl,by simp⟩
 | x :: l,zas,h => by
  simp only [evs] at h;split at h
  ·rename_i av avs h1 h2;cases h;have ih:=zdO k h2;refine ⟨by have:=ih.1; simpa using this,fun i b e => ?_⟩;cases i with
   | zero => simp at e; subst e; simpa [Array.getD_eq_getD_getElem?] using Den.ev k h1
   | succ i =>
    simp only [List.getElem?_cons_succ] at e;have:=ih.2 i b e;simpa [Array.getD_eq_getD_getElem?] using this
  ·cases h
section
variable {lv : Bool} {P : Program} {r : Option Nat} {o : Oper} {s : AS} {next : AS -> Prop} {bad : AV -> AS -> Prop}
theorem zkp {E : Env} {V : View} {a : Act} {N : Act -> View -> Prop} {Q : Ex -> Act -> View -> Prop} (htk : TOk E s.T a.tmps) (hd : ∀ d,o.dst = some d -> d < a.tmps.size)
  (h1 : ∀ E' V' a' s',Kept E E' V V' a a' -> Conc E' V' s'.H -> TOk E' s'.T a'.tmps -> next s' -> N a' V')
  (h2 : ∀ E' V' s' pv v,Kept E E' V V' a a -> Conc E' V' s'.H -> TOk E' s'.T a.tmps -> Den E' pv v -> bad pv s' -> Q (.panic [{ v,recovered:=false }]) a V') :
  (∀ nx V',Nx lv P (RetC E V (fun b H' => next ((⟨s.T,H'⟩ : AS).put o.dst b)) (fun pv H' => bad pv ⟨s.T,H'⟩)) nx V' -> Upon lv P r o a N Q nx V') /\
  (∀ v V',RetC E V (fun b H' => next ((⟨s.T,H'⟩ : AS).put o.dst b)) (fun pv H' => bad pv ⟨s.T,H'⟩) (.panic [{ v,recovered:=false }]) V' -> Q (.panic [{ v,recovered:=false }]) a V'):=by
 have hv : ∀ v V',RetC E V (fun b H' => next ((⟨s.T,H'⟩ : AS).put o.dst b)) (fun pv H' => bad pv ⟨s.T,H'⟩) (.ret v) V' -> N (a.put o.dst v) V':=fun v V' ⟨av,E',H',hle,hro,hde,hden,hc',hk⟩ =>
  h1 E' V' _ _ ⟨hle,zaA _ _ _,zaw _ _ _,hro,hde⟩ (by rw [zbx]; exact hc') (TOk.putd (s:=⟨s.T,H'⟩) (htk.mono hle) hd hden) hk
 have hp : ∀ ch V',RetC E V (fun b H' => next ((⟨s.T,H'⟩ : AS).put o.dst b)) (fun pv H' => bad pv ⟨s.T,H'⟩) (.panic ch) V' -> Q (.panic ch) a V':=fun ch V' ⟨pv,v,E',H',hch,hle,hro,hde,hden,hc',hk⟩ => by
  subst hch;exact h2 E' V' ⟨s.T,H'⟩ pv v ⟨hle,rfl,rfl,hro,hde⟩ hc' (htk.mono hle) hden hk
 refine ⟨fun nx V' hn => ?_,fun v V' h => hp _ _ h⟩;cases nx with
 | value v => exact hv _ _ hn
 | skip => exact hv _ _ hn
 | enter f args =>
  refine Body.mono (R':=fun
   | .ret v,V' => N (a.put o.dst v) V'
   | .panic ch,V' => Q (.panic ch) a V') hn fun ot V'' h => ?_
  cases ot with
  | ret v => exact hv _ _ h
  | panic ch => exact hp _ _ h
 | round l f tmps zas b =>
  refine Runs.mono (R':=fun
   | .ret v,V' => N (a.put o.dst v) V'
   | .panic ch,V' => Q (.panic ch) a V') hn fun ot V'' h => ?_
  cases ot with
  | ret v => exact hv _ _ h
  | panic ch => exact hp _ _ h
 | _ => exact hn.elim
theorem zgg {c : Call} {x : Operand} {cav : AV} {zas : List AV} (ho : o.op = .call c) (hcl : c.callee = .value x) (hx : s.ev x = some cav) (has : evs s c.args.toList = some zas)
  (hf : CallC lv P cav s.H zas (fun b H' => next ((⟨s.T,H'⟩ : AS).put o.dst b)) (fun pv H' => bad pv ⟨s.T,H'⟩)) : Step lv P r o s next bad:=by
 intro E V a N Q hc htk hd hdf h1 h2;have hup:=zkp (lv:=lv) (P:=P) (r:=r) htk hd h1 h2;refine ⟨hdf,?_⟩;unfold execOp; rw [ho];dsimp only;unfold resolve;rw [hcl];dsimp only;have e : c.args.map a.eval = (c.args.toList.map a.eval).toArray:=by apply Array.ext'; simp
 rw [e];exact (hf E V (a.eval x) _ hc (Den.ev htk hx) (zdO htk has)).mono (fun nx V' h => hup.1 nx V' h) (fun v V' h => hup.2 v V' h)
theorem zh3 {c : Call} {x : Operand} {name : String} {cav : AV} {zas : List AV} (ho : o.op = .call c) (hcl : c.callee = .invoke x name) (hx : s.ev x = some cav) (has : evs s c.args.toList = some zas)
  (hf : InvC lv P cav name s.H zas (fun b H' => next ((⟨s.T,H'⟩ : AS).put o.dst b)) (fun pv H' => bad pv ⟨s.T,H'⟩)) : Step lv P r o s next bad:=by
 intro E V a N Q hc htk hd hdf h1 h2;have hup:=zkp (lv:=lv) (P:=P) (r:=r) htk hd h1 h2;refine ⟨hdf,?_⟩;unfold execOp; rw [ho];dsimp only;unfold resolve;rw [hcl];dsimp only;refine zac (zbq ?_);have e : c.args.map a.eval = (c.args.toList.map a.eval).toArray:=by apply Array.ext'; simp
 rw [e];exact (hf E V (a.eval x) _ hc (Den.ev htk hx) (zdO htk has)).mono (fun nx V' h => hup.1 nx V' h) (fun v V' h => hup.2 v V' h)
theorem ziH {x : Operand} {t : TypeId} {av : AV} (ho : o.op = .panic x) (hx : s.ev x = some (.ifc t av)) (hb : bad (.ifc t av) s) : Step lv P r o s next bad:=by
 intro E V a N Q hc htk hd hdf _ h2;refine ⟨hdf,?_⟩;have hdx:=Den.ev htk hx;unfold execOp; rw [ho];dsimp only;refine zac ?_;generalize a.eval x = v at hdx ⊢;have hdx':=hdx;cases hdx with
 | ifc hv =>
  unfold Instr.panic;dsimp only;exact zhk (h2 E V s (.ifc t av) _ ⟨Env.Le.refl E,rfl,rfl,rfl,rfl⟩ hc htk hdx' hb)
end
structure KeptK (k kp : AV -> List AObj -> Prop) : Type where
 n : Nat
def zr6 (lv : Bool) (P : Program) (c : AV) (H : List AObj) (args : List AV) (k kp : AV -> List AObj -> Prop) (_t : KeptK k kp) : Prop:=CallC lv P c H args k kp
def InvG (lv : Bool) (P : Program) (c : AV) (name : String) (H : List AObj) (args : List AV) (k kp : AV -> List AObj -> Prop) (_t : KeptK k kp) : Prop:=InvC lv P c name H args k kp
theorem zrJ {lv : Bool} {P : Program} {c : AV} {H : List AObj} {args : List AV} {k kp : AV -> List AObj -> Prop} {t : KeptK k kp} (h : CallC lv P c H args k kp) : zr6 lv P c H args k kp t:=h
def one1 {α : Type} (x : Option α) (k : α -> Prop) : Prop:=match x with
 | some a => k a
 | none => False
def AV.asBool (a : AV) (k : Bool -> Prop) : Prop:=match a with
 | .val (.bool b) => k b
 | _ => False
def AV.asInt (a : AV) (k : IntKind -> Int -> Prop) : Prop:=match a with
 | .val (.int j n) => k j n
 | _ => False
def AV.asTup (a : AV) (k : List AV -> Prop) : Prop:=match a with
 | .tup l => k l
 | _ => False
def AV.asAgg (a : AV) (k : List AV -> Prop) : Prop:=match a with
 | .agg l => k l
 | _ => False
def AV.asOp (a : AV) (k : Nat -> Nat -> Prop) : Prop:=match a with
 | .op i j => k i j
 | _ => False
def AV.asMp (a : AV) (k : Nat -> Prop) : Prop:=match a with
 | .mp i => k i
 | _ => False
def AV.asSl (a : AV) (k : Nat -> List AV -> End -> Prop) : Prop:=match a with
 | .sl n l e => k n l e
 | _ => False
theorem one1.out {α : Type} {x : Option α} {k : α -> Prop} (h : one1 x k) : ∃ a,x = some a /\ k a:=by
 cases x with
 | none => exact h.elim
 | some a => exact ⟨a,rfl,h⟩
theorem zbJ {a : AV} {k : Bool -> Prop} (h : a.asBool k) : ∃ b,a = .val (.bool b) /\ k b:=by
 unfold AV.asBool at h; split at h
 ·exact ⟨_,rfl,h⟩
 ·exact h.elim
theorem zbg {a : AV} {k : IntKind -> Int -> Prop} (h : a.asInt k) : ∃ j n,a = .val (.int j n) /\ k j n:=by
 unfold AV.asInt at h; split at h
 ·exact ⟨_,_,rfl,h⟩
 ·exact h.elim
theorem zll {a : AV} {k : List AV -> Prop} (h : a.asTup k) : ∃ l,a = .tup l /\ k l:=by
 unfold AV.asTup at h; split at h
 ·exact ⟨_,rfl,h⟩
 ·exact h.elim
theorem zln {a : AV} {k : List AV -> Prop} (h : a.asAgg k) : ∃ l,a = .agg l /\ k l:=by
 unfold AV.asAgg at h; split at h
 ·exact ⟨_,rfl,h⟩
 ·exact h.elim
theorem zdx {a : AV} {k : Nat -> Nat -> Prop} (h : a.asOp k) : ∃ i j,a = .op i j /\ k i j:=by
 unfold AV.asOp at h; split at h
 ·exact ⟨_,_,rfl,h⟩
 ·exact h.elim
theorem zfX {a : AV} {k : Nat -> Prop} (h : a.asMp k) : ∃ i,a = .mp i /\ k i:=by
 unfold AV.asMp at h; split at h
 ·exact ⟨_,rfl,h⟩
 ·exact h.elim
theorem zfW {a : AV} {k : Nat -> List AV -> End -> Prop} (h : a.asSl k) : ∃ n l e,a = .sl n l e /\ k n l e:=by
 unfold AV.asSl at h; split at h
 ·exact ⟨_,_,_,rfl,h⟩
 ·exact h.elim
section
variable (P : Program) (s : AS)
def ABin (op : BinOp) (xt : TypeId) (a b : AV) (k : AV -> Prop) : Prop:=match a,b with
 | .val (.int j m),.val (.int j' n) => if zks op then one1 (zmq op j m n) fun v => k (.val v) else j' = j /\ one1 (zlK op j m n) fun v => k (.val v)
 | _,_ => (op = .eql \/ op = .neq) /\ one1 a.raw fun X => one1 b.raw fun Y => zni X Y = true /\ P.eqGuardType P.depth xt = false /\ ∃ e,Sure P (Op.equal xt X Y) e /\ k (.val (.bool (if op == .neq then !e else e)))
def zmu (t : TypeId) (a : AV) (l h m : Option Int) (k : AV -> Prop) : Prop:=match a with
 | .sl n li e => one1 (zgX P t) fun (_,sz) => SlCut n li e sz l h m k
 | .osl id off n cap => one1 (zgX P t) fun (_,sz) => OwnCut id off n cap sz l h m k
 | .op id off => one1 (zm5 P t) fun (n,sz) => OwnCut id off n n sz l h m k
 | _ => False
def ALen (t : TypeId) (a : AV) (k : AV -> Prop) : Prop:=match zl3 P t,a with
 | some .slice,.sl n _ _ => k (.val (.int .i64 n))
 | some .slice,.osl _ _ n _ => k (.val (.int .i64 n))
 | some .str,.val (.string b) => k (.val (.int .i64 b.size))
 | some .map,.mp id => match s.H[id]? with
  | some (.obj (.map es _)) => k (.val (.int .i64 es.size))
  | _ => False
 | _,_ => False
def ANil (a : AV) (k : AV -> Prop) : Prop:=match a with
 | .fn (.method name) [.ifc t av] [] => znn P t name /\ k (.fn (.method name) [.ifc t av] [])
 | a => a.sure = true /\ k a
def AAssert (zas : TypeId) (ok : Bool) (a : AV) (k : AV -> Prop) : Prop:=znC P zas = some false /\ one1 (zh2 P zas) fun z => match a with
 | .ifc t av => if t = zas then k (if ok then .tup [av,.val (.bool true)] else av) else ok = true /\ k (.tup [AV.of z,.val (.bool false)])
 | .val .nilIface => ok = true /\ k (.tup [AV.of z,.val (.bool false)])
 | _ => False
def AOp (o : Oper) (k : AV -> Prop) : Prop:=match o.op with
 | .move x => one1 (s.ev x) k
 | .assign x => one1 (s.ev x) k
 | .pick c x y => one1 (s.ev c) fun b => one1 (s.ev x) fun a => one1 (s.ev y) fun a' => b.asBool fun b => k (if b then a else a')
 | .binOp op xt x y _ => one1 (s.ev x) fun a => one1 (s.ev y) fun b => ABin P op xt a b k
 | .unOp .not _ x => one1 (s.ev x) fun a => a.asBool fun b => k (.val (.bool !b))
 | .unOp .neg _ x => one1 (s.ev x) fun a => a.asInt fun j n => k (.val (.int j (j.wrap (0 - n))))
 | .convert src dst x => one1 (s.ev x) fun a => match znM P src dst with
   | some (some j) => a.asInt fun _ n => k (.val (.int j (j.wrap n)))
   | _ => False
 | .extract x i => one1 (s.ev x) fun a => a.asTup fun l => one1 l[i]? k
 | .nilCheck x => one1 (s.ev x) fun a => ANil P a k
 | .makeInterface t x => znC P t = some false /\ one1 (s.ev x) fun a => k (.ifc t a)
 | .makeFunc f first caps => one1 (first.toList.mapM s.ev) fun fa => one1 (caps.toList.mapM s.ev) fun ca => k (.fn f fa ca)
 | .typeAssert x _ zas ok => one1 (s.ev x) fun a => AAssert P zas ok a k
 | .build t parts => one1 (zlx P t) fun (pl,z) => one1 (evp s parts.toList) fun zas => one1 (zmL pl.at (zmj z) zas) fun l => k (.agg l)
 | .buildSlice t len parts => one1 (zlM P t) fun (_,sz,z) => len * sz <= 2 ^ 24 /\ one1 (evp s parts.toList) fun zas => one1 (zmL (Places.at (.elems sz)) (zfA z (len * sz)) zas) fun l => k (.sl len l .exact)
 | .fieldAddr t x f => one1 (s.ev x) fun a => one1 (zf9 P t f) fun n => one1 (a.shift n) k
 | .indexAddr t x ix => one1 (s.ev x) fun a => one1 (s.ev ix) fun i => i.asInt fun _ i => one1 (zms P t) fun
   |(some n,sz) => (0 <= i /\ i < n) /\ one1 (a.shift (i.toNat * sz)) k
   |(none,sz) => one1 a.row fun (n,p) => (0 <= i /\ i < n) /\ one1 (p.shift (i.toNat * sz)) k
 | .field t x f => one1 (s.ev x) fun a => a.asAgg fun l => one1 (zoE P t f) fun (off,n,g) => one1 (AV.cut l off n g) k
 | .index t x ix => one1 (s.ev x) fun a => one1 (s.ev ix) fun i => i.asInt fun _ i => match a with
   | .agg l => one1 (zoH P t) fun (n,sz,g) => (0 <= i /\ i < n) /\ one1 (AV.cut l (i.toNat * sz) sz g) k
   | .val (.string b) => (match zl3 P t with | some .str => True | _ => False) /\ 0 <= i /\ one1 b[i.toNat]? fun c => k (.val (.int .u8 c.toNat))
   | _ => False
 | .load t x => one1 (s.ev x) fun p => one1 (s.at p) fun l => one1 (Ty P t) fun
   |(n,true) => n <= l.length /\ k (.agg (l.take n))
   |(_,false) => one1 l[0]? k
 | .slice t x lo hi mx => one1 (s.ev x) fun a => one1 (s.bnd lo) fun l => one1 (s.bnd hi) fun h => one1 (s.bnd mx) fun m => zmu P t a l h m k
 | .entry it => one1 (s.ev it) fun p => p.asOp fun id off => off = 0 /\ match s.H[id]? with
   | some (.iter m _ seen ck) => match s.H[m]? with
    | some (.obj (.map es ck')) => ck' = ck /\ one1 seen.back? fun b => one1 (es.find? (·.born == b)) fun e => k (.tup [AV.of e.key,AV.of e.val])
    | _ => False
   | _ => False
 | .call c => match c.callee with
  | .builtin .len => one1 c.args[0]? fun x => one1 c.argTypes[0]? fun t => one1 (s.ev x) fun a => ALen P s t a k
  | .builtin .max => match c.args.toList with
   | [x,y] => one1 (s.ev x) fun a => one1 (s.ev y) fun b => a.asInt fun j m => b.asInt fun _ n => k (.val (.int j (if n > m then n else m)))
   | _ => False
  | .builtin .min => match c.args.toList with
   | [x,y] => one1 (s.ev x) fun a => one1 (s.ev y) fun b => a.asInt fun j m => b.asInt fun _ n => k (.val (.int j (if n < m then n else m)))
   | _ => False
  | _ => False
 | _ => False
end
section
variable {lv : Bool} {P : Program} {r : Option Nat} {o : Oper} {s : AS}
theorem zmI {c : Call} {x y : Operand} (h : c.args.toList = [x,y]) : c.args = #[x,y]:=by
 apply Array.ext'; simpa using h
theorem AOp.sound {k : AV -> Prop} (h : AOp P s o k) : ∃ av,QStep lv P r o s av /\ k av:=by
 unfold AOp at h;split at h
 ·rename_i x ho;obtain ⟨a,h1,h2⟩:=h.out;exact ⟨a,zqy (.inl ho) h1,h2⟩
 ·rename_i x ho;obtain ⟨a,h1,h2⟩:=h.out;exact ⟨a,zqy (.inr ho) h1,h2⟩
 ·rename_i c x y ho;obtain ⟨b,h1,h⟩:=h.out;obtain ⟨a,h2,h⟩:=h.out;obtain ⟨a',h3,h⟩:=h.out;obtain ⟨b,rfl,h⟩:=zbJ h;exact ⟨_,q_pick ho h1 h2 h3,h⟩
 ·rename_i op xt x y yt ho;obtain ⟨a,h1,h⟩:=h.out;obtain ⟨b,h2,h⟩:=h.out;unfold ABin at h;split at h
  ·rename_i j m j' n;split at h
   ·obtain ⟨v,h3,h⟩:=h.out;exact ⟨_,zq5 ho h1 h2 h3,h⟩
   ·obtain ⟨rfl,h⟩:=h;obtain ⟨v,h3,h⟩:=h.out;exact ⟨_,q_bin ho h1 h2 h3,h⟩
  ·obtain ⟨hop,h⟩:=h;obtain ⟨X,h3,h⟩:=h.out;obtain ⟨Y,h4,h⟩:=h.out;obtain ⟨h5,h6,e,h7,h⟩:=h;exact ⟨_,q_eq ho hop h1 h2 h3 h4 h5 h6 h7,h⟩
 ·rename_i t x ho;obtain ⟨a,h1,h⟩:=h.out;obtain ⟨b,rfl,h⟩:=zbJ h;exact ⟨_,q_not ho h1,h⟩
 ·rename_i t x ho;obtain ⟨a,h1,h⟩:=h.out;obtain ⟨j,n,rfl,h⟩:=zbg h;exact ⟨_,q_neg ho h1,h⟩
 ·rename_i src dst x ho;obtain ⟨a,h1,h⟩:=h.out;split at h
  ·rename_i j hj;obtain ⟨j',n,rfl,h⟩:=zbg h;exact ⟨_,zki ho hj h1,h⟩
  ·exact h.elim
 ·rename_i x i ho;obtain ⟨a,h1,h⟩:=h.out;obtain ⟨l,rfl,h⟩:=zll h;obtain ⟨b,h2,h⟩:=h.out;exact ⟨_,zkh ho h1 h2,h⟩
 ·rename_i x ho;obtain ⟨a,h1,h⟩:=h.out;unfold ANil at h;split at h
  ·exact ⟨_,zkf ho h1 h.1,h.2⟩
  ·exact ⟨_,q_nil ho h1 h.1,h.2⟩
 ·rename_i t x ho;obtain ⟨h1,h⟩:=h;obtain ⟨a,h2,h⟩:=h.out;exact ⟨_,zkg ho h1 h2,h⟩
 ·rename_i f first caps ho
  obtain ⟨fa,h1,h⟩:=h.out;obtain ⟨ca,h2,h⟩:=h.out;exact ⟨_,ziX ho h1 h2,h⟩
 ·rename_i x xt zas ok ho;obtain ⟨a,h1,hA⟩:=h.out;obtain ⟨h2,hB⟩:=hA;obtain ⟨z,h3,hC⟩:=hB.out;clear h hB;split at hC
  ·rename_i t av;split at hC
   ·rename_i e;subst e;exact ⟨_,zic ho h2 h3 h1 (.inr rfl),by rw [if_pos rfl]; exact hC⟩
   ·rename_i e;exact ⟨_,zic ho h2 h3 h1 (.inl hC.1),by rw [if_neg e]; exact hC.2⟩
  ·obtain ⟨e,hC⟩:=hC;subst e;exact ⟨_,zhn ho h2 h3 h1,hC⟩
  ·exact hC.elim
 ·rename_i t parts ho;obtain ⟨⟨pl,z⟩,h1,h⟩:=h.out;obtain ⟨zas,h2,h⟩:=h.out;obtain ⟨l,h3,h⟩:=h.out;exact ⟨_,zra ho h1 h2 h3,h⟩
 ·rename_i t len parts ho;obtain ⟨⟨e,sz,z⟩,h1,h⟩:=h.out;obtain ⟨hs,h⟩:=h;obtain ⟨zas,h2,h⟩:=h.out;obtain ⟨l,h3,h⟩:=h.out;exact ⟨_,zgo ho h1 hs h2 h3,h⟩
 ·rename_i t x f ho;obtain ⟨a,h1,h⟩:=h.out;obtain ⟨n,hn,h⟩:=h.out;obtain ⟨b,h2,h⟩:=h.out;exact ⟨_,zq8 ho hn h1 h2,h⟩
 ·rename_i t x ix ho;obtain ⟨a,h1,h⟩:=h.out;obtain ⟨i,h2,h⟩:=h.out;obtain ⟨j,i,rfl,h⟩:=zbg h;obtain ⟨⟨on,sz⟩,ht,h⟩:=h.out;cases on with
  | some n =>
   obtain ⟨⟨h3,h4⟩,h⟩:=h;obtain ⟨q,h5,h⟩:=h.out;exact ⟨_,zi0 ho ht h1 h2 h3 h4 h5,h⟩
  | none =>
   obtain ⟨⟨n,p⟩,hrow,h⟩:=one1.out h;obtain ⟨⟨h3,h4⟩,h⟩:=h;obtain ⟨q,h5,h⟩:=h.out;exact ⟨_,zq7 ho ht h1 hrow h2 h3 h4 h5,h⟩
 ·rename_i t x f ho;obtain ⟨a,h1,h⟩:=h.out;obtain ⟨l,rfl,h⟩:=zln h;obtain ⟨⟨off,n,g⟩,h2,h⟩:=h.out;obtain ⟨b,h3,h⟩:=h.out;exact ⟨_,zi1 ho h2 h1 h3,h⟩
 ·rename_i t x ix ho;obtain ⟨a,h1,h⟩:=h.out;obtain ⟨i,h2,h⟩:=h.out;obtain ⟨j,i,rfl,h⟩:=zbg h;split at h
  ·obtain ⟨⟨n,sz,g⟩,h3,h⟩:=h.out;obtain ⟨⟨h4,h5⟩,h⟩:=h;obtain ⟨b,h6,h⟩:=h.out;exact ⟨_,ziY ho h3 h1 h2 h4 h5 h6,h⟩
  ·obtain ⟨h3,h4,h⟩:=h;obtain ⟨c,h5,h⟩:=h.out;split at h3
   ·rename_i hl;exact ⟨_,ziZ ho hl h1 h2 h4 h5,h⟩
   ·exact h3.elim
  ·exact h.elim
 ·rename_i t x ho;obtain ⟨p,h1,h⟩:=h.out;obtain ⟨l,hl,h⟩:=h.out;obtain ⟨⟨n,g⟩,ht,h⟩:=h.out;cases g with
  | true => exact ⟨_,q_load ho ht h1 hl h.1,h.2⟩
  | false =>
   obtain ⟨av,h2,h⟩:=one1.out h;exact ⟨_,zq6 ho ht h1 hl h2,h⟩
 ·rename_i t x lo hi mx ho;obtain ⟨a,h1,h⟩:=h.out;obtain ⟨l,h2,h⟩:=h.out;obtain ⟨hh,h3,h⟩:=h.out;obtain ⟨m,h4,h⟩:=h.out;unfold zmu at h;split at h
  ·obtain ⟨⟨e,sz⟩,h5,h⟩:=h.out;exact zq4 ho h5 h1 h2 h3 h4 h
  ·obtain ⟨⟨e,sz⟩,h5,h⟩:=h.out;exact ziV ho h5 h1 h2 h3 h4 h
  ·obtain ⟨⟨n,sz⟩,h5,h⟩:=h.out;exact ziW ho h5 h1 h2 h3 h4 h
  ·exact h.elim
 ·rename_i it ho;obtain ⟨p,h1,hA⟩:=h.out;obtain ⟨id,off,e1,hB⟩:=zdx hA;clear h hA;subst e1;obtain ⟨e1,hC⟩:=hB;subst e1;split at hC
  ·rename_i m since seen ck hI;split at hC
   ·rename_i es ck' hM;obtain ⟨e1,hD⟩:=hC;subst e1;obtain ⟨b,h2,hE⟩:=hD.out;obtain ⟨e,h3,hF⟩:=hE.out;exact ⟨_,zq9 ho h1 hI hM h2 h3,hF⟩
   ·exact hC.elim
  ·exact hC.elim
 ·rename_i c ho;split at h
  ·rename_i hcl;obtain ⟨x,h1,h⟩:=h.out;obtain ⟨t,h2,h⟩:=h.out;obtain ⟨a,h3,h⟩:=h.out;unfold ALen at h;split at h
   ·rename_i hl;exact ⟨_,q_len ho hcl h1 h2 hl h3 rfl,h⟩
   ·rename_i hl;exact ⟨_,q_len ho hcl h1 h2 hl h3 rfl,h⟩
   ·rename_i hl;exact ⟨_,zpa ho hcl h1 h2 hl h3,h⟩
   ·rename_i hl;split at h
    ·rename_i hM;exact ⟨_,zpb ho hcl h1 h2 hl h3 hM,h⟩
    ·exact h.elim
   ·exact h.elim
  ·rename_i hcl;split at h
   ·rename_i x y hargs;obtain ⟨a,h1,hA⟩:=h.out;obtain ⟨b,h2,hB⟩:=hA.out;obtain ⟨j,m,e1,hC⟩:=zbg hB;obtain ⟨j',n,e2,hD⟩:=zbg hC;subst e1 e2;exact ⟨_,q_max ho hcl (zmI hargs) h1 h2,hD⟩
   ·exact h.elim
  ·rename_i hcl;split at h
   ·rename_i x y hargs;obtain ⟨a,h1,hA⟩:=h.out;obtain ⟨b,h2,hB⟩:=hA.out;obtain ⟨j,m,e1,hC⟩:=zbg hB;obtain ⟨j',n,e2,hD⟩:=zbg hC;subst e1 e2;exact ⟨_,q_min ho hcl (zmI hargs) h1 h2,hD⟩
   ·exact h.elim
  ·exact h.elim
 ·exact h.elim
end
end Go.Gg
