/- The law KeyCut answers true at every list of numbers, on every schedule. No condition. -/
import Derived.Test.YtoaaoiipickclaaGreatR05
set_option linter.all false
namespace Go.Gg
open Go.Conc Go.Proofs
theorem F.AppOf_50_50 : AppOf Tryz.prog 50 50 = (some (52, (2, (.agg #[(.int .i64 0), (.bool false)])))) := by kernel_rfl
theorem F.ElemOf_155 : ElemOf Tryz.prog 155 = (some (3, (1, false))) := by kernel_rfl
theorem F.IdxOf_155 : IdxOf Tryz.prog 155 = (some ((some 3), 1)) := by kernel_rfl
theorem F.Ty_155 : Ty Tryz.prog 155 = (some (3, true)) := by kernel_rfl
theorem F.ZeroOf_155 : ZeroOf Tryz.prog 155 = (some (.agg #[(.bool false), (.bool false), (.bool false)])) := by kernel_rfl
theorem F.f12 : Tryz.prog.funcs[12]? = some Tryz.f12 := by kernel_rfl
theorem F.f13 : Tryz.prog.funcs[13]? = some Tryz.f13 := by kernel_rfl
theorem F.f28 : Tryz.prog.funcs[28]? = some Tryz.f28 := by kernel_rfl
theorem F.f50 : Tryz.prog.funcs[50]? = some Tryz.f50 := by kernel_rfl
theorem F.f59 : Tryz.prog.funcs[59]? = some Tryz.f59 := by kernel_rfl
theorem F.f61 : Tryz.prog.funcs[61]? = some Tryz.f61 := by kernel_rfl
theorem F.f65 : Tryz.prog.funcs[65]? = some Tryz.f65 := by kernel_rfl
theorem F.f69 : Tryz.prog.funcs[69]? = some Tryz.f69 := by kernel_rfl
theorem F.f71 : Tryz.prog.funcs[71]? = some Tryz.f71 := by kernel_rfl
theorem F.f76 : Tryz.prog.funcs[76]? = some Tryz.f76 := by kernel_rfl
theorem F.f147 : Tryz.prog.funcs[147]? = some Tryz.f147 := by kernel_rfl
attribute [push_cast] F.AppOf_50_50 F.ElemOf_155 F.IdxOf_155 F.Ty_155 F.ZeroOf_155
def subsetsM (n : Nat) : Nat → Nat → List (List Int)
 | 0, _ => [[]]
 | k + 1, first => (List.range' first (n - k - first)).flatMap fun i => (subsetsM n k (i + 1)).map ((i : Int) :: ·)
def choicesM (n : Nat) : List (List Int) := (List.range (n + 1)).flatMap fun k => subsetsM n k 0
def butM (x : Ring) (but : List Int) : Nat → List Try
 | 0 => []
 | i + 1 => butM x but i ++ (match x.tries[i]? with | some r => if but.contains (i : Int) then [] else [r] | none => [])
def withoutR (x : Ring) (but : List Int) : Ring := ⟨x.cuts, x.keys, x.locks, butM x but x.tries.length⟩
def okAll (x : Ring) (row : List Int) (ts : List Try) : Bool := ts.all (triedM x row)
open Go.Conc Go.Proofs
section
variable {lv : Bool} {H : List AObj} {k kp : AV → List AObj → Prop}
end
section
variable {lv : Bool} {H : List AObj} {k kp : AV → List AObj → Prop}
end
open Go.Conc Go.Proofs
def outJ (n kk first j : Nat) : List (List Int) := (List.range' first j).flatMap fun i => (subsetsM n kk (i + 1)).map ((i : Int) :: ·)
theorem zlW {l : List AV} {a b : AV} (h : Wk a b) : Wks (l ++ [a]) (l ++ [b]) := by
 induction l with
 | nil => exact .cons h .nil
 | cons x l ih => exact .cons (Wk.refl _) ih
theorem zlZ (n m k : Nat) (bs : List (List Int)) : Lt n (.sl m (bs.map aInts) (.opn k)) = (k < n) := by
 rw [zdq, eq_iff_iff];refine ⟨fun h => h.1, fun h => ⟨h, fun a ha => ?_⟩⟩;have := zlv n bs;rw [aRows, za3] at this;exact this.mpr trivial a ha
theorem zs1 : zeroRow (Value.slice none 0 0) 1 = [.sl 0 [] .exact] := rfl
theorem zlC {α β : Type} {xs : List α} {i : Nat} {x : α} (f : α → β) (h : xs[i]? = some x) : (xs.take (i + 1)).map f = (xs.take i).map f ++ [f x] := by
 obtain ⟨hj, rfl⟩ := List.getElem?_eq_some_iff.1 h;rw [List.take_succ_eq_append_getElem hj, List.map_append]; rfl
theorem zlX {H : List AObj} (hH : HOk H) (n sz : Nat) (el : TypeId) : HOk (H ++ [.tail n sz el]) := zc6 hH fun z hz m => by rw [List.mem_singleton.1 hz]; trivial
section
variable {lv : Bool}
end
open Go.Conc Go.Proofs
def choicesTo (n j : Nat) : List (List Int) := (List.range j).flatMap fun k => subsetsM n k 0
section
variable {lv : Bool} {H : List AObj} {k kp : AV → List AObj → Prop}
end
open Go.Conc Go.Proofs
def listsM (n : Nat) : Nat → List (List Int)
 | 0 => [[]]
 | k + 1 => (List.range n).flatMap fun i : Nat => (listsM n k).map ((i : Int) :: ·)
def listJ (n kk j : Nat) : List (List Int) := (List.range j).flatMap fun i : Nat => (listsM n kk).map ((i : Int) :: ·)
theorem zlA (n kk j : Nat) : listJ n kk (j + 1) = listJ n kk j ++ (listsM n kk).map ((j : Int) :: ·) := by
 unfold listJ;rw [List.range_succ, List.flatMap_append]; simp
theorem zeh : ∀ n, n ≤ 4 → ∀ k, k ≤ 4 → (listsM n k).length ≤ 256 ∧ ∀ r ∈ listsM n k, r.length = k ∧ ∀ i ∈ r, 0 ≤ i ∧ i < n := by decide +kernel
theorem zlF (n kk : Nat) (h : (listsM n kk).length ≤ 256) : ∀ j, (listJ n kk j).length ≤ 256 * j
 | 0 => by simp [listJ]
 | j + 1 => by
  have h1 := zlF n kk h j;rw [zlA, List.length_append, List.length_map]; omega
section
variable {lv : Bool}
theorem f63_c : ∀ (kk : Nat) {n : Nat} {H : List AObj} {k kp : AV → List AObj → Prop}, n ≤ 4 → kk ≤ 4 → k (aRows (listsM n kk)) H → FnC lv Tryz.prog 63 H [iv n, iv kk] k kp
 | 0, n, H, k, kp, hn, hkk, hk => by
  refine zak (rs := [.tmp 4]) (nt := 38) F.f63 rfl rfl rfl (by simp) fun hH hA => ?_;simp only [argsT, Nat.reduceAdd];(repeat apply zaa);refine zl5 ?_;simp only [push_cast, seval];(repeat apply zaa);refine zl5 ?_;simp only [push_cast, seval, beq_self_eq_true];(repeat apply zaa);refine zae ?_;simp only [push_cast, seval];(repeat apply zaa);refine zl5 ?_;simp only [push_cast, seval, zs1, zhq];(repeat apply zaa);refine zai ?_;simp only [push_cast, seval];exact zaJ (b := aRows [[]]) (H' := H) (G := []) (wk_sl (.cons (zaK _ _ _) .nil)) (by simp) (Nat.le_refl _) hH (by rw [zlv]; trivial) hk
 | kk + 1, n, H, k, kp, hn, hkk, hk => by
  refine zak (rs := [.tmp 4]) (nt := 38) F.f63 rfl rfl rfl (by simp) fun hH hA => ?_;simp only [argsT, Nat.reduceAdd];have hz : (((kk : Int) + 1) == 0) = false := by simp; omega
  have hw3 : IntKind.i64.wrap ((kk : Int) + 1 - 1) = kk := by rw [zau _ (by omega)]; omega
  (repeat apply zaa);refine zl5 ?_;simp only [push_cast, seval];(repeat apply zaa);refine zl5 ?_;simp only [push_cast, seval, hz];(repeat apply zaa);refine zae ?_;simp only [push_cast, seval];(repeat apply zaa);refine zah ?_;simp only [push_cast, seval];(repeat apply zaa);refine zl5 ?_;simp only [push_cast, seval]
  (repeat apply zaa); refine zbV (t := 5) (sz := 1) (el := 30) (by simp only [push_cast, seval] <;> rfl) ?_
  (repeat apply zaa);refine zl5 ?_;simp only [push_cast, seval, hw3];refine zl6 ((f63_c kk hn (by omega) ?_));(try simp only [push_cast, seval, aRows]);have hfa := zeh n hn kk (by omega);have hlen := zlF n kk hfa.1;have hsuc := zlA n kk;have hall : listJ n kk n = listsM n (kk + 1) := rfl;generalize listsM n kk = l at hfa hsuc ⊢;obtain ⟨hl20, hlr⟩ := hfa;(repeat apply zaa);refine zl5 ?_;simp only [push_cast, seval];(repeat apply zaa);refine zag ?_;refine zaB n (fun j : Nat => [(5, .sl (listJ n kk j).length ((listJ n kk j).map aInts) (.opn H.length)), (7, iv j)]) (fun j => H ++ [.tail (listJ n kk j).length 1 30]) (fun i => True) (fun _ _ => rfl) (by simp only [push_cast, seval, List.forall_mem_cons, List.not_mem_nil, false_imp_iff, implies_true, List.forall_mem_nil]; simp [zaf, Wk.refl]; exact Wk.refl _) rfl (fun _ _ _ => by simp) trivial (fun hHs hLt j hjn hj R hR => ?_);clear hHs hLt;(repeat apply zaa);refine zl5 ?_;simp only [push_cast, seval];(repeat apply zaa);refine zae ?_;simp only [push_cast, seval];refine ⟨fun h => ?_, fun h => ?_⟩
  ·have hjl : j < n := (by omega);have hw2 : IntKind.i64.wrap ((j : Int) + 1) = j + 1 := zau _ (by omega);have hsucc := hsuc j;have hll := hlen j;generalize listJ n kk j = o at hsucc hll hR ⊢;(repeat apply zaa);refine zah ?_;simp only [push_cast, seval];(repeat apply zaa);refine zag ?_;(repeat apply zaa);refine zl5 ?_;simp only [push_cast, seval];(repeat apply zaa);refine zag ?_;refine zaB l.length (fun x : Nat => [(5, .sl (o.length + x) ((o ++ (l.take x).map ((j : Int) :: ·)).map aInts) (.opn H.length)), (8, iv x)]) (fun x => H ++ [.tail (o.length + x) 1 30]) (fun i => True) (fun _ _ => rfl) (by simp only [push_cast, seval, List.forall_mem_cons, List.not_mem_nil, false_imp_iff, implies_true, List.forall_mem_nil]; simp [zaf, Wk.refl]) (by simp) (fun _ _ _ => by simp) trivial (fun hHs hLt x hxn hx R2 hR2 => ?_);clear hHs hLt;(repeat apply zaa);refine zl5 ?_;simp only [push_cast, seval];(repeat apply zaa);refine zae ?_;simp only [push_cast, seval];refine ⟨fun h2 => ?_, fun h2 => ?_⟩
   ·have hxl : x < l.length := (by omega);obtain ⟨r, hr⟩ := zaE hxl;have hrl := (hlr r (zas hr)).1;have hw4 : IntKind.i64.wrap ((x : Int) + 1) = x + 1 := zau _ (by omega);have hol : ((o ++ (l.take x).map ((j : Int) :: ·)).map aInts).length = o.length + x := (by simp; omega);have hnx : (o ++ (l.take (x + 1)).map ((j : Int) :: ·)).map aInts = (o ++ (l.take x).map ((j : Int) :: ·)).map aInts ++ [aInts ((j : Int) :: r)] := by
     rw [zlC _ hr, ← List.append_assoc, List.map_append]; rfl
    have hri : (r.map iv).length = r.length := List.length_map ..;(repeat apply zaa);refine zah ?_;simp only [push_cast, seval];(repeat apply zaa);refine zag ?_;(repeat apply zaa);refine zl5 ?_;simp only [push_cast, seval, z1, zs1, zhq, zlB hr, zaz hxl, hol, hri, aInts]
    first | refine ⟨by omega, by simp; omega, by omega, ?_⟩ | refine ⟨by omega, by omega, ?_⟩
    (repeat apply zaa);refine zl5 ?_;simp only [push_cast, seval, hw4];refine hR2 _ ⟨hxl, trivial, ?_⟩;rw [hnx];refine zce [.tail (1 + r.length) 1 3] (zam rfl rfl) ?_ (zlX hH _ _ _) ?_ (by simp [Nat.add_assoc])
    ·(try simp only [push_cast, seval]);exact ⟨⟨_, rfl, have h := zlW (l := (o ++ (l.take x).map ((j : Int) :: ·)).map aInts) (show Wk (.sl (1 + r.length) (iv (j : Int) :: r.map iv) (.opn (H.length + 1))) (aInts ((j : Int) :: r)) by rw [aInts, Nat.add_comm]; exact zaK _ _ _); zeg h.len h.at⟩, _, rfl, Wk.refl _⟩
    ·rw [← hnx];simp only [List.forall_mem_cons, zap, zlZ, iv]; simp
   ·have hxx : x = l.length := (by omega);subst hxx;(repeat apply zaa);refine zaq ?_;simp only [push_cast, seval];(repeat apply zaa);refine zl5 ?_;simp only [push_cast, seval, hw2];refine hR _ ⟨hjl, trivial, ?_⟩;rw [hsucc];simp only [List.take_length, List.length_append, List.length_map];exact (zax (zam rfl rfl) (by simp only [push_cast, seval]; simp [zaf, Wk.refl]))
  ·have hjx : j = n := (by omega);subst hjx;(repeat apply zaa);refine zaq ?_;simp only [push_cast, seval];(repeat apply zaa);refine zl5 ?_;simp only [push_cast, seval];(repeat apply zaa);refine zai ?_;simp only [push_cast, seval];rw [hall];exact endA (b := aRows (listsM j (kk + 1))) hH (zaK _ _ _) (by rw [zlv]; trivial) hk
end
section
variable {lv : Bool} {H : List AObj} {k kp : AV → List AObj → Prop}
end
open Go.Conc Go.Proofs
def wearOk (x : Ring) (t : List Int) : Nat → Bool
 | 0 => true
 | k + 1 => wearOk x t k && (match x.keys[k]?, t[k]? with | some y, some w => decide (y.wear.min ≤ w) && decide (w ≤ y.wear.max) | _, _ => true)
def triesOk (x : Ring) (t : List Int) : Nat → Bool
 | 0 => true
 | i + 1 => triesOk x t i && (match x.tries[i]? with | some r => opensW x.keys t x.locks r.key r.lock == r.opens | none => true)
def fineW (x : Ring) (t : List Int) : Bool := wearOk x t x.keys.length && triesOk x t x.tries.length
def truthsL (x : Ring) : List (List Int) := (listsM 3 x.keys.length).filter (fineW x)
theorem zgv {x : Ring} {t : List Int} {k : Nat} {y : Key} {w : Int} (hy : x.keys[k]? = some y) (hw : t[k]? = some w) : wearOk x t (k + 1) = (wearOk x t k && (decide (y.wear.min ≤ w) && decide (w ≤ y.wear.max))) := by rw [wearOk, hy, hw]
theorem zf9 {x : Ring} {t : List Int} {i : Nat} {r : Try} (hr : x.tries[i]? = some r) : triesOk x t (i + 1) = (triesOk x t i && (opensW x.keys t x.locks r.key r.lock == r.opens)) := by rw [triesOk, hr]
section
variable {lv : Bool} {H : List AObj} {k kp : AV → List AObj → Prop}
end
def rowOk (ks : List Key) (r : List Int) : Bool := (ks.zip r).all fun p => decide (p.1.wear.min ≤ p.2) && decide (p.2 ≤ p.1.wear.max)
theorem zlx (y : Key) (ks : List Key) (w : Int) (r : List Int) : rowOk (y :: ks) (w :: r) = (decide (y.wear.min ≤ w) && decide (w ≤ y.wear.max) && rowOk ks r) := by simp [rowOk]
theorem zlU {lo hi : Int} (h0 : 0 ≤ lo) (h1 : lo ≤ hi) (h2 : hi ≤ 2) {β : Type} (f : Int → List β) : (rangeI lo hi).flatMap f = (List.range 3).flatMap fun i : Nat => if decide (lo ≤ (i : Int)) && decide ((i : Int) ≤ hi) then f i else [] := by
 have hr : List.range 3 = [0, 1, 2] := rfl;have hl : lo = 0 ∨ lo = 1 ∨ lo = 2 := by omega
 have hh : hi = 0 ∨ hi = 1 ∨ hi = 2 := by omega
 rw [hr];rcases hl with rfl | rfl | rfl <;> rcases hh with rfl | rfl | rfl <;> first | omega | (simp [rangeI, List.range_succ])
theorem zli : ∀ (ys : List Key) (pre : List Int) (m : Nat), (∀ y ∈ ys, y.wear.Ok 2) → growM ys pre.length (pre ++ List.replicate (m + ys.length) 0) = ((listsM 3 ys.length).filter (rowOk ys)).map fun r => pre ++ r ++ List.replicate m 0
 | [], pre, m, _ => by simp [growM, listsM, rowOk]
 | y :: ys, pre, m, h => by
  have hy := h y List.mem_cons_self;rw [growM, zlU hy.min hy.le hy.max];show _ = (((List.range 3).flatMap fun i : Nat => (listsM 3 ys.length).map ((i : Int) :: ·)).filter (rowOk (y :: ys))).map _;rw [List.filter_flatMap, List.map_flatMap];congr 1;funext i;have hset : (pre ++ List.replicate (m + (y :: ys).length) 0).set pre.length (i : Int) = (pre ++ [(i : Int)]) ++ List.replicate (m + ys.length) 0 := by
   rw [List.set_append_right _ _ (Nat.le_refl _), Nat.sub_self, List.length_cons, ← Nat.add_assoc, List.replicate_succ, List.set_cons_zero, List.append_assoc]; rfl
  have ih := zli ys (pre ++ [(i : Int)]) m fun z hz => h z (List.mem_cons_of_mem _ hz);rw [List.length_append, List.length_singleton] at ih;rw [hset, ih];cases hc : (decide (y.wear.min ≤ (i : Int)) && decide ((i : Int) ≤ y.wear.max)) with
  | true =>
   rw [if_pos rfl, List.filter_map, List.map_map];have : (rowOk (y :: ys) ∘ fun x => (i : Int) :: x) = rowOk ys := (by funext r; simp only [Function.comp]; rw [zlx, hc, Bool.true_and]);rw [this];congr 1;funext r;simp
  | false =>
   rw [if_neg (by simp), List.filter_map, List.map_map];have : (rowOk (y :: ys) ∘ fun x => (i : Int) :: x) = fun _ => false := (by funext r; simp only [Function.comp]; rw [zlx, hc, Bool.false_and]);rw [this];simp
def padR (n : Nat) (r : List Int) : List Int := r ++ List.replicate (4 - n) 0
theorem zlG {x : Ring} (hx : x.Ok) : wears0 x = ((listsM 3 x.keys.length).filter (rowOk x.keys)).map (padR x.keys.length) := by
 have h4 := hx.keys;have h := zli x.keys [] (4 - x.keys.length) fun y hy => (hx.key y hy).2.2;rw [show 4 - x.keys.length + x.keys.length = 4 by omega] at h;exact h
theorem zlw (x : Ring) (t : List Int) : ∀ k, k ≤ x.keys.length → k ≤ t.length → wearOk x t k = ((x.keys.zip t).take k).all fun p => decide (p.1.wear.min ≤ p.2) && decide (p.2 ≤ p.1.wear.max)
 | 0, _, _ => rfl
 | k + 1, h, h' => by
  obtain ⟨y, hy⟩ := zaE (xs := x.keys) (i := k) (by omega);obtain ⟨w, hw⟩ := zaE (xs := t) (i := k) (by omega);have hz : (x.keys.zip t)[k]? = some (y, w) := by rw [List.getElem?_zip_eq_some]; exact ⟨hy, hw⟩
  rw [zgv hy hw, zlw x t k (by omega) (by omega)];obtain ⟨hj, hle⟩ := List.getElem?_eq_some_iff.1 hz;rw [List.take_succ_eq_append_getElem hj, hle, List.all_append];simp
theorem zlP {x : Ring} {t : List Int} (h : t.length = x.keys.length) : wearOk x t x.keys.length = rowOk x.keys t := by
 rw [zlw x t _ (Nat.le_refl _) (by omega), List.take_of_length_le (by simp [h])]; rfl
theorem ziC (cuts : Int) (ds : List Int) (ls : List (List Band)) (j : Nat) : ∀ i, (openedM cuts ds ls i).testBit j = (decide (j < i) && (match ls[j]? with | some l => fitsM (ds.take cuts.toNat) l | none => false))
 | 0 => by simp [openedM]
 | i + 1 => by
  have ih := ziC cuts ds ls j i;have hlt := zb5 cuts ds ls i;have hhi : (openedM cuts ds ls i).testBit i = false := Nat.testBit_lt_two_pow hlt;unfold openedM;by_cases hji : j = i
  ·subst hji;cases hl : ls[j]? with
   | none => simp [hhi]
   | some l =>
    simp only;split
    ·rename_i hf; simp [Nat.testBit_or, Nat.testBit_two_pow_self, hf]
    ·rename_i hf; simp [hhi, hf]
  ·have hd : decide (j < i + 1) = decide (j < i) := (by congr 1; simp; omega);rw [hd];cases hl : ls[i]? with
   | none => exact ih
   | some l =>
    simp only;split
    ·rw [Nat.testBit_or, ih, Nat.testBit_two_pow_of_ne (Ne.symm hji), Bool.or_false]
    ·exact ih
theorem zf8 {x : Ring} (hx : x.Ok) {t : List Int} (ht : t.length = x.keys.length) (hb : ∀ w ∈ t, 0 ≤ w ∧ w ≤ 2) {k l : Nat} (hk : k < x.keys.length) (hl : l < x.locks.length) : (inTruth x (padR x.keys.length t) k).testBit l = opensW x.keys t x.locks k l := by
 obtain ⟨y, hy⟩ := zaE hk;obtain ⟨lk, hlk⟩ := zaE hl;obtain ⟨w, hw⟩ := zaE (xs := t) (i := k) (by omega);obtain ⟨hyc, hyb, hyw⟩ := hx.key y (zas hy);have hw0 := (hb w (zas hw)).1;have hc := hx.cuts;have hp : (padR x.keys.length t).getD k 0 = w := by
  unfold padR;rw [List.getD_eq_getElem?_getD, List.getElem?_append_left (by omega), hw]; rfl
 have how : opensW x.keys t x.locks k l = fitsM (wornM w y.cuts) lk := by
  unfold opensW;simp only [Int.toNat_natCast, List.getD_eq_getElem?_getD, hy, hw, hlk, Option.map_some, Option.getD_some]
 rw [how];unfold inTruth opensM;rw [hp, hy];simp only;rw [ziC, hlk];have hwn : ((w.toNat : Nat) : Int) = w := by omega
 have htk : (wornM (w.toNat : Nat) (depthsM y.cuts)).take x.cuts.toNat = wornM w y.cuts := by
  rw [hwn];unfold wornM depthsM;rw [List.take_of_length_le (show y.cuts.length ≤ 4 by omega), List.map_append, List.take_append_of_le_length (by simp; omega), List.take_of_length_le (by simp; omega)]
 rw [htk];simp [hl]
open Go.Conc Go.Proofs
def differM (x : Ring) (t keys : List Int) (p q : Nat) : Bool := keys.any fun k => opensW x.keys t x.locks k p != opensW x.keys t x.locks k q
theorem zlN {x : Ring} (hx : x.Ok) {t : List Int} (ht : t.length = x.keys.length) (hb : ∀ w ∈ t, 0 ≤ w ∧ w ≤ 2) : ∀ i, i ≤ x.tries.length → okTo x [] (padR x.keys.length t) i = triesOk x t i
 | 0, _ => rfl
 | i + 1, h => by
  obtain ⟨r, hr⟩ := zaE (xs := x.tries) (i := i) (by omega);obtain ⟨⟨hk0, hk⟩, hl0, hl⟩ := hx.tried r (zas hr);rw [okTo, zlN hx ht hb i (by omega), zf9 hr, hr];have h1 := zf8 hx ht hb (k := r.key.toNat) (l := r.lock.toNat) (by omega) (by omega);have e1 : ((r.key.toNat : Nat) : Int) = r.key := by omega
  have e2 : ((r.lock.toNat : Nat) : Int) = r.lock := by omega
  rw [e1, e2] at h1;simp only [List.contains_nil, Bool.false_or];unfold triedM;rw [← h1]; rfl
theorem zlO {α : Type} (l : List α) (p : α → Bool) : ((l.zipIdx.filter fun y => p y.1).map (·.1)) = l.filter p := by
 have h := List.filter_map (f := fun y : α × Nat => y.1) (p := p) (l := l.zipIdx);rw [List.zipIdx_map_fst] at h;exact h.symm
theorem zgX {x : Ring} (hx : x.Ok) : (truthsM x []).map (·.1) = (truthsL x).map (padR x.keys.length) := by
 unfold truthsM truthsTo;rw [zlO (wears0 x) fun r => okTo x [] r x.tries.length, zlG hx, List.filter_map, List.filter_filter];congr 1;unfold truthsL;refine List.filter_congr fun t ht => ?_;obtain ⟨h1, h2⟩ := (zeh 3 (by omega) x.keys.length hx.keys).2 t ht;have hb : ∀ w ∈ t, 0 ≤ w ∧ w ≤ 2 := fun w hw => by have := h2 w hw; omega
 simp only [Function.comp];rw [zlN hx h1 hb _ (Nat.le_refl _), fineW, zlP h1, Bool.and_comm]
theorem zlQ {x : Ring} (hx : x.Ok) : (truthsM x []).length = (truthsL x).length := by
 have := congrArg List.length (zgX hx);rwa [List.length_map, List.length_map] at this
theorem zhQ {x : Ring} (hx : x.Ok) : ∀ t ∈ truthsL x, t.length = x.keys.length ∧ ∀ w ∈ t, 0 ≤ w ∧ w ≤ 2 := fun t ht => by
 obtain ⟨h1, h2⟩ := (zeh 3 (by omega) x.keys.length hx.keys).2 t (List.mem_filter.1 ht).1;exact ⟨h1, fun w hw => by have := h2 w hw; omega⟩
section
variable {lv : Bool} {H : List AObj} {k kp : AV → List AObj → Prop}
end
open Go.Conc Go.Proofs
def pairsL (x : Ring) (t keys : List Int) (n : Nat) : Bool := (List.range n).all fun b => (List.range b).all fun a => differM x t keys b a
def tellL (x : Ring) (keys : List Int) : Bool := (truthsL x).all fun t => pairsL x t keys x.locks.length
def TellIs (x : Ring) (g : List Int) (e : Int) : Prop := (truthsM x [] ≠ [] ∧ tellM x = some g ∧ e = 0) ∨ ((truthsM x [] = [] ∨ tellM x = none) ∧ g = [] ∧ e = 11)
section
variable {H : List AObj} {k kp : AV → List AObj → Prop}
end
open Go.Conc Go.Proofs
def bagL (x : Ring) (us : List Turn) (n : Nat) : Bool := (truthsL x).any fun t => us.all fun u => opensW x.keys t x.locks u.key n == u.opens
def dueL (x : Ring) (us : List Turn) (n : Nat) : List Int := ((List.range n).filter (bagL x us)).map fun i : Nat => (i : Int)
def UsOk (x : Ring) (us : List Turn) : Prop := ∀ u ∈ us, 0 ≤ u.key ∧ u.key ≤ (x.keys.length : Int) - 1
def WhichIs (x : Ring) (us : List Turn) (g : List Int) (e : Int) : Prop := (truthsM x [] ≠ [] ∧ g = whichM x us ∧ e = 0) ∨ (truthsM x [] = [] ∧ g = [] ∧ e = 11)
theorem tinAt_at (H L : List AObj) : TinAt (fun τ => H ++ tinO τ :: L) H.length (H.length + 1 + L.length) := by
 have h := (zjT H).more L;refine ⟨fun τ => ?_, fun τ => ?_, fun τ τ' => ?_, fun m τ τ' h1 => ?_⟩
 ·have := h.len τ; simpa [Nat.add_comm, Nat.add_left_comm] using this
 ·have := h.get τ; simpa using this
 ·have := h.set τ τ'; simpa using this
 ·have := h.ok m τ τ'; simpa using this (by simpa using h1)
section
variable {H : List AObj} {k kp : AV → List AObj → Prop}
end
open Go.Conc Go.Proofs
theorem awp_wkT {lv : Bool} {P : Program} {r : Option Nat} {nt : Nat} {c : Code} {s : AS} {Φ : AEx → AS → Prop} (t : Nat) {x : AV} (y : AV) (ht : look s.T t = some x) (hw : Wk x y) (h : AWP lv P r nt c ⟨(t, y) :: s.T, s.H⟩ Φ) : AWP lv P r nt c s Φ := by
 refine ziu (s' := ⟨(t, y) :: s.T, s.H⟩) ⟨fun t' a e => ?_, rfl⟩ h;by_cases htt : t = t'
 ·subst htt;have e : look ((t, y) :: s.T) t = some a := e;rw [look_hit] at e; cases e;exact ⟨x, ht, hw⟩
 ·have e : look ((t, y) :: s.T) t' = some a := e;rw [zkx _ _ _ _ (by simpa using htt)] at e;exact ⟨a, e, Wk.refl _⟩
section
variable {H : List AObj} {k kp : AV → List AObj → Prop}
end
open Go.Conc Go.Proofs
def wearsFl (x : Ring) (n : Int) : Option Int := if inM n 0 (x.keys.length - 1) then none else some 0
def metB (ts : List (List Int × Nat)) (n w : Nat) : Bool := ts.any fun y => y.1.getD n 0 == (w : Int)
def wearsTo (ts : List (List Int × Nat)) (n i : Nat) : List Int := ((List.range i).filter (metB ts n)).map fun i : Nat => (i : Int)
def wearsM (x : Ring) (n : Nat) : List Int := wearsTo (truthsM x []) n 3
section
variable {lv : Bool} {H : List AObj} {k kp : AV → List AObj → Prop}
end
open Go.Conc Go.Proofs
def metL (D : List (List Int)) (k w : Nat) : Bool := D.any fun t => t.getD k 0 == (w : Int)
def dueW (D : List (List Int)) (k i : Nat) : List Int := ((List.range i).filter (metL D k)).map fun i : Nat => (i : Int)
def someW (x : Ring) (D : List (List Int)) (k l : Nat) : Nat := (D.filter fun t => opensW x.keys t x.locks k l).length
theorem some_law {x : Ring} (hx : x.Ok) {k l : Nat} (hk : k < x.keys.length) (hl : l < x.locks.length) : cntM x k l (truthsM x []) = someW x (truthsL x) k l := by
 unfold cntM someW;have h1 : ((truthsM x []).filter fun t => (opensM x k (t.1.getD k 0).toNat).testBit l).length = (((truthsM x []).map (·.1)).filter fun r => (inTruth x r k).testBit l).length := by
  rw [List.filter_map, List.length_map]; rfl
 rw [h1, zgX hx, List.filter_map, List.length_map];congr 1;refine List.filter_congr fun t ht => ?_;obtain ⟨h1, h2⟩ := zhQ hx t ht;exact zf8 hx h1 h2 hk hl
def endE (x : Ring) : Int := if truthsL x = [] then 11 else 0
theorem zero_iff {x : Ring} (hx : x.Ok) : truthsM x [] = [] ↔ truthsL x = [] := by rw [← List.length_eq_zero_iff, zlQ hx, List.length_eq_zero_iff]
theorem opening_of {x : Ring} (hx : x.Ok) {fl : Option Int} (hf : fl = none) : openingE x fl = endE x := by
 subst hf;have h0 : openE x none = 0 := zaN.2 ⟨zbH.2 hx, rfl⟩;unfold openingE endE;rw [h0, if_neg (by simp)];by_cases h : truthsL x = []
 ·rw [if_pos h, if_pos ((zero_iff hx).2 h)]
 ·rw [if_neg h, if_neg (fun e => h ((zero_iff hx).1 e))]
section
variable {H : List AObj} {k kp : AV → List AObj → Prop}
theorem f32_k {x : Ring} {n l : Nat} (hmain : H[0]? = some .main) (hx : x.Ok) (hn : n < x.keys.length) (hl : l < x.locks.length) (h : k (.tup [iv (if truthsL x = [] then 0 else verdictM (someW x (truthsL x) n l) (truthsL x).length), iv (endE x)]) H) : FnC true Tryz.prog 32 H [x.av, iv n, iv l] k kp := by
 have hf : opensFl x n l = none := zgu.2 ⟨⟨by omega, by omega⟩, by omega, by omega⟩;have ho := opening_of hx hf;refine f32_c zaQ hmain hx.small (fun e => ?_) (fun e => ?_)
 ·rw [ho] at e ⊢;have hD : truthsL x = [] := Classical.byContradiction fun hn => e (by unfold endE; rw [if_neg hn]);rw [if_pos hD] at h;exact h
 ·rw [ho] at e;rw [Int.toNat_natCast, Int.toNat_natCast, some_law hx hn hl, zlQ hx];have hD : truthsL x ≠ [] := fun hD => by unfold endE at e; rw [if_pos hD] at e; cases e
  rw [if_neg hD, e] at h;exact h
end
open Go.Conc
structure Kept3 (X Y Z : Prop) : Type where
 n : Nat
def UG (a : AV) (want : Bool) (X Y Z : Prop) (_t : Kept3 X Y Z) : Prop := (∃ b, a = .val (.bool b) ∧ (b = want → X) ∧ (b = !want → Y)) ∨ (a = .val undef ∧ Z)
theorem ug_b {b want : Bool} {X Y Z : Prop} {t : Kept3 X Y Z} : UG (.val (.bool b)) want X Y Z t = ((b = want → X) ∧ (b = !want → Y)) := by
 unfold UG;refine propext ⟨fun h => ?_, fun h => .inl ⟨b, rfl, h⟩⟩;rcases h with ⟨b', e, h⟩ | ⟨e, _⟩
 ·cases e; exact h
 ·cases e
theorem ug_tt (X Y Z : Prop) (t : Kept3 X Y Z) : UG (.val (.bool true)) true X Y Z t = X := by rw [ug_b]; simp
theorem ug_tf (X Y Z : Prop) (t : Kept3 X Y Z) : UG (.val (.bool true)) false X Y Z t = Y := by rw [ug_b]; simp
theorem ug_ft (X Y Z : Prop) (t : Kept3 X Y Z) : UG (.val (.bool false)) true X Y Z t = Y := by rw [ug_b]; simp
theorem ug_ff (X Y Z : Prop) (t : Kept3 X Y Z) : UG (.val (.bool false)) false X Y Z t = X := by rw [ug_b]; simp
theorem ug_u (want : Bool) (X Y Z : Prop) (t : Kept3 X Y Z) : UG (.val undef) want X Y Z t = Z := by
 unfold UG;refine propext ⟨fun h => ?_, fun h => .inr ⟨rfl, h⟩⟩;rcases h with ⟨b', e, _⟩ | ⟨_, h⟩
 ·cases e
 ·exact h
section
variable (lv : Bool) (P : Program)
def UOps (all : Array Oper) : List Oper → AS → (AS → Prop) → (AV → AS → Prop) → Prop
 | [], s, next, _ => next s
 | o :: rest, s, next, bad => match o.guard with
  | none => AStep lv P s o (fun s' => UOps all rest s' next bad) bad
  | some (j, want) => one1 ((all[j]?).bind (·.dst)) fun d => one1 (look s.T d) fun a => UG a want (AStep lv P ⟨(d, .val (.bool want)) :: s.T, s.H⟩ o (fun s' => UOps all rest s' next bad) bad) (UOps all rest ((⟨(d, .val (.bool !want)) :: s.T, s.H⟩ : AS).put o.dst (.val undef)) next bad) (UOps all rest (s.put o.dst (.val undef)) next bad) ⟨0⟩
end
theorem uOps_n : type_of% @UOps.eq_1 := by intros; rw [UOps.eq_1]
theorem uOps_c : type_of% @UOps.eq_2 := by intros; rw [UOps.eq_2]
@[congr] theorem uOps_congr {lv : Bool} {P : Program} {s s' : AS} {all : Array Oper} {l : List Oper} {next : AS → Prop} {bad : AV → AS → Prop} (h : s = s') : UOps lv P all l s next bad = UOps lv P all l s' next bad := by rw [h]
attribute [push_cast] uOps_n uOps_c ug_tt ug_tf ug_ft ug_ff ug_u
section
variable {lv : Bool} {P : Program} {r : Option Nat} {s : AS}
end
open Go.Conc Go.Proofs
section
variable {lv : Bool} {H : List AObj} {k kp : AV → List AObj → Prop}
theorem f65_c {xs : List Int} {n : Int} {e : End} (hl : xs.length < 2 ^ 30) (hk : ∀ v : Int, (0 ≤ v ↔ n ∈ xs) → (∀ i : Nat, v = i → xs[i]? = some n) → k (iv v) H) : FnC lv Tryz.prog 65 H [.sl xs.length (xs.map iv) e, iv n] k kp := by
 refine zak (rs := [.tmp 4]) (nt := 19) F.f65 rfl rfl rfl (by simp) fun hH hA => ?_;simp only [argsT, Nat.reduceAdd];(repeat apply zaa);refine zl5 ?_;simp only [push_cast, seval];(repeat apply zaa);refine zl5 ?_;simp only [push_cast, seval];(repeat apply zaa);refine zag ?_;refine zaB xs.length (fun i : Nat => [(5, iv i)]) (fun _ => _) (fun i => n ∉ xs.take i) (fun _ _ => rfl) (by simp only [push_cast, seval, List.forall_mem_cons, List.not_mem_nil, false_imp_iff, implies_true, List.forall_mem_nil]; simp [zaf, Wk.refl]) rfl (fun _ _ _ => rfl) (by simp) (fun hHs hLt i hin hi R hR => ?_);clear hHs hLt;(repeat apply zaa);refine zl5 ?_;simp only [push_cast, seval];(repeat apply zaa);refine zae ?_;simp only [push_cast, seval];refine ⟨fun h => ?_, fun h => ?_⟩
 ·have hil : i < xs.length := by omega
  obtain ⟨y, hy⟩ := zaE hil;have hw1 : IntKind.i64.wrap ((i : Int) + 1) = i + 1 := zau _ (by omega);(repeat apply zaa);refine zah ?_;simp only [push_cast, seval];(repeat apply zaa);refine zag ?_;(repeat apply zaa);refine zl5 ?_;simp only [push_cast, seval, za2 hy, zaz hil];(repeat apply zaa);refine zae ?_;simp only [push_cast, seval];refine ⟨fun h2 => ?_, fun h2 => ?_⟩
  ·have h2 : y = n := (by simpa using h2);subst h2;(repeat apply zaa);refine zl5 ?_;simp only [push_cast, seval];(repeat apply zaa);refine zai ?_;simp only [push_cast, seval];exact zao (hk i ⟨fun _ => zas hy, fun _ => by omega⟩ fun j hj => by
    have : i = j := (by omega);subst this; exact hy)
  ·have h2 : ¬ y = n := (by simpa using h2);(repeat apply zaa);refine zah ?_;simp only [push_cast, seval];(repeat apply zaa);refine zl5 ?_;simp only [push_cast, seval, hw1];refine hR _ ⟨hil, fun hm => ?_, (zax (zam rfl rfl) (by simp only [push_cast, seval]; simp [zaf, Wk.refl]))⟩;obtain ⟨hj, hle⟩ := List.getElem?_eq_some_iff.1 hy;rw [List.take_succ_eq_append_getElem hj, hle] at hm;rcases List.mem_append.1 hm with hm | hm
   ·exact hi hm
   ·exact h2 (List.mem_singleton.1 hm).symm
 ·have hix : i = xs.length := by omega
  subst hix;rw [List.take_length] at hi;(repeat apply zaa);refine zaq ?_;simp only [push_cast, seval];(repeat apply zaa);refine zl5 ?_;simp only [push_cast, seval];(repeat apply zaa);refine zai ?_;simp only [push_cast, seval];exact zao (hk (-1) ⟨fun h => by omega, fun h => absurd h hi⟩ fun j hj => by omega)
end
open Go.Conc Go.Proofs
def lastF (x : Ring) (m : Nat) (ds : List Int) : Bool := (List.range (m + 1)).all fun n : Nat => openedM x.cuts (wornM n ds) x.locks x.locks.length == 2 ^ x.locks.length - 1
def masterTo (x : Ring) : Nat → Option (List Int × Nat)
 | 0 => none
 | m + 1 => match firstM x.cuts.toNat (lastF x m) with
  | some d => some (d, m)
  | none => masterTo x m
section
variable {lv : Bool} {H : List AObj} {k kp : AV → List AObj → Prop}
def masterD (i : Nat) : List AObj := (List.range i).map fun j : Nat => .cells [iv (2 - (j : Int))] 3
def masterO (H : List AObj) (x : Ring) (i : Nat) : List AObj := (H ++ [.cells x.l 26, .cells [.rp (x.l ++ opensL x)] 100, .cells [uv (2 ^ x.locks.length - 1 : Nat)] 110]) ++ masterD i
def masterS (H : List AObj) (x : Ring) (i : Nat) : AS := ⟨[(5, .op (H.length + 1) 0), (7, .op (H.length + 2) 0), (8, .op (H.length + 3 + i) 0)], masterO H x i ++ [.cells [iv (2 - (i : Int))] 3]⟩
end
def allW (x : Ring) (t : List Int) (w : Nat) : Bool := x.locks.all fun l => fitsM (wornM w t) l
def lastW (x : Ring) (t : List Int) : Nat → Int
 | 0 => -1
 | w + 1 => if lastW x t w = (w : Int) - 1 ∧ allW x t w = true then w else lastW x t w
theorem digs_lists : ∀ c, c ≤ 4 → ((List.range (4 ^ c)).map (digs c)).map (·.take c) = listsM 4 c := by decide +kernel
theorem firstM_lists {c : Nat} (hc : c ≤ 4) (g : List Int → Bool) : firstM c (fun d => g (d.take c)) = (listsM 4 c).find? g := by
 unfold firstM; rw [← digs_lists c hc, List.find?_map (f := fun d : List Int => d.take c)]; rfl
def bestW (x : Ring) (L : List (List Int)) : Nat → Int × Int
 | 0 => (-1, -1)
 | i + 1 => if (bestW x L i).2 < lastW x (L.getD i []) 3 then ((i : Int), lastW x (L.getD i []) 3) else bestW x L i
open Go.Conc Go.Proofs
theorem mem_listsM {n : Nat} : ∀ {k : Nat} {t : List Int}, t.length = k → (∀ w ∈ t, 0 ≤ w ∧ w < n) → t ∈ listsM n k
 | 0, t, h, _ => by rw [List.length_eq_zero_iff.1 h]; simp [listsM]
 | k + 1, [], h, _ => by simp at h
 | k + 1, w :: t, h, hw => by
  have h1 := mem_listsM (n := n) (k := k) (t := t) (by simpa using h) fun v hv => hw v (List.mem_cons_of_mem _ hv);obtain ⟨h2, h3⟩ := hw w (List.mem_cons_self ..);unfold listsM;refine List.mem_flatMap.2 ⟨w.toNat, List.mem_range.2 (by omega), List.mem_map.2 ⟨t, h1, ?_⟩⟩;have : ((w.toNat : Nat) : Int) = w := by omega
  rw [this]
theorem triesOk_all {x : Ring} {t : List Int} (h : ∀ r ∈ x.tries, opensW x.keys t x.locks r.key r.lock = r.opens) : ∀ i, triesOk x t i = true
 | 0 => rfl
 | i + 1 => by
  unfold triesOk;rw [triesOk_all h i, Bool.true_and];cases hr : x.tries[i]? with
  | none => rfl
  | some r => simp only; rw [h r (zas hr)]; simp
theorem wearOk_all {x : Ring} {t : List Int} (h : ∀ (k : Nat) (y : Key) (w : Int), x.keys[k]? = some y → t[k]? = some w → y.wear.min ≤ w ∧ w ≤ y.wear.max) : ∀ i, wearOk x t i = true
 | 0 => rfl
 | i + 1 => by
  unfold wearOk;rw [wearOk_all h i, Bool.true_and];cases hy : x.keys[i]? with
  | none => rfl
  | some y =>
   cases hw : t[i]? with
   | none => rfl
   | some w =>
    obtain ⟨h1, h2⟩ := h i y w hy hw;simp [h1, h2]
open Go.Conc Go.Proofs
theorem cutS_ok {x : Ring} : ∀ (l : List Int) (due : Nat), (∀ v ∈ l, 0 ≤ v ∧ v < x.locks.length) → l.Nodup → (∀ v ∈ l, due.testBit v.toNat = false) → (cutS x l due).2 = none ∧ ∀ j : Nat, (cutS x l due).1.testBit j = (due.testBit j || decide ((j : Int) ∈ l))
 | [], due, _, _, _ => ⟨rfl, fun j => by simp [cutS]⟩
 | n :: l, due, h1, h2, h3 => by
  obtain ⟨hn0, hn1⟩ := h1 n List.mem_cons_self;obtain ⟨hnl, hl⟩ := List.nodup_cons.1 h2;have hin : inM n 0 (x.locks.length - 1) = true := zbU.2 ⟨hn0, by omega⟩;rw [cutS, if_pos hin, h3 n List.mem_cons_self];simp only [Bool.false_eq_true, if_false];obtain ⟨q1, q2⟩ := cutS_ok l (due ||| 2 ^ n.toNat) (fun v hv => h1 v (List.mem_cons_of_mem _ hv)) hl fun v hv => by
   have hv0 := (h1 v (List.mem_cons_of_mem _ hv)).1;have hne : n.toNat ≠ v.toNat := fun e => hnl ((show n = v by omega) ▸ hv);rw [Nat.testBit_or, h3 v (List.mem_cons_of_mem _ hv), Nat.testBit_two_pow_of_ne hne]; rfl
  refine ⟨q1, fun j => ?_⟩;rw [q2, Nat.testBit_or, Bool.or_assoc];congr 1;by_cases e : n.toNat = j
  ·subst e;have : ((n.toNat : Nat) : Int) = n := (by omega);rw [Nat.testBit_two_pow_self, this]; simp
  ·have : ¬ ((j : Int) = n) := (by omega);rw [Nat.testBit_two_pow_of_ne e]; simp [this]
def justL (x : Ring) (l t : List Int) : Bool := (List.range x.locks.length).all fun j : Nat => fitsM t (x.locks.getD j []) == decide ((j : Int) ∈ l)
theorem just_law {x : Ring} {l ds : List Int} (h1 : ∀ v ∈ l, 0 ≤ v ∧ v < x.locks.length) (h2 : l.Nodup) : (openedM x.cuts ds x.locks x.locks.length == (cutS x l 0).1) = justL x l (ds.take x.cuts.toNat) := by
 have hb := (cutS_ok (x := x) l 0 h1 h2 fun v _ => Nat.zero_testBit _).2;simp only [Nat.zero_testBit, Bool.false_or] at hb;unfold justL;rw [Bool.eq_iff_iff, beq_iff_eq, List.all_eq_true];refine ⟨fun e j hj => ?_, fun h => Nat.eq_of_testBit_eq fun j => ?_⟩
 ·have hjl := List.mem_range.1 hj;obtain ⟨lk, hlk⟩ := zaE hjl;have := ziC x.cuts ds x.locks j x.locks.length;rw [e, hb, hlk] at this;rw [List.getD_eq_getElem?_getD, hlk, Option.getD_some, this];simp [hjl]
 ·rw [ziC, hb];by_cases hjl : j < x.locks.length
  ·obtain ⟨lk, hlk⟩ := zaE hjl;have := h j (List.mem_range.2 hjl);rw [List.getD_eq_getElem?_getD, hlk, Option.getD_some, beq_iff_eq] at this;rw [hlk, ← this]; simp [hjl]
  ·have : ¬ ((j : Int) ∈ l) := fun hm => (by have := h1 _ hm; omega);simp [hjl, this]
theorem newCut_law {x : Ring} {l : List Int} (hc : x.cuts.toNat ≤ 4) (h1 : ∀ v ∈ l, 0 ≤ v ∧ v < x.locks.length) (h2 : l.Nodup) : newCutM x l = (listsM 4 x.cuts.toNat).find? (justL x l) := by
 unfold newCutM;rw [← firstM_lists hc];congr 1;funext ds;exact just_law h1 h2
def addK (x : Ring) (t : List Int) : Ring := ⟨x.cuts, x.keys ++ [⟨t, ⟨0, 0⟩⟩], x.locks, x.tries⟩
theorem addK_ok {x : Ring} {t : List Int} (hx : x.Ok) (h3 : x.keys.length ≤ 3) (ht : (t.length : Int) = x.cuts) (hb : ∀ v ∈ t, 0 ≤ v ∧ v ≤ 3) : (addK x t).Ok :=
 ⟨hx.cuts, by show (x.keys ++ [_]).length ≤ 4; simp; omega, fun y h => by
  rcases List.mem_append.1 h with h | h
  ·exact hx.key y h
  ·rw [List.mem_singleton.1 h]; exact ⟨ht, hb, ⟨Int.le_refl 0, by show (0 : Int) ≤ 2; decide, Int.le_refl 0⟩⟩, hx.locks, hx.lock, hx.tries, fun r h => by
  have := hx.tried r h;refine ⟨⟨this.1.1, ?_⟩, this.2⟩;show r.key < ((x.keys ++ [_]).length : Nat);have := this.1.2;simp; omega⟩
theorem truths_free {x : Ring} (hx : x.Ok) (ht : x.tries = []) : truthsL x ≠ [] := by
 have hm : x.keys.map (fun y => y.wear.min) ∈ truthsL x := by
  unfold truthsL fineW;refine List.mem_filter.2 ⟨mem_listsM (by simp) fun w hw => ?_, ?_⟩
  ·obtain ⟨y, hy, rfl⟩ := List.mem_map.1 hw;have h1 := (hx.key y hy).2.2;have h2 := h1.min;have h3 := h1.le;have h4 := h1.max;omega
  ·rw [wearOk_all fun k y w hy hw => ?_, triesOk_all fun r hr => by rw [ht] at hr; cases hr]
   ·rfl
   ·rw [List.getElem?_map, hy] at hw;cases hw;exact ⟨Int.le_refl _, ((hx.key y (zas hy)).2.2).le⟩
 intro e; rw [e] at hm; cases hm
theorem truth_wear {x : Ring} (hx : x.Ok) {t : List Int} (h : t ∈ truthsL x) {k : Nat} {y : Key} {w : Int} (hy : x.keys[k]? = some y) (hw : t[k]? = some w) : y.wear.min ≤ w ∧ w ≤ y.wear.max := by
 have hf := (List.mem_filter.1 h).2;have hl := (zhQ hx t h).1;unfold fineW at hf;rw [Bool.and_eq_true, zlP hl] at hf;have hz : (x.keys.zip t)[k]? = some (y, w) := by rw [List.getElem?_zip_eq_some]; exact ⟨hy, hw⟩
 have := (List.all_eq_true.1 hf.1) _ (zas hz);simpa using this
theorem addK_some {x : Ring} {t : List Int} {j : Nat} (hx : (addK x t).Ok) : someW (addK x t) (truthsL (addK x t)) x.keys.length j = if fitsM t (x.locks.getD j []) then (truthsL (addK x t)).length else 0 := by
 have hky : (addK x t).keys[x.keys.length]? = some ⟨t, ⟨0, 0⟩⟩ := by simp [addK]
 have htb : ∀ v ∈ t, 0 ≤ v ∧ v ≤ 3 := (hx.key _ (zas hky)).2.1;have hw0 : wornM 0 t = t := by
  unfold wornM
  conv => rhs; rw [← List.map_id t]
  exact List.map_congr_left fun v hv => by have := htb v hv; simp; omega
 have key : ∀ r ∈ truthsL (addK x t), opensW (addK x t).keys r (addK x t).locks x.keys.length j = fitsM t (x.locks.getD j []) := fun r hr => by
  obtain ⟨w, hw⟩ := zaE (xs := r) (i := x.keys.length) (by rw [(zhQ hx r hr).1]; simp [addK]);have h1 := truth_wear hx hr hky hw;have hw2 : w = 0 := by simp only at h1; omega
  subst hw2;unfold opensW;simp only [Int.toNat_natCast];rw [hky, List.getD_eq_getElem?_getD, hw];simp only [Option.getD_some, Option.map_some, hw0];rfl
 unfold someW;cases hf : fitsM t (x.locks.getD j []) with
 | true => rw [if_pos rfl, List.filter_eq_self.2 fun r hr => by rw [key r hr, hf]]
 | false =>
  rw [if_neg (by simp), List.length_eq_zero_iff, List.filter_eq_nil_iff];intro r hr;rw [key r hr, hf]; simp
section
variable {H : List AObj} {k kp : AV → List AObj → Prop}
theorem f32_y {x : Ring} {t : List Int} {j : Nat} {b : Bool} (hmain : H[0]? = some .main) (hx : (addK x t).Ok) (ht : x.tries = []) (hj : j < x.locks.length) (hb : fitsM t (x.locks.getD j []) = b) (h : k (.tup [iv (if b then 1 else 2), iv 0]) H) : FnC true Tryz.prog 32 H [(addK x t).av, iv x.keys.length, iv j] k kp := by
 have hD := truths_free hx (show (addK x t).tries = [] from ht);refine f32_k hmain hx (n := x.keys.length) (by simp [addK]) (l := j) hj ?_;rw [if_neg hD, addK_some hx, hb];have hl : (truthsL (addK x t)).length ≠ 0 := fun e => hD (List.length_eq_zero_iff.1 e);have hE : endE (addK x t) = 0 := by unfold endE; exact if_neg hD
 rw [hE];cases b with
 | true =>
  have e : verdictM (if true = true then (truthsL (addK x t)).length else 0) (truthsL (addK x t)).length = 1 := by unfold verdictM; rw [if_pos rfl, if_neg hl, if_pos rfl]
  rw [e]; exact h
 | false =>
  have e : verdictM (if false = true then (truthsL (addK x t)).length else 0) (truthsL (addK x t)).length = 2 := by unfold verdictM; simp
  rw [e]; exact h
end
open Go.Conc Go.Proofs
def allIn (n : Nat) (t : List Int) : Bool := (List.range n).all fun k : Nat => decide ((k : Int) ∈ t)
def ordersM (n : Nat) : List (List Int) := (listsM n n).filter (allIn n)
section
variable {lv : Bool} {H : List AObj} {k kp : AV → List AObj → Prop}
theorem f59_c {xs : List Band} {e : End} (hl : xs.length ≤ 2 ^ 30) (hk : k (aBands xs) H) : FnC lv Tryz.prog 59 H [.sl xs.length (xs.flatMap Band.l) e] k kp := by
 refine zak (rs := [.tmp 2]) (nt := 6) F.f59 rfl rfl rfl (by simp) fun hH hA => ?_;simp only [argsT, Nat.reduceAdd];have hlen : (xs.flatMap Band.l).length = xs.length * 2 := zld xs;have htake : (xs.flatMap Band.l).take (xs.length * 2) = xs.flatMap Band.l := List.take_of_length_le (by omega);(repeat apply zaa);refine zl5 ?_;simp only [push_cast, seval];(repeat apply zaa);refine zl5 ?_;simp only [push_cast, seval, htake, hlen];refine ⟨hl, ?_⟩;(repeat apply zaa);refine zai ?_;simp only [push_cast, seval];exact endA (b := aBands xs) hH (zaK _ _ _) (by rw [zfD]; trivial) hk
end
open Go.Conc Go.Proofs
theorem keys_take_suc {ks : List Key} {i : Nat} {y : Key} (h : ks[i]? = some y) : (ks.take (i + 1)).flatMap Key.l = (ks.take i).flatMap Key.l ++ y.l := by
 obtain ⟨hj, rfl⟩ := List.getElem?_eq_some_iff.1 h;rw [List.take_succ_eq_append_getElem hj, List.flatMap_append]; simp
theorem locks_take_suc {ls : List (List Band)} {i : Nat} {l : List Band} (h : ls[i]? = some l) : (ls.take (i + 1)).map aBands = (ls.take i).map aBands ++ [aBands l] := by
 obtain ⟨hj, rfl⟩ := List.getElem?_eq_some_iff.1 h;rw [List.take_succ_eq_append_getElem hj, List.map_append]; simp
def krO (N : Nat) (x : Ring) (z : AObj) (nk : Nat) (kl : List AV) (tk nl : Nat) (ll : List AV) (tl : Nat) : List AObj := [.cells x.l 26, z, .cells [iv x.cuts, .sl nk kl (.opn (N + 3)), .sl nl ll (.opn (N + 4)), aTries x.tries] 26, .tail tk 3 65, .tail tl 1 29]
section
variable {lv : Bool} {H : List AObj} {k kp : AV → List AObj → Prop}
theorem f50_c {xs : List Int} {e : End} (hl : xs.length ≤ 2 ^ 30) (hk : k (aInts xs) H) : FnC lv Tryz.prog 50 H [.sl xs.length (xs.map iv) e] k kp := by
 refine zak (rs := [.tmp 2]) (nt := 6) F.f50 rfl rfl rfl (by simp) fun hH hA => ?_;simp only [argsT, Nat.reduceAdd];have hlen : (xs.map iv).length = xs.length := by simp
 have htake : (xs.map iv).take xs.length = xs.map iv := List.take_of_length_le (by omega);(repeat apply zaa);refine zl5 ?_;simp only [push_cast, seval];(repeat apply zaa);refine zl5 ?_;simp only [push_cast, seval, htake, hlen];refine ⟨hl, ?_⟩;(repeat apply zaa);refine zai ?_;simp only [push_cast, seval];exact endA (b := aInts xs) hH (zaK _ _ _) (by rw [zbi]; trivial) hk
theorem f28_g {x : Ring} (hs : x.Small) (hk : HOk H → EndOf H.length (H ++ krO H.length x (.cells [iv x.cuts, .sl x.keys.length (x.keys.flatMap Key.l) (.opn (H.length + 3)), .sl x.locks.length (x.locks.map aBands) (.opn (H.length + 4)), aTries x.tries] 26) x.keys.length (x.keys.flatMap Key.l) x.keys.length x.locks.length (x.locks.map aBands) x.locks.length) (.agg [iv x.cuts, .sl x.keys.length (x.keys.flatMap Key.l) (.opn (H.length + 3)), .sl x.locks.length (x.locks.map aBands) (.opn (H.length + 4)), aTries x.tries]) k) : FnC lv Tryz.prog 28 H [x.av] k kp := by
 refine zak (rs := [.cell 2 26]) (nt := 58) F.f28 rfl rfl rfl (by simp) fun hH hA => ?_;simp only [argsT, Nat.reduceAdd, Ring.av];have hk := hk hH;have htln := zf5 x.tries;have htake : (x.tries.flatMap Try.l).take (x.tries.length * 3) = x.tries.flatMap Try.l := List.take_of_length_le (by omega);(repeat apply zaa);refine zl5 ?_;simp only [push_cast, seval, Ring.l];(repeat apply zaa);refine zbE [7, 8] [0, 1, 2, 3, 4, 5, 6, 7, 8] [⟨0, false, [], [([7], [7])]⟩, ⟨1, false, [], [([7], [7])]⟩, ⟨2, false, [], [([7], [7])]⟩, ⟨3, false, [], [([7], [7])]⟩, ⟨4, false, [], [([7], [7])]⟩, ⟨5, false, [], [([7], [7])]⟩, ⟨6, false, [], [([7], [7])]⟩, ⟨7, true, [7], []⟩, ⟨8, true, [7, 8], []⟩] (fun D => H ++ (.cells [iv x.cuts, aKeys x.keys, aLocks x.locks, aTries x.tries] 26 :: .cells [iv 0, .sl 0 [] .exact, .sl 0 [] .exact, .sl 0 [] .exact] 26 :: (bif isDone 8 D then [.cells [iv x.cuts, .sl 0 [] .exact, .sl 0 [] .exact, aTries x.tries] 26] else bif isDone 7 D then [.cells [iv 0, .sl 0 [] .exact, .sl 0 [] .exact, .sl 0 [] .exact] 26] else []))) F.mixed (by kernel_rfl) (by kernel_rfl) (by first | rfl | simp only [push_cast, seval]) ?_;simp only [push_cast, seval, htake, htln, aTries];have hts := hs.tries;refine ⟨by omega, by omega, ?_⟩
 (repeat apply zaa); refine zdw (id := H.length + 2) (j := 1) (sz := 3) (el' := 65) (by simp only [push_cast, seval] <;> rfl) rfl ?_
 try simp only [push_cast, seval]
 (repeat apply zaa); refine zdw (id := H.length + 2) (j := 2) (sz := 1) (el' := 29) (by simp only [push_cast, seval] <;> rfl) rfl ?_
 (try simp only [push_cast, seval]);(repeat apply zaa);refine zl5 ?_;simp only [push_cast, seval];have hks := hs.keys;have hls := hs.locks;have w1 : ∀ i : Nat, i ≤ 2 ^ 31 → IntKind.i64.wrap ((i : Int) + 1) = i + 1 := fun i _ => zau _ (by omega);(repeat apply zaa);refine zag ?_;refine zaB x.keys.length (fun i : Nat => [(4, iv i)]) (fun i => H ++ krO H.length x (.cells [iv 0, .sl 0 [] .exact, .sl 0 [] .exact, .sl 0 [] .exact] 26) i ((x.keys.take i).flatMap Key.l) i 0 [] 0) (fun _ => True) (fun _ _ => rfl) (by simp only [push_cast, seval, List.forall_mem_cons, List.not_mem_nil, false_imp_iff, implies_true, List.forall_mem_nil]; simp [zaf, Wk.refl]) rfl (fun _ _ _ => by simp [krO]) trivial (fun hHs hLt i hin hi R hR => ?_);clear hHs hLt;(repeat apply zaa);refine zl5 ?_;simp only [push_cast, seval, aKeys, krO, Ring.l];(repeat apply zaa);refine zae ?_;simp only [push_cast, seval];refine ⟨fun h => ?_, fun h => ?_⟩
 ·have hil : i < x.keys.length := by omega
  obtain ⟨y, hy⟩ := zaE hil;have hyc := hs.cuts y (zas hy);have hwi := w1 i (by omega);have hkl : ((x.keys.take i).flatMap Key.l).length = i * 3 := by rw [keys_len, List.length_take]; omega
  have hsu := keys_take_suc hy;(repeat apply zaa);refine zah ?_;simp only [push_cast, seval];(repeat apply zaa);refine zag ?_;(repeat apply zaa);refine zaT F.mixed 17 (by kernel_rfl) ?_;simp only [push_cast, seval, zc2 hy, zaz hil, hkl, zk3, zd5, aInts];refine qCall (aInts y.cuts) (zad (by kernel_rfl) (f50_c (xs := y.cuts) (by omega) ⟨rfl, rfl⟩)) ?_;(try simp only [push_cast, seval, zc2 hy, zaz hil, hkl, zk3, zd5, aInts]);refine ⟨by omega, ?_⟩;(repeat apply zaa);refine zl5 ?_;simp only [push_cast, seval, hwi];refine hR _ ⟨hil, trivial, ?_⟩;rw [hsu];exact (zax (zam rfl rfl) (by simp only [push_cast, seval]; simp [zaf, Wk.refl]))
 ·have hix : i = x.keys.length := by omega
  subst hix;clear hR;rw [List.take_length];(repeat apply zaa);refine zaq ?_;simp only [push_cast, seval];(repeat apply zaa);refine zl5 ?_;simp only [push_cast, seval];(repeat apply zaa);refine zag ?_;refine zaB x.locks.length (fun i : Nat => [(5, iv i)]) (fun i => H ++ krO H.length x (.cells [iv 0, .sl 0 [] .exact, .sl 0 [] .exact, .sl 0 [] .exact] 26) x.keys.length (x.keys.flatMap Key.l) x.keys.length i ((x.locks.take i).map aBands) i) (fun _ => True) (fun _ _ => rfl) (by simp only [push_cast, seval, List.forall_mem_cons, List.not_mem_nil, false_imp_iff, implies_true, List.forall_mem_nil]; simp [zaf, Wk.refl]) rfl (fun _ _ _ => by simp [krO]) trivial (fun hHs hLt i hin hi R hR => ?_);clear hHs hLt;(repeat apply zaa);refine zl5 ?_;simp only [push_cast, seval, aLocks, krO, Ring.l];(repeat apply zaa);refine zae ?_;simp only [push_cast, seval];refine ⟨fun h => ?_, fun h => ?_⟩
  ·have hil : i < x.locks.length := (by omega);obtain ⟨l, hl⟩ := zaE hil;have hlb := hs.bands l (zas hl);have hwi := w1 i (by omega);have hml : ((x.locks.take i).map aBands).length = i := (by rw [List.length_map, List.length_take]; omega);have hzs1 : zeroRow (Value.slice none 0 0) 1 = [.sl 0 [] .exact] := rfl;have hsu := locks_take_suc hl;(repeat apply zaa);refine zah ?_;simp only [push_cast, seval];(repeat apply zaa);refine zag ?_;(repeat apply zaa);refine zaT F.mixed 9 (by kernel_rfl) ?_;simp only [push_cast, seval, zfu hl, zaz hil, hml, hzs1, zhq];refine qCall (aBands l) (zad (by kernel_rfl) (f59_c (xs := l) (by omega) ⟨rfl, rfl⟩)) ?_;(try simp only [push_cast, seval, zfu hl, zaz hil, hml, hzs1, zhq, zfd, zho]);refine ⟨by omega, ?_⟩;(repeat apply zaa);refine zl5 ?_;simp only [push_cast, seval, hwi];refine hR _ ⟨hil, trivial, ?_⟩;rw [hsu];exact (zax (zam rfl rfl) (by simp only [push_cast, seval]; simp [zaf, Wk.refl]))
  ·have hix : i = x.locks.length := (by omega);subst hix;clear hR;rw [List.take_length];(repeat apply zaa);refine zaq ?_;simp only [push_cast, seval];(repeat apply zaa);refine zl5 ?_;simp only [push_cast, seval, krO, Ring.l];(repeat apply zaa);refine zai ?_;simp only [push_cast, seval];exact hk
theorem f28_k {x : Ring} (hs : x.Small) (hk : k (.agg [iv x.cuts, .sl x.keys.length (x.keys.flatMap Key.l) (.opn (H.length + 3)), aLocks x.locks, aTries x.tries]) (H ++ krO H.length x (.cells [iv x.cuts, .sl x.keys.length (x.keys.flatMap Key.l) (.opn (H.length + 3)), .sl x.locks.length (x.locks.map aBands) (.opn (H.length + 4)), aTries x.tries] 26) x.keys.length (x.keys.flatMap Key.l) x.keys.length x.locks.length (x.locks.map aBands) x.locks.length)) : FnC lv Tryz.prog 28 H [x.av] k kp :=
 f28_g hs fun _ => ⟨_, zhX (.cons (Wk.refl _) (.cons (Wk.refl _) (.cons (zaK _ _ _) (.cons (Wk.refl _) .nil)))), .inl hk⟩
end
open Go.Conc Go.Proofs
def CutIs (x : Ring) (l d : List Int) (e : Int) : Prop := ((listsM 4 x.cuts.toNat).find? (justL x l) = none ∧ d = [] ∧ e = 11) ∨ ((listsM 4 x.cuts.toNat).find? (justL x l) = some d ∧ e = 0)
section
variable {H : List AObj} {k kp : AV → List AObj → Prop}
theorem f62_k {x : Ring} {l : List Int} (hmain : H[0]? = some .main) (hx : x.Ok) (h1 : ∀ v ∈ l, 0 ≤ v ∧ v < x.locks.length) (h2 : l.Nodup) (hl : l.length ≤ 4) (h : ∀ d e en, CutIs x l d e → k (.tup [.sl d.length (d.map iv) en, iv e]) H) : FnC true Tryz.prog 62 H [x.av, aInts l] k kp := by
 have hc := hx.cuts;have hfl := (cutS_ok (x := x) l 0 h1 h2 fun v _ => Nat.zero_testBit _).1;have hz : openE x (cutS x l 0).2 = 0 := zaN.2 ⟨zbH.2 hx, hfl⟩;have hlaw := newCut_law (x := x) (by omega) h1 h2;refine f62_c zaQ hmain hx.small (by omega) (fun e => absurd hz e) (fun _ hn => ?_) (fun _ xs hs => ?_)
 ·exact h [] 11 .exact (.inl ⟨hlaw ▸ hn, rfl, rfl⟩)
 ·exact h xs 0 .shut (.inr ⟨hlaw ▸ hs, rfl⟩)
theorem all_suc (n : Nat) (f : Nat → Bool) : (List.range (n + 1)).all f = ((List.range n).all f && f n) := by
 rw [List.range_succ, List.all_append]; simp
set_option maxRecDepth 4000 in
set_option maxHeartbeats 1000000 in
theorem f13_c {nums : List Int} (hmain : H[0]? = some .main) (hn : nums.length ≤ 2 ^ 50) (hk : k (bv true) H) : FnC true Tryz.prog 13 H [aInts nums] k kp := by
 have hmn : ∀ L : List AObj, (H ++ L)[0]? = some .main := fun L => zay hmain;refine zak (rs := [.tmp 2]) (nt := 143) F.f13 rfl rfl rfl (by simp) fun hH hA => ?_;simp only [argsT, Nat.reduceAdd];(repeat apply zaa);refine zl5 ?_;simp only [push_cast, seval];(repeat apply zaa);refine zl5 ?_;simp only [push_cast, seval];refine zl6 ((f26_c ?_));(try simp only [push_cast, seval]);(repeat apply zaa);refine zl5 ?_;simp only [push_cast, seval];refine zl6 ((f49_c (K := 3) (L := 3) (T := 0) (wr := false) (zjT H) (tinOk0 hn _) (by decide) (by decide) (by decide) (by decide) fun x ws τ hP hτ => ?_));(try simp only [push_cast, seval, Ring.av, Ring.l]);have hx := hP.ok (by decide) (by decide) (by decide);have hkl := hP.keys;have hll := hP.locks;have htr : x.tries = [] := List.length_eq_zero_iff.1 (by have := hP.tries; omega);obtain ⟨hc0, hc4⟩ := hx.cuts;have hw0 : IntKind.i64.wrap ((x.locks.length : Int) - 1) = x.locks.length - 1 := zau _ (by omega);have w1 : ∀ i : Nat, i ≤ 1000 → IntKind.i64.wrap ((i : Int) + 1) = i + 1 := fun i _ => zau _ (by omega);clear hP;(repeat apply zaa);refine zl5 ?_;simp only [push_cast, seval]
 (repeat apply zaa); refine zbV (t := 6) (sz := 1) (el := 3) (by simp only [push_cast, seval] <;> rfl) ?_
 (try simp only [push_cast, seval]);(repeat apply zaa);refine zl5 ?_;simp only [push_cast, seval, aLocks, hw0];(repeat apply zaa);refine zag ?_;refine za9 (measure fun m : Nat × List Int × TinS => x.locks.length - m.1).wf (fun m => [(6, .sl m.2.1.length (m.2.1.map iv) (.opn (H.length + 2))), (7, iv ((x.locks.length : Int) - 1 - m.1))]) (fun m => H ++ [tinO m.2.2, .cells [iv x.cuts, aKeys x.keys, aLocks x.locks, aTries x.tries] 26, .tail m.2.1.length 1 3]) (fun m => m.1 ≤ x.locks.length ∧ ((∀ v ∈ m.2.1, (x.locks.length : Int) - m.1 ≤ v ∧ v < x.locks.length) ∧ m.2.1.Nodup ∧ m.2.1.length ≤ m.1) ∧ m.2.2.Ok (0 + 1000 + m.1)) (0, [], τ) (fun _ _ => rfl) (by simp only [push_cast, seval, List.forall_mem_cons, List.not_mem_nil, false_imp_iff, implies_true, List.forall_mem_nil]; simp [zaf, Wk.refl]) rfl (fun _ _ => by simp) ⟨by simp, ⟨fun v hv => absurd hv (by simp), by simp, by simp⟩, hτ.mono (by simp)⟩ (fun hHs hLt m hok R hR => ?_);clear hHs hLt;obtain ⟨i, l, τ'⟩ := m;obtain ⟨hil, ⟨hlv, hln, hlc⟩, hto⟩ := hok;simp only at hil hlv hln hlc hto;(repeat apply zaa);refine zl5 ?_;simp only [push_cast, seval];(repeat apply zaa);refine zae ?_;simp only [push_cast, seval];refine ⟨fun h => ?_, fun h => ?_⟩
 ·have hi2 : i < x.locks.length := by omega
  have hw2 : IntKind.i64.wrap ((x.locks.length : Int) - 1 - i - 1) = x.locks.length - 1 - (i + 1) := by rw [zau _ (by omega)]; omega
  (repeat apply zaa);refine zah ?_;simp only [push_cast, seval];(repeat apply zaa);refine zag ?_;(repeat apply zaa);refine zl5 ?_;simp only [push_cast, seval];refine zl6 ((f44_c (tinAt_at H _) hto (by omega) (by omega) ?_));(try simp only [push_cast, seval]);(repeat apply zaa);refine zae ?_;simp only [push_cast, seval];refine ⟨fun h2 => ?_, fun h2 => ?_⟩
  ·(repeat apply zaa);refine zl5 ?_;simp only [push_cast, seval, z1, zhq, List.length_map]
   first | refine ⟨by omega, by omega, ?_⟩ | refine ⟨by omega, ?_⟩
   (repeat apply zaa);refine zl5 ?_;simp only [push_cast, seval, hw2];refine hR _ ⟨(i + 1, l ++ [(x.locks.length : Int) - 1 - i], tick τ'), by show x.locks.length - (i + 1) < x.locks.length - i; omega, ⟨by show i + 1 ≤ _; omega, ⟨fun v hv => ?_, ?_, ?_⟩, hto.tick.mono (by simp only; omega)⟩, ?_⟩
   ·simp only at hv ⊢;rcases List.mem_append.1 hv with hv | hv
    ·have := hlv v hv; omega
    ·rw [List.mem_singleton.1 hv]; omega
   ·refine List.nodup_append.2 ⟨hln, by simp, fun a ha b hb e => ?_⟩;have := hlv a ha;rw [List.mem_singleton.1 hb] at e;omega
   ·simp only [List.length_append, List.length_singleton]; omega
   ·simp only [List.length_append, List.map_append];exact (zax (zam rfl rfl) (by simp only [push_cast, seval]; simp [zaf, Wk.refl]))
  ·(repeat apply zaa);refine zah ?_;simp only [push_cast, seval];(repeat apply zaa);refine zl5 ?_;simp only [push_cast, seval, hw2];refine hR _ ⟨(i + 1, l, tick τ'), by show x.locks.length - (i + 1) < x.locks.length - i; omega, ⟨by show i + 1 ≤ _; omega, ⟨fun v hv => ?_, hln, by simp only; omega⟩, hto.tick.mono (by simp only; omega)⟩, (zax (zam rfl rfl) (by simp only [push_cast, seval]; simp [zaf, Wk.refl]))⟩;have := hlv v hv;simp only;omega
 ·have hix : i = x.locks.length := by omega
  subst hix;clear hR;have hlv : ∀ v ∈ l, 0 ≤ v ∧ v < x.locks.length := fun v hv => by have := hlv v hv; omega
  (repeat apply zaa);refine zaq ?_;simp only [push_cast, seval];refine awp_wkT 6 (aInts l) (by simp only [push_cast, seval] <;> rfl) (zaK _ _ _) ?_;(repeat apply zaa);refine zl5 ?_;simp only [push_cast, seval];refine zl6 ((f62_k (x := x) (hmn _) hx hlv hln (by omega) fun d e en hci => ?_));(try simp only [push_cast, seval]);obtain ⟨c, hc⟩ : ∃ c : Nat, x.cuts = c := ⟨x.cuts.toNat, by omega⟩;have hcn : x.cuts.toNat = c := by omega
  have hc4 : c ≤ 4 := by omega
  obtain ⟨hLl, hLr⟩ := zeh 4 (by decide) c hc4;unfold CutIs at hci;rw [hcn] at hci;(repeat apply zaa);refine zl5 ?_;simp only [push_cast, seval, hc];refine zl6 ((f63_c c (n := 4) (by decide) hc4 ?_));generalize listsM 4 c = L at hci hLl hLr ⊢;simp only [← hc];(try simp only [push_cast, seval]);(repeat apply zaa);refine zl5 ?_;simp only [push_cast, seval];(repeat apply zaa);refine zag ?_;refine zaB L.length (fun i : Nat => [(11, iv i)]) (fun _ => _) (fun i => ∀ t ∈ L.take i, justL x l t = false) (fun _ _ => rfl) (by simp only [push_cast, seval, List.forall_mem_cons, List.not_mem_nil, false_imp_iff, implies_true, List.forall_mem_nil]; simp [zaf, Wk.refl]) rfl (fun _ _ _ => rfl) (by simp) (fun hHs hLt i hin hi R hR => ?_);clear hHs hLt;(repeat apply zaa);refine zl5 ?_;simp only [push_cast, seval, aRows];(repeat apply zaa);refine zae ?_;simp only [push_cast, seval];refine ⟨fun h => ?_, fun h => ?_⟩
  ·have hiL : i < L.length := (by omega);obtain ⟨t, ht⟩ := zaE hiL;obtain ⟨htl, htb⟩ := hLr t (zas ht);have hwi := w1 i (by omega);(repeat apply zaa);refine zah ?_;simp only [push_cast, seval];(repeat apply zaa);refine zag ?_;(repeat apply zaa);refine zl5 ?_;simp only [push_cast, seval];(repeat apply zaa);refine zl5 ?_;simp only [push_cast, seval];(repeat apply zaa);refine zag ?_;refine zaB x.locks.length (fun j : Nat => [(12, bv ((List.range j).all fun q : Nat => fitsM t (x.locks.getD q []) == decide ((q : Int) ∈ l))), (13, iv j)]) (fun _ => _) (fun _ => True) (fun _ _ => rfl) (by simp only [push_cast, seval, List.forall_mem_cons, List.not_mem_nil, false_imp_iff, implies_true, List.forall_mem_nil]; simp [zaf, Wk.refl]) rfl (fun _ _ _ => rfl) trivial (fun hHs hLt j hjn hjo R2 hR2 => ?_);clear hHs hLt;(repeat apply zaa);refine zl5 ?_;simp only [push_cast, seval, aLocks];(repeat apply zaa);refine zae ?_;simp only [push_cast, seval];refine ⟨fun h2 => ?_, fun h2 => ?_⟩
   ·have hjl : j < x.locks.length := (by omega);have hwj := w1 j (by omega);obtain ⟨lk, hlk⟩ := zaE hjl;have hlkl := (hx.lock lk (zas hlk)).1;have hgd : x.locks.getD j [] = lk := (by rw [List.getD_eq_getElem?_getD, hlk]; rfl);rw [all_suc, hgd] at hR2;(repeat apply zaa);refine zah ?_;simp only [push_cast, seval];(repeat apply zaa);refine zag ?_;cases hb : ((List.range j).all fun q : Nat => fitsM t (x.locks.getD q []) == decide ((q : Int) ∈ l)) with
    | false =>
     (repeat apply zaa);refine zaT F.mixed 14 (by kernel_rfl) ?_;simp only [push_cast, seval, hb, zlB ht, zaz hiL, zfu hlk, zaz hjl, aLocks, aRows];rw [hb] at hR2;(repeat apply zaa);refine zl5 ?_;simp only [push_cast, seval, hwj];refine hR2 _ ⟨hjl, trivial, ?_⟩;simp only [Bool.false_and];exact (zax (zam rfl rfl) (by simp only [push_cast, seval]; simp [zaf, Wk.refl]))
    | true =>
     (repeat apply zaa);refine zaT F.mixed 14 (by kernel_rfl) ?_;simp only [push_cast, seval, hb, zlB ht, zaz hiL, zfu hlk, zaz hjl, aLocks, aRows];rw [hb] at hR2;refine qCall (bv (fitsM t lk)) (zad (by kernel_rfl) (f64_c (by omega) (by omega) ⟨rfl, rfl⟩)) ?_;(try simp only [push_cast, seval, hb, zlB ht, zaz hiL, zfu hlk, zaz hjl, aLocks, aRows, aInts]);refine zl6 ((f65_c (xs := l) (by omega) fun v hv _ => ?_));have hge : decide (v ≥ 0) = decide ((j : Int) ∈ l) := (by rw [decide_eq_decide]; exact hv);(try simp only [push_cast, seval, hge]);(repeat apply zaa);refine zl5 ?_;simp only [push_cast, seval, hwj];refine hR2 _ ⟨hjl, trivial, ?_⟩;simp only [Bool.true_and];exact (zax (zam rfl rfl) (by simp only [push_cast, seval]; simp [zaf, Wk.refl]))
   ·have hjx : j = x.locks.length := (by omega);subst hjx;clear hR2;(repeat apply zaa);refine zaq ?_;simp only [push_cast, seval];have hju : ((List.range x.locks.length).all fun q : Nat => fitsM t (x.locks.getD q []) == decide ((q : Int) ∈ l)) = justL x l t := rfl;rw [hju];cases hj : justL x l t with
    | false =>
     (repeat apply zaa);refine zl5 ?_;simp only [push_cast, seval];(repeat apply zaa);refine zae ?_;simp only [push_cast, seval];(repeat apply zaa);refine zaq ?_;simp only [push_cast, seval];(repeat apply zaa);refine zl5 ?_;simp only [push_cast, seval, hwi];refine hR _ ⟨hiL, fun t' ht' => ?_, (zax (zam rfl rfl) (by simp only [push_cast, seval]; simp [zaf, Wk.refl]))⟩;obtain ⟨q1, q2⟩ := List.getElem?_eq_some_iff.1 ht;rw [List.take_succ_eq_append_getElem q1, q2] at ht';rcases List.mem_append.1 ht' with h' | h'
     ·exact hi t' h'
     ·rw [List.mem_singleton.1 h']; exact hj
    | true =>
     clear hR;have hfind := zfN (f := justL x l) ht hj hi;rcases hci with ⟨h3, _⟩ | ⟨h3, rfl⟩
     ·rw [hfind] at h3; cases h3
     ·rw [hfind] at h3;obtain rfl : t = d := (by simpa using h3);(repeat apply zaa);refine zl5 ?_;simp only [push_cast, seval];(repeat apply zaa);refine zae ?_;simp only [push_cast, seval];(repeat apply zaa);refine zah ?_;simp only [push_cast, seval];(repeat apply zaa);refine zl5 ?_;simp only [push_cast, seval, bne_self_eq_false, zlB ht, zaz hiL, aInts];refine zl6 ((f34_same (xs := t) (by omega) ?_));(try simp only [push_cast, seval]);(repeat apply zaa);refine zae ?_;simp only [push_cast, seval];(repeat apply zaa);refine zah ?_;simp only [push_cast, seval];(repeat apply zaa);refine zl5 ?_;simp only [push_cast, seval];have h36 : H.length + 3 + 3 = H.length + 6 := rfl;have h37 : H.length + 3 + 4 = H.length + 7 := rfl;refine zl6 ((f28_k (x := x) hx.small ?_));(try simp only [push_cast, seval, krO, Ring.l, h36, h37]);have hkln := keys_len x.keys;have hyk : (x.keys ++ [(⟨t, ⟨0, 0⟩⟩ : Key)]).flatMap Key.l = x.keys.flatMap Key.l ++ [.sl t.length (t.map iv) .shut, iv 0, iv 0] := (by rw [List.flatMap_append]; rfl);have hyl : (x.keys ++ [(⟨t, ⟨0, 0⟩⟩ : Key)]).length = x.keys.length + 1 := (by simp);have htc : (t.length : Int) = x.cuts := (by rw [htl, hc]);have hy := addK_ok hx hkl.2 htc (fun v hv => by have := htb v hv; omega);have hfit : ∀ j : Nat, j < x.locks.length → fitsM t (x.locks.getD j []) = decide ((j : Int) ∈ l) := fun j hj2 => by
       have := (List.all_eq_true.1 hj) j (List.mem_range.2 hj2);rwa [beq_iff_eq] at this
      (repeat apply zaa);refine zaT F.mixed 8 (by kernel_rfl) ?_;simp only [push_cast, seval, zlB ht, zaz hiL, hkln, zk3, zd5, aInts];refine ⟨by omega, ?_⟩
      (repeat apply zaa); refine awp_wkO (id := H.length + 8) (j := 1) (y := aKeys (addK x t).keys) (by simp only [push_cast, seval] <;> rfl) rfl (by show Wk _ (AV.sl (x.keys ++ [(⟨t, ⟨0, 0⟩⟩ : Key)]).length ((x.keys ++ [(⟨t, ⟨0, 0⟩⟩ : Key)]).flatMap Key.l) .shut); rw [hyk, hyl]; exact zaK _ _ _) ?_
      simp only [push_cast, seval];(repeat apply zaa);refine zl5 ?_;simp only [push_cast, seval];(repeat apply zaa);refine zag ?_;refine zaB x.locks.length (fun j : Nat => [(15, iv j)]) (fun _ => _) (fun _ => True) (fun _ _ => rfl) (by simp only [push_cast, seval, List.forall_mem_cons, List.not_mem_nil, false_imp_iff, implies_true, List.forall_mem_nil]; simp [zaf, Wk.refl]) rfl (fun _ _ _ => rfl) trivial (fun hHs hLt j hjn hjo R2 hR2 => ?_);clear hHs hLt;(repeat apply zaa);refine zl5 ?_;simp only [push_cast, seval];(repeat apply zaa);refine zae ?_;simp only [push_cast, seval];refine ⟨fun h2 => ?_, fun h2 => ?_⟩
      ·have hjl : j < x.locks.length := (by omega);have hwj := w1 j (by omega);have hfj := hfit j hjl;(repeat apply zaa);refine zah ?_;simp only [push_cast, seval];(repeat apply zaa);refine zag ?_;(repeat apply zaa);refine zl5 ?_;simp only [push_cast, seval];(repeat apply zaa);refine zl5 ?_;simp only [push_cast, seval, aInts];refine zl6 ((f65_c (xs := l) (by omega) fun v hv _ => ?_));have hge : decide (v ≥ 0) = decide ((j : Int) ∈ l) := (by rw [decide_eq_decide]; exact hv);(try simp only [push_cast, seval, hge]);cases hm : decide ((j : Int) ∈ l) with
       | true =>
        rw [hm] at hfj;(repeat apply zaa);refine zae ?_;simp only [push_cast, seval];(repeat apply zaa);refine zl5 ?_;simp only [push_cast, seval];(repeat apply zaa);refine zl5 ?_;simp only [push_cast, seval, aKeys];refine zl6 ((f32_y (x := x) (t := t) (hmn _) hy htr hjl hfj ?_));(try simp only [push_cast, seval]);(repeat apply zaa);refine zl5 ?_;simp only [push_cast, seval, bne_self_eq_false];(repeat apply zaa);refine zae ?_;simp only [push_cast, seval];(repeat apply zaa);refine zah ?_;simp only [push_cast, seval];(repeat apply zaa);refine zl5 ?_;simp only [push_cast, seval, hwj];refine hR2 _ ⟨hjl, trivial, (zax (zam rfl rfl) (by simp only [push_cast, seval]; simp [zaf, Wk.refl]))⟩
       | false =>
        rw [hm] at hfj;(repeat apply zaa);refine zae ?_;simp only [push_cast, seval];(repeat apply zaa);refine zah ?_;simp only [push_cast, seval];(repeat apply zaa);refine zl5 ?_;simp only [push_cast, seval, aKeys];refine zl6 ((f32_y (x := x) (t := t) (hmn _) hy htr hjl hfj ?_));(try simp only [push_cast, seval, Bool.false_eq_true, if_false]);(repeat apply zaa);refine zl5 ?_;simp only [push_cast, seval, bne_self_eq_false];(repeat apply zaa);refine zae ?_;simp only [push_cast, seval];(repeat apply zaa);refine zah ?_;simp only [push_cast, seval];(repeat apply zaa);refine zl5 ?_;simp only [push_cast, seval, hwj];refine hR2 _ ⟨hjl, trivial, (zax (zam rfl rfl) (by simp only [push_cast, seval]; simp [zaf, Wk.refl]))⟩
      ·clear hR2;(repeat apply zaa);refine zaq ?_;simp only [push_cast, seval];(repeat apply zaa);refine zl5 ?_;simp only [push_cast, seval];refine zl6 ((f25_c (hmn _) ?_));(try simp only [push_cast, seval]);(repeat apply zaa);refine zai ?_;simp only [push_cast, seval];exact endA hH (Wk.refl _) (by simp [zap]) hk
  ·have hix : i = L.length := (by omega);subst hix;clear hR;rw [List.take_length] at hi;(repeat apply zaa);refine zaq ?_;simp only [push_cast, seval];have hfind := zdt (f := justL x l) hi;rcases hci with ⟨_, rfl, rfl⟩ | ⟨h3, _⟩
   ·(repeat apply zaa);refine zl5 ?_;simp only [push_cast, seval, beq_self_eq_true];refine zl6 ((f25_c (hmn _) ?_));(try simp only [push_cast, seval]);(repeat apply zaa);refine zai ?_;simp only [push_cast, seval];exact endA hH (Wk.refl _) (by simp [zap]) hk
   ·rw [hfind] at h3; cases h3
end
end Go.Gg
namespace Go.Proofs.YtoaaoiipickclaaGreat
open Go.Conc Go.Proofs Go.Gg
theorem kjName : Tryz.prog.funcNamed Rows.keyCutRow.func = some 13 := by kernel_rfl
theorem kjJoined : joinedFacts Tryz.prog 13 Tryz.f13 Rows.keyCutSpec Rows.keyCutRow = true :=
 zkH (by kernel_rfl) Tz.laidOut (by kernel_rfl) (by kernel_rfl) (by kernel_rfl) (by kernel_rfl) (by kernel_rfl) (by kernel_rfl) (by kernel_rfl) (by kernel_rfl) (by kernel_rfl) (by kernel_rfl) (by kernel_rfl) (by kernel_rfl) (by kernel_rfl) (by kernel_rfl) (by kernel_rfl) (by kernel_rfl) (by kernel_rfl) (by kernel_rfl) (by kernel_rfl) (by kernel_rfl) (by kernel_rfl) (by kernel_rfl) (by kernel_rfl) Tz.mayEnter (zkB (by kernel_rfl)) (make_of' (by kernel_rfl)) (by kernel_rfl) (by kernel_rfl) (by kernel_rfl) (by kernel_rfl) (by kernel_rfl)
theorem kjInst : Tryz.f13.isInstance Tryz.prog Rows.keyCutRow.origin Rows.keyCutRow.targs := of_decide_eq_true (by kernel_rfl)
theorem kjWrap : Tryz.f13.isWrapper Tryz.prog Rows.keyCutRow.wrapper Rows.keyCutRow.mainSum := by unfold Func.isWrapper; first | (rw [if_pos (by decide +kernel)]; kernel_rfl) | (rw [if_neg (by decide +kernel)]; exact ⟨rfl, rfl⟩)
theorem keyCut_lifted (os : Os) (started : os.Started) (H : Type) (enc : TypeId × Value → H) :
  ReturnsInLeavingWide {} Tryz.checked os 13 .any (Rows.keyCutSpec.pre6 enc Tryz.prog Tryz.f13 Rows.keyCutRow.domain false) (Rows.keyCutSpec.post enc Tryz.prog Tryz.f13 false true false false) :=
 zhC (f := 13) (fn := Tryz.f13) (s := Rows.keyCutSpec) Tryz.func13 rfl rfl rfl (fun _ _ => rfl) (by kernel_rfl) (fun nums hn => f13_c rfl hn rfl) os started H enc
  (ChangeSpec.witness6 (enc := enc) (C := Tryz.checked) false ⟨#[], #[.slice none 0 0], []⟩ 8 (by kernel_rfl) (by kernel_rfl) (by kernel_rfl) (by kernel_rfl))
theorem keyCut_holds : Rows.KeyCutSaid :=
 OpenClaim.holds_of_wide_leaving 13 Tryz.f13 rfl rfl rfl rfl rfl rfl rfl ⟨rfl, rfl, rfl, rfl, rfl⟩ rfl rfl rfl rfl rfl kjName Tryz.func13 kjJoined kjInst kjWrap
  (fun os started H enc _ => keyCut_lifted os started H enc)
end Go.Proofs.YtoaaoiipickclaaGreat
