/- The law KeyMore answers true at every list of numbers, on every schedule. No condition. -/
import Derived.Test.YtoaaoiipickclaaGreatR05
set_option linter.all false
namespace Go.Gg
open Go.Conc Go.Proofs
theorem F.AppOf_50_50 : AppOf Tryz.prog 50 50 = (some (52, (2, (.agg #[(.int .i64 0), (.bool false)])))) := by kernel_rfl
theorem F.ElemOf_155 : ElemOf Tryz.prog 155 = (some (3, (1, false))) := by kernel_rfl
theorem F.IdxOf_155 : IdxOf Tryz.prog 155 = (some ((some 3), 1)) := by kernel_rfl
theorem F.IsSliceOf_24 : IsSliceOf Tryz.prog 24 = (some (28, 3)) := by kernel_rfl
theorem F.Ty_155 : Ty Tryz.prog 155 = (some (3, true)) := by kernel_rfl
theorem F.ZeroOf_155 : ZeroOf Tryz.prog 155 = (some (.agg #[(.bool false), (.bool false), (.bool false)])) := by kernel_rfl
theorem F.f10 : Tryz.prog.funcs[10]? = some Tryz.f10 := by kernel_rfl
theorem F.f12 : Tryz.prog.funcs[12]? = some Tryz.f12 := by kernel_rfl
theorem F.f21 : Tryz.prog.funcs[21]? = some Tryz.f21 := by kernel_rfl
theorem F.f28 : Tryz.prog.funcs[28]? = some Tryz.f28 := by kernel_rfl
theorem F.f37 : Tryz.prog.funcs[37]? = some Tryz.f37 := by kernel_rfl
theorem F.f50 : Tryz.prog.funcs[50]? = some Tryz.f50 := by kernel_rfl
theorem F.f59 : Tryz.prog.funcs[59]? = some Tryz.f59 := by kernel_rfl
theorem F.f61 : Tryz.prog.funcs[61]? = some Tryz.f61 := by kernel_rfl
theorem F.f65 : Tryz.prog.funcs[65]? = some Tryz.f65 := by kernel_rfl
theorem F.f69 : Tryz.prog.funcs[69]? = some Tryz.f69 := by kernel_rfl
theorem F.f71 : Tryz.prog.funcs[71]? = some Tryz.f71 := by kernel_rfl
theorem F.f73 : Tryz.prog.funcs[73]? = some Tryz.f73 := by kernel_rfl
theorem F.f111 : Tryz.prog.funcs[111]? = some Tryz.f111 := by kernel_rfl
theorem F.f142 : Tryz.prog.funcs[142]? = some Tryz.f142 := by kernel_rfl
attribute [push_cast] F.AppOf_50_50 F.ElemOf_155 F.IdxOf_155 F.IsSliceOf_24 F.Ty_155 F.ZeroOf_155
attribute [push_cast] F.IsSliceOf_29
section
variable {lv : Bool} {H : List AObj} {k kp : AV → List AObj → Prop} {Gf : TinS → List AObj} {t N : Nat} {τ : TinS} {b : Int}
theorem f94_c {xs : List Int} (hl : xs.length ≤ 2 ^ 30) (hk : k (aInts xs) H) : FnC lv Tryz.prog 94 H [aInts xs] k kp := by
 refine zak (rs := [.tmp 2]) (nt := 8) F.f94 rfl rfl rfl (by simp) fun hH hA => ?_;simp only [argsT, Nat.reduceAdd, aInts];(repeat apply zaa);refine zl5 ?_;simp only [push_cast, seval];(repeat apply zaa);refine zl5 ?_;simp only [push_cast, seval];intro b hb;(repeat apply zaa);refine zae ?_;simp only [push_cast, seval];refine ⟨fun h => ?_, fun h => ?_⟩
 ·
  (repeat apply zaa);refine zl5 ?_;simp only [push_cast, seval];(repeat apply zaa);refine zai ?_;simp only [push_cast, seval];have : xs = [] := by
   cases xs with
   | nil => rfl
   | cons x xs => rw [hb (by simp)] at h; cases h
  subst this;exact zaJ (H' := H) (G := []) (zaK _ _ _) (by simp) (Nat.le_refl _) hH (by simp [aInts, za3]) hk
 ·
  (repeat apply zaa);refine zah ?_;simp only [push_cast, seval];(repeat apply zaa);refine zl5 ?_;simp only [push_cast, seval];refine ⟨hl, ?_⟩;(repeat apply zaa);refine zai ?_;simp only [push_cast, seval];exact endA hH (zaK _ _ _) (by simp [← aInts.eq_1, zbi]) hk
theorem f143_c {xs : List Band} (hl : xs.length ≤ 2 ^ 30) (hk : k (aBands xs) H) : FnC lv Tryz.prog 143 H [aBands xs] k kp := by
 refine zak (rs := [.tmp 2]) (nt := 8) F.f143 rfl rfl rfl (by simp) fun hH hA => ?_;simp only [argsT, Nat.reduceAdd, aBands];have hlen : (xs.flatMap Band.l).length = xs.length * 2 := len_flat Band.len xs;have htake : (xs.flatMap Band.l).take (xs.length * 2) = xs.flatMap Band.l := List.take_of_length_le (by omega);(repeat apply zaa);refine zl5 ?_;simp only [push_cast, seval];(repeat apply zaa);refine zl5 ?_;simp only [push_cast, seval];intro b hb;(repeat apply zaa);refine zae ?_;simp only [push_cast, seval];refine ⟨fun h => ?_, fun h => ?_⟩
 ·
  (repeat apply zaa);refine zl5 ?_;simp only [push_cast, seval];(repeat apply zaa);refine zai ?_;simp only [push_cast, seval];have : xs = [] := by
   cases xs with
   | nil => rfl
   | cons x xs => rw [hb (by simp)] at h; cases h
  subst this;exact zaJ (H' := H) (G := []) (zaK _ _ _) (by simp) (Nat.le_refl _) hH (by simp [aBands, za3]) hk
 ·
  (repeat apply zaa);refine zah ?_;simp only [push_cast, seval];(repeat apply zaa);refine zl5 ?_;simp only [push_cast, seval, htake, hlen];refine ⟨hl, ?_⟩;(repeat apply zaa);refine zai ?_;simp only [push_cast, seval];exact endA hH (zaK _ _ _) (by simp [← aBands.eq_1, zfD]) hk
theorem p24_0 : (0 ≤ 2 ^ 24) = True := by simp
theorem tries_snoc (ts : List Try) (t : Try) : (ts ++ [t]).flatMap Try.l = ts.flatMap Try.l ++ [iv t.key, iv t.lock, bv t.opens] := by simp [Try.l]
theorem f56_c {x : Ring} {t : Try} (hl : x.tries.length < 2 ^ 20) (hk : k (withT x t).av H) : FnC lv Tryz.prog 56 H [x.av, t.av] k kp := by
 refine zak (rs := [.cell 4 26]) (nt := 14) F.f56 rfl rfl rfl (by simp) fun hH hA => ?_;simp only [argsT, Nat.reduceAdd, Ring.av, Ring.l, Try.av, Try.l];have htl := zf5 x.tries;have e0 : zeroRow (.agg #[.int .i64 0, .int .i64 0, .bool false]) 0 = [] := rfl;have htk : List.take (x.tries.length * 3) (x.tries.flatMap Try.l) = x.tries.flatMap Try.l := List.take_of_length_le (by omega);(repeat apply zaa);refine zl5 ?_;simp only [push_cast, seval];(repeat apply zaa);refine zbE [3, 6, 8] [0, 1, 2, 3, 4, 5, 6, 7, 8] [⟨0, false, [], []⟩, ⟨1, false, [], []⟩, ⟨2, false, [], []⟩, ⟨3, true, [3], []⟩, ⟨4, false, [3], [([], [])]⟩, ⟨5, false, [3], [([], [])]⟩, ⟨6, true, [3, 6], []⟩, ⟨7, false, [3, 6], []⟩, ⟨8, true, [3, 6, 8], []⟩] (fun D => H ++ ([.cells [iv x.cuts, aKeys x.keys, aLocks x.locks, bif isDone 8 D then .sl (x.tries.length + 1) (x.tries.flatMap Try.l ++ [iv t.key, iv t.lock, bv t.opens]) (.opn (H.length + 3)) else aTries x.tries] 26, .cells [iv t.key, iv t.lock, bv t.opens] 28, .cells [iv 0, .sl 0 [] .exact, .sl 0 [] .exact, .sl 0 [] .exact] 26] ++ (bif isDone 6 D then [.tail (x.tries.length + 1) 3 28] else bif isDone 3 D then [.tail x.tries.length 3 28] else []))) F.mixed (by kernel_rfl) (by kernel_rfl) (by first | rfl | simp only [push_cast, seval]) ?_;simp only [push_cast, seval, e0, zt3, p24_0, zd5, htl, htk, aTries, List.append_nil];refine ⟨by omega, by omega, ?_⟩;(repeat apply zaa);refine zl5 ?_;simp only [push_cast, seval];(repeat apply zaa);refine zai ?_;simp only [push_cast, seval];exact endA (b := (withT x t).av) hH (zhX (.cons (Wk.refl _) (.cons (Wk.refl _) (.cons (Wk.refl _) (.cons (by rw [show (withT x t).tries = x.tries ++ [t] from rfl, aTries, tries_snoc, List.length_append]; exact zaK _ _ _) .nil))))) (by rw [zfC]; trivial) hk
theorem f53_k {x : Ring} (hmain : H[0]? = some .main) (hs : x.Small) (hx : x.Ok) (h : k (.tup [iv (truthsM x []).length, iv 0]) H) : FnC true Tryz.prog 53 H [x.av] k kp :=
 f53_c zaQ hmain hs (fun e => absurd (zaN.2 ⟨zbH.2 hx, rfl⟩) e) fun _ => h
end
def subsetsM (n : Nat) : Nat → Nat → List (List Int)
 | 0, _ => [[]]
 | k + 1, first => (List.range' first (n - k - first)).flatMap fun i => (subsetsM n k (i + 1)).map ((i : Int) :: ·)
def choicesM (n : Nat) : List (List Int) := (List.range (n + 1)).flatMap fun k => subsetsM n k 0
def butM (x : Ring) (but : List Int) : Nat → List Try
 | 0 => []
 | i + 1 => butM x but i ++ (match x.tries[i]? with | some r => if but.contains (i : Int) then [] else [r] | none => [])
def withoutR (x : Ring) (but : List Int) : Ring := ⟨x.cuts, x.keys, x.locks, butM x but x.tries.length⟩
def okAll (x : Ring) (row : List Int) (ts : List Try) : Bool := ts.all (triedM x row)
open Go.Conc Go.Proofs
section
variable {lv : Bool} {H : List AObj} {k kp : AV → List AObj → Prop}
end
section
variable {lv : Bool} {H : List AObj} {k kp : AV → List AObj → Prop}
end
open Go.Conc Go.Proofs
def outJ (n kk first j : Nat) : List (List Int) := (List.range' first j).flatMap fun i => (subsetsM n kk (i + 1)).map ((i : Int) :: ·)
section
variable {lv : Bool}
end
open Go.Conc Go.Proofs
def choicesTo (n j : Nat) : List (List Int) := (List.range j).flatMap fun k => subsetsM n k 0
section
variable {lv : Bool} {H : List AObj} {k kp : AV → List AObj → Prop}
end
open Go.Conc Go.Proofs
def listsM (n : Nat) : Nat → List (List Int)
 | 0 => [[]]
 | k + 1 => (List.range n).flatMap fun i : Nat => (listsM n k).map ((i : Int) :: ·)
def listJ (n kk j : Nat) : List (List Int) := (List.range j).flatMap fun i : Nat => (listsM n kk).map ((i : Int) :: ·)
theorem zeh : ∀ n, n ≤ 4 → ∀ k, k ≤ 4 → (listsM n k).length ≤ 256 ∧ ∀ r ∈ listsM n k, r.length = k ∧ ∀ i ∈ r, 0 ≤ i ∧ i < n := by decide +kernel
section
variable {lv : Bool}
end
section
variable {lv : Bool} {H : List AObj} {k kp : AV → List AObj → Prop}
end
open Go.Conc Go.Proofs
def wearOk (x : Ring) (t : List Int) : Nat → Bool
 | 0 => true
 | k + 1 => wearOk x t k && (match x.keys[k]?, t[k]? with | some y, some w => decide (y.wear.min ≤ w) && decide (w ≤ y.wear.max) | _, _ => true)
def triesOk (x : Ring) (t : List Int) : Nat → Bool
 | 0 => true
 | i + 1 => triesOk x t i && (match x.tries[i]? with | some r => opensW x.keys t x.locks r.key r.lock == r.opens | none => true)
def fineW (x : Ring) (t : List Int) : Bool := wearOk x t x.keys.length && triesOk x t x.tries.length
def truthsL (x : Ring) : List (List Int) := (listsM 3 x.keys.length).filter (fineW x)
theorem zgv {x : Ring} {t : List Int} {k : Nat} {y : Key} {w : Int} (hy : x.keys[k]? = some y) (hw : t[k]? = some w) : wearOk x t (k + 1) = (wearOk x t k && (decide (y.wear.min ≤ w) && decide (w ≤ y.wear.max))) := by rw [wearOk, hy, hw]
theorem zf9 {x : Ring} {t : List Int} {i : Nat} {r : Try} (hr : x.tries[i]? = some r) : triesOk x t (i + 1) = (triesOk x t i && (opensW x.keys t x.locks r.key r.lock == r.opens)) := by rw [triesOk, hr]
section
variable {lv : Bool} {H : List AObj} {k kp : AV → List AObj → Prop}
end
def rowOk (ks : List Key) (r : List Int) : Bool := (ks.zip r).all fun p => decide (p.1.wear.min ≤ p.2) && decide (p.2 ≤ p.1.wear.max)
theorem zlx (y : Key) (ks : List Key) (w : Int) (r : List Int) : rowOk (y :: ks) (w :: r) = (decide (y.wear.min ≤ w) && decide (w ≤ y.wear.max) && rowOk ks r) := by simp [rowOk]
theorem zlU {lo hi : Int} (h0 : 0 ≤ lo) (h1 : lo ≤ hi) (h2 : hi ≤ 2) {β : Type} (f : Int → List β) : (rangeI lo hi).flatMap f = (List.range 3).flatMap fun i : Nat => if decide (lo ≤ (i : Int)) && decide ((i : Int) ≤ hi) then f i else [] := by
 have hr : List.range 3 = [0, 1, 2] := rfl;have hl : lo = 0 ∨ lo = 1 ∨ lo = 2 := by omega
 have hh : hi = 0 ∨ hi = 1 ∨ hi = 2 := by omega
 rw [hr];rcases hl with rfl | rfl | rfl <;> rcases hh with rfl | rfl | rfl <;> first | omega | (simp [rangeI, List.range_succ])
theorem zli : ∀ (ys : List Key) (pre : List Int) (m : Nat), (∀ y ∈ ys, y.wear.Ok 2) → growM ys pre.length (pre ++ List.replicate (m + ys.length) 0) = ((listsM 3 ys.length).filter (rowOk ys)).map fun r => pre ++ r ++ List.replicate m 0
 | [], pre, m, _ => by simp [growM, listsM, rowOk]
 | y :: ys, pre, m, h => by
  have hy := h y List.mem_cons_self;rw [growM, zlU hy.min hy.le hy.max];show _ = (((List.range 3).flatMap fun i : Nat => (listsM 3 ys.length).map ((i : Int) :: ·)).filter (rowOk (y :: ys))).map _;rw [List.filter_flatMap, List.map_flatMap];congr 1;funext i;have hset : (pre ++ List.replicate (m + (y :: ys).length) 0).set pre.length (i : Int) = (pre ++ [(i : Int)]) ++ List.replicate (m + ys.length) 0 := by
   rw [List.set_append_right _ _ (Nat.le_refl _), Nat.sub_self, List.length_cons, ← Nat.add_assoc, List.replicate_succ, List.set_cons_zero, List.append_assoc]; rfl
  have ih := zli ys (pre ++ [(i : Int)]) m fun z hz => h z (List.mem_cons_of_mem _ hz);rw [List.length_append, List.length_singleton] at ih;rw [hset, ih];cases hc : (decide (y.wear.min ≤ (i : Int)) && decide ((i : Int) ≤ y.wear.max)) with
  | true =>
   rw [if_pos rfl, List.filter_map, List.map_map];have : (rowOk (y :: ys) ∘ fun x => (i : Int) :: x) = rowOk ys := (by funext r; simp only [Function.comp]; rw [zlx, hc, Bool.true_and]);rw [this];congr 1;funext r;simp
  | false =>
   rw [if_neg (by simp), List.filter_map, List.map_map];have : (rowOk (y :: ys) ∘ fun x => (i : Int) :: x) = fun _ => false := (by funext r; simp only [Function.comp]; rw [zlx, hc, Bool.false_and]);rw [this];simp
def padR (n : Nat) (r : List Int) : List Int := r ++ List.replicate (4 - n) 0
theorem zlG {x : Ring} (hx : x.Ok) : wears0 x = ((listsM 3 x.keys.length).filter (rowOk x.keys)).map (padR x.keys.length) := by
 have h4 := hx.keys;have h := zli x.keys [] (4 - x.keys.length) fun y hy => (hx.key y hy).2.2;rw [show 4 - x.keys.length + x.keys.length = 4 by omega] at h;exact h
theorem zlw (x : Ring) (t : List Int) : ∀ k, k ≤ x.keys.length → k ≤ t.length → wearOk x t k = ((x.keys.zip t).take k).all fun p => decide (p.1.wear.min ≤ p.2) && decide (p.2 ≤ p.1.wear.max)
 | 0, _, _ => rfl
 | k + 1, h, h' => by
  obtain ⟨y, hy⟩ := zaE (xs := x.keys) (i := k) (by omega);obtain ⟨w, hw⟩ := zaE (xs := t) (i := k) (by omega);have hz : (x.keys.zip t)[k]? = some (y, w) := by rw [List.getElem?_zip_eq_some]; exact ⟨hy, hw⟩
  rw [zgv hy hw, zlw x t k (by omega) (by omega)];obtain ⟨hj, hle⟩ := List.getElem?_eq_some_iff.1 hz;rw [List.take_succ_eq_append_getElem hj, hle, List.all_append];simp
theorem zlP {x : Ring} {t : List Int} (h : t.length = x.keys.length) : wearOk x t x.keys.length = rowOk x.keys t := by
 rw [zlw x t _ (Nat.le_refl _) (by omega), List.take_of_length_le (by simp [h])]; rfl
theorem ziC (cuts : Int) (ds : List Int) (ls : List (List Band)) (j : Nat) : ∀ i, (openedM cuts ds ls i).testBit j = (decide (j < i) && (match ls[j]? with | some l => fitsM (ds.take cuts.toNat) l | none => false))
 | 0 => by simp [openedM]
 | i + 1 => by
  have ih := ziC cuts ds ls j i;have hlt := zb5 cuts ds ls i;have hhi : (openedM cuts ds ls i).testBit i = false := Nat.testBit_lt_two_pow hlt;unfold openedM;by_cases hji : j = i
  ·subst hji;cases hl : ls[j]? with
   | none => simp [hhi]
   | some l =>
    simp only;split
    ·rename_i hf; simp [Nat.testBit_or, Nat.testBit_two_pow_self, hf]
    ·rename_i hf; simp [hhi, hf]
  ·have hd : decide (j < i + 1) = decide (j < i) := (by congr 1; simp; omega);rw [hd];cases hl : ls[i]? with
   | none => exact ih
   | some l =>
    simp only;split
    ·rw [Nat.testBit_or, ih, Nat.testBit_two_pow_of_ne (Ne.symm hji), Bool.or_false]
    ·exact ih
theorem zf8 {x : Ring} (hx : x.Ok) {t : List Int} (ht : t.length = x.keys.length) (hb : ∀ w ∈ t, 0 ≤ w ∧ w ≤ 2) {k l : Nat} (hk : k < x.keys.length) (hl : l < x.locks.length) : (inTruth x (padR x.keys.length t) k).testBit l = opensW x.keys t x.locks k l := by
 obtain ⟨y, hy⟩ := zaE hk;obtain ⟨lk, hlk⟩ := zaE hl;obtain ⟨w, hw⟩ := zaE (xs := t) (i := k) (by omega);obtain ⟨hyc, hyb, hyw⟩ := hx.key y (zas hy);have hw0 := (hb w (zas hw)).1;have hc := hx.cuts;have hp : (padR x.keys.length t).getD k 0 = w := by
  unfold padR;rw [List.getD_eq_getElem?_getD, List.getElem?_append_left (by omega), hw]; rfl
 have how : opensW x.keys t x.locks k l = fitsM (wornM w y.cuts) lk := by
  unfold opensW;simp only [Int.toNat_natCast, List.getD_eq_getElem?_getD, hy, hw, hlk, Option.map_some, Option.getD_some]
 rw [how];unfold inTruth opensM;rw [hp, hy];simp only;rw [ziC, hlk];have hwn : ((w.toNat : Nat) : Int) = w := by omega
 have htk : (wornM (w.toNat : Nat) (depthsM y.cuts)).take x.cuts.toNat = wornM w y.cuts := by
  rw [hwn];unfold wornM depthsM;rw [List.take_of_length_le (show y.cuts.length ≤ 4 by omega), List.map_append, List.take_append_of_le_length (by simp; omega), List.take_of_length_le (by simp; omega)]
 rw [htk];simp [hl]
open Go.Conc Go.Proofs
def differM (x : Ring) (t keys : List Int) (p q : Nat) : Bool := keys.any fun k => opensW x.keys t x.locks k p != opensW x.keys t x.locks k q
theorem zlN {x : Ring} (hx : x.Ok) {t : List Int} (ht : t.length = x.keys.length) (hb : ∀ w ∈ t, 0 ≤ w ∧ w ≤ 2) : ∀ i, i ≤ x.tries.length → okTo x [] (padR x.keys.length t) i = triesOk x t i
 | 0, _ => rfl
 | i + 1, h => by
  obtain ⟨r, hr⟩ := zaE (xs := x.tries) (i := i) (by omega);obtain ⟨⟨hk0, hk⟩, hl0, hl⟩ := hx.tried r (zas hr);rw [okTo, zlN hx ht hb i (by omega), zf9 hr, hr];have h1 := zf8 hx ht hb (k := r.key.toNat) (l := r.lock.toNat) (by omega) (by omega);have e1 : ((r.key.toNat : Nat) : Int) = r.key := by omega
  have e2 : ((r.lock.toNat : Nat) : Int) = r.lock := by omega
  rw [e1, e2] at h1;simp only [List.contains_nil, Bool.false_or];unfold triedM;rw [← h1]; rfl
theorem zlO {α : Type} (l : List α) (p : α → Bool) : ((l.zipIdx.filter fun y => p y.1).map (·.1)) = l.filter p := by
 have h := List.filter_map (f := fun y : α × Nat => y.1) (p := p) (l := l.zipIdx);rw [List.zipIdx_map_fst] at h;exact h.symm
theorem zgX {x : Ring} (hx : x.Ok) : (truthsM x []).map (·.1) = (truthsL x).map (padR x.keys.length) := by
 unfold truthsM truthsTo;rw [zlO (wears0 x) fun r => okTo x [] r x.tries.length, zlG hx, List.filter_map, List.filter_filter];congr 1;unfold truthsL;refine List.filter_congr fun t ht => ?_;obtain ⟨h1, h2⟩ := (zeh 3 (by omega) x.keys.length hx.keys).2 t ht;have hb : ∀ w ∈ t, 0 ≤ w ∧ w ≤ 2 := fun w hw => by have := h2 w hw; omega
 simp only [Function.comp];rw [zlN hx h1 hb _ (Nat.le_refl _), fineW, zlP h1, Bool.and_comm]
theorem zlQ {x : Ring} (hx : x.Ok) : (truthsM x []).length = (truthsL x).length := by
 have := congrArg List.length (zgX hx);rwa [List.length_map, List.length_map] at this
theorem zhQ {x : Ring} (hx : x.Ok) : ∀ t ∈ truthsL x, t.length = x.keys.length ∧ ∀ w ∈ t, 0 ≤ w ∧ w ≤ 2 := fun t ht => by
 obtain ⟨h1, h2⟩ := (zeh 3 (by omega) x.keys.length hx.keys).2 t (List.mem_filter.1 ht).1;exact ⟨h1, fun w hw => by have := h2 w hw; omega⟩
section
variable {lv : Bool} {H : List AObj} {k kp : AV → List AObj → Prop}
end
open Go.Conc Go.Proofs
def pairsL (x : Ring) (t keys : List Int) (n : Nat) : Bool := (List.range n).all fun b => (List.range b).all fun a => differM x t keys b a
def tellL (x : Ring) (keys : List Int) : Bool := (truthsL x).all fun t => pairsL x t keys x.locks.length
def TellIs (x : Ring) (g : List Int) (e : Int) : Prop := (truthsM x [] ≠ [] ∧ tellM x = some g ∧ e = 0) ∨ ((truthsM x [] = [] ∨ tellM x = none) ∧ g = [] ∧ e = 11)
section
variable {H : List AObj} {k kp : AV → List AObj → Prop}
end
open Go.Conc Go.Proofs
def bagL (x : Ring) (us : List Turn) (n : Nat) : Bool := (truthsL x).any fun t => us.all fun u => opensW x.keys t x.locks u.key n == u.opens
def dueL (x : Ring) (us : List Turn) (n : Nat) : List Int := ((List.range n).filter (bagL x us)).map fun i : Nat => (i : Int)
def UsOk (x : Ring) (us : List Turn) : Prop := ∀ u ∈ us, 0 ≤ u.key ∧ u.key ≤ (x.keys.length : Int) - 1
def WhichIs (x : Ring) (us : List Turn) (g : List Int) (e : Int) : Prop := (truthsM x [] ≠ [] ∧ g = whichM x us ∧ e = 0) ∨ (truthsM x [] = [] ∧ g = [] ∧ e = 11)
theorem tinAt_at (H L : List AObj) : TinAt (fun τ => H ++ tinO τ :: L) H.length (H.length + 1 + L.length) := by
 have h := (zjT H).more L;refine ⟨fun τ => ?_, fun τ => ?_, fun τ τ' => ?_, fun m τ τ' h1 => ?_⟩
 ·have := h.len τ; simpa [Nat.add_comm, Nat.add_left_comm] using this
 ·have := h.get τ; simpa using this
 ·have := h.set τ τ'; simpa using this
 ·have := h.ok m τ τ'; simpa using this (by simpa using h1)
section
variable {H : List AObj} {k kp : AV → List AObj → Prop}
end
open Go.Conc Go.Proofs
section
variable {H : List AObj} {k kp : AV → List AObj → Prop}
end
open Go.Conc Go.Proofs
def wearsFl (x : Ring) (n : Int) : Option Int := if inM n 0 (x.keys.length - 1) then none else some 0
def metB (ts : List (List Int × Nat)) (n w : Nat) : Bool := ts.any fun y => y.1.getD n 0 == (w : Int)
def wearsTo (ts : List (List Int × Nat)) (n i : Nat) : List Int := ((List.range i).filter (metB ts n)).map fun i : Nat => (i : Int)
def wearsM (x : Ring) (n : Nat) : List Int := wearsTo (truthsM x []) n 3
section
variable {lv : Bool} {H : List AObj} {k kp : AV → List AObj → Prop}
end
open Go.Conc Go.Proofs
def metL (D : List (List Int)) (k w : Nat) : Bool := D.any fun t => t.getD k 0 == (w : Int)
def dueW (D : List (List Int)) (k i : Nat) : List Int := ((List.range i).filter (metL D k)).map fun i : Nat => (i : Int)
def someW (x : Ring) (D : List (List Int)) (k l : Nat) : Nat := (D.filter fun t => opensW x.keys t x.locks k l).length
theorem some_law {x : Ring} (hx : x.Ok) {k l : Nat} (hk : k < x.keys.length) (hl : l < x.locks.length) : cntM x k l (truthsM x []) = someW x (truthsL x) k l := by
 unfold cntM someW;have h1 : ((truthsM x []).filter fun t => (opensM x k (t.1.getD k 0).toNat).testBit l).length = (((truthsM x []).map (·.1)).filter fun r => (inTruth x r k).testBit l).length := by
  rw [List.filter_map, List.length_map]; rfl
 rw [h1, zgX hx, List.filter_map, List.length_map];congr 1;refine List.filter_congr fun t ht => ?_;obtain ⟨h1, h2⟩ := zhQ hx t ht;exact zf8 hx h1 h2 hk hl
def endE (x : Ring) : Int := if truthsL x = [] then 11 else 0
theorem zero_iff {x : Ring} (hx : x.Ok) : truthsM x [] = [] ↔ truthsL x = [] := by rw [← List.length_eq_zero_iff, zlQ hx, List.length_eq_zero_iff]
theorem opening_of {x : Ring} (hx : x.Ok) {fl : Option Int} (hf : fl = none) : openingE x fl = endE x := by
 subst hf;have h0 : openE x none = 0 := zaN.2 ⟨zbH.2 hx, rfl⟩;unfold openingE endE;rw [h0, if_neg (by simp)];by_cases h : truthsL x = []
 ·rw [if_pos h, if_pos ((zero_iff hx).2 h)]
 ·rw [if_neg h, if_neg (fun e => h ((zero_iff hx).1 e))]
section
variable {H : List AObj} {k kp : AV → List AObj → Prop}
theorem f32_k {x : Ring} {n l : Nat} (hmain : H[0]? = some .main) (hx : x.Ok) (hn : n < x.keys.length) (hl : l < x.locks.length) (h : k (.tup [iv (if truthsL x = [] then 0 else verdictM (someW x (truthsL x) n l) (truthsL x).length), iv (endE x)]) H) : FnC true Tryz.prog 32 H [x.av, iv n, iv l] k kp := by
 have hf : opensFl x n l = none := zgu.2 ⟨⟨by omega, by omega⟩, by omega, by omega⟩;have ho := opening_of hx hf;refine f32_c zaQ hmain hx.small (fun e => ?_) (fun e => ?_)
 ·rw [ho] at e ⊢;have hD : truthsL x = [] := Classical.byContradiction fun hn => e (by unfold endE; rw [if_neg hn]);rw [if_pos hD] at h;exact h
 ·rw [ho] at e;rw [Int.toNat_natCast, Int.toNat_natCast, some_law hx hn hl, zlQ hx];have hD : truthsL x ≠ [] := fun hD => by unfold endE at e; rw [if_pos hD] at e; cases e
  rw [if_neg hD, e] at h;exact h
end
open Go.Conc
structure Kept3 (X Y Z : Prop) : Type where
 n : Nat
def UG (a : AV) (want : Bool) (X Y Z : Prop) (_t : Kept3 X Y Z) : Prop := (∃ b, a = .val (.bool b) ∧ (b = want → X) ∧ (b = !want → Y)) ∨ (a = .val undef ∧ Z)
theorem ug_b {b want : Bool} {X Y Z : Prop} {t : Kept3 X Y Z} : UG (.val (.bool b)) want X Y Z t = ((b = want → X) ∧ (b = !want → Y)) := by
 unfold UG;refine propext ⟨fun h => ?_, fun h => .inl ⟨b, rfl, h⟩⟩;rcases h with ⟨b', e, h⟩ | ⟨e, _⟩
 ·cases e; exact h
 ·cases e
theorem ug_tt (X Y Z : Prop) (t : Kept3 X Y Z) : UG (.val (.bool true)) true X Y Z t = X := by rw [ug_b]; simp
theorem ug_tf (X Y Z : Prop) (t : Kept3 X Y Z) : UG (.val (.bool true)) false X Y Z t = Y := by rw [ug_b]; simp
theorem ug_ft (X Y Z : Prop) (t : Kept3 X Y Z) : UG (.val (.bool false)) true X Y Z t = Y := by rw [ug_b]; simp
theorem ug_ff (X Y Z : Prop) (t : Kept3 X Y Z) : UG (.val (.bool false)) false X Y Z t = X := by rw [ug_b]; simp
theorem ug_u (want : Bool) (X Y Z : Prop) (t : Kept3 X Y Z) : UG (.val undef) want X Y Z t = Z := by
 unfold UG;refine propext ⟨fun h => ?_, fun h => .inr ⟨rfl, h⟩⟩;rcases h with ⟨b', e, _⟩ | ⟨_, h⟩
 ·cases e
 ·exact h
section
variable (lv : Bool) (P : Program)
def UOps (all : Array Oper) : List Oper → AS → (AS → Prop) → (AV → AS → Prop) → Prop
 | [], s, next, _ => next s
 | o :: rest, s, next, bad => match o.guard with
  | none => AStep lv P s o (fun s' => UOps all rest s' next bad) bad
  | some (j, want) => one1 ((all[j]?).bind (·.dst)) fun d => one1 (look s.T d) fun a => UG a want (AStep lv P ⟨(d, .val (.bool want)) :: s.T, s.H⟩ o (fun s' => UOps all rest s' next bad) bad) (UOps all rest ((⟨(d, .val (.bool !want)) :: s.T, s.H⟩ : AS).put o.dst (.val undef)) next bad) (UOps all rest (s.put o.dst (.val undef)) next bad) ⟨0⟩
end
theorem uOps_n : type_of% @UOps.eq_1 := by intros; rw [UOps.eq_1]
theorem uOps_c : type_of% @UOps.eq_2 := by intros; rw [UOps.eq_2]
@[congr] theorem uOps_congr {lv : Bool} {P : Program} {s s' : AS} {all : Array Oper} {l : List Oper} {next : AS → Prop} {bad : AV → AS → Prop} (h : s = s') : UOps lv P all l s next bad = UOps lv P all l s' next bad := by rw [h]
attribute [push_cast] uOps_n uOps_c ug_tt ug_tf ug_ft ug_ff ug_u
section
variable {lv : Bool} {P : Program} {r : Option Nat} {s : AS}
end
open Go.Conc Go.Proofs
section
variable {lv : Bool} {H : List AObj} {k kp : AV → List AObj → Prop}
end
open Go.Conc Go.Proofs
def alS (S : Nat → Nat → Bool) : Nat → List Int × Nat
 | 0 => ([], 0)
 | b + 1 => match (List.range b).find? fun a => S a b with
  | some a => ((alS S b).1 ++ [(alS S b).1.getD a 0], (alS S b).2)
  | none => ((alS S b).1 ++ [((alS S b).2 : Int)], (alS S b).2 + 1)
def valS (S : Nat → Nat → Bool) (i : Nat) : Int := (alS S (i + 1)).1.getD i 0
def smL (x : Ring) (D : List (List Int)) (keys : List Int) (p q : Nat) : Bool := D.all fun t => !differM x t keys p q
def alkS (x : Ring) (a b : Nat) : Bool := smL x (truthsL x) (belowM x.keys.length) b a
def AlIs (x : Ring) (g : List Int) (e : Int) : Prop := (truthsL x = [] ∧ g = [] ∧ e = 11) ∨ (truthsL x ≠ [] ∧ g = (alS (alkS x) x.locks.length).1 ∧ e = 0)
open Go.Conc Go.Proofs
def allIn (n : Nat) (t : List Int) : Bool := (List.range n).all fun k : Nat => decide ((k : Int) ∈ t)
def ordersM (n : Nat) : List (List Int) := (listsM n n).filter (allIn n)
section
variable {lv : Bool} {H : List AObj} {k kp : AV → List AObj → Prop}
end
open Go.Conc Go.Proofs
section
variable {lv : Bool} {H : List AObj} {k kp : AV → List AObj → Prop}
theorem awp_thenQ {P : Program} {r : Option Nat} {s : AS} {nt : Nat} {x : Code} {K : AS → Prop} {Φ : AEx → AS → Prop} (Q : AS → Prop) (h2 : ∀ s', Q s' → K s') (h1 : AWP lv P r nt x s (AEx.then Q Φ)) : AWP lv P r nt x s (AEx.then K Φ) := h1.mono fun e s h => by
 cases e <;> first | exact h2 _ h | exact h
def AlikeQ (H : List AObj) (s : AS) : Prop := ∃ (y : Ring) (L : List AObj) (e : End), y.Ok ∧ (1 ≤ y.keys.length ∧ y.keys.length ≤ 3) ∧ L.length = 7 ∧ s.Sub ⟨[(4, .op (H.length + 7) 0)], (H ++ L) ++ [.cells [iv y.cuts, aKeys y.keys, .sl y.locks.length (y.locks.map aBands) e, aTries y.tries] 26]⟩
end
open Go.Conc Go.Proofs
theorem keys_take_suc {ks : List Key} {i : Nat} {y : Key} (h : ks[i]? = some y) : (ks.take (i + 1)).flatMap Key.l = (ks.take i).flatMap Key.l ++ y.l := by
 obtain ⟨hj, rfl⟩ := List.getElem?_eq_some_iff.1 h;rw [List.take_succ_eq_append_getElem hj, List.flatMap_append]; simp
theorem locks_take_suc {ls : List (List Band)} {i : Nat} {l : List Band} (h : ls[i]? = some l) : (ls.take (i + 1)).map aBands = (ls.take i).map aBands ++ [aBands l] := by
 obtain ⟨hj, rfl⟩ := List.getElem?_eq_some_iff.1 h;rw [List.take_succ_eq_append_getElem hj, List.map_append]; simp
def krO (N : Nat) (x : Ring) (z : AObj) (nk : Nat) (kl : List AV) (tk nl : Nat) (ll : List AV) (tl : Nat) : List AObj := [.cells x.l 26, z, .cells [iv x.cuts, .sl nk kl (.opn (N + 3)), .sl nl ll (.opn (N + 4)), aTries x.tries] 26, .tail tk 3 65, .tail tl 1 29]
section
variable {lv : Bool} {H : List AObj} {k kp : AV → List AObj → Prop}
end
open Go.Conc Go.Proofs
def addFl (x : Ring) (t : Try) : Option Int := if x.tries.length < 6 then (if inM t.key 0 (x.keys.length - 1) then (if inM t.lock 0 (x.locks.length - 1) then none else some 1) else some 0) else some 3
theorem addFl_none {x : Ring} {t : Try} : addFl x t = none ↔ x.tries.length < 6 ∧ (0 ≤ t.key ∧ t.key ≤ x.keys.length - 1) ∧ 0 ≤ t.lock ∧ t.lock ≤ x.locks.length - 1 := by
 unfold addFl;split
 ·split
  ·rename_i h1 h2;split
   ·rename_i h3; exact ⟨fun _ => ⟨h1, zbU.1 h2, zbU.1 h3⟩, fun _ => rfl⟩
   ·rename_i h3; exact ⟨fun h => by simp at h, fun h => absurd (zbU.2 h.2.2) h3⟩
  ·rename_i h1 h2; exact ⟨fun h => by simp at h, fun h => absurd (zbU.2 h.2.1) h2⟩
 ·rename_i h1; exact ⟨fun h => by simp at h, fun h => absurd h.1 h1⟩
theorem withT_add {x : Ring} {t : Try} (hx : x.Ok) (h : addFl x t = none) : (withT x t).Ok := by
 obtain ⟨h1, h2, h3⟩ := addFl_none.1 h;refine ⟨hx.cuts, hx.keys, hx.key, hx.locks, hx.lock, by show (x.tries ++ [t]).length ≤ 6; simp; omega, fun r hr => ?_⟩;rcases List.mem_append.1 hr with hr | hr
 ·exact hx.tried r hr
 ·rw [List.mem_singleton.1 hr];show (0 ≤ t.key ∧ t.key < (x.keys.length : Nat)) ∧ 0 ≤ t.lock ∧ t.lock < (x.locks.length : Nat);omega
section
variable {lv : Bool} {H : List AObj} {k kp : AV → List AObj → Prop}
theorem f142_c {r i : Nat} {x : Ring} {t : Try} (hx : x.Small) (hr : H[r]? = some (.cells x.l 26)) (hi : H[i]? = some (.cells t.l 28)) (hk : addFl x t = none → k (.tup []) H) (hp : ∀ f, addFl x t = some f → kp (.ifc 106 (iv f)) H) : FnC lv Tryz.prog 142 H [.op r 0, .op i 0] k kp := by
 refine zak (rs := []) (nt := 20) F.f142 rfl rfl rfl (by simp) fun hH hA => ?_;simp only [argsT, Nat.reduceAdd];have hl := hx.locks;have hw : IntKind.i64.wrap ((x.locks.length : Int) - 1) = x.locks.length - 1 := zau _ (by omega);have hr2 := hr;rw [Ring.l] at hr2;have hi2 := hi;rw [Try.l] at hi2;(repeat apply zaa);refine zl5 ?_;simp only [push_cast, seval, hr2, aTries];refine zl6 ((f90_c (fun h => ?_) (fun h => ?_)))
 ·have h5 : (x.tries.length : Int) < 6 := by simpa using h
  have h6 : x.tries.length < 6 := by omega
  (try simp only [push_cast, seval]);(repeat apply zaa);refine zl5 ?_;simp only [push_cast, seval, hr2, hi2];refine zl6 ((f89_c (x := x) ?_));(try simp only [push_cast, seval]);refine zl6 ((f152_c hx (by simp only [push_cast, seval] <;> rfl) (by simp only [push_cast, seval] <;> rfl) (fun hin => ?_) (fun hin => ?_)))
  ·(try simp only [push_cast, seval]);(repeat apply zaa);refine zl5 ?_;simp only [push_cast, seval, zay hi2, zay hr2, hw, aLocks];refine zl6 ((f91_c ?_));(try simp only [push_cast, seval]);refine zl6 ((f90_c (fun h => ?_) (fun h => ?_)))
   ·have h : inM t.lock 0 (x.locks.length - 1) = true := (by simpa [inM] using h);exact zaJ (Wk.refl _) rfl (Nat.le_refl _) hH (by simp [zaD]) (hk (by rw [addFl, if_pos h6, if_pos hin, if_pos h]))
   ·have h : inM t.lock 0 (x.locks.length - 1) = false := (by simpa [inM] using h);exact zaJ (Wk.refl _) rfl (Nat.le_refl _) hH (by simp [zap, zey]) (hp 1 (by rw [addFl, if_pos h6, if_pos hin, h]; rfl))
  ·exact zaJ (Wk.refl _) rfl (Nat.le_refl _) hH (by simp [zap, zey]) (hp 0 (by rw [addFl, if_pos h6, hin]; rfl))
 ·have h5 : ¬ (x.tries.length : Int) < 6 := by simpa using h
  exact zao (hp 3 (by rw [addFl, if_neg (by omega)]))
theorem ask_add {r i : Nat} {x : Ring} {t : Try} (hx : x.Small) (hr : H[r]? = some (.cells x.l 26)) (hi : H[i]? = some (.cells t.l 28)) : AskC lv H (.fn (.func 142) [] [.op r 0, .op i 0]) (addFl x t) := fun L k kp h1 h2 =>
 zad (by kernel_rfl) (f142_c hx (zay hr) (zay hi) h1 h2)
def addO (N : Nat) (x : Ring) (t : Try) (ks : List Key) (ls : List (List Band)) : List AObj := [.cells x.l 26, .cells t.l 28, .cells [iv 0, .sl 0 [] .exact, .sl 0 [] .exact, .sl 0 [] .exact] 26, .cells [iv x.cuts, .sl ks.length (ks.flatMap Key.l) (.opn (N + 4)), .sl ls.length (ls.map aBands) (.opn (N + 5)), aTries (x.tries ++ [t])] 26, .tail ks.length 3 65, .tail ls.length 1 29]
theorem addO_ok (hH : HOk H) (x : Ring) (t : Try) (ks : List Key) (ls : List (List Band)) : HOk (H ++ addO H.length x t ks ls) := fun z hz => by
 have hl : (H ++ addO H.length x t ks ls).length = H.length + 6 := by simp [addO]
 rcases List.mem_append.1 hz with hz | hz
 ·exact (hH z hz).mono (by simp)
 ·simp only [addO, List.mem_cons, List.not_mem_nil, or_false] at hz;rw [hl];rcases hz with rfl | rfl | rfl | rfl | rfl | rfl
  ·intro a ha;simp only [Ring.l, List.mem_cons, List.not_mem_nil, or_false] at ha;rcases ha with rfl | rfl | rfl | rfl
   ·exact .val _
   ·rw [zc5]; trivial
   ·rw [zci]; trivial
   ·rw [zch]; trivial
  ·intro a ha; simp [Try.l, iv, bv] at ha; rcases ha with rfl | rfl | rfl <;> exact .val _
  ·intro a ha; simp [iv] at ha; rcases ha with rfl | rfl <;> simp [zap, zbh]
  ·intro a ha;simp only [List.mem_cons, List.not_mem_nil, or_false] at ha;rcases ha with rfl | rfl | rfl | rfl
   ·exact .val _
   ·rw [lt_opnk]; omega
   ·rw [lt_opnl]; omega
   ·rw [zch]; trivial
  all_goals trivial
def noRing : AV := .agg [iv 0, .sl 0 [] .exact, .sl 0 [] .exact, .sl 0 [] .exact]
theorem f73_c {x : Ring} {t : Try} (hnr : NewRingC lv) (hmain : H[0]? = some .main) (hs : x.Small) (h1 : openE x (addFl x t) ≠ 0 → k (.tup [noRing, iv (openE x (addFl x t))]) H) (h2 : openE x (addFl x t) = 0 → truthsM x [] ≠ [] → truthsM (withT x t) [] = [] → k (.tup [noRing, iv 9]) H) (h3 : openE x (addFl x t) = 0 → (truthsM x [] = [] ∨ truthsM (withT x t) [] ≠ []) → k (.tup [(withT x t).av, iv 0]) H) : FnC lv Tryz.prog 73 H [x.av, t.av] k kp := by
 have hmn : ∀ L : List AObj, (H ++ L)[0]? = some .main := fun L => zay hmain;refine zak (rs := [.cell 4 26, .tmp 5]) (nt := 85) F.f73 rfl rfl rfl (by simp) fun hH hA => ?_;simp only [argsT, Nat.reduceAdd, Ring.av, Try.av];have h11 : H.length + 1 + 1 = H.length + 2 := rfl;(repeat apply zaa);refine zl5 ?_;simp only [push_cast, seval, Ring.l, Try.l, h11];(repeat apply zaa);refine zl5 ?_;simp only [push_cast, seval, List.mapM_cons, List.mapM_nil, Option.pure_def, Option.bind_eq_bind];have hask : AskC lv (H ++ [.cells x.l 26, .cells t.l 28, .cells [iv 0, .sl 0 [] .exact, .sl 0 [] .exact, .sl 0 [] .exact] 26]) _ (addFl x t) := ask_add (r := H.length) (i := H.length + 1) hs (by simp only [push_cast, seval]) (by simp only [push_cast, seval]);refine zl6 ((f87_c hnr (hmn _) hs hask (fun hz => ?_) (fun hz => ?_)))
 ·(try simp only [push_cast, seval]);(repeat apply zaa);refine zl5 ?_;simp only [push_cast, seval];(repeat apply zaa);refine zae ?_;simp only [push_cast, seval];refine ⟨fun h => ?_, fun h => absurd (by simpa using h) hz⟩;(repeat apply zaa);refine zl5 ?_;simp only [push_cast, seval];(repeat apply zaa);refine zai ?_;simp only [push_cast, seval];exact endA (b := .tup [noRing, iv (openE x (addFl x t))]) hH (Wk.refl _) (by simp [noRing, zap, zaD, zfa, zbh]) (h1 hz)
 ·(try simp only [push_cast, seval]);(repeat apply zaa);refine zl5 ?_;simp only [push_cast, seval];have h2 := h2 hz;have h3 := h3 hz;have hx := zbp hz;have hfl := (zaN.1 hz).2;(repeat apply zaa);refine zae ?_;simp only [push_cast, seval];(repeat apply zaa);refine zah ?_;simp only [push_cast, seval];have htr := hx.tries;have htln := zf5 x.tries;have hnn : (0 ≤ (x.tries.length : Int)) = True := by simp
  have htk : (x.tries.flatMap Try.l).take (x.tries.length * 3) = x.tries.flatMap Try.l := List.take_of_length_le (by omega);(repeat apply zaa);refine zbE [15, 16] [0, 1, 2, 3, 4, 5, 6, 7, 8, 9, 10, 11, 12, 13, 14, 15, 16] [⟨0, false, [], [([15], [15])]⟩, ⟨1, false, [], [([15], [15])]⟩, ⟨2, false, [], [([15], [15])]⟩, ⟨3, false, [], [([15], [15])]⟩, ⟨4, false, [], [([15], [15])]⟩, ⟨5, false, [], [([15], [15])]⟩, ⟨6, false, [], [([15], [15])]⟩, ⟨7, false, [], [([15], [15])]⟩, ⟨8, false, [], [([15], [15])]⟩, ⟨9, false, [], [([15], [15])]⟩, ⟨10, false, [], [([15], [15])]⟩, ⟨11, false, [], [([15], [15])]⟩, ⟨12, false, [], [([15], [15])]⟩, ⟨13, false, [], [([15], [15])]⟩, ⟨14, false, [], [([15], [15])]⟩, ⟨15, true, [15], []⟩, ⟨16, true, [15, 16], []⟩] (fun D => H ++ (.cells [iv x.cuts, aKeys x.keys, aLocks x.locks, aTries x.tries] 26 :: .cells [iv t.key, iv t.lock, bv t.opens] 28 :: .cells [iv 0, .sl 0 [] .exact, .sl 0 [] .exact, .sl 0 [] .exact] 26 :: (bif isDone 16 D then [.cells [iv x.cuts, .sl 0 [] .exact, .sl 0 [] .exact, .sl (x.tries.length + 1) (x.tries.flatMap Try.l ++ [iv t.key, iv t.lock, bv t.opens]) .shut] 26] else bif isDone 15 D then [.cells [iv 0, .sl 0 [] .exact, .sl 0 [] .exact, .sl 0 [] .exact] 26] else []))) F.mixed (by kernel_rfl) (by kernel_rfl) (by first | rfl | simp only [push_cast, seval]) ?_;simp only [push_cast, seval, htln, aTries, zt3, zd5, Bool.true_and, beq_self_eq_true, hnn, htk];refine ⟨by omega, by omega, ?_⟩;have hat : aTries (x.tries ++ [t]) = .sl (x.tries.length + 1) (x.tries.flatMap Try.l ++ [iv t.key, iv t.lock, bv t.opens]) .shut := by
   unfold aTries;rw [List.flatMap_append, List.length_append]; rfl
  have hat2 : aTries x.tries = .sl x.tries.length (x.tries.flatMap Try.l) .shut := rfl
  (repeat apply zaa); refine zdw (id := H.length + 3) (j := 1) (sz := 3) (el' := 65) (by simp only [push_cast, seval] <;> rfl) rfl ?_
  try simp only [push_cast, seval]
  (repeat apply zaa); refine zdw (id := H.length + 3) (j := 2) (sz := 1) (el' := 29) (by simp only [push_cast, seval] <;> rfl) rfl ?_
  (try simp only [push_cast, seval]);have hks := hx.keys;have hls := hx.locks;have w1 : ∀ i : Nat, i ≤ 2 ^ 31 → IntKind.i64.wrap ((i : Int) + 1) = i + 1 := fun i _ => zau _ (by omega);(repeat apply zaa);refine zl5 ?_;simp only [push_cast, seval, aKeys];(repeat apply zaa);refine zag ?_;refine zaB x.keys.length (fun i : Nat => [(41, iv i)]) (fun i => H ++ addO H.length x t (x.keys.take i) []) (fun _ => True) (fun _ _ => rfl) (by simp only [push_cast, seval, List.forall_mem_cons, List.not_mem_nil, false_imp_iff, implies_true, List.forall_mem_nil]; simp [zaf, Wk.refl]) (by simp only [addO, hat]; rfl) (fun _ _ _ => by simp [addO]) trivial (fun hHs hLt i hin hi R hR => ?_);clear hHs hLt;have hti : (x.keys.take i).length = i := by rw [List.length_take]; omega
  (repeat apply zaa);refine zl5 ?_;simp only [push_cast, seval, addO, Ring.l, Try.l, hti];(repeat apply zaa);refine zae ?_;simp only [push_cast, seval];refine ⟨fun h => ?_, fun h => ?_⟩
  ·have hil : i < x.keys.length := (by omega);obtain ⟨y, hy⟩ := zaE hil;have hyc := hs.cuts y (zas hy);have hwi := w1 i (by omega);have hkl : ((x.keys.take i).flatMap Key.l).length = i * 3 := (by rw [keys_len, hti]);have hti2 : (x.keys.take (i + 1)).length = i + 1 := (by rw [List.length_take]; omega);have hsu := keys_take_suc hy;(repeat apply zaa);refine zah ?_;simp only [push_cast, seval];(repeat apply zaa);refine zag ?_;(repeat apply zaa);refine zl5 ?_;simp only [push_cast, seval, zc2 hy, zaz hil, aInts];(repeat apply zaa);refine zaT F.mixed 9 (by kernel_rfl) ?_;simp only [push_cast, seval, hkl, zk3, zd5];refine qCall (aInts y.cuts) (zad (by kernel_rfl) (f94_c (xs := y.cuts) (by omega) ⟨rfl, rfl⟩)) ?_;(try simp only [push_cast, seval, hkl, zk3, zd5, aInts]);refine ⟨by omega, ?_⟩;(repeat apply zaa);refine zl5 ?_;simp only [push_cast, seval, hwi];refine hR _ ⟨hil, trivial, ?_⟩;refine zce [.cells [aInts y.cuts, iv y.wear.min, iv y.wear.max] 65] (zam rfl rfl) (by simp only [push_cast, seval]; simp [zaf, Wk.refl]) (addO_ok hH _ _ _ _) (by simp only [List.forall_mem_cons, zap, iv]; simp) (by simp [addO, hsu, hti2, Key.l, aInts, Ring.l, Try.l, aKeys, hat, hat2])
  ·have hix : i = x.keys.length := (by omega);subst hix;clear hR;rw [List.take_length];(repeat apply zaa);refine zaq ?_;simp only [push_cast, seval];(repeat apply zaa);refine zl5 ?_;simp only [push_cast, seval, aLocks];(repeat apply zaa);refine zag ?_;refine zaB x.locks.length (fun i : Nat => [(60, iv i)]) (fun i => H ++ addO H.length x t x.keys (x.locks.take i)) (fun _ => True) (fun _ _ => rfl) (by simp only [push_cast, seval, List.forall_mem_cons, List.not_mem_nil, false_imp_iff, implies_true, List.forall_mem_nil]; simp [zaf, Wk.refl]) rfl (fun _ _ _ => by simp [addO]) trivial (fun hHs hLt i hin hi R hR => ?_);clear hHs hLt;have hti : (x.locks.take i).length = i := (by rw [List.length_take]; omega);(repeat apply zaa);refine zl5 ?_;simp only [push_cast, seval, addO, Ring.l, Try.l, hti];(repeat apply zaa);refine zae ?_;simp only [push_cast, seval];refine ⟨fun h => ?_, fun h => ?_⟩
   ·have hil : i < x.locks.length := (by omega);obtain ⟨l, hl⟩ := zaE hil;have hlb := hs.bands l (zas hl);have hwi := w1 i (by omega);have hml : ((x.locks.take i).map aBands).length = i := (by rw [List.length_map, hti]);have hti2 : (x.locks.take (i + 1)).length = i + 1 := (by rw [List.length_take]; omega);have hzs1 : zeroRow (Value.slice none 0 0) 1 = [.sl 0 [] .exact] := rfl;have hsu := locks_take_suc hl;(repeat apply zaa);refine zah ?_;simp only [push_cast, seval];(repeat apply zaa);refine zag ?_;(repeat apply zaa);refine zl5 ?_;simp only [push_cast, seval, zfu hl, zaz hil];(repeat apply zaa);refine zaT F.mixed 5 (by kernel_rfl) ?_;simp only [push_cast, seval, hml, hzs1, zhq];refine qCall (aBands l) (zad (by kernel_rfl) (f143_c (xs := l) (by omega) ⟨rfl, rfl⟩)) ?_;(try simp only [push_cast, seval, hml, hzs1, zhq, zfd, zho]);refine ⟨by omega, ?_⟩;(repeat apply zaa);refine zl5 ?_;simp only [push_cast, seval, hwi];refine hR _ ⟨hil, trivial, ?_⟩;rw [addO, hsu, hti2];exact (zax (zam rfl rfl) (by simp only [push_cast, seval]; simp [zaf, Wk.refl]))
   ·have hix : i = x.locks.length := (by omega);subst hix;clear hR;rw [List.take_length];(repeat apply zaa);refine zaq ?_;simp only [push_cast, seval]
    (repeat apply zaa); refine awp_wkO (id := H.length + 3) (j := 1) (y := aKeys x.keys) (by simp only [push_cast, seval, addO] <;> rfl) rfl (zaK _ _ _) ?_
    simp only [push_cast, seval, addO]
    (repeat apply zaa); refine awp_wkO (id := H.length + 3) (j := 2) (y := aLocks x.locks) (by simp only [push_cast, seval] <;> rfl) rfl (zaK _ _ _) ?_
    simp only [push_cast, seval];have hy := withT_add hx hfl;by_cases hD : truthsM x [] = []
    ·have hsz : ((List.map setEntry (truthsM x [])).toArray.size : Int) = 0 := (by rw [hD]; rfl);(repeat apply zaa);refine zl5 ?_;simp only [push_cast, seval];refine zl6 ((f129_c (but := []) (e := .exact) hx (by decide) ?_));(try simp only [push_cast, seval, zaL, hsz, decide_false]);(repeat apply zaa);refine zae ?_;simp only [push_cast, seval];(repeat apply zaa);refine zah ?_;simp only [push_cast, seval];(repeat apply zaa);refine zl5 ?_;simp only [push_cast, seval];(repeat apply zaa);refine zai ?_;simp only [push_cast, seval];exact endA (b := .tup [(withT x t).av, iv 0]) hH (Wk.refl _) (by simp [zaD, zfC, zap]) (h3 (.inl hD))
    ·have hpos : 0 < (truthsM x []).length := List.length_pos_iff.2 hD;have hsz : decide (((List.map setEntry (truthsM x [])).toArray.size : Int) > 0) = true := decide_eq_true (by simp; omega);(repeat apply zaa);refine zl5 ?_;simp only [push_cast, seval];refine zl6 ((f129_c (but := []) (e := .exact) hx (by decide) ?_));(try simp only [push_cast, seval, zaL, hsz]);refine zl6 ((hnr (withT x t) _ _ _ (hmn _) (zbH.2 hy) hy.small ?_));(try simp only [push_cast, seval]);refine zl6 ((f129_c (x := withT x t) (but := []) (e := .exact) hy (by decide) ?_));by_cases hE : truthsM (withT x t) [] = []
     ·have hsz2 : ((List.map setEntry (truthsM (withT x t) [])).toArray.size : Int) = 0 := (by rw [hE]; rfl);(try simp only [push_cast, seval, zaL, hsz2, beq_self_eq_true]);(repeat apply zaa);refine zae ?_;simp only [push_cast, seval];(repeat apply zaa);refine zl5 ?_;simp only [push_cast, seval];(repeat apply zaa);refine zai ?_;simp only [push_cast, seval];exact endA (b := .tup [noRing, iv 9]) hH (Wk.refl _) (by simp [noRing, zap, zaD, zfa, zbh]) (h2 hD hE)
     ·have hpos2 : 0 < (truthsM (withT x t) []).length := List.length_pos_iff.2 hE;have hsz2 : (((List.map setEntry (truthsM (withT x t) [])).toArray.size : Int) == 0) = false := (by simp; exact hE);(try simp only [push_cast, seval, zaL, hsz2]);(repeat apply zaa);refine zae ?_;simp only [push_cast, seval];(repeat apply zaa);refine zah ?_;simp only [push_cast, seval];(repeat apply zaa);refine zl5 ?_;simp only [push_cast, seval];(repeat apply zaa);refine zai ?_;simp only [push_cast, seval];exact endA (b := .tup [(withT x t).av, iv 0]) hH (Wk.refl _) (by simp [zaD, zfC, zap]) (h3 (.inr hE))
end
open Go.Conc Go.Proofs
theorem triesOk_take {x y : Ring} {t : List Int} (hk : y.keys = x.keys) (hl : y.locks = x.locks) : ∀ n, (∀ i < n, y.tries[i]? = x.tries[i]?) → triesOk y t n = triesOk x t n
 | 0, _ => rfl
 | n + 1, h => by
  unfold triesOk;rw [triesOk_take hk hl n fun i hi => h i (by omega), h n (by omega), hk, hl]
theorem fine_less {x : Ring} {r : Try} {t : List Int} (h : fineW (withT x r) t = true) : fineW x t = true := by
 unfold fineW at h ⊢;rw [Bool.and_eq_true] at h ⊢;refine ⟨?_, ?_⟩
 ·rw [← h.1];have : ∀ n, wearOk x t n = wearOk (withT x r) t n := fun n => by
   induction n with
   | zero => rfl
   | succ n ih => unfold wearOk; rw [ih]; rfl
  exact this _
 ·have hlen : (withT x r).tries.length = x.tries.length + 1 := by simp [withT]
  have h2 := h.2;rw [hlen] at h2;unfold triesOk at h2;rw [Bool.and_eq_true] at h2;rw [← h2.1];exact (triesOk_take (x := x) (y := withT x r) rfl rfl _ fun i hi => by
   show (x.tries ++ [r])[i]? = _;rw [List.getElem?_append_left hi]).symm
theorem truths_less {x : Ring} {r : Try} {t : List Int} (h : t ∈ truthsL (withT x r)) : t ∈ truthsL x := by
 obtain ⟨h1, h2⟩ := List.mem_filter.1 h;exact List.mem_filter.2 ⟨h1, fine_less h2⟩
theorem filter_le {α : Type} {p q : α → Bool} (h : ∀ a, p a = true → q a = true) : ∀ l : List α, (l.filter p).length ≤ (l.filter q).length
 | [] => Nat.le_refl _
 | a :: l => by
  have ih := filter_le h l;cases hp : p a with
  | true => simp [hp, h a hp]; exact ih
  | false =>
   cases hq : q a with
   | true => simp [hp, hq]; omega
   | false => simp [hp, hq]; exact ih
theorem truths_fewer (x : Ring) (r : Try) : (truthsL (withT x r)).length ≤ (truthsL x).length := filter_le (fun _ h => fine_less h) _
theorem sure_stays {x : Ring} {r : Try} {k l : Nat} (hD : truthsL (withT x r) ≠ []) (hv : verdictM (someW x (truthsL x) k l) (truthsL x).length ≠ 3) : verdictM (someW (withT x r) (truthsL (withT x r)) k l) (truthsL (withT x r)).length = verdictM (someW x (truthsL x) k l) (truthsL x).length := by
 have hpos : 0 < (truthsL (withT x r)).length := List.length_pos_iff.2 hD;have hf : ∀ D, someW (withT x r) D k l = (D.filter fun t => opensW x.keys t x.locks k l).length := fun _ => rfl;by_cases h0 : someW x (truthsL x) k l = 0
 ·have : someW (withT x r) (truthsL (withT x r)) k l = 0 := by
   rw [hf, List.length_eq_zero_iff, List.filter_eq_nil_iff];intro t ht;have h1 := List.length_eq_zero_iff.1 h0;exact (List.filter_eq_nil_iff.1 h1) t (truths_less ht)
  unfold verdictM;rw [if_pos this, if_pos h0]
 ·by_cases h1 : someW x (truthsL x) k l = (truthsL x).length
  ·have : someW (withT x r) (truthsL (withT x r)) k l = (truthsL (withT x r)).length := by
    rw [hf, List.length_filter_eq_length_iff];intro t ht;exact (List.length_filter_eq_length_iff.1 h1) t (truths_less ht)
   unfold verdictM;rw [this, if_neg (by omega), if_pos rfl, if_neg h0, if_pos h1]
  ·exact absurd (by unfold verdictM; rw [if_neg h0, if_neg h1]) hv
def AddIs (x : Ring) (r : Try) (a : AV) (e : Int) : Prop := (truthsL x ≠ [] ∧ truthsL (withT x r) = [] ∧ a = noRing ∧ e = 9) ∨ ((truthsL x = [] ∨ truthsL (withT x r) ≠ []) ∧ a = (withT x r).av ∧ e = 0)
section
variable {H : List AObj} {k kp : AV → List AObj → Prop}
theorem f73_k {x : Ring} {r : Try} (hmain : H[0]? = some .main) (hx : x.Ok) (hr : addFl x r = none) (h : ∀ a e, AddIs x r a e → k (.tup [a, iv e]) H) : FnC true Tryz.prog 73 H [x.av, r.av] k kp := by
 have hy := withT_add hx hr;have hz : openE x (addFl x r) = 0 := zaN.2 ⟨zbH.2 hx, hr⟩;have z1 := zero_iff hx;have z2 := zero_iff hy;refine f73_c zaQ hmain hx.small (fun e => absurd hz e) (fun _ h1 h2 => ?_) (fun _ h1 => ?_)
 ·exact h noRing 9 (.inl ⟨fun e => h1 (z1.2 e), z2.1 h2, rfl, rfl⟩)
 ·exact h _ 0 (.inr ⟨h1.imp z1.1 fun h e => h (z2.2 e), rfl, rfl⟩)
end
open Go.Conc Go.Proofs
def eqShape (P : Program) (fs : Array Field) (ks : List Bool) : Bool := fs.toList.all fun f => match P.underlying f.type, ks[f.offset]? with
 | some (.int _), some true => true
 | some .bool, some false => true
 | _, _ => false
theorem sure_allT {P : Program} {ι : Type} {body : ι → Option Bool × Unit → Sem (ForInStep (Option Bool × Unit))} (l : List ι) (h : ∀ i ∈ l, Sure P (body i (none, ())) (.yield (none, ()))) : Sure P (forIn l (none, ()) body) (none, ()) := by
 have := zh1 (P := P) (p := fun _ => true) l (by simpa using h);simpa using this
theorem sure_structSame {P : Program} {t : TypeId} {fs : Array Field} {xs : Array Value} {ks : List Bool} {d : Nat} (ht : P.underlying t = some (.struct fs)) (hp : P.stoodInHeld t = false) (hs : eqShape P fs ks = true) (h1 : ∀ i : Nat, ks[i]? = some true → ∃ k z, xs[i]? = some (.int k z)) (h2 : ∀ i : Nat, ks[i]? = some false → ∃ b, xs[i]? = some (.bool b)) : Sure P (Op.equalIn (d + 2) t (.agg xs) (.agg xs)) true := by
 rw [Op.equalIn];refine zaR ht ?_;dsimp only;refine zgd ?_;rw [hp];simp only [Bool.false_eq_true, if_false];rw [← Array.forIn_toList];refine za0 (a := (none, ())) (sure_allT _ fun f hf => ?_) (zaH _);have hsf := (List.all_eq_true.1 hs) f hf;split
 ·split at hsf
  ·rename_i k hu hk;obtain ⟨j, z, hv⟩ := h1 _ hk;refine zej hu rfl hv (zej hu rfl hv (za0 (sure_int hu) ?_));simp only [beq_self_eq_true, Bool.not_true, Bool.false_eq_true, if_false];exact zaH _
  ·rename_i hu hk;obtain ⟨b, hv⟩ := h2 _ hk;refine zej hu rfl hv (zej hu rfl hv (za0 (zjZ hu) ?_));simp only [beq_self_eq_true, Bool.not_true, Bool.false_eq_true, if_false];exact zaH _
  ·cases hsf
 ·exact zaH _
def structOk (P : Program) (t : TypeId) (ks : List Bool) : Bool := match P.underlying t with
 | some (.struct fs) => eqShape P fs ks && !P.stoodInHeld t
 | _ => false
theorem sure_structOk {P : Program} {t : TypeId} {xs : Array Value} {ks : List Bool} {d : Nat} (h : structOk P t ks = true) (h1 : ∀ i : Nat, ks[i]? = some true → ∃ k z, xs[i]? = some (.int k z)) (h2 : ∀ i : Nat, ks[i]? = some false → ∃ b, xs[i]? = some (.bool b)) : Sure P (Op.equalIn (d + 2) t (.agg xs) (.agg xs)) true := by
 unfold structOk at h;split at h
 ·rename_i fs hu;rw [Bool.and_eq_true, Bool.not_eq_true'] at h;exact sure_structSame hu h.2 h.1 h1 h2
 ·cases h
theorem F.sh63 : structOk Tryz.prog 63 [true, true] = true := by kernel_rfl
theorem F.sh28 : structOk Tryz.prog 28 [true, true, false] = true := by kernel_rfl
theorem F.g63 : Tryz.prog.eqGuardType Tryz.prog.depth 63 = false := by kernel_rfl
theorem F.g28 : Tryz.prog.eqGuardType Tryz.prog.depth 28 = false := by kernel_rfl
theorem sure63 (a b : Int) : Sure Tryz.prog (Op.equal 63 (.agg #[.int .i64 a, .int .i64 b]) (.agg #[.int .i64 a, .int .i64 b])) true :=
 sure_structOk (d := 9998) F.sh63 (fun i h => match i, h with
  | 0, _ => ⟨_, _, rfl⟩
  | 1, _ => ⟨_, _, rfl⟩
  | _ + 2, h => by cases h) (fun i h => match i, h with
  | 0, h => by cases h
  | 1, h => by cases h
  | _ + 2, h => by cases h)
theorem sure28 (a b : Int) (c : Bool) : Sure Tryz.prog (Op.equal 28 (.agg #[.int .i64 a, .int .i64 b, .bool c]) (.agg #[.int .i64 a, .int .i64 b, .bool c])) true :=
 sure_structOk (d := 9998) F.sh28 (fun i h => match i, h with
  | 0, _ => ⟨_, _, rfl⟩
  | 1, _ => ⟨_, _, rfl⟩
  | 2, h => by cases h
  | _ + 3, h => by cases h) (fun i h => match i, h with
  | 0, h => by cases h
  | 1, h => by cases h
  | 2, _ => ⟨_, rfl⟩
  | _ + 3, h => by cases h)
theorem abin_same {t : TypeId} {l : List AV} {V : Value} (hr : AV.raw (.agg l) = some V) (hk : eqKind V V = true) (hg : Tryz.prog.eqGuardType Tryz.prog.depth t = false) (hs : Sure Tryz.prog (Op.equal t V V) true) (k : AV → Prop) : ABin Tryz.prog .neq t (.agg l) (.agg l) k = k (bv false) := by
 have e : ABin Tryz.prog .neq t (.agg l) (.agg l) k = ((BinOp.neq = .eql ∨ BinOp.neq = .neq) ∧ one1 (AV.raw (.agg l)) fun X => one1 (AV.raw (.agg l)) fun Y => eqKind X Y = true ∧ Tryz.prog.eqGuardType Tryz.prog.depth t = false ∧ ∃ e, Sure Tryz.prog (Op.equal t X Y) e ∧ k (.val (.bool (if BinOp.neq == .neq then !e else e)))) := rfl;rw [e, hr, zet, zet];apply propext;constructor
 ·rintro ⟨_, _, _, b, h1, h2⟩
  have := hs.uniq h1;subst this;exact h2
 ·intro h;exact ⟨.inr rfl, hk, hg, true, hs, h⟩
theorem B63.same (a b : Int) (k : AV → Prop) : ABin Tryz.prog .neq 63 (.agg [.val (.int .i64 a), .val (.int .i64 b)]) (.agg [.val (.int .i64 a), .val (.int .i64 b)]) k = k (.val (.bool false)) := abin_same (V := .agg #[.int .i64 a, .int .i64 b]) rfl rfl F.g63 (sure63 a b) k
theorem B28.same (a b : Int) (c : Bool) (k : AV → Prop) : ABin Tryz.prog .neq 28 (.agg [.val (.int .i64 a), .val (.int .i64 b), .val (.bool c)]) (.agg [.val (.int .i64 a), .val (.int .i64 b), .val (.bool c)]) k = k (.val (.bool false)) := abin_same (V := .agg #[.int .i64 a, .int .i64 b, .bool c]) rfl rfl F.g28 (sure28 a b c) k
attribute [push_cast] B63.same B28.same
section
variable {lv : Bool} {H : List AObj} {k kp : AV → List AObj → Prop}
theorem f111_same {xs : List Band} {e e' : End} (hl : xs.length < 2 ^ 30) (hk : k (bv true) H) : FnC lv Tryz.prog 111 H [.sl xs.length (xs.flatMap Band.l) e, .sl xs.length (xs.flatMap Band.l) e'] k kp := by
 refine zak (rs := [.tmp 4]) (nt := 26) F.f111 rfl rfl rfl (by simp) fun hH hA => ?_;simp only [argsT, Nat.reduceAdd];(repeat apply zaa);refine zl5 ?_;simp only [push_cast, seval];(repeat apply zaa);refine zl5 ?_;simp only [push_cast, seval, bne_self_eq_false];(repeat apply zaa);refine zae ?_;simp only [push_cast, seval];(repeat apply zaa);refine zah ?_;simp only [push_cast, seval];(repeat apply zaa);refine zl5 ?_;simp only [push_cast, seval];(repeat apply zaa);refine zag ?_;refine zaB xs.length (fun i : Nat => [(5, iv i)]) (fun _ => _) (fun _ => True) (fun _ _ => rfl) (by simp only [push_cast, seval, List.forall_mem_cons, List.not_mem_nil, false_imp_iff, implies_true, List.forall_mem_nil]; simp [zaf, Wk.refl]) rfl (fun _ _ _ => rfl) trivial (fun hHs hLt i hin hi R hR => ?_);(repeat apply zaa);refine zl5 ?_;simp only [push_cast, seval];(repeat apply zaa);refine zae ?_;simp only [push_cast, seval];refine ⟨fun h => ?_, fun h => ?_⟩
 ·have hil : i < xs.length := by omega
  obtain ⟨y, hy⟩ := zaE hil;have hw : IntKind.i64.wrap ((i : Int) + 1) = i + 1 := zau _ (by omega);(repeat apply zaa);refine zah ?_;simp only [push_cast, seval];(repeat apply zaa);refine zag ?_;(repeat apply zaa);refine zaT F.mixed 8 (by kernel_rfl) ?_;simp only [push_cast, seval, zdh hy, zaz hil];(repeat apply zaa);refine zae ?_;simp only [push_cast, seval];(repeat apply zaa);refine zah ?_;simp only [push_cast, seval];(repeat apply zaa);refine zl5 ?_;simp only [push_cast, seval, hw];refine hR _ ⟨hil, trivial, (zax (zam rfl rfl) (by simp only [push_cast, seval]; simp [zaf, Wk.refl]))⟩
 ·clear hR;(repeat apply zaa);refine zaq ?_;simp only [push_cast, seval];(repeat apply zaa);refine zl5 ?_;simp only [push_cast, seval];(repeat apply zaa);refine zai ?_;simp only [push_cast, seval];exact zao hk
theorem f37_same {x : Ring} (hs : x.Small) (hk : k (bv true) H) : FnC lv Tryz.prog 37 H [x.av, x.av] k kp := by
 refine zak (rs := [.tmp 4]) (nt := 113) F.f37 rfl rfl rfl (by simp) fun hH hA => ?_;simp only [argsT, Nat.reduceAdd, Ring.av];have hs1 := hs.keys;have hs2 := hs.locks;have hs3 := hs.tries;(repeat apply zaa);refine zl5 ?_;simp only [push_cast, seval, Ring.l];(repeat apply zaa);refine zl5 ?_;simp only [push_cast, seval, bne_self_eq_false, aKeys, aLocks, aTries];(repeat apply zaa);refine zae ?_;simp only [push_cast, seval];(repeat apply zaa);refine zah ?_;simp only [push_cast, seval];(repeat apply zaa);refine zl5 ?_;simp only [push_cast, seval];(repeat apply zaa);refine zag ?_;refine zaB x.keys.length (fun i : Nat => [(5, iv i)]) (fun _ => _) (fun _ => True) (fun _ _ => rfl) (by simp only [push_cast, seval, List.forall_mem_cons, List.not_mem_nil, false_imp_iff, implies_true, List.forall_mem_nil]; simp [zaf, Wk.refl]) rfl (fun _ _ _ => rfl) trivial (fun hHs hLt i hin hi R hR => ?_);clear hHs hLt;(repeat apply zaa);refine zl5 ?_;simp only [push_cast, seval, aKeys];(repeat apply zaa);refine zae ?_;simp only [push_cast, seval];refine ⟨fun h => ?_, fun h => ?_⟩
 ·have hil : i < x.keys.length := by omega
  obtain ⟨y, hy⟩ := zaE hil;have hyc := hs.cuts y (zas hy);have hw : IntKind.i64.wrap ((i : Int) + 1) = i + 1 := zau _ (by omega);(repeat apply zaa);refine zah ?_;simp only [push_cast, seval];(repeat apply zaa);refine zag ?_;(repeat apply zaa);refine zaT F.mixed 27 (by kernel_rfl) ?_;simp only [push_cast, seval, zc2 hy, zaz hil, aKeys, aInts];refine qCall (bv true) (zad (by kernel_rfl) (f34_same (xs := y.cuts) (by omega) ⟨rfl, rfl⟩)) ?_;(try simp only [push_cast, seval, zc2 hy, zaz hil, aKeys, aInts]);(repeat apply zaa);refine zae ?_;simp only [push_cast, seval];(repeat apply zaa);refine zah ?_;simp only [push_cast, seval];(repeat apply zaa);refine zl5 ?_;simp only [push_cast, seval, hw];refine hR _ ⟨hil, trivial, (zax (zam rfl rfl) (by simp only [push_cast, seval]; simp [zaf, Wk.refl]))⟩
 ·clear hR;(repeat apply zaa);refine zaq ?_;simp only [push_cast, seval];(repeat apply zaa);refine zl5 ?_;simp only [push_cast, seval];(repeat apply zaa);refine zag ?_;refine zaB x.locks.length (fun i : Nat => [(6, iv i)]) (fun _ => _) (fun _ => True) (fun _ _ => rfl) (by simp only [push_cast, seval, List.forall_mem_cons, List.not_mem_nil, false_imp_iff, implies_true, List.forall_mem_nil]; simp [zaf, Wk.refl]) rfl (fun _ _ _ => rfl) trivial (fun hHs hLt i hin hi R hR => ?_);clear hHs hLt;(repeat apply zaa);refine zl5 ?_;simp only [push_cast, seval, aLocks];(repeat apply zaa);refine zae ?_;simp only [push_cast, seval];refine ⟨fun h => ?_, fun h => ?_⟩
  ·have hil : i < x.locks.length := (by omega);obtain ⟨y, hy⟩ := zaE hil;have hyc := hs.bands y (zas hy);have hw : IntKind.i64.wrap ((i : Int) + 1) = i + 1 := zau _ (by omega);(repeat apply zaa);refine zah ?_;simp only [push_cast, seval];(repeat apply zaa);refine zag ?_;(repeat apply zaa);refine zaT F.mixed 10 (by kernel_rfl) ?_;simp only [push_cast, seval, zfu hy, zaz hil, aLocks];refine zl6 ((f111_same (xs := y) (by omega) ?_));(try simp only [push_cast, seval]);(repeat apply zaa);refine zae ?_;simp only [push_cast, seval];(repeat apply zaa);refine zah ?_;simp only [push_cast, seval];(repeat apply zaa);refine zl5 ?_;simp only [push_cast, seval, hw];refine hR _ ⟨hil, trivial, (zax (zam rfl rfl) (by simp only [push_cast, seval]; simp [zaf, Wk.refl]))⟩
  ·clear hR;(repeat apply zaa);refine zaq ?_;simp only [push_cast, seval];(repeat apply zaa);refine zl5 ?_;simp only [push_cast, seval];(repeat apply zaa);refine zag ?_;refine zaB x.tries.length (fun i : Nat => [(7, iv i)]) (fun _ => _) (fun _ => True) (fun _ _ => rfl) (by simp only [push_cast, seval, List.forall_mem_cons, List.not_mem_nil, false_imp_iff, implies_true, List.forall_mem_nil]; simp [zaf, Wk.refl]) rfl (fun _ _ _ => rfl) trivial (fun hHs hLt i hin hi R hR => ?_);clear hHs hLt;(repeat apply zaa);refine zl5 ?_;simp only [push_cast, seval, aTries];(repeat apply zaa);refine zae ?_;simp only [push_cast, seval];refine ⟨fun h => ?_, fun h => ?_⟩
   ·have hil : i < x.tries.length := (by omega);obtain ⟨y, hy⟩ := zaE hil;have hw : IntKind.i64.wrap ((i : Int) + 1) = i + 1 := zau _ (by omega);(repeat apply zaa);refine zah ?_;simp only [push_cast, seval];(repeat apply zaa);refine zag ?_;(repeat apply zaa);refine zaT F.mixed 10 (by kernel_rfl) ?_;simp only [push_cast, seval, zh6 hy, zaz hil, aTries];(repeat apply zaa);refine zae ?_;simp only [push_cast, seval];(repeat apply zaa);refine zah ?_;simp only [push_cast, seval];(repeat apply zaa);refine zl5 ?_;simp only [push_cast, seval, hw];refine hR _ ⟨hil, trivial, (zax (zam rfl rfl) (by simp only [push_cast, seval]; simp [zaf, Wk.refl]))⟩
   ·clear hR;(repeat apply zaa);refine zaq ?_;simp only [push_cast, seval];(repeat apply zaa);refine zl5 ?_;simp only [push_cast, seval];(repeat apply zaa);refine zai ?_;simp only [push_cast, seval];exact endA hH (Wk.refl _) (by simp [zap]) hk
end
open Go.Conc Go.Proofs
section
variable {H : List AObj} {k kp : AV → List AObj → Prop}
set_option maxRecDepth 4000 in
set_option maxHeartbeats 1000000 in
theorem f21_c {nums : List Int} (hmain : H[0]? = some .main) (hn : nums.length ≤ 2 ^ 50) (hk : k (bv true) H) : FnC true Tryz.prog 21 H [aInts nums] k kp := by
 have hmn : ∀ L : List AObj, (H ++ L)[0]? = some .main := fun L => zay hmain;refine zak (rs := [.tmp 2]) (nt := 155) F.f21 rfl rfl rfl (by simp) fun hH hA => ?_;simp only [argsT, Nat.reduceAdd];(repeat apply zaa);refine zl5 ?_;simp only [push_cast, seval];(repeat apply zaa);refine zl5 ?_;simp only [push_cast, seval];refine zl6 ((f26_c ?_));(try simp only [push_cast, seval]);(repeat apply zaa);refine zl5 ?_;simp only [push_cast, seval];refine zl6 ((f49_c (K := 3) (L := 3) (T := 4) (wr := true) (zjT H) (tinOk0 hn _) (by decide) (by decide) (by decide) (by decide) fun x ws τ hP hτ => ?_));(try simp only [push_cast, seval, Ring.av, Ring.l]);have hx := hP.ok (by decide) (by decide) (by decide);have hkl := hP.keys;have hll := hP.locks;have htl := hP.tries;clear hP;(repeat apply zaa);refine zl5 ?_;simp only [push_cast, seval, aLocks];(repeat apply zaa);refine zae ?_;simp only [push_cast, seval];refine ⟨fun h => ?_, fun h => ?_⟩
 ·(repeat apply zaa);refine zl5 ?_;simp only [push_cast, seval];refine zl6 ((f25_c (hmn _) ?_));(try simp only [push_cast, seval]);(repeat apply zaa);refine zai ?_;simp only [push_cast, seval];exact endA hH (Wk.refl _) (by simp [zap]) hk
 ·have hl0 : 0 < x.locks.length := Nat.pos_of_ne_zero fun e => by rw [e] at h; simp at h
  have hw2 : IntKind.i64.wrap ((x.locks.length : Int) - 1) = x.locks.length - 1 := zau _ (by omega);have hw3 : IntKind.i64.wrap ((x.keys.length : Int) - 1) = x.keys.length - 1 := zau _ (by omega);have hkr := zaX τ ((x.keys.length : Int) - 1);have hlr := zaX (tick τ) ((x.locks.length : Int) - 1);(repeat apply zaa);refine zah ?_;simp only [push_cast, seval];(repeat apply zaa);refine zbE [5, 11, 13, 15, 16] [0, 1, 2, 3, 4, 5, 6, 7, 8, 9, 10, 11, 12, 13, 14, 15, 16] [⟨0, false, [], [([15], [15])]⟩, ⟨1, false, [], [([15], [15])]⟩, ⟨2, false, [], [([15], [15])]⟩, ⟨3, false, [], [([15], [15])]⟩, ⟨4, false, [], [([15], [15])]⟩, ⟨5, true, [5], [([15], [5, 15])]⟩, ⟨6, false, [5], [([], []), ([15], [15]), ([5, 15], [5, 15])]⟩, ⟨7, false, [5], [([], []), ([15], [15]), ([5, 15], [5, 15])]⟩, ⟨8, false, [5], [([], []), ([15], [15]), ([5, 15], [5, 15])]⟩, ⟨9, false, [5], [([], []), ([15], [15]), ([5, 15], [5, 15])]⟩, ⟨10, false, [5], [([], []), ([15], [15]), ([5, 15], [5, 15])]⟩, ⟨11, true, [5, 11], [([5, 15], [5, 11, 15])]⟩, ⟨12, false, [5, 11], [([], []), ([15], [15]), ([5], [5]), ([5, 15], [5, 15]), ([5, 11, 15], [5, 11, 15])]⟩, ⟨13, true, [5, 11, 13], [([5, 11, 15], [5, 11, 13, 15])]⟩, ⟨14, false, [5, 11, 13], [([5, 11, 13, 15], [5, 11, 13, 15])]⟩, ⟨15, true, [5, 11, 13, 15], [([], [15]), ([5], [5, 15]), ([5, 11], [5, 11, 15])]⟩, ⟨16, true, [5, 11, 13, 15, 16], []⟩] (fun D => H ++ (tinO (bif isDone 13 D then tick (tick (tick τ)) else bif isDone 11 D then tick (tick τ) else bif isDone 5 D then tick τ else τ) :: .cells [iv x.cuts, aKeys x.keys, aLocks x.locks, aTries x.tries] 26 :: (bif isDone 16 D then [.cells [iv (uptoT τ ((x.keys.length : Int) - 1)), iv (uptoT (tick τ) ((x.locks.length : Int) - 1)), bv (rarelyT (tick (tick τ)) 2)] 28] else bif isDone 15 D then [.cells [iv 0, iv 0, bv false] 28] else []))) F.mixed (by kernel_rfl) (by kernel_rfl) (by first | rfl | simp only [push_cast, seval]) ?_;simp only [push_cast, seval, hw2, hw3, aKeys, aLocks];refine eCall _ _ (zad (by kernel_rfl) (f29_c (tinAt_at H _) hτ (by omega) (by omega) ⟨rfl, rfl⟩)) ?_;(try simp only [push_cast, seval, hw2, hw3, aKeys, aLocks]);refine ⟨eCall _ _ (zad (by kernel_rfl) (f29_c (tinAt_at H _) hτ (by omega) (by omega) ⟨rfl, rfl⟩)) ⟨rfl, rfl⟩, ?_⟩;refine eCall _ _ (zad (by kernel_rfl) (f29_c (tinAt_at H _) hτ.tick (by omega) (by omega) ⟨rfl, rfl⟩)) ?_;(try simp only [push_cast, seval, hw2, hw3, aKeys, aLocks]);refine ⟨eCall _ _ (zad (by kernel_rfl) (f29_c (tinAt_at H _) hτ.tick (by omega) (by omega) ⟨rfl, rfl⟩)) ⟨rfl, rfl⟩, ?_⟩;refine eCall _ _ (zad (by kernel_rfl) (f44_c (tinAt_at H _) hτ.tick.tick (by omega) (by omega) ⟨rfl, rfl⟩)) ?_;(try simp only [push_cast, seval, hw2, hw3, aKeys, aLocks]);refine ⟨eCall _ _ (zad (by kernel_rfl) (f44_c (tinAt_at H _) hτ.tick.tick (by omega) (by omega) ⟨rfl, rfl⟩)) ⟨rfl, rfl⟩, ?_⟩;have hto := hτ.tick.tick.tick;generalize uptoT τ ((x.keys.length : Int) - 1) = kx at hkr ⊢;generalize uptoT (tick τ) ((x.locks.length : Int) - 1) = lx at hlr ⊢;generalize rarelyT (tick (tick τ)) 2 = ox;generalize tick (tick (tick τ)) = τ2 at hto ⊢;obtain ⟨t, hkt, hlt, hot⟩ : ∃ t : Try, kx = t.key ∧ lx = t.lock ∧ ox = t.opens := ⟨⟨kx, lx, ox⟩, rfl, rfl, rfl⟩;subst hkt hlt hot;have hfl : addFl x t = none := addFl_none.2 ⟨by omega, by omega, by omega⟩;have hy := withT_add hx hfl;have hcard := truths_fewer x t;have hzx := zlQ hx;have hzy := zlQ hy;have hsure : ∀ (k l : Nat), truthsL (withT x t) ≠ [] → verdictM (someW x (truthsL x) k l) (truthsL x).length ≠ 3 → verdictM (someW (withT x t) (truthsL (withT x t)) k l) (truthsL (withT x t)).length = verdictM (someW x (truthsL x) k l) (truthsL x).length := fun k l h1 h2 => sure_stays h1 h2;(repeat apply zaa);refine zl5 ?_;simp only [push_cast, seval];refine zl6 ((f56_c (x := x) (t := t) (by omega) ?_));(try simp only [push_cast, seval, Ring.av, Ring.l]);(repeat apply zaa);refine zl5 ?_;simp only [push_cast, seval];refine zl6 ((f53_k (x := x) (hmn _) hx.small hx ?_));(try simp only [push_cast, seval, hzx]);(repeat apply zaa);refine zl5 ?_;simp only [push_cast, seval];refine zl6 ((f53_k (x := withT x t) (hmn _) hy.small hy ?_));(try simp only [push_cast, seval, hzy]);(repeat apply zaa);refine zl5 ?_;simp only [push_cast, seval];refine zl6 ((f73_k (x := x) (r := t) (hmn _) hx hfl fun a e hai => ?_));have hgt : decide (((truthsL (withT x t)).length : Int) > (truthsL x).length) = false := decide_eq_false (by omega);rcases hai with ⟨h1, h2, rfl, rfl⟩ | ⟨hor, rfl, rfl⟩
  ·have hm0 : (truthsL (withT x t)).length = 0 := (by rw [h2]; rfl);have hn0 : 0 < (truthsL x).length := List.length_pos_iff.2 h1;have hg0 : decide (((truthsL x).length : Int) > 0) = true := decide_eq_true (by omega);(try simp only [push_cast, seval, noRing]);(repeat apply zaa);refine zl5 ?_;simp only [push_cast, seval, bne_self_eq_false, hgt];(repeat apply zaa);refine zae ?_;simp only [push_cast, seval];(repeat apply zaa);refine zah ?_;simp only [push_cast, seval];(repeat apply zaa);refine zl5 ?_;simp only [push_cast, seval, hg0, hm0, beq_self_eq_true];(repeat apply zaa);refine zae ?_;simp only [push_cast, seval];(repeat apply zaa);refine zl5 ?_;simp only [push_cast, seval, beq_self_eq_true];refine zl6 ((f25_c (hmn _) ?_));(try simp only [push_cast, seval]);(repeat apply zaa);refine zai ?_;simp only [push_cast, seval];exact endA hH (Wk.refl _) (by simp [zap]) hk
  ·(try simp only [push_cast, seval, Ring.av, Ring.l]);(repeat apply zaa);refine zl5 ?_;simp only [push_cast, seval, bne_self_eq_false, hgt];(repeat apply zaa);refine zae ?_;simp only [push_cast, seval];(repeat apply zaa);refine zah ?_;simp only [push_cast, seval];refine zaa ?_;refine awp_thenQ (fun s' => s'.Sub ⟨[(4, .op (H.length + 1) 0), (7, .op (H.length + 3) 0), (12, .op (H.length + 4) 0), (13, iv 0), (10, iv (truthsL (withT x t)).length)], H ++ [tinO τ2, .cells x.l 26, .cells t.l 28, .cells (withT x t).l 26, .cells (withT x t).l 26]⟩) (fun s' hs' => ?_) ?_
   ·refine ziu hs' ?_;(repeat apply zaa);refine zl5 ?_;simp only [push_cast, seval, Ring.l, Try.l, bne_self_eq_false];refine zl6 ((f37_same (x := withT x t) hy.small ?_));(try simp only [push_cast, seval]);(repeat apply zaa);refine zae ?_;simp only [push_cast, seval];(repeat apply zaa);refine zah ?_;simp only [push_cast, seval];(repeat apply zaa);refine zl5 ?_;simp only [push_cast, seval];have w1 : ∀ i : Nat, i ≤ 1000 → IntKind.i64.wrap ((i : Int) + 1) = i + 1 := fun i _ => zau _ (by omega);(repeat apply zaa);refine zag ?_;refine zaB x.keys.length (fun k : Nat => [(14, iv k)]) (fun _ => _) (fun _ => True) (fun _ _ => rfl) (by simp only [push_cast, seval, List.forall_mem_cons, List.not_mem_nil, false_imp_iff, implies_true, List.forall_mem_nil]; simp [zaf, Wk.refl]) rfl (fun _ _ _ => rfl) trivial (fun hHs hLt p hpn hpo R hR => ?_);clear hHs hLt;by_cases hgo : p < x.keys.length ∧ 0 < (truthsL (withT x t)).length
    ·obtain ⟨hpl, hm0⟩ := hgo;have hDy : truthsL (withT x t) ≠ [] := List.length_pos_iff.1 hm0;have hDx : truthsL x ≠ [] := List.length_pos_iff.1 (by omega);have hEx : endE x = 0 := (by unfold endE; exact if_neg hDx);have hEy : endE (withT x t) = 0 := (by unfold endE; exact if_neg hDy);have hkd : decide ((p : Int) < x.keys.length) = true := decide_eq_true (by omega);have hmd : decide (((truthsL (withT x t)).length : Int) > 0) = true := decide_eq_true (by omega);have hwp := w1 p (by omega);(repeat apply zaa);refine zl5 ?_;simp only [push_cast, seval, aKeys, hkd, hmd];(repeat apply zaa);refine zae ?_;simp only [push_cast, seval];(repeat apply zaa);refine zah ?_;simp only [push_cast, seval];(repeat apply zaa);refine zag ?_;(repeat apply zaa);refine zl5 ?_;simp only [push_cast, seval];(repeat apply zaa);refine zag ?_;refine zaB x.locks.length (fun l : Nat => [(15, iv l)]) (fun _ => _) (fun _ => True) (fun _ _ => rfl) (by simp only [push_cast, seval, List.forall_mem_cons, List.not_mem_nil, false_imp_iff, implies_true, List.forall_mem_nil]; simp [zaf, Wk.refl]) rfl (fun _ _ _ => rfl) trivial (fun hHs hLt l hln hlo R2 hR2 => ?_);clear hHs hLt;(repeat apply zaa);refine zl5 ?_;simp only [push_cast, seval, aLocks];(repeat apply zaa);refine zae ?_;simp only [push_cast, seval];refine ⟨fun h3 => ?_, fun h3 => ?_⟩
     ·have hll2 : l < x.locks.length := (by omega);have hwl := w1 l (by omega);have hsu := hsure p l hDy;(repeat apply zaa);refine zah ?_;simp only [push_cast, seval];(repeat apply zaa);refine zag ?_;(repeat apply zaa);refine zl5 ?_;simp only [push_cast, seval];refine zl6 ((f32_k (x := x) (hmn _) hx hpl hll2 ?_));(try simp only [push_cast, seval]);(repeat apply zaa);refine zl5 ?_;simp only [push_cast, seval];refine zl6 ((f32_k (x := withT x t) (hmn _) hy (show p < (withT x t).keys.length from hpl) (show l < (withT x t).locks.length from hll2) ?_));(try simp only [push_cast, seval]);simp only [if_neg hDx, if_neg hDy];generalize verdictM (someW x (truthsL x) p l) (truthsL x).length = v at hsu ⊢;by_cases hv3 : v = 3
      ·have hb : (v != 3) = false := (by rw [hv3]; rfl);(repeat apply zaa);refine zl5 ?_;simp only [push_cast, seval, hEx, hEy, hb, bne_self_eq_false, decide_false, decide_true];(repeat apply zaa);refine zae ?_;simp only [push_cast, seval];(repeat apply zaa);refine zah ?_;simp only [push_cast, seval];(repeat apply zaa);refine zl5 ?_;simp only [push_cast, seval, hwl];refine hR2 _ ⟨hll2, trivial, (zax (zam rfl rfl) (by simp only [push_cast, seval]; simp [zaf, Wk.refl]))⟩
      ·have hb : (v != 3) = true := bne_iff_ne.2 hv3;rw [hsu hv3];(repeat apply zaa);refine zl5 ?_;simp only [push_cast, seval, hEx, hEy, hb, bne_self_eq_false, decide_false, decide_true];(repeat apply zaa);refine zae ?_;simp only [push_cast, seval];(repeat apply zaa);refine zah ?_;simp only [push_cast, seval];(repeat apply zaa);refine zl5 ?_;simp only [push_cast, seval, hwl];refine hR2 _ ⟨hll2, trivial, (zax (zam rfl rfl) (by simp only [push_cast, seval]; simp [zaf, Wk.refl]))⟩
     ·clear hR2;(repeat apply zaa);refine zaq ?_;simp only [push_cast, seval];(repeat apply zaa);refine zl5 ?_;simp only [push_cast, seval, hwp];refine hR _ ⟨hpl, trivial, (zax (zam rfl rfl) (by simp only [push_cast, seval]; simp [zaf, Wk.refl]))⟩
    ·clear hR;by_cases hpl : p < x.keys.length
     ·have hkd : decide ((p : Int) < x.keys.length) = true := decide_eq_true (by omega);have hmd : decide (((truthsL (withT x t)).length : Int) > 0) = false := decide_eq_false (by omega);(repeat apply zaa);refine zl5 ?_;simp only [push_cast, seval, aKeys, hkd, hmd];(repeat apply zaa);refine zae ?_;simp only [push_cast, seval];(repeat apply zaa);refine zaq ?_;simp only [push_cast, seval];(repeat apply zaa);refine zl5 ?_;simp only [push_cast, seval];refine zl6 ((f25_c (hmn _) ?_));(try simp only [push_cast, seval]);(repeat apply zaa);refine zai ?_;simp only [push_cast, seval];exact endA hH (Wk.refl _) (by simp [zap]) hk
     ·have hkd : decide ((p : Int) < x.keys.length) = false := decide_eq_false (by omega);(repeat apply zaa);refine zl5 ?_;simp only [push_cast, seval, aKeys, hkd];(repeat apply zaa);refine zae ?_;simp only [push_cast, seval];(repeat apply zaa);refine zaq ?_;simp only [push_cast, seval];(repeat apply zaa);refine zl5 ?_;simp only [push_cast, seval];refine zl6 ((f25_c (hmn _) ?_));(try simp only [push_cast, seval]);(repeat apply zaa);refine zai ?_;simp only [push_cast, seval];exact endA hH (Wk.refl _) (by simp [zap]) hk
   ·rcases hor with h1 | h1
    ·have hg0 : decide (((truthsL x).length : Int) > 0) = false := (by rw [h1]; rfl);(repeat apply zaa);refine zl5 ?_;simp only [push_cast, seval, hg0];(repeat apply zaa);refine zae ?_;simp only [push_cast, seval];(repeat apply zaa);refine zah ?_;simp only [push_cast, seval];exact ⟨fun t' a e' => zh2 (by simp only [push_cast, seval, List.forall_mem_cons, List.not_mem_nil, false_imp_iff, implies_true, List.forall_mem_nil]; simp [zaf, Wk.refl]) e', rfl⟩
    ·have hm0 : 0 < (truthsL (withT x t)).length := List.length_pos_iff.2 h1;have hg0 : decide (((truthsL x).length : Int) > 0) = true := decide_eq_true (by omega);have hg1 : (((truthsL (withT x t)).length : Int) == 0) = false := beq_eq_false_iff_ne.2 (by omega);(repeat apply zaa);refine zl5 ?_;simp only [push_cast, seval, hg0, hg1];(repeat apply zaa);refine zae ?_;simp only [push_cast, seval];(repeat apply zaa);refine zah ?_;simp only [push_cast, seval];exact ⟨fun t' a e' => zh2 (by simp only [push_cast, seval, List.forall_mem_cons, List.not_mem_nil, false_imp_iff, implies_true, List.forall_mem_nil]; simp [zaf, Wk.refl]) e', rfl⟩
end
end Go.Gg
namespace Go.Proofs.YtoaaoiipickclaaGreat
open Go.Conc Go.Proofs Go.Gg
theorem knName : Tryz.prog.funcNamed Rows.keyMoreRow.func = some 21 := by kernel_rfl
theorem knJoined : joinedFacts Tryz.prog 21 Tryz.f21 Rows.keyMoreSpec Rows.keyMoreRow = true :=
 zkH (by kernel_rfl) Tz.laidOut (by kernel_rfl) (by kernel_rfl) (by kernel_rfl) (by kernel_rfl) (by kernel_rfl) (by kernel_rfl) (by kernel_rfl) (by kernel_rfl) (by kernel_rfl) (by kernel_rfl) (by kernel_rfl) (by kernel_rfl) (by kernel_rfl) (by kernel_rfl) (by kernel_rfl) (by kernel_rfl) (by kernel_rfl) (by kernel_rfl) (by kernel_rfl) (by kernel_rfl) (by kernel_rfl) (by kernel_rfl) (by kernel_rfl) Tz.mayEnter (zkB (by kernel_rfl)) (make_of' (by kernel_rfl)) (by kernel_rfl) (by kernel_rfl) (by kernel_rfl) (by kernel_rfl) (by kernel_rfl)
theorem knInst : Tryz.f21.isInstance Tryz.prog Rows.keyMoreRow.origin Rows.keyMoreRow.targs := of_decide_eq_true (by kernel_rfl)
theorem knWrap : Tryz.f21.isWrapper Tryz.prog Rows.keyMoreRow.wrapper Rows.keyMoreRow.mainSum := by unfold Func.isWrapper; first | (rw [if_pos (by decide +kernel)]; kernel_rfl) | (rw [if_neg (by decide +kernel)]; exact ⟨rfl, rfl⟩)
theorem keyMore_lifted (os : Os) (started : os.Started) (H : Type) (enc : TypeId × Value → H) :
  ReturnsInLeavingWide {} Tryz.checked os 21 .any (Rows.keyMoreSpec.pre6 enc Tryz.prog Tryz.f21 Rows.keyMoreRow.domain false) (Rows.keyMoreSpec.post enc Tryz.prog Tryz.f21 false true false false) :=
 zhC (f := 21) (fn := Tryz.f21) (s := Rows.keyMoreSpec) Tryz.func21 rfl rfl rfl (fun _ _ => rfl) (by kernel_rfl) (fun nums hn => f21_c rfl hn rfl) os started H enc
  (ChangeSpec.witness6 (enc := enc) (C := Tryz.checked) false ⟨#[], #[.slice none 0 0], []⟩ 8 (by kernel_rfl) (by kernel_rfl) (by kernel_rfl) (by kernel_rfl))
theorem keyMore_holds : Rows.KeyMoreSaid :=
 OpenClaim.holds_of_wide_leaving 21 Tryz.f21 rfl rfl rfl rfl rfl rfl rfl ⟨rfl, rfl, rfl, rfl, rfl⟩ rfl rfl rfl rfl rfl knName Tryz.func21 knJoined knInst knWrap
  (fun os started H enc _ => keyMore_lifted os started H enc)
end Go.Proofs.YtoaaoiipickclaaGreat
