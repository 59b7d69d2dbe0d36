/- The law KeyTrue answers true at every list of numbers, on every schedule. No condition. -/
import Derived.Test.YtoaaoiipickclaaGreatR05
set_option linter.all false
namespace Go.Gg
open Go.Conc Go.Proofs
theorem F.AppOf_50_50 : AppOf Tryz.prog 50 50 = (some (52, (2, (.agg #[(.int .i64 0), (.bool false)])))) := by kernel_rfl
theorem F.ElemOf_155 : ElemOf Tryz.prog 155 = (some (3, (1, false))) := by kernel_rfl
theorem F.IdxOf_155 : IdxOf Tryz.prog 155 = (some ((some 3), 1)) := by kernel_rfl
theorem F.Ty_155 : Ty Tryz.prog 155 = (some (3, true)) := by kernel_rfl
theorem F.ZeroOf_155 : ZeroOf Tryz.prog 155 = (some (.agg #[(.bool false), (.bool false), (.bool false)])) := by kernel_rfl
theorem F.f7 : Tryz.prog.funcs[7]? = some Tryz.f7 := by kernel_rfl
theorem F.f12 : Tryz.prog.funcs[12]? = some Tryz.f12 := by kernel_rfl
theorem F.f16 : Tryz.prog.funcs[16]? = some Tryz.f16 := by kernel_rfl
theorem F.f17 : Tryz.prog.funcs[17]? = some Tryz.f17 := by kernel_rfl
theorem F.f65 : Tryz.prog.funcs[65]? = some Tryz.f65 := by kernel_rfl
theorem F.f69 : Tryz.prog.funcs[69]? = some Tryz.f69 := by kernel_rfl
theorem F.f71 : Tryz.prog.funcs[71]? = some Tryz.f71 := by kernel_rfl
attribute [push_cast] F.AppOf_50_50 F.ElemOf_155 F.IdxOf_155 F.Ty_155 F.ZeroOf_155
section
variable {lv : Bool} {H : List AObj} {k kp : AV → List AObj → Prop}
theorem ask_keyed {r i : Nat} {x : Ring} {n : Int} (hx : x.Small) (hr : H[r]? = some (.cells x.l 26)) (hi : H[i]? = some (.cells [iv n] 3)) : AskC lv H (.fn (.func 152) [] [.op i 0, .op r 0]) (if inM n 0 (x.keys.length - 1) then none else some 0) := fun L k kp h1 h2 =>
 zad (by kernel_rfl) (f152_c hx (zay hr) (zay hi) (fun h => h1 (by rw [h]; rfl)) (fun h => h2 0 (by rw [h]; rfl)))
end
def subsetsM (n : Nat) : Nat → Nat → List (List Int)
 | 0, _ => [[]]
 | k + 1, first => (List.range' first (n - k - first)).flatMap fun i => (subsetsM n k (i + 1)).map ((i : Int) :: ·)
def choicesM (n : Nat) : List (List Int) := (List.range (n + 1)).flatMap fun k => subsetsM n k 0
def butM (x : Ring) (but : List Int) : Nat → List Try
 | 0 => []
 | i + 1 => butM x but i ++ (match x.tries[i]? with | some r => if but.contains (i : Int) then [] else [r] | none => [])
def withoutR (x : Ring) (but : List Int) : Ring := ⟨x.cuts, x.keys, x.locks, butM x but x.tries.length⟩
def okAll (x : Ring) (row : List Int) (ts : List Try) : Bool := ts.all (triedM x row)
open Go.Conc Go.Proofs
section
variable {lv : Bool} {H : List AObj} {k kp : AV → List AObj → Prop}
end
section
variable {lv : Bool} {H : List AObj} {k kp : AV → List AObj → Prop}
end
open Go.Conc Go.Proofs
def outJ (n kk first j : Nat) : List (List Int) := (List.range' first j).flatMap fun i => (subsetsM n kk (i + 1)).map ((i : Int) :: ·)
section
variable {lv : Bool}
end
open Go.Conc Go.Proofs
def choicesTo (n j : Nat) : List (List Int) := (List.range j).flatMap fun k => subsetsM n k 0
section
variable {lv : Bool} {H : List AObj} {k kp : AV → List AObj → Prop}
end
open Go.Conc Go.Proofs
section
variable {H : List AObj} {k kp : AV → List AObj → Prop}
theorem f51_k {x : Ring} (hmain : H[0]? = some .main) (hs : x.Small) (hx : x.Ok) (h : k (.tup [aInts (wrongM x), iv 0]) H) : FnC true Tryz.prog 51 H [x.av] k kp :=
 f51_c zaQ hmain hs (fun e => absurd (zaN.2 ⟨zbH.2 hx, rfl⟩) e) fun _ => h
end
open Go.Conc Go.Proofs
def listsM (n : Nat) : Nat → List (List Int)
 | 0 => [[]]
 | k + 1 => (List.range n).flatMap fun i : Nat => (listsM n k).map ((i : Int) :: ·)
def listJ (n kk j : Nat) : List (List Int) := (List.range j).flatMap fun i : Nat => (listsM n kk).map ((i : Int) :: ·)
theorem zeh : ∀ n, n ≤ 4 → ∀ k, k ≤ 4 → (listsM n k).length ≤ 256 ∧ ∀ r ∈ listsM n k, r.length = k ∧ ∀ i ∈ r, 0 ≤ i ∧ i < n := by decide +kernel
section
variable {lv : Bool}
end
section
variable {lv : Bool} {H : List AObj} {k kp : AV → List AObj → Prop}
theorem f58_c {x : Ring} {t : List Int} {e : End} {kn ln : Nat} (hx : x.Ok) (hkn : kn < x.keys.length) (hln : ln < x.locks.length) (htl : x.keys.length ≤ t.length) (htb : ∀ w ∈ t, 0 ≤ w ∧ w ≤ 2) (hk : k (bv (opensW x.keys t x.locks kn ln)) H) : FnC lv Tryz.prog 58 H [x.av, .sl t.length (t.map iv) e, iv kn, iv ln] k kp := by
 refine zak (rs := [.tmp 8]) (nt := 26) F.f58 rfl rfl rfl (by simp) fun hH hA => ?_;simp only [argsT, Nat.reduceAdd, Ring.av, Ring.l];obtain ⟨y, hy⟩ := zaE hkn;obtain ⟨l, hl⟩ := zaE hln;obtain ⟨w, hw⟩ := zaE (xs := t) (i := kn) (by omega);obtain ⟨hyc, hyb, hyw⟩ := hx.key y (zas hy);obtain ⟨hlc, hlb⟩ := hx.lock l (zas hl);obtain ⟨hw0, hw2⟩ := htb w (zas hw);have hc := hx.cuts;have hdl : (wornM w y.cuts).length = y.cuts.length := by simp [wornM]
 have how : opensW x.keys t x.locks kn ln = fitsM (wornM w y.cuts) l := by
  unfold opensW;simp only [Int.toNat_natCast, List.getD_eq_getElem?_getD, hy, hw, hl, Option.map_some, Option.getD_some]
 rw [how] at hk;(repeat apply zaa);refine zl5 ?_;simp only [push_cast, seval];(repeat apply zaa);refine zaT F.mixed 16 (by kernel_rfl) ?_;simp only [push_cast, seval, zc2 hy, zaz hkn, za2 hw, zaz (get_lt hw), zfu hl, zaz hln, aKeys, aLocks];refine qCall _ (zad (by kernel_rfl) (f78_c hyb ⟨by omega, by omega⟩ (by omega) ⟨rfl, rfl⟩)) ?_;refine zl6 ((f64_c (by omega) (by omega) ?_));(try simp only [push_cast, seval]);(repeat apply zaa);refine zai ?_;simp only [push_cast, seval];exact endA hH (Wk.refl _) (by simp [zap]) hk
end
open Go.Conc Go.Proofs
def wearOk (x : Ring) (t : List Int) : Nat → Bool
 | 0 => true
 | k + 1 => wearOk x t k && (match x.keys[k]?, t[k]? with | some y, some w => decide (y.wear.min ≤ w) && decide (w ≤ y.wear.max) | _, _ => true)
def triesOk (x : Ring) (t : List Int) : Nat → Bool
 | 0 => true
 | i + 1 => triesOk x t i && (match x.tries[i]? with | some r => opensW x.keys t x.locks r.key r.lock == r.opens | none => true)
def fineW (x : Ring) (t : List Int) : Bool := wearOk x t x.keys.length && triesOk x t x.tries.length
def truthsL (x : Ring) : List (List Int) := (listsM 3 x.keys.length).filter (fineW x)
theorem zgv {x : Ring} {t : List Int} {k : Nat} {y : Key} {w : Int} (hy : x.keys[k]? = some y) (hw : t[k]? = some w) : wearOk x t (k + 1) = (wearOk x t k && (decide (y.wear.min ≤ w) && decide (w ≤ y.wear.max))) := by rw [wearOk, hy, hw]
theorem zf9 {x : Ring} {t : List Int} {i : Nat} {r : Try} (hr : x.tries[i]? = some r) : triesOk x t (i + 1) = (triesOk x t i && (opensW x.keys t x.locks r.key r.lock == r.opens)) := by rw [triesOk, hr]
section
variable {lv : Bool} {H : List AObj} {k kp : AV → List AObj → Prop}
end
def rowOk (ks : List Key) (r : List Int) : Bool := (ks.zip r).all fun p => decide (p.1.wear.min ≤ p.2) && decide (p.2 ≤ p.1.wear.max)
theorem zlx (y : Key) (ks : List Key) (w : Int) (r : List Int) : rowOk (y :: ks) (w :: r) = (decide (y.wear.min ≤ w) && decide (w ≤ y.wear.max) && rowOk ks r) := by simp [rowOk]
theorem zlU {lo hi : Int} (h0 : 0 ≤ lo) (h1 : lo ≤ hi) (h2 : hi ≤ 2) {β : Type} (f : Int → List β) : (rangeI lo hi).flatMap f = (List.range 3).flatMap fun i : Nat => if decide (lo ≤ (i : Int)) && decide ((i : Int) ≤ hi) then f i else [] := by
 have hr : List.range 3 = [0, 1, 2] := rfl;have hl : lo = 0 ∨ lo = 1 ∨ lo = 2 := by omega
 have hh : hi = 0 ∨ hi = 1 ∨ hi = 2 := by omega
 rw [hr];rcases hl with rfl | rfl | rfl <;> rcases hh with rfl | rfl | rfl <;> first | omega | (simp [rangeI, List.range_succ])
theorem zli : ∀ (ys : List Key) (pre : List Int) (m : Nat), (∀ y ∈ ys, y.wear.Ok 2) → growM ys pre.length (pre ++ List.replicate (m + ys.length) 0) = ((listsM 3 ys.length).filter (rowOk ys)).map fun r => pre ++ r ++ List.replicate m 0
 | [], pre, m, _ => by simp [growM, listsM, rowOk]
 | y :: ys, pre, m, h => by
  have hy := h y List.mem_cons_self;rw [growM, zlU hy.min hy.le hy.max];show _ = (((List.range 3).flatMap fun i : Nat => (listsM 3 ys.length).map ((i : Int) :: ·)).filter (rowOk (y :: ys))).map _;rw [List.filter_flatMap, List.map_flatMap];congr 1;funext i;have hset : (pre ++ List.replicate (m + (y :: ys).length) 0).set pre.length (i : Int) = (pre ++ [(i : Int)]) ++ List.replicate (m + ys.length) 0 := by
   rw [List.set_append_right _ _ (Nat.le_refl _), Nat.sub_self, List.length_cons, ← Nat.add_assoc, List.replicate_succ, List.set_cons_zero, List.append_assoc]; rfl
  have ih := zli ys (pre ++ [(i : Int)]) m fun z hz => h z (List.mem_cons_of_mem _ hz);rw [List.length_append, List.length_singleton] at ih;rw [hset, ih];cases hc : (decide (y.wear.min ≤ (i : Int)) && decide ((i : Int) ≤ y.wear.max)) with
  | true =>
   rw [if_pos rfl, List.filter_map, List.map_map];have : (rowOk (y :: ys) ∘ fun x => (i : Int) :: x) = rowOk ys := (by funext r; simp only [Function.comp]; rw [zlx, hc, Bool.true_and]);rw [this];congr 1;funext r;simp
  | false =>
   rw [if_neg (by simp), List.filter_map, List.map_map];have : (rowOk (y :: ys) ∘ fun x => (i : Int) :: x) = fun _ => false := (by funext r; simp only [Function.comp]; rw [zlx, hc, Bool.false_and]);rw [this];simp
def padR (n : Nat) (r : List Int) : List Int := r ++ List.replicate (4 - n) 0
theorem zlG {x : Ring} (hx : x.Ok) : wears0 x = ((listsM 3 x.keys.length).filter (rowOk x.keys)).map (padR x.keys.length) := by
 have h4 := hx.keys;have h := zli x.keys [] (4 - x.keys.length) fun y hy => (hx.key y hy).2.2;rw [show 4 - x.keys.length + x.keys.length = 4 by omega] at h;exact h
theorem zlw (x : Ring) (t : List Int) : ∀ k, k ≤ x.keys.length → k ≤ t.length → wearOk x t k = ((x.keys.zip t).take k).all fun p => decide (p.1.wear.min ≤ p.2) && decide (p.2 ≤ p.1.wear.max)
 | 0, _, _ => rfl
 | k + 1, h, h' => by
  obtain ⟨y, hy⟩ := zaE (xs := x.keys) (i := k) (by omega);obtain ⟨w, hw⟩ := zaE (xs := t) (i := k) (by omega);have hz : (x.keys.zip t)[k]? = some (y, w) := by rw [List.getElem?_zip_eq_some]; exact ⟨hy, hw⟩
  rw [zgv hy hw, zlw x t k (by omega) (by omega)];obtain ⟨hj, hle⟩ := List.getElem?_eq_some_iff.1 hz;rw [List.take_succ_eq_append_getElem hj, hle, List.all_append];simp
theorem zlP {x : Ring} {t : List Int} (h : t.length = x.keys.length) : wearOk x t x.keys.length = rowOk x.keys t := by
 rw [zlw x t _ (Nat.le_refl _) (by omega), List.take_of_length_le (by simp [h])]; rfl
theorem ziC (cuts : Int) (ds : List Int) (ls : List (List Band)) (j : Nat) : ∀ i, (openedM cuts ds ls i).testBit j = (decide (j < i) && (match ls[j]? with | some l => fitsM (ds.take cuts.toNat) l | none => false))
 | 0 => by simp [openedM]
 | i + 1 => by
  have ih := ziC cuts ds ls j i;have hlt := zb5 cuts ds ls i;have hhi : (openedM cuts ds ls i).testBit i = false := Nat.testBit_lt_two_pow hlt;unfold openedM;by_cases hji : j = i
  ·subst hji;cases hl : ls[j]? with
   | none => simp [hhi]
   | some l =>
    simp only;split
    ·rename_i hf; simp [Nat.testBit_or, Nat.testBit_two_pow_self, hf]
    ·rename_i hf; simp [hhi, hf]
  ·have hd : decide (j < i + 1) = decide (j < i) := (by congr 1; simp; omega);rw [hd];cases hl : ls[i]? with
   | none => exact ih
   | some l =>
    simp only;split
    ·rw [Nat.testBit_or, ih, Nat.testBit_two_pow_of_ne (Ne.symm hji), Bool.or_false]
    ·exact ih
theorem zf8 {x : Ring} (hx : x.Ok) {t : List Int} (ht : t.length = x.keys.length) (hb : ∀ w ∈ t, 0 ≤ w ∧ w ≤ 2) {k l : Nat} (hk : k < x.keys.length) (hl : l < x.locks.length) : (inTruth x (padR x.keys.length t) k).testBit l = opensW x.keys t x.locks k l := by
 obtain ⟨y, hy⟩ := zaE hk;obtain ⟨lk, hlk⟩ := zaE hl;obtain ⟨w, hw⟩ := zaE (xs := t) (i := k) (by omega);obtain ⟨hyc, hyb, hyw⟩ := hx.key y (zas hy);have hw0 := (hb w (zas hw)).1;have hc := hx.cuts;have hp : (padR x.keys.length t).getD k 0 = w := by
  unfold padR;rw [List.getD_eq_getElem?_getD, List.getElem?_append_left (by omega), hw]; rfl
 have how : opensW x.keys t x.locks k l = fitsM (wornM w y.cuts) lk := by
  unfold opensW;simp only [Int.toNat_natCast, List.getD_eq_getElem?_getD, hy, hw, hlk, Option.map_some, Option.getD_some]
 rw [how];unfold inTruth opensM;rw [hp, hy];simp only;rw [ziC, hlk];have hwn : ((w.toNat : Nat) : Int) = w := by omega
 have htk : (wornM (w.toNat : Nat) (depthsM y.cuts)).take x.cuts.toNat = wornM w y.cuts := by
  rw [hwn];unfold wornM depthsM;rw [List.take_of_length_le (show y.cuts.length ≤ 4 by omega), List.map_append, List.take_append_of_le_length (by simp; omega), List.take_of_length_le (by simp; omega)]
 rw [htk];simp [hl]
open Go.Conc Go.Proofs
def differM (x : Ring) (t keys : List Int) (p q : Nat) : Bool := keys.any fun k => opensW x.keys t x.locks k p != opensW x.keys t x.locks k q
theorem zlN {x : Ring} (hx : x.Ok) {t : List Int} (ht : t.length = x.keys.length) (hb : ∀ w ∈ t, 0 ≤ w ∧ w ≤ 2) : ∀ i, i ≤ x.tries.length → okTo x [] (padR x.keys.length t) i = triesOk x t i
 | 0, _ => rfl
 | i + 1, h => by
  obtain ⟨r, hr⟩ := zaE (xs := x.tries) (i := i) (by omega);obtain ⟨⟨hk0, hk⟩, hl0, hl⟩ := hx.tried r (zas hr);rw [okTo, zlN hx ht hb i (by omega), zf9 hr, hr];have h1 := zf8 hx ht hb (k := r.key.toNat) (l := r.lock.toNat) (by omega) (by omega);have e1 : ((r.key.toNat : Nat) : Int) = r.key := by omega
  have e2 : ((r.lock.toNat : Nat) : Int) = r.lock := by omega
  rw [e1, e2] at h1;simp only [List.contains_nil, Bool.false_or];unfold triedM;rw [← h1]; rfl
theorem zlO {α : Type} (l : List α) (p : α → Bool) : ((l.zipIdx.filter fun y => p y.1).map (·.1)) = l.filter p := by
 have h := List.filter_map (f := fun y : α × Nat => y.1) (p := p) (l := l.zipIdx);rw [List.zipIdx_map_fst] at h;exact h.symm
theorem zgX {x : Ring} (hx : x.Ok) : (truthsM x []).map (·.1) = (truthsL x).map (padR x.keys.length) := by
 unfold truthsM truthsTo;rw [zlO (wears0 x) fun r => okTo x [] r x.tries.length, zlG hx, List.filter_map, List.filter_filter];congr 1;unfold truthsL;refine List.filter_congr fun t ht => ?_;obtain ⟨h1, h2⟩ := (zeh 3 (by omega) x.keys.length hx.keys).2 t ht;have hb : ∀ w ∈ t, 0 ≤ w ∧ w ≤ 2 := fun w hw => by have := h2 w hw; omega
 simp only [Function.comp];rw [zlN hx h1 hb _ (Nat.le_refl _), fineW, zlP h1, Bool.and_comm]
theorem zlQ {x : Ring} (hx : x.Ok) : (truthsM x []).length = (truthsL x).length := by
 have := congrArg List.length (zgX hx);rwa [List.length_map, List.length_map] at this
theorem truths_any {x : Ring} (hx : x.Ok) (f : List Int → Bool) : ((truthsM x []).any fun y => f y.1) = (truthsL x).any fun t => f (padR x.keys.length t) := by
 have h := congrArg (fun l => List.any l f) (zgX hx);simp only [List.any_map] at h;exact h
theorem zhQ {x : Ring} (hx : x.Ok) : ∀ t ∈ truthsL x, t.length = x.keys.length ∧ ∀ w ∈ t, 0 ≤ w ∧ w ≤ 2 := fun t ht => by
 obtain ⟨h1, h2⟩ := (zeh 3 (by omega) x.keys.length hx.keys).2 t (List.mem_filter.1 ht).1;exact ⟨h1, fun w hw => by have := h2 w hw; omega⟩
section
variable {lv : Bool} {H : List AObj} {k kp : AV → List AObj → Prop}
end
open Go.Conc Go.Proofs
def pairsL (x : Ring) (t keys : List Int) (n : Nat) : Bool := (List.range n).all fun b => (List.range b).all fun a => differM x t keys b a
def tellL (x : Ring) (keys : List Int) : Bool := (truthsL x).all fun t => pairsL x t keys x.locks.length
def TellIs (x : Ring) (g : List Int) (e : Int) : Prop := (truthsM x [] ≠ [] ∧ tellM x = some g ∧ e = 0) ∨ ((truthsM x [] = [] ∨ tellM x = none) ∧ g = [] ∧ e = 11)
section
variable {H : List AObj} {k kp : AV → List AObj → Prop}
end
open Go.Conc Go.Proofs
def bagL (x : Ring) (us : List Turn) (n : Nat) : Bool := (truthsL x).any fun t => us.all fun u => opensW x.keys t x.locks u.key n == u.opens
def dueL (x : Ring) (us : List Turn) (n : Nat) : List Int := ((List.range n).filter (bagL x us)).map fun i : Nat => (i : Int)
theorem dueL_le (x : Ring) (us : List Turn) (n : Nat) : (dueL x us n).length ≤ n := by
 unfold dueL;rw [List.length_map];have := List.length_filter_le (bagL x us) (List.range n);simpa using this
def UsOk (x : Ring) (us : List Turn) : Prop := ∀ u ∈ us, 0 ≤ u.key ∧ u.key ≤ (x.keys.length : Int) - 1
theorem bag_law {x : Ring} (hx : x.Ok) {us : List Turn} (hu : UsOk x us) {n : Nat} (hn : n < x.locks.length) : bagB x (truthsM x []) us n = bagL x us n := by
 unfold bagB bagL;rw [truths_any hx fun r => us.all (fitsB x r n), Bool.eq_iff_iff];simp only [List.any_eq_true];refine exists_congr fun t => and_congr_right fun ht => ?_;obtain ⟨h1, h2⟩ := zhQ hx t ht;simp only [List.all_eq_true];refine forall_congr' fun u => forall_congr' fun hum => ?_;obtain ⟨hk0, hk1⟩ := hu u hum;have e : ((u.key.toNat : Nat) : Int) = u.key := by omega
 have e1 := zf8 hx h1 h2 (k := u.key.toNat) (l := n) (by omega) hn;rw [e] at e1;unfold fitsB;rw [e1]
theorem which_law {x : Ring} (hx : x.Ok) {us : List Turn} (hu : UsOk x us) : whichM x us = dueL x us x.locks.length := by
 unfold whichM whichTo dueL;congr 1;exact List.filter_congr fun n hn => bag_law hx hu (List.mem_range.1 hn)
def WhichIs (x : Ring) (us : List Turn) (g : List Int) (e : Int) : Prop := (truthsM x [] ≠ [] ∧ g = whichM x us ∧ e = 0) ∨ (truthsM x [] = [] ∧ g = [] ∧ e = 11)
theorem tinAt_at (H L : List AObj) : TinAt (fun τ => H ++ tinO τ :: L) H.length (H.length + 1 + L.length) := by
 have h := (zjT H).more L;refine ⟨fun τ => ?_, fun τ => ?_, fun τ τ' => ?_, fun m τ τ' h1 => ?_⟩
 ·have := h.len τ; simpa [Nat.add_comm, Nat.add_left_comm] using this
 ·have := h.get τ; simpa using this
 ·have := h.set τ τ'; simpa using this
 ·have := h.ok m τ τ'; simpa using this (by simpa using h1)
section
variable {H : List AObj} {k kp : AV → List AObj → Prop}
theorem f46_k {x : Ring} {us : List Turn} (hmain : H[0]? = some .main) (hs : x.Small) (hx : x.Ok) (hul : us.length ≤ 6) (hu : UsOk x us) (h : ∀ g e, WhichIs x us g e → ∀ en, k (.tup [.sl g.length (g.map iv) en, iv e]) H) : FnC true Tryz.prog 46 H [x.av, aTurns us] k kp := by
 have hf : whichFl x us = none := zf3.2 ⟨hul, hu⟩;have h0 : openE x none = 0 := zaN.2 ⟨zbH.2 hx, rfl⟩;refine f46_c zaQ hmain hs (by omega) (fun e => ?_) (fun e => h _ 0 (.inl ⟨(zaP.1 e).2, rfl, rfl⟩) .shut);rw [hf] at e ⊢;have ht : truthsM x [] = [] := Classical.byContradiction fun hn => e (zaP.2 ⟨h0, hn⟩);have ho : openingE x none = 11 := by unfold openingE; rw [h0, if_neg (by simp), if_pos ht]
 rw [ho];exact h [] 11 (.inr ⟨ht, rfl, rfl⟩) .exact
end
open Go.Conc Go.Proofs
theorem turns_len (us : List Turn) : (us.flatMap Turn.l).length = us.length * 2 := by
 induction us with
 | nil => rfl
 | cons b bs ih => rw [List.flatMap_cons, List.length_append, ih]; simp [Turn.l]; omega
theorem turns_snoc (us : List Turn) (u : Turn) : (us ++ [u]).flatMap Turn.l = us.flatMap Turn.l ++ [iv u.key, bv u.opens] := by
 rw [List.flatMap_append]; simp [Turn.l]
theorem awp_wkT {lv : Bool} {P : Program} {r : Option Nat} {nt : Nat} {c : Code} {s : AS} {Φ : AEx → AS → Prop} (t : Nat) {x : AV} (y : AV) (ht : look s.T t = some x) (hw : Wk x y) (h : AWP lv P r nt c ⟨(t, y) :: s.T, s.H⟩ Φ) : AWP lv P r nt c s Φ := by
 refine ziu (s' := ⟨(t, y) :: s.T, s.H⟩) ⟨fun t' a e => ?_, rfl⟩ h;by_cases htt : t = t'
 ·subst htt;have e : look ((t, y) :: s.T) t = some a := e;rw [look_hit] at e; cases e;exact ⟨x, ht, hw⟩
 ·have e : look ((t, y) :: s.T) t' = some a := e;rw [zkx _ _ _ _ (by simpa using htt)] at e;exact ⟨a, e, Wk.refl _⟩
section
variable {H : List AObj} {k kp : AV → List AObj → Prop}
end
open Go.Conc Go.Proofs
def wearsFl (x : Ring) (n : Int) : Option Int := if inM n 0 (x.keys.length - 1) then none else some 0
def metB (ts : List (List Int × Nat)) (n w : Nat) : Bool := ts.any fun y => y.1.getD n 0 == (w : Int)
def wearsTo (ts : List (List Int × Nat)) (n i : Nat) : List Int := ((List.range i).filter (metB ts n)).map fun i : Nat => (i : Int)
def wearsM (x : Ring) (n : Nat) : List Int := wearsTo (truthsM x []) n 3
theorem metB_snoc (vs : List (List Int × Nat)) (y : List Int × Nat) (n w : Nat) : metB (vs ++ [y]) n w = (metB vs n w || y.1.getD n 0 == (w : Int)) := by
 unfold metB; rw [List.any_append]; simp
theorem metB_perm {a b : List (List Int × Nat)} (h : a.Perm b) (n w : Nat) : metB a n w = metB b n w := by
 unfold metB;rw [Bool.eq_iff_iff, List.any_eq_true, List.any_eq_true];exact exists_congr fun y => and_congr_left fun _ => h.mem_iff
theorem wearsTo_succ (ts : List (List Int × Nat)) (n i : Nat) : wearsTo ts n (i + 1) = wearsTo ts n i ++ (if metB ts n i then [(i : Int)] else []) := by
 unfold wearsTo;rw [List.range_succ, List.filter_append, List.map_append];congr 1;by_cases h : metB ts n i = true <;> simp [h]
theorem wearsTo_le (ts : List (List Int × Nat)) (n i : Nat) : (wearsTo ts n i).length ≤ i := by
 unfold wearsTo;rw [List.length_map];have := List.length_filter_le (metB ts n) (List.range i);simpa using this
section
variable {lv : Bool} {H : List AObj} {k kp : AV → List AObj → Prop}
set_option maxRecDepth 4000 in
theorem f69_c {x : Ring} {n : Int} (hnr : NewRingC lv) (hmain : H[0]? = some .main) (hs : x.Small) (h1 : openingE x (wearsFl x n) ≠ 0 → k (.tup [.sl 0 [] .exact, iv (openingE x (wearsFl x n))]) H) (h2 : openingE x (wearsFl x n) = 0 → k (.tup [aInts (wearsM x n.toNat), iv 0]) H) : FnC lv Tryz.prog 69 H [x.av, iv n] k kp := by
 have hmn : ∀ L : List AObj, (H ++ L)[0]? = some .main := fun L => zay hmain;refine zak (rs := [.tmp 4, .tmp 5]) (nt := 48) F.f69 rfl rfl rfl (by simp) fun hH hA => ?_;simp only [argsT, Nat.reduceAdd, Ring.av];(repeat apply zaa);refine zl5 ?_;simp only [push_cast, seval, Ring.l];have hask : AskC lv (H ++ [.cells x.l 26, .cells x.l 26, .cells [iv n] 3]) (.fn (.func 152) [] [.op (H.length + 2) 0, .op (H.length + 1) 0]) (wearsFl x n) := ask_keyed hs (by simp only [push_cast, seval] <;> rfl) (by simp only [push_cast, seval] <;> rfl);by_cases hz : openingE x (wearsFl x n) = 0
 ·(repeat apply zaa);refine zbE [3, 4] [0, 1, 2, 3, 4, 5, 6, 7, 8, 9, 10, 11] [⟨0, false, [], [([3], [3])]⟩, ⟨1, false, [], []⟩, ⟨2, false, [], []⟩, ⟨3, true, [3], []⟩, ⟨4, true, [3, 4], []⟩, ⟨5, false, [3, 4], []⟩, ⟨6, false, [3, 4], []⟩, ⟨7, false, [3, 4], []⟩, ⟨8, false, [3, 4], []⟩, ⟨9, false, [3, 4], []⟩, ⟨10, false, [3, 4], []⟩, ⟨11, false, [3, 4], []⟩] (fun D => bif isDone 4 D then H ++ [.cells x.l 26, .cells x.l 26, .cells [iv n] 3, .cells x.l 26, setObj (truthsM x []) (wears0 x).length] else bif isDone 3 D then H ++ [.cells x.l 26, .cells x.l 26, .cells [iv n] 3] else H ++ [.cells x.l 26]) F.mixed (by kernel_rfl) (by kernel_rfl) (by first | rfl | simp only [push_cast, seval]) ?_;simp only [push_cast, seval, Ring.l];refine eCall _ _ (zad (by kernel_rfl) (f89_c (x := x) ⟨rfl, rfl⟩)) ?_;(try simp only [push_cast, seval, Ring.l]);refine eCall _ _ (zad (by kernel_rfl) (f99_c hnr (hmn _) hs hask (fun h => absurd hz h) (fun _ => ⟨rfl, rfl⟩))) ?_;(try simp only [push_cast, seval, Ring.l]);obtain ⟨ho, hne⟩ := zaP.1 hz;have hx := zbp ho;have hkn : 0 ≤ n ∧ n ≤ (x.keys.length : Int) - 1 := by
   have := (zaN.1 ho).2;unfold wearsFl inM at this;by_cases hq : 0 ≤ n ∧ n ≤ (x.keys.length : Int) - 1
   ·exact hq
   ·simp [hq] at this
  obtain ⟨kn, rfl⟩ : ∃ m : Nat, n = m := ⟨n.toNat, by omega⟩;have hx4 := hx.keys;have hle := zbl hx [];(repeat apply zaa);refine zl5 ?_;simp only [push_cast, seval];(repeat apply zaa);refine zae ?_;simp only [push_cast, seval];(repeat apply zaa);refine zah ?_;simp only [push_cast, seval];(repeat apply zaa);refine zl5 ?_;simp only [push_cast, seval];have hg4 : ∀ L : List AObj, (H ++ L)[H.length + 3 + 1]? = L[4]? := fun L => zbD H L 4;(repeat apply zaa);refine zl5 ?_;simp only [push_cast, seval, zaL, hg4];(repeat apply zaa);refine zag ?_;have hb := zbm x [];have hnd := zba x [];have h4 := zbt hx [];have hall := zcO (truthsM x []) (wears0 x).length hb;refine za9 (measure fun vs : List (List Int × Nat) => (truthsM x []).length - vs.length).wf (fun vs => []) (fun vs => H ++ [AObj.cells x.l 26, .cells x.l 26, .cells [iv kn] 3, .cells x.l 26, setObj (truthsM x []) (wears0 x).length, .cells [bv (metB vs kn 0), bv (metB vs kn 1), bv (metB vs kn 2)] 155, .iter (H.length + 3 + 1) (wears0 x).length (vs.map (·.2)).toArray (wears0 x).length]) (fun vs => ((vs.map (·.2)).Nodup ∧ ∀ y ∈ vs, y ∈ truthsM x [])) [] (fun _ _ => rfl) (by simp) (by simp [zaL, metB, Ring.l]) (fun _ _ => by simp) ⟨by simp, by simp⟩ (fun hHs3 hLt3 vs hok R3 hR3 => ?_);clear hLt3;have hokI : ∀ (a b c : Bool) sn, HOk (H ++ [AObj.cells x.l 26, .cells x.l 26, .cells [iv kn] 3, .cells x.l 26, setObj (truthsM x []) (wears0 x).length, .cells [bv a, bv b, bv c] 155, .iter (H.length + 3 + 1) (wears0 x).length sn (wears0 x).length]) := fun a b c sn => by
   have h0 : HOk (H ++ [AObj.cells x.l 26, .cells x.l 26, .cells [iv kn] 3, .cells x.l 26, setObj (truthsM x []) (wears0 x).length, .cells [bv false, bv false, bv false] 155, .iter (H.length + 3 + 1) (wears0 x).length #[] (wears0 x).length]) := hHs3;have h1 := zec (H := H ++ [AObj.cells x.l 26, .cells x.l 26, .cells [iv kn] 3, .cells x.l 26, setObj (truthsM x []) (wears0 x).length]) (L := [.iter (H.length + 3 + 1) (wears0 x).length #[] (wears0 x).length]) (o := .cells [bv false, bv false, bv false] 155) (o' := .cells [bv a, bv b, bv c] 155) (by simpa using h0) (fun _ => by
    intro q hq;simp only [List.mem_cons, List.not_mem_nil, or_false] at hq;rcases hq with rfl | rfl | rfl <;> exact .val _)
   intro z hz;have hl : (H ++ [AObj.cells x.l 26, .cells x.l 26, .cells [iv kn] 3, .cells x.l 26, setObj (truthsM x []) (wears0 x).length, .cells [bv a, bv b, bv c] 155, .iter (H.length + 3 + 1) (wears0 x).length sn (wears0 x).length]).length = ((H ++ [AObj.cells x.l 26, .cells x.l 26, .cells [iv kn] 3, .cells x.l 26, setObj (truthsM x []) (wears0 x).length]) ++ AObj.cells [bv a, bv b, bv c] 155 :: [AObj.iter (H.length + 3 + 1) (wears0 x).length #[] (wears0 x).length]).length := (by simp);rw [hl];have hz2 : z ∈ (H ++ [AObj.cells x.l 26, .cells x.l 26, .cells [iv kn] 3, .cells x.l 26, setObj (truthsM x []) (wears0 x).length]) ++ AObj.cells [bv a, bv b, bv c] 155 :: [AObj.iter (H.length + 3 + 1) (wears0 x).length #[] (wears0 x).length] ∨ z = .iter (H.length + 3 + 1) (wears0 x).length sn (wears0 x).length := by
    simp only [List.mem_append, List.mem_cons, List.not_mem_nil, or_false] at hz ⊢;rcases hz with hz | hz | hz | hz | hz | hz | hz | hz <;> simp [hz]
   rcases hz2 with hz2 | rfl
   ·exact h1 z hz2
   ·show H.length + 3 + 1 < _;simp
  (repeat apply zaa);refine zl5 ?_;simp only [push_cast, seval, zaL, hg4];refine ⟨hall.elim .inl (fun h => .inr (.inl h)), fun e he hn => ?_, fun hs => ?_⟩
  ·obtain ⟨y, hy, rfl⟩ : ∃ y ∈ truthsM x [], setEntry y = e := (by simpa using he);have hyn : y.2 ∉ vs.map (·.2) := (by simpa [setEntry] using hn);have hok' := zdk hok hy hyn;have hrel := zdl hok';(repeat apply zaa);refine zae ?_;simp only [push_cast, seval];(repeat apply zaa);refine zah ?_;simp only [push_cast, seval];(repeat apply zaa);refine zag ?_;obtain ⟨h41, h42⟩ := h4 y hy;have hborn : (setEntry y).born = y.2 := rfl;have hlen : (y.1.map iv).length = 4 := (by simp [h41]);have hdrop : List.drop 4 [AV.val (Value.int IntKind.i64 0), AV.val (Value.int IntKind.i64 0), AV.val (Value.int IntKind.i64 0), AV.val (Value.int IntKind.i64 0)] = [] := rfl;(repeat apply zaa);refine zl5 ?_;simp only [push_cast, seval, zaL, hg4, Array.back?_push, hborn, zcL hnd hy, zb7, h41, hlen, hdrop];have hkl : kn < y.1.length := (by omega);obtain ⟨w, hw⟩ := zaE hkl;have hwb := h42 w (zas hw);obtain ⟨wn, rfl⟩ : ∃ n : Nat, w = n := ⟨w.toNat, by omega⟩;have b4 : (0 ≤ (kn : Int) ∧ (kn : Int) < 4) = True := (by simp; omega);have hget : y.1.getD kn 0 = (wn : Int) := (by rw [List.getD_eq_getElem?_getD, hw]; rfl);have hmm : ∀ w' : Nat, metB (vs ++ [y]) kn w' = (metB vs kn w' || decide (wn = w')) := fun w' => by
    rw [metB_snoc, hget];congr 1;by_cases e : wn = w'
    ·simp [e]
    ·have : ¬ (wn : Int) = w' := (by omega);simp [e, this]
   have d00 : decide ((0 : Nat) = 0) = true := rfl;have d01 : decide ((0 : Nat) = 1) = false := rfl;have d02 : decide ((0 : Nat) = 2) = false := rfl;have d10 : decide ((1 : Nat) = 0) = false := rfl;have d11 : decide ((1 : Nat) = 1) = true := rfl;have d12 : decide ((1 : Nat) = 2) = false := rfl;have d20 : decide ((2 : Nat) = 0) = false := rfl;have d21 : decide ((2 : Nat) = 1) = false := rfl;have d22 : decide ((2 : Nat) = 2) = true := rfl;have hw3 : wn = 0 ∨ wn = 1 ∨ wn = 2 := (by omega);rcases hw3 with rfl | rfl | rfl
   all_goals
    (repeat apply zaa);refine zl5 ?_;simp only [push_cast, seval, b4, zbf hw];rw [zdm];refine hR3 _ ⟨vs ++ [y], hrel, hok', ?_⟩;simp only [hmm, d00, d01, d02, d10, d11, d12, d20, d21, d22, decide_true, decide_false, Bool.or_true, Bool.or_false];exact zat (zam rfl rfl) (by simp [zaf, Wk.refl]) (hokI _ _ _ _) (by simp [zap])
  ·have hp : vs.Perm (truthsM x []) := zct hok.1 hnd hok.2 fun y hy => by
    have := hs (setEntry y) (by simp; exact ⟨y.1, y.2, hy, rfl⟩) (hb y hy);simpa [setEntry] using this
   simp only [metB_perm hp];clear hR3;(repeat apply zaa);refine zae ?_;simp only [push_cast, seval];(repeat apply zaa);refine zaq ?_;simp only [push_cast, seval];(repeat apply zaa);refine zl5 ?_;simp only [push_cast, seval]
   (repeat apply zaa); refine zbV (t := 11) (sz := 1) (el := 3) (by simp only [push_cast, seval] <;> rfl) ?_
   (try simp only [push_cast, seval]);(repeat apply zaa);refine zl5 ?_;simp only [push_cast, seval];(repeat apply zaa);refine zag ?_;have hwt := wearsTo_succ (truthsM x []) kn;have hwl := wearsTo_le (truthsM x []) kn;have hnil : wearsTo (truthsM x []) kn 0 = [] := rfl;have v1 : IntKind.i64.wrap (0 + 1) = 1 := zau _ (by omega);have v2 : IntKind.i64.wrap (1 + 1) = 2 := zau _ (by omega);have v3 : IntKind.i64.wrap (2 + 1) = 3 := zau _ (by omega);have w1 : IntKind.i64.wrap 1 = 1 := zau _ (by omega);have w2 : IntKind.i64.wrap 2 = 2 := zau _ (by omega);have w3 : IntKind.i64.wrap 3 = 3 := zau _ (by omega);refine zaB 3 (fun i : Nat => [(37, iv i), (11, .sl (wearsTo (truthsM x []) kn i).length ((wearsTo (truthsM x []) kn i).map iv) (.opn (H.length + 7)))]) (fun i => H ++ [AObj.cells x.l 26, .cells x.l 26, .cells [iv kn] 3, .cells x.l 26, setObj (truthsM x []) (wears0 x).length, .cells [bv (metB (truthsM x []) kn 0), bv (metB (truthsM x []) kn 1), bv (metB (truthsM x []) kn 2)] 155, .iter (H.length + 3 + 1) (wears0 x).length (vs.map (·.2)).toArray (wears0 x).length, .tail (wearsTo (truthsM x []) kn i).length 1 3]) (fun _ => True) (fun _ _ => rfl) (by simp only [push_cast, seval, List.forall_mem_cons, List.not_mem_nil, false_imp_iff, implies_true, List.forall_mem_nil]; simp [zaf, Wk.refl]; first | exact Wk.refl _ | exact ⟨Wk.refl _, Wk.refl _⟩) rfl (fun _ _ _ => by simp) trivial (fun hHs hLt i hin hi R hR => ?_);clear hHs hLt;(repeat apply zaa);refine zl5 ?_;simp only [push_cast, seval];(repeat apply zaa);refine zae ?_;simp only [push_cast, seval];refine ⟨fun h => ?_, fun h => ?_⟩
   ·have hi3 : i = 0 ∨ i = 1 ∨ i = 2 := (by omega);(repeat apply zaa);refine zah ?_;simp only [push_cast, seval];(repeat apply zaa);refine zag ?_;rcases hi3 with rfl | rfl | rfl
    all_goals
     (repeat apply zaa);refine zl5 ?_;simp only [push_cast, seval];(repeat apply zaa);refine zl5 ?_;simp only [push_cast, seval];(repeat apply zaa);refine zae ?_;simp only [push_cast, seval]
    ·refine ⟨fun h2 => ?_, fun h2 => ?_⟩
     ·have hsuc := hwt 0;have hl0 := hwl 0;rw [if_pos (by simpa using h2)] at hsuc;(repeat apply zaa);refine zl5 ?_;simp only [push_cast, seval, z1, zhq, List.length_map]
      first | refine ⟨by omega, by omega, ?_⟩ | refine ⟨by omega, ?_⟩
      (repeat apply zaa);refine zl5 ?_;simp only [push_cast, seval, w1, v1];refine hR _ ⟨by omega, trivial, ?_⟩;rw [hsuc];simp only [List.map_append, List.map_cons, List.map_nil, List.length_append, List.length_cons, List.length_nil];exact (zax (zam rfl rfl) (by simp only [push_cast, seval]; simp [zaf, Wk.refl]))
     ·have hsuc := hwt 0;rw [if_neg (by simpa using h2), List.append_nil] at hsuc;(repeat apply zaa);refine zah ?_;simp only [push_cast, seval];(repeat apply zaa);refine zl5 ?_;simp only [push_cast, seval, w1, v1];refine hR _ ⟨by omega, trivial, ?_⟩;rw [hsuc];exact (zax (zam rfl rfl) (by simp only [push_cast, seval]; simp [zaf, Wk.refl]))
    ·refine ⟨fun h2 => ?_, fun h2 => ?_⟩
     ·have hsuc := hwt 1;have hl0 := hwl 1;rw [if_pos (by simpa using h2)] at hsuc;(repeat apply zaa);refine zl5 ?_;simp only [push_cast, seval, z1, zhq, List.length_map]
      first | refine ⟨by omega, by omega, ?_⟩ | refine ⟨by omega, ?_⟩
      (repeat apply zaa);refine zl5 ?_;simp only [push_cast, seval, w2, v2];refine hR _ ⟨by omega, trivial, ?_⟩;rw [hsuc];simp only [List.map_append, List.map_cons, List.map_nil, List.length_append, List.length_cons, List.length_nil];exact (zax (zam rfl rfl) (by simp only [push_cast, seval]; simp [zaf, Wk.refl]))
     ·have hsuc := hwt 1;rw [if_neg (by simpa using h2), List.append_nil] at hsuc;(repeat apply zaa);refine zah ?_;simp only [push_cast, seval];(repeat apply zaa);refine zl5 ?_;simp only [push_cast, seval, w2, v2];refine hR _ ⟨by omega, trivial, ?_⟩;rw [hsuc];exact (zax (zam rfl rfl) (by simp only [push_cast, seval]; simp [zaf, Wk.refl]))
    ·refine ⟨fun h2 => ?_, fun h2 => ?_⟩
     ·have hsuc := hwt 2;have hl0 := hwl 2;rw [if_pos (by simpa using h2)] at hsuc;(repeat apply zaa);refine zl5 ?_;simp only [push_cast, seval, z1, zhq, List.length_map]
      first | refine ⟨by omega, by omega, ?_⟩ | refine ⟨by omega, ?_⟩
      (repeat apply zaa);refine zl5 ?_;simp only [push_cast, seval, w3, v3];refine hR _ ⟨by omega, trivial, ?_⟩;rw [hsuc];simp only [List.map_append, List.map_cons, List.map_nil, List.length_append, List.length_cons, List.length_nil];exact (zax (zam rfl rfl) (by simp only [push_cast, seval]; simp [zaf, Wk.refl]))
     ·have hsuc := hwt 2;rw [if_neg (by simpa using h2), List.append_nil] at hsuc;(repeat apply zaa);refine zah ?_;simp only [push_cast, seval];(repeat apply zaa);refine zl5 ?_;simp only [push_cast, seval, w3, v3];refine hR _ ⟨by omega, trivial, ?_⟩;rw [hsuc];exact (zax (zam rfl rfl) (by simp only [push_cast, seval]; simp [zaf, Wk.refl]))
   ·have hi3 : i = 3 := (by omega);subst hi3;clear hR;(repeat apply zaa);refine zaq ?_;simp only [push_cast, seval];(repeat apply zaa);refine zl5 ?_;simp only [push_cast, seval];(repeat apply zaa);refine zai ?_;simp only [push_cast, seval];rw [Int.toNat_natCast] at h2;exact endA hH (zdC (zaK _ _ _) (Wk.refl _)) (by simp [zap, zaD, za3]) (h2 hz)
 ·(repeat apply zaa);refine zbE [3, 4] [0, 1, 2, 3, 4, 5, 6, 7, 8, 9, 10, 11] [⟨0, false, [], [([3], [3])]⟩, ⟨1, false, [], []⟩, ⟨2, false, [], []⟩, ⟨3, true, [3], []⟩, ⟨4, true, [3, 4], []⟩, ⟨5, false, [3, 4], []⟩, ⟨6, false, [3, 4], []⟩, ⟨7, false, [3, 4], []⟩, ⟨8, false, [3, 4], []⟩, ⟨9, false, [3, 4], []⟩, ⟨10, false, [3, 4], []⟩, ⟨11, false, [3, 4], []⟩] (fun D => bif isDone 3 D then H ++ [.cells x.l 26, .cells x.l 26, .cells [iv n] 3] else H ++ [.cells x.l 26]) F.mixed (by kernel_rfl) (by kernel_rfl) (by first | rfl | simp only [push_cast, seval]) ?_;simp only [push_cast, seval, Ring.l];refine eCall _ _ (zad (by kernel_rfl) (f89_c (x := x) ⟨rfl, rfl⟩)) ?_;(try simp only [push_cast, seval, Ring.l]);refine eCall _ _ (zad (by kernel_rfl) (f99_c hnr (hmn _) hs hask (fun _ => ⟨rfl, rfl⟩) (fun h => absurd h hz))) ?_;(try simp only [push_cast, seval, Ring.l]);(repeat apply zaa);refine zl5 ?_;simp only [push_cast, seval];(repeat apply zaa);refine zae ?_;simp only [push_cast, seval];refine ⟨fun h => ?_, fun h => absurd (by simpa using h) hz⟩;(repeat apply zaa);refine zl5 ?_;simp only [push_cast, seval];(repeat apply zaa);refine zai ?_;simp only [push_cast, seval];exact endA hH (Wk.refl _) (by simp [zap, zaD, zbh]) (h1 hz)
end
open Go.Conc Go.Proofs
def metL (D : List (List Int)) (k w : Nat) : Bool := D.any fun t => t.getD k 0 == (w : Int)
def dueW (D : List (List Int)) (k i : Nat) : List Int := ((List.range i).filter (metL D k)).map fun i : Nat => (i : Int)
def someW (x : Ring) (D : List (List Int)) (k l : Nat) : Nat := (D.filter fun t => opensW x.keys t x.locks k l).length
theorem dueW_le (D : List (List Int)) (k i : Nat) : (dueW D k i).length ≤ i := by
 unfold dueW;rw [List.length_map];have := List.length_filter_le (metL D k) (List.range i);simpa using this
theorem padR_getD {n k : Nat} {t : List Int} (hk : k < t.length) : (padR n t).getD k 0 = t.getD k 0 := by
 unfold padR;rw [List.getD_eq_getElem?_getD, List.getD_eq_getElem?_getD, List.getElem?_append_left hk]
theorem wears_law {x : Ring} (hx : x.Ok) {k : Nat} (hk : k < x.keys.length) : wearsM x k = dueW (truthsL x) k 3 := by
 unfold wearsM wearsTo dueW;congr 1;refine List.filter_congr fun w _ => ?_;unfold metB metL;rw [truths_any hx fun r => r.getD k 0 == (w : Int), Bool.eq_iff_iff];simp only [List.any_eq_true];refine exists_congr fun t => and_congr_right fun ht => ?_;obtain ⟨h1, h2⟩ := zhQ hx t ht;rw [padR_getD (by omega)]
theorem some_law {x : Ring} (hx : x.Ok) {k l : Nat} (hk : k < x.keys.length) (hl : l < x.locks.length) : cntM x k l (truthsM x []) = someW x (truthsL x) k l := by
 unfold cntM someW;have h1 : ((truthsM x []).filter fun t => (opensM x k (t.1.getD k 0).toNat).testBit l).length = (((truthsM x []).map (·.1)).filter fun r => (inTruth x r k).testBit l).length := by
  rw [List.filter_map, List.length_map]; rfl
 rw [h1, zgX hx, List.filter_map, List.length_map];congr 1;refine List.filter_congr fun t ht => ?_;obtain ⟨h1, h2⟩ := zhQ hx t ht;exact zf8 hx h1 h2 hk hl
theorem someW_le (x : Ring) (D : List (List Int)) (k l : Nat) : someW x D k l ≤ D.length := List.length_filter_le _ _
def endE (x : Ring) : Int := if truthsL x = [] then 11 else 0
theorem zero_iff {x : Ring} (hx : x.Ok) : truthsM x [] = [] ↔ truthsL x = [] := by rw [← List.length_eq_zero_iff, zlQ hx, List.length_eq_zero_iff]
theorem opening_of {x : Ring} (hx : x.Ok) {fl : Option Int} (hf : fl = none) : openingE x fl = endE x := by
 subst hf;have h0 : openE x none = 0 := zaN.2 ⟨zbH.2 hx, rfl⟩;unfold openingE endE;rw [h0, if_neg (by simp)];by_cases h : truthsL x = []
 ·rw [if_pos h, if_pos ((zero_iff hx).2 h)]
 ·rw [if_neg h, if_neg (fun e => h ((zero_iff hx).1 e))]
section
variable {H : List AObj} {k kp : AV → List AObj → Prop}
theorem f69_k {x : Ring} {n : Nat} (hmain : H[0]? = some .main) (hx : x.Ok) (hn : n < x.keys.length) (h : ∀ en, k (.tup [.sl (dueW (truthsL x) n 3).length ((dueW (truthsL x) n 3).map iv) en, iv (endE x)]) H) : FnC true Tryz.prog 69 H [x.av, iv n] k kp := by
 have hf : wearsFl x n = none := by unfold wearsFl inM; simp; omega
 have ho := opening_of hx hf;refine f69_c zaQ hmain hx.small (fun e => ?_) (fun e => ?_)
 ·rw [ho] at e ⊢;have hD : truthsL x = [] := Classical.byContradiction fun hn => e (by unfold endE; rw [if_neg hn]);have hd : dueW (truthsL x) n 3 = [] := by rw [hD]; rfl
  have := h .exact;rw [hd] at this;exact this
 ·rw [ho] at e;rw [Int.toNat_natCast, wears_law hx hn];have := h .shut;rw [e] at this;exact this
theorem f32_k {x : Ring} {n l : Nat} (hmain : H[0]? = some .main) (hx : x.Ok) (hn : n < x.keys.length) (hl : l < x.locks.length) (h : k (.tup [iv (if truthsL x = [] then 0 else verdictM (someW x (truthsL x) n l) (truthsL x).length), iv (endE x)]) H) : FnC true Tryz.prog 32 H [x.av, iv n, iv l] k kp := by
 have hf : opensFl x n l = none := zgu.2 ⟨⟨by omega, by omega⟩, by omega, by omega⟩;have ho := opening_of hx hf;refine f32_c zaQ hmain hx.small (fun e => ?_) (fun e => ?_)
 ·rw [ho] at e ⊢;have hD : truthsL x = [] := Classical.byContradiction fun hn => e (by unfold endE; rw [if_neg hn]);rw [if_pos hD] at h;exact h
 ·rw [ho] at e;rw [Int.toNat_natCast, Int.toNat_natCast, some_law hx hn hl, zlQ hx];have hD : truthsL x ≠ [] := fun hD => by unfold endE at e; rw [if_pos hD] at e; cases e
  rw [if_neg hD, e] at h;exact h
end
open Go.Conc
structure Kept3 (X Y Z : Prop) : Type where
 n : Nat
def UG (a : AV) (want : Bool) (X Y Z : Prop) (_t : Kept3 X Y Z) : Prop := (∃ b, a = .val (.bool b) ∧ (b = want → X) ∧ (b = !want → Y)) ∨ (a = .val undef ∧ Z)
theorem ug_b {b want : Bool} {X Y Z : Prop} {t : Kept3 X Y Z} : UG (.val (.bool b)) want X Y Z t = ((b = want → X) ∧ (b = !want → Y)) := by
 unfold UG;refine propext ⟨fun h => ?_, fun h => .inl ⟨b, rfl, h⟩⟩;rcases h with ⟨b', e, h⟩ | ⟨e, _⟩
 ·cases e; exact h
 ·cases e
theorem ug_tt (X Y Z : Prop) (t : Kept3 X Y Z) : UG (.val (.bool true)) true X Y Z t = X := by rw [ug_b]; simp
theorem ug_tf (X Y Z : Prop) (t : Kept3 X Y Z) : UG (.val (.bool true)) false X Y Z t = Y := by rw [ug_b]; simp
theorem ug_ft (X Y Z : Prop) (t : Kept3 X Y Z) : UG (.val (.bool false)) true X Y Z t = Y := by rw [ug_b]; simp
theorem ug_ff (X Y Z : Prop) (t : Kept3 X Y Z) : UG (.val (.bool false)) false X Y Z t = X := by rw [ug_b]; simp
theorem ug_u (want : Bool) (X Y Z : Prop) (t : Kept3 X Y Z) : UG (.val undef) want X Y Z t = Z := by
 unfold UG;refine propext ⟨fun h => ?_, fun h => .inr ⟨rfl, h⟩⟩;rcases h with ⟨b', e, _⟩ | ⟨_, h⟩
 ·cases e
 ·exact h
section
variable (lv : Bool) (P : Program)
def UOps (all : Array Oper) : List Oper → AS → (AS → Prop) → (AV → AS → Prop) → Prop
 | [], s, next, _ => next s
 | o :: rest, s, next, bad => match o.guard with
  | none => AStep lv P s o (fun s' => UOps all rest s' next bad) bad
  | some (j, want) => one1 ((all[j]?).bind (·.dst)) fun d => one1 (look s.T d) fun a => UG a want (AStep lv P ⟨(d, .val (.bool want)) :: s.T, s.H⟩ o (fun s' => UOps all rest s' next bad) bad) (UOps all rest ((⟨(d, .val (.bool !want)) :: s.T, s.H⟩ : AS).put o.dst (.val undef)) next bad) (UOps all rest (s.put o.dst (.val undef)) next bad) ⟨0⟩
end
theorem uOps_n : type_of% @UOps.eq_1 := by intros; rw [UOps.eq_1]
theorem uOps_c : type_of% @UOps.eq_2 := by intros; rw [UOps.eq_2]
@[congr] theorem uOps_congr {lv : Bool} {P : Program} {s s' : AS} {all : Array Oper} {l : List Oper} {next : AS → Prop} {bad : AV → AS → Prop} (h : s = s') : UOps lv P all l s next bad = UOps lv P all l s' next bad := by rw [h]
attribute [push_cast] uOps_n uOps_c ug_tt ug_tf ug_ft ug_ff ug_u
section
variable {lv : Bool} {P : Program} {r : Option Nat} {s : AS}
theorem uops_sound {nt : Nat} {all : Array Oper} {Φ : AEx → AS → Prop} (hdst : ∀ o ∈ all, ∀ d, o.dst = some d → d < nt) (hdef : ∀ o ∈ all, r = none ∨ isDefer o.op = false) : ∀ (n k : Nat) (s : AS), k + n = all.size → UOps lv P all (all.toList.drop k) s (Φ .normal) (fun pv s => Φ (.panic pv) s) →
  ∀ (E : Env) (V : View) (a : Act) (Q : Ex → Act → View → Prop), At E V s a nt → (∀ ae e E' V' a' s', Kept E E' V V' a a' → At E' V' s' a' nt → ExDen E' ae e → Φ ae s' → Q e a' V') → WPOps lv P r all Q (List.range' k n) a V
 | 0, k, s, hk, h, E, V, a, Q, hat, hQ => by
  have : all.toList.drop k = [] := by simp; omega
  rw [this] at h;exact hQ .normal .normal E V a s (Kept.refl E V a) hat trivial h
 | n + 1, k, s, hk, h, E, V, a, Q, hat, hQ => by
  have hlt : k < all.size := by omega
  have hd : all.toList.drop k = all[k] :: all.toList.drop (k + 1) := by
   rw [List.drop_eq_getElem_cons (by simpa using hlt)]; simp
  rw [hd] at h;have hmem : all[k] ∈ all := Array.getElem_mem hlt;have ho : all[k]? = some all[k] := Array.getElem?_eq_getElem hlt;simp only [List.range'_succ, WPOps, ho];have go : ∀ s : AS, At E V s a nt → AStep lv P s all[k] (fun s' => UOps lv P all (all.toList.drop (k + 1)) s' (Φ .normal) (fun pv s => Φ (.panic pv) s)) (fun pv s => Φ (.panic pv) s) → OpWP lv P r all[k] a V (WPOps lv P r all Q (List.range' (k + 1) n)) Q := fun s hat h => by
   refine h.sound (lv := lv) (r := r) E V a _ Q hat.conc hat.tok (fun d e => by rw [hat.size]; exact hdst _ hmem d e) (hdef _ hmem) (fun E' V' a' s' hk' hc' ht' hn => ?_) (fun E' V' s' pv v hk' hc' ht' hden hb => ?_)
   ·exact uops_sound hdst hdef n (k + 1) s' (by omega) hn E' V' a' Q ⟨hc', ht', hk'.size.trans hat.size⟩ (fun ae e E'' V'' a'' s'' hk'' hat'' he hΦ => hQ ae e E'' V'' a'' s'' (hk'.trans hk'') hat'' he hΦ)
   ·exact hQ (.panic pv) (.panic _) E' V' a s' hk' ⟨hc', ht', hat.size⟩ ⟨v, rfl, hden⟩ hb
  simp only [UOps] at h;split at h
  ·rename_i hg;have hw : Region.wanted all[k] (yielded all a.tmps) = true := (by unfold Region.wanted; rw [hg]);rw [if_pos hw];exact .inl (go s hat h)
  ·rename_i j want hg;obtain ⟨d, hdj, h⟩ := h.out;obtain ⟨av, h1, h⟩ := h.out;rcases h with ⟨b, rfl, h2, h3⟩ | ⟨rfl, h3⟩
   case inr =>
    have hv := (hat.tok d _ h1).2;have hy : yielded all a.tmps j ≠ some want := by
     obtain ⟨oj, hoj, hdd⟩ := Option.bind_eq_some_iff.1 hdj;generalize hx : a.tmps.getD d undef = x at hv;cases hv;have hlt' : d < a.tmps.size := (hat.tok d _ h1).1;rw [Array.getD_eq_getD_getElem?, Array.getElem?_eq_getElem hlt'] at hx;simp only [Option.getD_some] at hx;simp [yielded, hoj, hdd, Array.getElem?_eq_getElem hlt', hx, undef]
    have hw : ¬ Region.wanted all[k] (yielded all a.tmps) = true := by
     unfold Region.wanted; rw [hg];intro h;exact hy (by simpa using h)
    rw [if_neg hw];exact uops_sound hdst hdef n (k + 1) (s.put all[k].dst (.val undef)) (by omega) h3 E V (a.put all[k].dst undef) Q
     ⟨by rw [zbx]; exact hat.conc, hat.tok.putd (fun d e => by rw [hat.size]; exact hdst _ hmem d e) (.val undef), by rw [zaA]; exact hat.size⟩
     (fun ae e E'' V'' a'' s'' hk'' hat'' he hΦ => hQ ae e E'' V'' a'' s'' ⟨hk''.le, hk''.size.trans (zaA _ _ _), hk''.defers.trans (zaw _ _ _), hk''.role, hk''.deaf⟩ hat'' he hΦ)
   have hv := (hat.tok d _ h1).2;have hy : yielded all a.tmps j = some b := by
    obtain ⟨oj, hoj, hdd⟩ := Option.bind_eq_some_iff.1 hdj;generalize hx : a.tmps.getD d undef = x at hv;cases hv;have hlt' : d < a.tmps.size := (hat.tok d _ h1).1;rw [Array.getD_eq_getD_getElem?, Array.getElem?_eq_getElem hlt'] at hx;simp only [Option.getD_some] at hx;simp [yielded, hoj, hdd, Array.getElem?_eq_getElem hlt', hx]
   have know : ∀ b', b = b' → At E V ⟨(d, .val (.bool b')) :: s.T, s.H⟩ a nt := fun b' hb' => by
    subst hb';refine ⟨hat.conc, fun t x e => ?_, hat.size⟩;simp only [look] at e;split at e
    ·rename_i e'; subst e'; cases e; exact hat.tok d _ h1
    ·exact hat.tok t x e
   by_cases hb : b = want
   ·have hw : Region.wanted all[k] (yielded all a.tmps) = true := (by unfold Region.wanted; rw [hg]; simp [hy, hb]);rw [if_pos hw];exact .inl (go _ (know want hb) (h2 hb))
   ·have hw : ¬ Region.wanted all[k] (yielded all a.tmps) = true := (by unfold Region.wanted; rw [hg]; simp [hy, hb]);rw [if_neg hw];have hb' : b = !want := (by cases b <;> cases want <;> simp_all);have h3' := h3 hb';have hat := know _ hb';exact uops_sound hdst hdef n (k + 1) ((⟨(d, .val (.bool !want)) :: s.T, s.H⟩ : AS).put all[k].dst (.val undef)) (by omega) h3' E V (a.put all[k].dst undef) Q
     ⟨by rw [zbx]; exact hat.conc, hat.tok.putd (fun d e => by rw [hat.size]; exact hdst _ hmem d e) (.val undef), by rw [zaA]; exact hat.size⟩
     (fun ae e E'' V'' a'' s'' hk'' hat'' he hΦ => hQ ae e E'' V'' a'' s'' ⟨hk''.le, hk''.size.trans (zaA _ _ _), hk''.defers.trans (zaw _ _ _), hk''.role, hk''.deaf⟩ hat'' he hΦ)
theorem awp_regionU {nt id : Nat} {ops : Array Oper} {Φ : AEx → AS → Prop} (hd : dstsOk nt ops = true) (h : UOps lv P ops ops.toList s (Φ .normal) (fun pv s => Φ (.panic pv) s)) : AWP lv P r nt (.region id ops false) s Φ := by
 intro E V a Q hat hQ;refine zda ?_;rw [List.range_eq_range'];exact uops_sound (Φ := Φ) (fun o ho d e => (dstsOk.out hd ho).1 d e) (fun o ho => .inr (dstsOk.out hd ho).2) ops.size 0 s (by omega) (by simpa using h) E V a Q hat hQ
end
open Go.Conc Go.Proofs
section
variable {H : List AObj} {k kp : AV → List AObj → Prop}
end
open Go.Conc Go.Proofs
section
variable {lv : Bool} {H : List AObj} {k kp : AV → List AObj → Prop}
theorem f65_c {xs : List Int} {n : Int} {e : End} (hl : xs.length < 2 ^ 30) (hk : ∀ v : Int, (0 ≤ v ↔ n ∈ xs) → (∀ i : Nat, v = i → xs[i]? = some n) → k (iv v) H) : FnC lv Tryz.prog 65 H [.sl xs.length (xs.map iv) e, iv n] k kp := by
 refine zak (rs := [.tmp 4]) (nt := 19) F.f65 rfl rfl rfl (by simp) fun hH hA => ?_;simp only [argsT, Nat.reduceAdd];(repeat apply zaa);refine zl5 ?_;simp only [push_cast, seval];(repeat apply zaa);refine zl5 ?_;simp only [push_cast, seval];(repeat apply zaa);refine zag ?_;refine zaB xs.length (fun i : Nat => [(5, iv i)]) (fun _ => _) (fun i => n ∉ xs.take i) (fun _ _ => rfl) (by simp only [push_cast, seval, List.forall_mem_cons, List.not_mem_nil, false_imp_iff, implies_true, List.forall_mem_nil]; simp [zaf, Wk.refl]) rfl (fun _ _ _ => rfl) (by simp) (fun hHs hLt i hin hi R hR => ?_);clear hHs hLt;(repeat apply zaa);refine zl5 ?_;simp only [push_cast, seval];(repeat apply zaa);refine zae ?_;simp only [push_cast, seval];refine ⟨fun h => ?_, fun h => ?_⟩
 ·have hil : i < xs.length := by omega
  obtain ⟨y, hy⟩ := zaE hil;have hw1 : IntKind.i64.wrap ((i : Int) + 1) = i + 1 := zau _ (by omega);(repeat apply zaa);refine zah ?_;simp only [push_cast, seval];(repeat apply zaa);refine zag ?_;(repeat apply zaa);refine zl5 ?_;simp only [push_cast, seval, za2 hy, zaz hil];(repeat apply zaa);refine zae ?_;simp only [push_cast, seval];refine ⟨fun h2 => ?_, fun h2 => ?_⟩
  ·have h2 : y = n := (by simpa using h2);subst h2;(repeat apply zaa);refine zl5 ?_;simp only [push_cast, seval];(repeat apply zaa);refine zai ?_;simp only [push_cast, seval];exact zao (hk i ⟨fun _ => zas hy, fun _ => by omega⟩ fun j hj => by
    have : i = j := (by omega);subst this; exact hy)
  ·have h2 : ¬ y = n := (by simpa using h2);(repeat apply zaa);refine zah ?_;simp only [push_cast, seval];(repeat apply zaa);refine zl5 ?_;simp only [push_cast, seval, hw1];refine hR _ ⟨hil, fun hm => ?_, (zax (zam rfl rfl) (by simp only [push_cast, seval]; simp [zaf, Wk.refl]))⟩;obtain ⟨hj, hle⟩ := List.getElem?_eq_some_iff.1 hy;rw [List.take_succ_eq_append_getElem hj, hle] at hm;rcases List.mem_append.1 hm with hm | hm
   ·exact hi hm
   ·exact h2 (List.mem_singleton.1 hm).symm
 ·have hix : i = xs.length := by omega
  subst hix;rw [List.take_length] at hi;(repeat apply zaa);refine zaq ?_;simp only [push_cast, seval];(repeat apply zaa);refine zl5 ?_;simp only [push_cast, seval];(repeat apply zaa);refine zai ?_;simp only [push_cast, seval];exact zao (hk (-1) ⟨fun h => by omega, fun h => absurd h hi⟩ fun j hj => by omega)
end
open Go.Conc Go.Proofs
theorem mem_listsM {n : Nat} : ∀ {k : Nat} {t : List Int}, t.length = k → (∀ w ∈ t, 0 ≤ w ∧ w < n) → t ∈ listsM n k
 | 0, t, h, _ => by rw [List.length_eq_zero_iff.1 h]; simp [listsM]
 | k + 1, [], h, _ => by simp at h
 | k + 1, w :: t, h, hw => by
  have h1 := mem_listsM (n := n) (k := k) (t := t) (by simpa using h) fun v hv => hw v (List.mem_cons_of_mem _ hv);obtain ⟨h2, h3⟩ := hw w (List.mem_cons_self ..);unfold listsM;refine List.mem_flatMap.2 ⟨w.toNat, List.mem_range.2 (by omega), List.mem_map.2 ⟨t, h1, ?_⟩⟩;have : ((w.toNat : Nat) : Int) = w := by omega
  rw [this]
theorem triesOk_all {x : Ring} {t : List Int} (h : ∀ r ∈ x.tries, opensW x.keys t x.locks r.key r.lock = r.opens) : ∀ i, triesOk x t i = true
 | 0 => rfl
 | i + 1 => by
  unfold triesOk;rw [triesOk_all h i, Bool.true_and];cases hr : x.tries[i]? with
  | none => rfl
  | some r => simp only; rw [h r (zas hr)]; simp
theorem wearOk_all {x : Ring} {t : List Int} (h : ∀ (k : Nat) (y : Key) (w : Int), x.keys[k]? = some y → t[k]? = some w → y.wear.min ≤ w ∧ w ≤ y.wear.max) : ∀ i, wearOk x t i = true
 | 0 => rfl
 | i + 1 => by
  unfold wearOk;rw [wearOk_all h i, Bool.true_and];cases hy : x.keys[i]? with
  | none => rfl
  | some y =>
   cases hw : t[i]? with
   | none => rfl
   | some w =>
    obtain ⟨h1, h2⟩ := h i y w hy hw;simp [h1, h2]
theorem true_mem {K L T : Nat} {x : Ring} {ws : List Int} (h : RingP K L T false x ws) : ws ∈ truthsL x := by
 unfold truthsL fineW;refine List.mem_filter.2 ⟨mem_listsM h.kp.len fun w hw => ?_, ?_⟩
 ·obtain ⟨i, hi⟩ := List.mem_iff_getElem?.1 hw;obtain ⟨hj, _⟩ := List.getElem?_eq_some_iff.1 hi;obtain ⟨y, hy⟩ := zaE (xs := x.keys) (i := i) (by have := h.kp.len; omega);have h1 := h.kp.worn i y w hy hi;obtain ⟨_, _, h2⟩ := h.kp.key y (zas hy);have h3 := h2.min;have h4 := h2.max;omega
 ·rw [wearOk_all (fun k y w => h.kp.worn k y w), triesOk_all (fun r hr => (h.told rfl r hr).symm)]; rfl
theorem true_wrong {K L T : Nat} {x : Ring} {ws : List Int} (h : RingP K L T false x ws) (hx : x.Ok) : wrongM x = [] := by
 have hm := true_mem h;have h1 : 0 < (truthsM x []).length := by rw [zlQ hx]; exact List.length_pos_of_mem hm
 unfold wrongM;rw [zhG (k := 0) (x := []) (Nat.zero_le _) (fun k' hk => absurd hk (Nat.not_lt_zero _)) (by simp [levelM, h1])];rfl
theorem true_dueW {K L T : Nat} {x : Ring} {ws : List Int} (h : RingP K L T false x ws) {k : Nat} {w : Int} (hw : ws[k]? = some w) (hw2 : 0 ≤ w ∧ w ≤ 2) : w ∈ dueW (truthsL x) k 3 := by
 unfold dueW;refine List.mem_map.2 ⟨w.toNat, List.mem_filter.2 ⟨List.mem_range.2 (by omega), ?_⟩, by omega⟩;unfold metL;refine List.any_eq_true.2 ⟨ws, true_mem h, ?_⟩;rw [List.getD_eq_getElem?_getD, hw];simp only [Option.getD_some, beq_iff_eq];omega
theorem true_some {K L T : Nat} {x : Ring} {ws : List Int} (h : RingP K L T false x ws) (k l : Nat) : (opensW x.keys ws x.locks k l = true → 0 < someW x (truthsL x) k l) ∧ (opensW x.keys ws x.locks k l = false → someW x (truthsL x) k l < (truthsL x).length) := by
 have hm := true_mem h;refine ⟨fun e => List.length_pos_of_mem (List.mem_filter.2 ⟨hm, e⟩), fun e => ?_⟩;unfold someW;rcases Nat.lt_or_ge ((truthsL x).filter fun t => opensW x.keys t x.locks k l).length (truthsL x).length with h1 | h1
 ·exact h1
 ·exfalso;have h2 := List.length_filter_le (fun t => opensW x.keys t x.locks k l) (truthsL x);have h3 := (List.length_filter_eq_length_iff.1 (Nat.le_antisymm h2 h1)) ws hm;rw [e] at h3; cases h3
open Go.Conc Go.Proofs
def TellsOf (x : Ring) (ws : List Int) (bag : Nat) (us : List Turn) : Prop := ∀ u ∈ us, u.opens = opensW x.keys ws x.locks u.key bag
theorem mem_dueL {x : Ring} {us : List Turn} {n : Nat} {v : Int} : v ∈ dueL x us n ↔ ∃ i : Nat, i < n ∧ bagL x us i = true ∧ v = i := by
 unfold dueL;rw [List.mem_map];refine ⟨fun ⟨i, h, e⟩ => ?_, fun ⟨i, h1, h2, e⟩ => ⟨i, List.mem_filter.2 ⟨List.mem_range.2 h1, h2⟩, e.symm⟩⟩;obtain ⟨h1, h2⟩ := List.mem_filter.1 h;exact ⟨i, List.mem_range.1 h1, h2, e.symm⟩
theorem bag_stays {K L T : Nat} {x : Ring} {ws : List Int} (h : RingP K L T false x ws) {us : List Turn} {bag : Nat} (hb : bag < x.locks.length) (hu : TellsOf x ws bag us) : (bag : Int) ∈ dueL x us x.locks.length := by
 refine mem_dueL.2 ⟨bag, hb, ?_, rfl⟩;unfold bagL;refine List.any_eq_true.2 ⟨ws, true_mem h, List.all_eq_true.2 fun u hu' => ?_⟩;rw [hu u hu']; simp
theorem due_less {x : Ring} {us : List Turn} {u : Turn} {n : Nat} {v : Int} (h : v ∈ dueL x (us ++ [u]) n) : v ∈ dueL x us n := by
 obtain ⟨i, h1, h2, h3⟩ := mem_dueL.1 h;refine mem_dueL.2 ⟨i, h1, ?_, h3⟩;unfold bagL at h2 ⊢;obtain ⟨t, ht, h4⟩ := List.any_eq_true.1 h2;refine List.any_eq_true.2 ⟨t, ht, ?_⟩;rw [List.all_append, Bool.and_eq_true] at h4;exact h4.1
section
variable {H : List AObj} {k kp : AV → List AObj → Prop}
theorem f46_t {K L T : Nat} {x : Ring} {ws : List Int} (hP : RingP K L T false x ws) {us : List Turn} (hmain : H[0]? = some .main) (hx : x.Ok) (hul : us.length ≤ 6) (hu : UsOk x us) (h : ∀ en, k (.tup [.sl (dueL x us x.locks.length).length ((dueL x us x.locks.length).map iv) en, iv 0]) H) : FnC true Tryz.prog 46 H [x.av, aTurns us] k kp := by
 refine f46_k hmain hx.small hx hul hu fun g e hg en => ?_;rcases hg with ⟨_, rfl, rfl⟩ | ⟨h1, _, _⟩
 ·rw [which_law hx hu]; exact h en
 ·exfalso;have := true_mem hP;rw [(zero_iff hx).1 h1] at this;cases this
end
open Go.Conc Go.Proofs
section
variable {H : List AObj} {k kp : AV → List AObj → Prop}
theorem f46_e {K L T : Nat} {x : Ring} {ws : List Int} {us : List Turn} {n : Nat} {l : List AV} {e : End} (hP : RingP K L T false x ws) (hmain : H[0]? = some .main) (hx : x.Ok) (hul : us.length ≤ 6) (hu : UsOk x us) (hn : n = us.length) (hl : l = us.flatMap Turn.l) (h : ∀ en, k (.tup [.sl (dueL x us x.locks.length).length ((dueL x us x.locks.length).map iv) en, iv 0]) H) : FnC true Tryz.prog 46 H [x.av, .sl n l e] k kp := by
 subst hn hl;exact fun E V vs hc hd => f46_t hP hmain hx hul hu h E V vs hc ⟨hd.1, fun i a ha => match i, ha with
  | 0, ha => hd.2 0 a ha
  | 1, ha => by cases ha; exact zaK _ _ _ _ _ (hd.2 1 _ rfl)⟩
set_option maxRecDepth 4000 in
set_option maxHeartbeats 2000000 in
theorem f17_c {nums : List Int} (hmain : H[0]? = some .main) (hn : nums.length ≤ 2 ^ 50) (hk : k (bv true) H) : FnC true Tryz.prog 17 H [aInts nums] k kp := by
 have hmn : ∀ L : List AObj, (H ++ L)[0]? = some .main := fun L => zay hmain;refine zak (rs := [.tmp 2]) (nt := 179) F.f17 rfl rfl rfl (by simp) fun hH hA => ?_;simp only [argsT, Nat.reduceAdd];(repeat apply zaa);refine zl5 ?_;simp only [push_cast, seval];(repeat apply zaa);refine zl5 ?_;simp only [push_cast, seval];refine zl6 ((f26_c ?_));(try simp only [push_cast, seval]);(repeat apply zaa);refine zl5 ?_;simp only [push_cast, seval];refine zl6 ((f49_c (K := 4) (L := 4) (T := 5) (wr := false) (zjT H) (tinOk0 hn _) (by decide) (by decide) (by decide) (by decide) fun x ws τ hP hτ => ?_));(try simp only [push_cast, seval, Ring.av, Ring.l]);have hx := hP.ok (by decide) (by decide) (by decide);have hs := hx.small;have hkl := hP.keys;have hll := hP.locks;have hwl := hP.kp.len;have hwb : ∀ (i : Nat) (w : Int), ws[i]? = some w → 0 ≤ w ∧ w ≤ 2 := fun i w hi => (zhQ hx ws (true_mem hP)).2 w (zas hi);have hne : truthsL x ≠ [] := fun e => by have := true_mem hP; rw [e] at this; cases this
 have hE : endE x = 0 := by unfold endE; exact if_neg hne
 (repeat apply zaa);refine zl5 ?_;simp only [push_cast, seval];refine zl6 ((f51_k (x := x) (hmn _) hs hx ?_));rw [true_wrong hP hx];(try simp only [push_cast, seval]);(repeat apply zaa);refine zl5 ?_;simp only [push_cast, seval, aInts, bne_self_eq_false, List.length_nil, decide_false, decide_true];(repeat apply zaa);refine zae ?_;simp only [push_cast, seval];(repeat apply zaa);refine zah ?_;simp only [push_cast, seval];(repeat apply zaa);refine zl5 ?_;simp only [push_cast, seval];have w1 : ∀ i : Nat, i ≤ 1000 → IntKind.i64.wrap ((i : Int) + 1) = i + 1 := fun i _ => zau _ (by omega);(repeat apply zaa);refine zag ?_;refine zaB x.keys.length (fun n : Nat => [(8, iv n)]) (fun _ => _) (fun _ => True) (fun _ _ => rfl) (by simp only [push_cast, seval, List.forall_mem_cons, List.not_mem_nil, false_imp_iff, implies_true, List.forall_mem_nil]; simp [zaf, Wk.refl]) rfl (fun _ _ _ => rfl) trivial (fun hHs0 hLt0 n hnn hno R hR => ?_);clear hLt0;(repeat apply zaa);refine zl5 ?_;simp only [push_cast, seval, aKeys];(repeat apply zaa);refine zae ?_;simp only [push_cast, seval];refine ⟨fun h => ?_, fun h => ?_⟩
 ·have hnl : n < x.keys.length := by omega
  have hwn := w1 n (by omega);obtain ⟨w, hw⟩ := zaE (xs := ws) (i := n) (by omega);have hmem := true_dueW hP hw (hwb n w hw);have hdl := dueW_le (truthsL x) n 3;(repeat apply zaa);refine zah ?_;simp only [push_cast, seval];(repeat apply zaa);refine zag ?_;(repeat apply zaa);refine zl5 ?_;simp only [push_cast, seval];refine zl6 ((f69_k (x := x) (n := n) (hmn _) hx hnl fun en => ?_));(try simp only [push_cast, seval]);(repeat apply zaa);refine zl5 ?_;simp only [push_cast, seval, hE, za2 hw, zaz (get_lt hw), aInts, bne_self_eq_false, decide_false, decide_true];refine zl6 ((f65_c (xs := dueW (truthsL x) n 3) (by omega) fun v hv _ => ?_));have hv0 := hv.2 hmem;have hvl : (v < 0) = False := by simp; omega
  (try simp only [push_cast, seval, hvl, decide_false]);(repeat apply zaa);refine zae ?_;simp only [push_cast, seval];(repeat apply zaa);refine zah ?_;simp only [push_cast, seval];(repeat apply zaa);refine zl5 ?_;simp only [push_cast, seval];(repeat apply zaa);refine zag ?_;refine zaB x.locks.length (fun l : Nat => [(11, iv l)]) (fun _ => _) (fun _ => True) (fun _ _ => rfl) (by simp only [push_cast, seval, List.forall_mem_cons, List.not_mem_nil, false_imp_iff, implies_true, List.forall_mem_nil]; simp [zaf, Wk.refl]) rfl (fun _ _ _ => rfl) trivial (fun hHs hLt l hln hlo R2 hR2 => ?_);clear hHs hLt;(repeat apply zaa);refine zl5 ?_;simp only [push_cast, seval, aLocks];(repeat apply zaa);refine zae ?_;simp only [push_cast, seval];refine ⟨fun h3 => ?_, fun h3 => ?_⟩
  ·have hll2 : l < x.locks.length := (by omega);have hwl2 := w1 l (by omega);obtain ⟨hs1, hs2⟩ := true_some hP n l;have hsl := someW_le x (truthsL x) n l;(repeat apply zaa);refine zah ?_;simp only [push_cast, seval];(repeat apply zaa);refine zag ?_;(repeat apply zaa);refine zl5 ?_;simp only [push_cast, seval];refine zl6 ((f32_k (x := x) (hmn _) hx hnl hll2 ?_));(try simp only [push_cast, seval]);(repeat apply zaa);refine zl5 ?_;simp only [push_cast, seval, aInts];refine zl6 ((f58_c (x := x) hx hnl hll2 (by omega) (fun w hw => (zhQ hx ws (true_mem hP)).2 w hw) ?_));(try simp only [push_cast, seval]);rw [if_neg hne];generalize someW x (truthsL x) n l = sw at hs1 hs2 hsl ⊢;have hnot : (opensW x.keys ws x.locks n l = true → (verdictM sw (truthsL x).length == 2) = false) ∧ (opensW x.keys ws x.locks n l = false → (verdictM sw (truthsL x).length == 1) = false) := by
    unfold verdictM;refine ⟨fun e => ?_, fun e => ?_⟩
    ·have := hs1 e;rw [if_neg (by omega)];split <;> rfl
    ·have := hs2 e;by_cases h0 : sw = 0
     ·rw [if_pos h0]; rfl
     ·rw [if_neg h0, if_neg (by omega)]; rfl
   obtain ⟨hn1, hn2⟩ := hnot;cases hb : opensW x.keys ws x.locks n l with
   | true =>
    have hq := hn1 hb;(repeat apply zaa);refine awp_regionU (by kernel_rfl) ?_;simp only [push_cast, seval, hE, hb, hq, bne_self_eq_false, decide_false, decide_true, Bool.not_true];(repeat apply zaa);refine zae ?_;simp only [push_cast, seval];(repeat apply zaa);refine zah ?_;simp only [push_cast, seval];(repeat apply zaa);refine zl5 ?_;simp only [push_cast, seval, hwl2];refine hR2 _ ⟨hll2, trivial, (zax (zam rfl rfl) (by simp only [push_cast, seval]; simp [zaf, Wk.refl]))⟩
   | false =>
    have hq := hn2 hb;(repeat apply zaa);refine awp_regionU (by kernel_rfl) ?_;simp only [push_cast, seval, hE, hb, hq, bne_self_eq_false, decide_false, decide_true, Bool.not_false];(repeat apply zaa);refine zae ?_;simp only [push_cast, seval];(repeat apply zaa);refine zah ?_;simp only [push_cast, seval];(repeat apply zaa);refine zl5 ?_;simp only [push_cast, seval, hwl2];refine hR2 _ ⟨hll2, trivial, (zax (zam rfl rfl) (by simp only [push_cast, seval]; simp [zaf, Wk.refl]))⟩
  ·have hlx : l = x.locks.length := (by omega);subst hlx;clear hR2;(repeat apply zaa);refine zaq ?_;simp only [push_cast, seval];(repeat apply zaa);refine zl5 ?_;simp only [push_cast, seval, hwn];refine hR _ ⟨hnl, trivial, (zax (zam rfl rfl) (by simp only [push_cast, seval]; simp [zaf, Wk.refl]))⟩
 ·have hnx : n = x.keys.length := by omega
  subst hnx;clear hR;(repeat apply zaa);refine zaq ?_;simp only [push_cast, seval];(repeat apply zaa);refine zl5 ?_;simp only [push_cast, seval, aLocks];(repeat apply zaa);refine zae ?_;simp only [push_cast, seval];refine ⟨fun h2 => ?_, fun h2 => ?_⟩
  ·(repeat apply zaa);refine zl5 ?_;simp only [push_cast, seval];refine zl6 ((f25_c (hmn _) ?_));(try simp only [push_cast, seval]);(repeat apply zaa);refine zai ?_;simp only [push_cast, seval];exact endA hH (Wk.refl _) (by simp [zap]) hk
  ·have hl0 : 0 < x.locks.length := Nat.pos_of_ne_zero fun e => (by rw [e] at h2; simp at h2);have hw2 : IntKind.i64.wrap ((x.locks.length : Int) - 1) = x.locks.length - 1 := zau _ (by omega);have hw3 : IntKind.i64.wrap ((x.keys.length : Int) - 1) = x.keys.length - 1 := zau _ (by omega);have htb : ∀ w ∈ ws, 0 ≤ w ∧ w ≤ 2 := (zhQ hx ws (true_mem hP)).2;(repeat apply zaa);refine zah ?_;simp only [push_cast, seval];(repeat apply zaa);refine zl5 ?_;simp only [push_cast, seval, aLocks, hw2];refine zl6 ((f29_c (tinAt_at H _) hτ (by omega) (by omega) ?_));(try simp only [push_cast, seval]);have hbr := zaX τ ((x.locks.length : Int) - 1);generalize uptoT τ ((x.locks.length : Int) - 1) = bag at hbr ⊢;obtain ⟨bg, rfl⟩ : ∃ n : Nat, bag = n := ⟨bag.toNat, by omega⟩;have hbl : bg < x.locks.length := (by omega);(repeat apply zaa);refine zl5 ?_;simp only [push_cast, seval]
   (repeat apply zaa); refine zbV (t := 16) (sz := 2) (el := 52) (by simp only [push_cast, seval] <;> rfl) ?_
   (try simp only [push_cast, seval]);(repeat apply zaa);refine zl5 ?_;simp only [push_cast, seval];refine zl6 ((f46_e (us := []) hP (hmn _) hx (by simp) (by intro u hu; cases hu) rfl rfl fun en => ?_));(try simp only [push_cast, seval]);refine awp_wkT 17 (.sl (dueL x [] x.locks.length).length ((dueL x [] x.locks.length).map iv) .shut) (by simp only [push_cast, seval] <;> rfl) (zaK _ _ _) ?_;(repeat apply zaa);refine zl5 ?_;simp only [push_cast, seval];(repeat apply zaa);refine zag ?_;refine za9 (measure fun m : List Turn × TinS => 4 - m.1.length).wf (fun m => [(19, iv m.1.length), (18, iv 0), (17, .sl (dueL x m.1 x.locks.length).length ((dueL x m.1 x.locks.length).map iv) .shut), (16, .sl m.1.length (m.1.flatMap Turn.l) (.opn (H.length + 2)))]) (fun m => H ++ [tinO m.2, .cells [iv x.cuts, aKeys x.keys, aLocks x.locks, aTries x.tries] 26, .tail m.1.length 2 52]) (fun m => (UsOk x m.1 ∧ TellsOf x ws bg m.1) ∧ m.1.length ≤ 4 ∧ m.2.Ok (0 + 1000 + 1 + m.1.length)) ([], tick τ) (fun _ _ => rfl) (by simp only [push_cast, seval, List.forall_mem_cons, List.not_mem_nil, false_imp_iff, implies_true, List.forall_mem_nil]; simp [zaf, Wk.refl]) rfl (fun _ _ => by simp) ⟨⟨fun u hu => absurd hu (by simp), fun u hu => absurd hu (by simp)⟩, by simp, hτ.tick.mono (by simp)⟩ (fun hHs hLt m hok R hR => ?_);clear hLt;obtain ⟨us, τ'⟩ := m;obtain ⟨⟨hus, hut⟩, hu4, hto⟩ := hok;simp only at hus hut hu4 hto;have hdl := dueL_le x us x.locks.length;(repeat apply zaa);refine zl5 ?_;simp only [push_cast, seval];(repeat apply zaa);refine zae ?_;simp only [push_cast, seval];refine ⟨fun h3 => ?_, fun h3 => ?_⟩
   ·have hlt : us.length < 4 := (by omega);have htl := turns_len us;have hwu := w1 us.length (by omega);(repeat apply zaa);refine zah ?_;simp only [push_cast, seval];(repeat apply zaa);refine zag ?_;(repeat apply zaa);refine zl5 ?_;simp only [push_cast, seval, bne_self_eq_false, decide_false, decide_true];refine zl6 ((f65_c (xs := dueL x us x.locks.length) (by omega) fun v hv _ => ?_));have hv0 := hv.2 (bag_stays hP hbl hut);have hvl : (v < 0) = False := (by simp; omega);(try simp only [push_cast, seval, hvl, decide_false]);(repeat apply zaa);refine zae ?_;simp only [push_cast, seval];(repeat apply zaa);refine zah ?_;simp only [push_cast, seval];(repeat apply zaa);refine zl5 ?_;simp only [push_cast, seval, aKeys, hw3];refine zl6 ((f29_c (tinAt_at H _) hto (by omega) (by omega) ?_));(try simp only [push_cast, seval]);have hkr := zaX τ' ((x.keys.length : Int) - 1);generalize uptoT τ' ((x.keys.length : Int) - 1) = kx at hkr ⊢;obtain ⟨kn, rfl⟩ : ∃ n : Nat, kx = n := ⟨kx.toNat, by omega⟩;have hkn : kn < x.keys.length := (by omega);(repeat apply zaa);refine zl5 ?_;simp only [push_cast, seval, aInts];refine zl6 ((f58_c (x := x) hx hkn hbl (by omega) htb ?_));try simp only [push_cast, seval, zu2, zhq, htl]
    first | refine ⟨by omega, by omega, ?_⟩ | refine ⟨by omega, ?_⟩
    (repeat apply zaa);refine zl5 ?_;simp only [push_cast, seval];have hsn := turns_snoc us (⟨kn, opensW x.keys ws x.locks kn bg⟩ : Turn);have hul : (us ++ [(⟨kn, opensW x.keys ws x.locks kn bg⟩ : Turn)]).length = us.length + 1 := (by simp);have hus' : UsOk x (us ++ [(⟨kn, opensW x.keys ws x.locks kn bg⟩ : Turn)]) := fun u hu => by
     rcases List.mem_append.1 hu with hu | hu
     ·exact hus u hu
     ·rw [List.mem_singleton.1 hu]; exact ⟨by simp only; omega, by simp only; omega⟩
    have hut' : TellsOf x ws bg (us ++ [(⟨kn, opensW x.keys ws x.locks kn bg⟩ : Turn)]) := fun u hu => by
     rcases List.mem_append.1 hu with hu | hu
     ·exact hut u hu
     ·rw [List.mem_singleton.1 hu]
    have hless : ∀ v, v ∈ dueL x (us ++ [(⟨kn, opensW x.keys ws x.locks kn bg⟩ : Turn)]) x.locks.length → v ∈ dueL x us x.locks.length := fun v hv => due_less hv;have hmeas : 4 - (us ++ [(⟨kn, opensW x.keys ws x.locks kn bg⟩ : Turn)]).length < 4 - us.length := (by rw [hul]; omega);simp only at hsn;generalize opensW x.keys ws x.locks kn bg = ob at hsn hul hus' hut' hless hmeas ⊢;generalize hvs : us ++ [(⟨kn, ob⟩ : Turn)] = vs at hsn hul hus' hut' hless hmeas;refine zl6 ((f46_e (us := vs) hP (hmn _) hx (by omega) hus' hul.symm hsn.symm fun en => ?_));(try simp only [push_cast, seval]);refine awp_wkT 21 (.sl (dueL x vs x.locks.length).length ((dueL x vs x.locks.length).map iv) .shut) (by simp only [push_cast, seval] <;> rfl) (zaK _ _ _) ?_;have hdl2 := dueL_le x vs x.locks.length;(repeat apply zaa);refine zl5 ?_;simp only [push_cast, seval];(repeat apply zaa);refine zag ?_;refine zaB (dueL x vs x.locks.length).length (fun j : Nat => [(23, iv j)]) (fun _ => _) (fun _ => True) (fun _ _ => rfl) (by simp only [push_cast, seval, List.forall_mem_cons, List.not_mem_nil, false_imp_iff, implies_true, List.forall_mem_nil]; simp [zaf, Wk.refl]) rfl (fun _ _ _ => rfl) trivial (fun hHs2 hLt2 j hjn hjo R2 hR2 => ?_);clear hHs2 hLt2;(repeat apply zaa);refine zl5 ?_;simp only [push_cast, seval];(repeat apply zaa);refine zae ?_;simp only [push_cast, seval];refine ⟨fun h4 => ?_, fun h4 => ?_⟩
    ·have hjl : j < (dueL x vs x.locks.length).length := (by omega);obtain ⟨w, hw⟩ := zaE hjl;have hwj := w1 j (by omega);(repeat apply zaa);refine zah ?_;simp only [push_cast, seval];(repeat apply zaa);refine zag ?_;(repeat apply zaa);refine zl5 ?_;simp only [push_cast, seval, za2 hw, zaz hjl];refine zl6 ((f65_c (xs := dueL x us x.locks.length) (by omega) fun v2 hv2 _ => ?_));have hv20 := hv2.2 (hless w (zas hw));have hvl2 : (v2 < 0) = False := (by simp; omega);(try simp only [push_cast, seval, hvl2, decide_false]);(repeat apply zaa);refine zae ?_;simp only [push_cast, seval];(repeat apply zaa);refine zah ?_;simp only [push_cast, seval];(repeat apply zaa);refine zl5 ?_;simp only [push_cast, seval, hwj];refine hR2 _ ⟨hjl, trivial, (zax (zam rfl rfl) (by simp only [push_cast, seval]; simp [zaf, Wk.refl]))⟩
    ·clear hR2;(repeat apply zaa);refine zaq ?_;simp only [push_cast, seval];(repeat apply zaa);refine zl5 ?_;simp only [push_cast, seval];(repeat apply zaa);refine zl5 ?_;simp only [push_cast, seval, hwu];refine hR _ ⟨(vs, tick τ'), hmeas, ⟨⟨hus', hut'⟩, by show vs.length ≤ 4; omega, hto.tick.mono (by show (_ : Int) ≤ 0 + 1000 + 1 + (vs.length : Nat); omega)⟩, ?_⟩;simp only [hul, hsn];exact (zax (zam rfl rfl) (by simp only [push_cast, seval]; simp [zaf, Wk.refl]))
   ·clear hR;(repeat apply zaa);refine zaq ?_;simp only [push_cast, seval];(repeat apply zaa);refine zl5 ?_;simp only [push_cast, seval, beq_self_eq_true];refine zl6 ((f65_c (xs := dueL x us x.locks.length) (by omega) fun v hv _ => ?_));have hv0 := hv.2 (bag_stays hP hbl hut);have hge : decide (v ≥ 0) = true := (by simpa using hv0);(try simp only [push_cast, seval, hge]);refine zl6 ((f25_c (hmn _) ?_));(try simp only [push_cast, seval]);(repeat apply zaa);refine zai ?_;simp only [push_cast, seval];exact endA hH (Wk.refl _) (by simp [zap]) hk
end
end Go.Gg
namespace Go.Proofs.YtoaaoiipickclaaGreat
open Go.Conc Go.Proofs Go.Gg
theorem kuName : Tryz.prog.funcNamed Rows.keyTrueRow.func = some 17 := by kernel_rfl
theorem kuJoined : joinedFacts Tryz.prog 17 Tryz.f17 Rows.keyTrueSpec Rows.keyTrueRow = true :=
 zkH (by kernel_rfl) Tz.laidOut (by kernel_rfl) (by kernel_rfl) (by kernel_rfl) (by kernel_rfl) (by kernel_rfl) (by kernel_rfl) (by kernel_rfl) (by kernel_rfl) (by kernel_rfl) (by kernel_rfl) (by kernel_rfl) (by kernel_rfl) (by kernel_rfl) (by kernel_rfl) (by kernel_rfl) (by kernel_rfl) (by kernel_rfl) (by kernel_rfl) (by kernel_rfl) (by kernel_rfl) (by kernel_rfl) (by kernel_rfl) (by kernel_rfl) Tz.mayEnter (zkB (by kernel_rfl)) (make_of' (by kernel_rfl)) (by kernel_rfl) (by kernel_rfl) (by kernel_rfl) (by kernel_rfl) (by kernel_rfl)
theorem kuInst : Tryz.f17.isInstance Tryz.prog Rows.keyTrueRow.origin Rows.keyTrueRow.targs := of_decide_eq_true (by kernel_rfl)
theorem kuWrap : Tryz.f17.isWrapper Tryz.prog Rows.keyTrueRow.wrapper Rows.keyTrueRow.mainSum := by unfold Func.isWrapper; first | (rw [if_pos (by decide +kernel)]; kernel_rfl) | (rw [if_neg (by decide +kernel)]; exact ⟨rfl, rfl⟩)
theorem keyTrue_lifted (os : Os) (started : os.Started) (H : Type) (enc : TypeId × Value → H) :
  ReturnsInLeavingWide {} Tryz.checked os 17 .any (Rows.keyTrueSpec.pre6 enc Tryz.prog Tryz.f17 Rows.keyTrueRow.domain false) (Rows.keyTrueSpec.post enc Tryz.prog Tryz.f17 false true false false) :=
 zhC (f := 17) (fn := Tryz.f17) (s := Rows.keyTrueSpec) Tryz.func17 rfl rfl rfl (fun _ _ => rfl) (by kernel_rfl) (fun nums hn => f17_c rfl hn rfl) os started H enc
  (ChangeSpec.witness6 (enc := enc) (C := Tryz.checked) false ⟨#[], #[.slice none 0 0], []⟩ 8 (by kernel_rfl) (by kernel_rfl) (by kernel_rfl) (by kernel_rfl))
theorem keyTrue_holds : Rows.KeyTrueSaid :=
 OpenClaim.holds_of_wide_leaving 17 Tryz.f17 rfl rfl rfl rfl rfl rfl rfl ⟨rfl, rfl, rfl, rfl, rfl⟩ rfl rfl rfl rfl rfl kuName Tryz.func17 kuJoined kuInst kuWrap
  (fun os started H enc _ => keyTrue_lifted os started H enc)
end Go.Proofs.YtoaaoiipickclaaGreat
