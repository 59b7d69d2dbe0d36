/- The law KeyWrong answers true at every list of numbers, on every schedule. No condition. -/
import Derived.Test.YtoaaoiipickclaaGreatP05
set_option linter.all false
namespace Go.Gg
def subsetsM (n : Nat) : Nat → Nat → List (List Int)
 | 0, _ => [[]]
 | k + 1, first => (List.range' first (n - k - first)).flatMap fun i => (subsetsM n k (i + 1)).map ((i : Int) :: ·)
def choicesM (n : Nat) : List (List Int) := (List.range (n + 1)).flatMap fun k => subsetsM n k 0
theorem zlE : ∀ n, n ≤ 6 → choicesM n = (List.range (n + 1)).flatMap (levelM n) := by decide +kernel
def butM (x : Ring) (but : List Int) : Nat → List Try
 | 0 => []
 | i + 1 => butM x but i ++ (match x.tries[i]? with | some r => if but.contains (i : Int) then [] else [r] | none => [])
def withoutR (x : Ring) (but : List Int) : Ring := ⟨x.cuts, x.keys, x.locks, butM x but x.tries.length⟩
def okAll (x : Ring) (row : List Int) (ts : List Try) : Bool := ts.all (triedM x row)
theorem zlN (x : Ring) (row : List Int) : ∀ i, i ≤ x.tries.length → okTo x [] row i = okAll x row (x.tries.take i)
 | 0, _ => rfl
 | i + 1, h => by
  rw [okTo, zlN x row i (by omega), List.take_succ_eq_append_getElem (show i < x.tries.length by omega), List.getElem?_eq_getElem (show i < x.tries.length by omega)]
  simp only [okAll, List.all_append, List.all_cons, List.all_nil, Bool.and_true, List.contains_nil, Bool.false_or]
theorem zlM (x : Ring) (but : List Int) (row : List Int) : ∀ i, i ≤ x.tries.length → okTo x but row i = okAll x row (butM x but i)
 | 0, _ => rfl
 | i + 1, h => by
  rw [okTo, zlM x but row i (by omega), butM, List.getElem?_eq_getElem (show i < x.tries.length by omega)]
  simp only [okAll, List.all_append]
  cases but.contains (i : Int) <;> simp
theorem zlx (x : Ring) (but : List Int) : truthsM (withoutR x but) [] = truthsM x but := by
 unfold truthsM truthsTo
 have h1 : wears0 (withoutR x but) = wears0 x := rfl
 rw [h1]
 congr 1
 funext y
 rw [zlM x but y.1 _ (Nat.le_refl _), zlN (withoutR x but) y.1 _ (Nat.le_refl _), List.take_length]
 rfl
open Go.Conc Go.Proofs
theorem zlD {xs : List Int} {i : Nat} {x n : Int} (h : xs[i]? = some x) : (xs.take (i + 1)).contains n = ((xs.take i).contains n || n == x) := by
 obtain ⟨hj, rfl⟩ := List.getElem?_eq_some_iff.1 h
 rw [List.take_succ_eq_append_getElem hj, List.contains_eq_any_beq, List.contains_eq_any_beq, List.any_append]
 simp
section
variable {lv : Bool} {H : List AObj} {k kp : AV → List AObj → Prop}
theorem f131_c {xs : List Int} {n : Int} {e : End} (hx : xs.length < 2 ^ 60) (hk : k (bv (xs.contains n)) H) : FnC lv Tryz.prog 131 H [.sl xs.length (xs.map iv) e, iv n] k kp := by
 refine zak (rs := [.tmp 4]) (nt := 18) F.f131 rfl rfl rfl (by simp) fun hH hA => ?_
 simp only [argsT, Nat.reduceAdd]
 repeat apply zaa
 refine zl5 ?_
 simp only [push_cast, seval, reduceCtorEq]
 repeat apply zaa
 refine zl5 ?_
 simp only [push_cast, seval, reduceCtorEq]
 repeat apply zaa
 refine zag ?_
 refine zaB xs.length (fun i : Nat => [(5, iv i)]) (fun _ => _) (fun i => (xs.take i).contains n = false) (fun _ _ => rfl) (by simp only [push_cast, seval, reduceCtorEq, List.forall_mem_cons, List.not_mem_nil, false_imp_iff, implies_true, List.forall_mem_nil]; simp [zaf, Wk.refl]) rfl (fun _ _ _ => rfl) (by simp) (fun hHs hLt i hin hi R hR => ?_)
 repeat apply zaa
 refine zl5 ?_
 simp only [push_cast, seval, reduceCtorEq]
 repeat apply zaa
 refine zae ?_
 simp only [push_cast, seval, reduceCtorEq]
 refine ⟨fun h2 => ?_, fun h2 => ?_⟩
 ·have hlt : i < xs.length := by omega
  obtain ⟨x, hx1⟩ := zaE hlt
  have hct := zlD (n := n) hx1
  repeat apply zaa
  refine zah ?_
  simp only [push_cast, seval, reduceCtorEq]
  repeat apply zaa
  refine zag ?_
  repeat apply zaa
  refine zl5 ?_
  simp only [push_cast, seval, reduceCtorEq, za2 hx1, zaz hlt]
  repeat apply zaa
  refine zae ?_
  simp only [push_cast, seval, reduceCtorEq]
  refine ⟨fun h3 => ?_, fun h3 => ?_⟩
  ·have h3 : x = n := by simpa using h3
   repeat apply zaa
   refine zl5 ?_
   simp only [push_cast, seval, reduceCtorEq]
   repeat apply zaa
   refine zai ?_
   simp only [push_cast, seval, reduceCtorEq]
   have : xs.contains n = true := by rw [List.contains_iff_mem]; rw [← h3]; exact zas hx1
   rw [this] at hk
   exact zao hk
  ·have h3 : ¬ x = n := by simpa using h3
   repeat apply zaa
   refine zah ?_
   simp only [push_cast, seval, reduceCtorEq]
   repeat apply zaa
   refine zl5 ?_
   simp only [push_cast, seval, reduceCtorEq]
   refine hR _ ⟨hlt, by rw [hct, hi]; simp; omega, ?_⟩
   rw [zau _ (by omega)]
   exact (zax (zam rfl rfl) (by simp only [push_cast, seval, reduceCtorEq]; simp [zaf, Wk.refl]))
 ·have hix : i = xs.length := by omega
  subst hix
  rw [List.take_length] at hi
  rw [hi] at hk
  repeat apply zaa
  refine zaq ?_
  simp only [push_cast, seval, reduceCtorEq]
  repeat apply zaa
  refine zl5 ?_
  simp only [push_cast, seval, reduceCtorEq]
  repeat apply zaa
  refine zai ?_
  simp only [push_cast, seval, reduceCtorEq]
  exact zao hk
end
theorem butM_get {x : Ring} {but : List Int} {i : Nat} {r : Try} (h : x.tries[i]? = some r) : butM x but (i + 1) = if but.contains (i : Int) then butM x but i else butM x but i ++ [r] := by
 rw [butM, h]
 simp only
 split <;> simp
theorem zlF (x : Ring) (but : List Int) : ∀ i, (butM x but i).length ≤ i
 | 0 => Nat.le_refl _
 | i + 1 => by
  have := zlF x but i
  rw [butM, List.length_append]
  cases x.tries[i]? with
  | none => simp; omega
  | some r => simp only; split <;> simp <;> omega
section
variable {lv : Bool} {H : List AObj} {k kp : AV → List AObj → Prop}
theorem f54_c {x : Ring} {but : List Int} (hl : x.tries.length < 2 ^ 20) (hb : but.length < 2 ^ 20) (hk : k (withoutR x but).av H) : FnC lv Tryz.prog 54 H [x.av, aInts but] k kp := by
 refine zak (rs := [.cell 4 26]) (nt := 29) F.f54 rfl rfl rfl (by simp) fun hH hA => ?_
 simp only [argsT, Nat.reduceAdd, Ring.av, Ring.l, aInts]
 repeat apply zaa
 refine zl5 ?_
 simp only [push_cast, seval, reduceCtorEq]
 repeat apply zaa
 refine zl5 ?_
 simp only [push_cast, seval, reduceCtorEq]
 (repeat apply zaa); refine zbV (t := 5) (sz := 3) (el := 28) (by simp only [push_cast, seval, reduceCtorEq] <;> rfl) ?_
 try simp only [push_cast, seval, reduceCtorEq]
 repeat apply zaa
 refine zl5 ?_
 simp only [push_cast, seval, reduceCtorEq]
 repeat apply zaa
 refine zag ?_
 refine zaB x.tries.length (fun i : Nat => [(5, .sl (butM x but i).length ((butM x but i).flatMap Try.l) (.opn (H.length + 2))), (6, iv i)]) (fun i => H ++ [.cells [iv x.cuts, aKeys x.keys, aLocks x.locks, aTries x.tries] 26, .cells [iv 0, .sl 0 [] .exact, .sl 0 [] .exact, .sl 0 [] .exact] 26, .tail (butM x but i).length 3 28]) (fun i => True) (fun _ _ => rfl) (by simp only [push_cast, seval, reduceCtorEq, List.forall_mem_cons, List.not_mem_nil, false_imp_iff, implies_true, List.forall_mem_nil]; simp [zaf, Wk.refl]; exact Wk.refl _) rfl (fun _ _ _ => by simp) trivial (fun hHs hLt i hin hi R hR => ?_)
 clear hHs hLt
 repeat apply zaa
 refine zl5 ?_
 simp only [push_cast, seval, reduceCtorEq, aTries]
 repeat apply zaa
 refine zae ?_
 simp only [push_cast, seval, reduceCtorEq]
 refine ⟨fun h2 => ?_, fun h2 => ?_⟩
 ·have hlt : i < x.tries.length := by omega
  obtain ⟨r, hr⟩ := zaE hlt
  have hsucc := butM_get (but := but) hr
  have hbl := zlF x but i
  have htl := zf5 (butM x but i)
  have hw2 : IntKind.i64.wrap ((i : Int) + 1) = i + 1 := zau _ (by omega)
  repeat apply zaa
  refine zah ?_
  simp only [push_cast, seval, reduceCtorEq]
  repeat apply zaa
  refine zag ?_
  repeat apply zaa
  refine zl5 ?_
  simp only [push_cast, seval, reduceCtorEq]
  refine zl6 ((f131_c (by omega) ?_))
  try simp only [push_cast, seval, reduceCtorEq]
  repeat apply zaa
  refine zae ?_
  simp only [push_cast, seval, reduceCtorEq]
  refine ⟨fun h3 => ?_, fun h3 => ?_⟩
  ·have h3 : but.contains (i : Int) = false := by simpa using h3
   rw [h3] at hsucc
   repeat apply zaa
   refine zl5 ?_
   simp only [push_cast, seval, reduceCtorEq, zt3, zd5, zh6 hr, zaz hlt, htl]
   refine ⟨by omega, ?_⟩
   repeat apply zaa
   refine zl5 ?_
   simp only [push_cast, seval, reduceCtorEq, hw2]
   refine hR _ ⟨hlt, trivial, ?_⟩
   rw [hsucc]
   simp only [Bool.false_eq_true, if_false, ziC, List.length_append]
   exact (zax (zam rfl rfl) (by simp only [push_cast, seval, reduceCtorEq]; simp [zaf, Wk.refl]))
  ·have h3 : but.contains (i : Int) = true := by simpa using h3
   rw [h3] at hsucc
   repeat apply zaa
   refine zah ?_
   simp only [push_cast, seval, reduceCtorEq]
   repeat apply zaa
   refine zl5 ?_
   simp only [push_cast, seval, reduceCtorEq, hw2]
   refine hR _ ⟨hlt, trivial, ?_⟩
   rw [hsucc]
   simp only [if_true]
   exact (zax (zam rfl rfl) (by simp only [push_cast, seval, reduceCtorEq]; simp [zaf, Wk.refl]))
 ·have hix : i = x.tries.length := by omega
  subst hix
  repeat apply zaa
  refine zaq ?_
  simp only [push_cast, seval, reduceCtorEq]
  repeat apply zaa
  refine zl5 ?_
  simp only [push_cast, seval, reduceCtorEq]
  repeat apply zaa
  refine zl5 ?_
  simp only [push_cast, seval, reduceCtorEq]
  repeat apply zaa
  refine zai ?_
  simp only [push_cast, seval, reduceCtorEq]
  exact endA (b := (withoutR x but).av) hH (zhX (.cons (Wk.refl _) (.cons (Wk.refl _) (.cons (Wk.refl _) (.cons (zaK _ _ _) .nil))))) (by rw [zfC]; trivial) hk
end
open Go.Conc Go.Proofs
theorem zlz : ∀ n, n ≤ 6 → ∀ k, k ≤ 6 → ∀ first, first ≤ 7 → (subsetsM n k first).length ≤ 20 ∧ ∀ r ∈ subsetsM n k first, r.length = k := by decide +kernel
def outJ (n kk first j : Nat) : List (List Int) := (List.range' first j).flatMap fun i => (subsetsM n kk (i + 1)).map ((i : Int) :: ·)
theorem zlH (n kk first j : Nat) : outJ n kk first (j + 1) = outJ n kk first j ++ (subsetsM n kk (first + j + 1)).map (((first + j : Nat) : Int) :: ·) := by
 unfold outJ
 rw [List.range'_concat, List.flatMap_append]; simp
theorem outJ_all (n kk first : Nat) : outJ n kk first (n - kk - first) = subsetsM n (kk + 1) first := rfl
theorem zlL (n kk first : Nat) : ∀ j, (∀ i, i < j → (subsetsM n kk (first + i + 1)).length ≤ 20) → (outJ n kk first j).length ≤ 20 * j
 | 0, _ => by simp [outJ]
 | j + 1, h => by
  have h1 := zlL n kk first j fun i hi => h i (by omega)
  have h2 := h j (by omega)
  rw [zlH, List.length_append, List.length_map]; omega
theorem zlW {l : List AV} {a b : AV} (h : Wk a b) : Wks (l ++ [a]) (l ++ [b]) := by
 induction l with
 | nil => exact .cons h .nil
 | cons x l ih => exact .cons (Wk.refl _) ih
theorem zlZ (n m k : Nat) (bs : List (List Int)) : Lt n (.sl m (bs.map aInts) (.opn k)) = (k < n) := by
 rw [zdq, eq_iff_iff]
 refine ⟨fun h => h.1, fun h => ⟨h, fun a ha => ?_⟩⟩
 have := zlv n bs
 rw [aRows, za3] at this
 exact this.mpr trivial a ha
theorem zs1 : zeroRow (Value.slice none 0 0) 1 = [.sl 0 [] .exact] := rfl
theorem zlC {α β : Type} {xs : List α} {i : Nat} {x : α} (f : α → β) (h : xs[i]? = some x) : (xs.take (i + 1)).map f = (xs.take i).map f ++ [f x] := by
 obtain ⟨hj, rfl⟩ := List.getElem?_eq_some_iff.1 h
 rw [List.take_succ_eq_append_getElem hj, List.map_append]; rfl
theorem zlX {H : List AObj} (hH : HOk H) (n sz : Nat) (el : TypeId) : HOk (H ++ [.tail n sz el]) := zc6 hH fun z hz m => by rw [List.mem_singleton.1 hz]; trivial
section
variable {lv : Bool}
theorem f160_c : ∀ (kk : Nat) {n first : Nat} {H : List AObj} {k kp : AV → List AObj → Prop}, n ≤ 6 → kk ≤ 6 → first ≤ 7 → k (aRows (subsetsM n kk first)) H → FnC lv Tryz.prog 160 H [iv first, iv n, iv kk] k kp
 | 0, n, first, H, k, kp, hn, hkk, hf, hk => by
  refine zak (rs := [.tmp 6]) (nt := 45) F.f160 rfl rfl rfl (by simp) fun hH hA => ?_
  simp only [argsT, Nat.reduceAdd]
  repeat apply zaa
  refine zl5 ?_
  simp only [push_cast, seval, reduceCtorEq]
  repeat apply zaa
  refine zl5 ?_
  simp only [push_cast, seval, reduceCtorEq, beq_self_eq_true]
  repeat apply zaa
  refine zae ?_
  simp only [push_cast, seval, reduceCtorEq]
  repeat apply zaa
  refine zl5 ?_
  simp only [push_cast, seval, reduceCtorEq, zs1, zhq]
  repeat apply zaa
  refine zai ?_
  simp only [push_cast, seval, reduceCtorEq]
  exact zaJ (b := aRows [[]]) (H' := H) (G := []) (wk_sl (.cons (zaK _ _ _) .nil)) (by simp) (Nat.le_refl _) hH (by rw [zlv]; trivial) hk
 | kk + 1, n, first, H, k, kp, hn, hkk, hf, hk => by
  refine zak (rs := [.tmp 6]) (nt := 45) F.f160 rfl rfl rfl (by simp) fun hH hA => ?_
  simp only [argsT, Nat.reduceAdd]
  have hz : (((kk : Int) + 1) == 0) = false := by simp; omega
  repeat apply zaa
  refine zl5 ?_
  simp only [push_cast, seval, reduceCtorEq]
  repeat apply zaa
  refine zl5 ?_
  simp only [push_cast, seval, reduceCtorEq, hz]
  repeat apply zaa
  refine zae ?_
  simp only [push_cast, seval, reduceCtorEq]
  repeat apply zaa
  refine zah ?_
  simp only [push_cast, seval, reduceCtorEq]
  repeat apply zaa
  refine zl5 ?_
  simp only [push_cast, seval, reduceCtorEq]
  (repeat apply zaa); refine zbV (t := 7) (sz := 1) (el := 30) (by simp only [push_cast, seval, reduceCtorEq] <;> rfl) ?_
  repeat apply zaa
  refine zl5 ?_
  simp only [push_cast, seval, reduceCtorEq]
  repeat apply zaa
  refine zag ?_
  have hlen : ∀ j, j ≤ n - kk - first → (outJ n kk first j).length ≤ 20 * j := fun j hj => zlL n kk first j fun i hi => (zlz n hn kk (by omega) (first + i + 1) (by omega)).1
  refine zaB (n - kk - first) (fun j : Nat => [(7, .sl (outJ n kk first j).length ((outJ n kk first j).map aInts) (.opn H.length)), (8, iv ((first : Int) + j))]) (fun j => H ++ [.tail (outJ n kk first j).length 1 30]) (fun i => True) (fun _ _ => rfl) (by simp only [push_cast, seval, reduceCtorEq, List.forall_mem_cons, List.not_mem_nil, false_imp_iff, implies_true, List.forall_mem_nil]; simp [zaf, Wk.refl]; exact Wk.refl _) rfl (fun _ _ _ => by simp) trivial (fun hHs hLt j hjn hj R hR => ?_)
  clear hHs hLt
  have hw1 : IntKind.i64.wrap ((first : Int) + j + (kk + 1)) = first + j + (kk + 1) := zau _ (by omega)
  have hw2 : IntKind.i64.wrap ((first : Int) + j + 1) = first + (j + 1) := by rw [zau _ (by omega)]; omega
  have hw3 : IntKind.i64.wrap ((kk : Int) + 1 - 1) = kk := by rw [zau _ (by omega)]; omega
  repeat apply zaa
  refine zl5 ?_
  simp only [push_cast, seval, reduceCtorEq, hw1]
  repeat apply zaa
  refine zae ?_
  simp only [push_cast, seval, reduceCtorEq]
  refine ⟨fun h => ?_, fun h => ?_⟩
  ·have hjl : j < n - kk - first := by omega
   have hfa := zlz n hn kk (by omega) (first + j + 1) (by omega)
   have hsucc := zlH n kk first j
   have hll := hlen j (by omega)
   generalize outJ n kk first j = o at hsucc hll hR ⊢
   have hfj : ((first : Int) + (j + 1)) = ((first + j + 1 : Nat) : Int) := by omega
   repeat apply zaa
   refine zah ?_
   simp only [push_cast, seval, reduceCtorEq]
   repeat apply zaa
   refine zag ?_
   repeat apply zaa
   refine zl5 ?_
   simp only [push_cast, seval, reduceCtorEq, hw2, hw3]
   rw [hfj]
   refine zl6 ((f160_c kk hn (by omega) (by omega) ?_))
   generalize subsetsM n kk (first + j + 1) = l at hfa hsucc ⊢
   obtain ⟨hl20, hlr⟩ := hfa
   try simp only [push_cast, seval, reduceCtorEq, aRows]
   repeat apply zaa
   refine zl5 ?_
   simp only [push_cast, seval, reduceCtorEq]
   repeat apply zaa
   refine zag ?_
   refine zaB l.length (fun x : Nat => [(7, .sl (o.length + x) ((o ++ (l.take x).map (((first + j : Nat) : Int) :: ·)).map aInts) (.opn H.length)), (10, iv x)]) (fun x => H ++ [.tail (o.length + x) 1 30]) (fun i => True) (fun _ _ => rfl) (by simp only [push_cast, seval, reduceCtorEq, List.forall_mem_cons, List.not_mem_nil, false_imp_iff, implies_true, List.forall_mem_nil]; simp [zaf, Wk.refl]) (by simp) (fun _ _ _ => by simp) trivial (fun hHs hLt x hxn hx R2 hR2 => ?_)
   clear hHs hLt
   repeat apply zaa
   refine zl5 ?_
   simp only [push_cast, seval, reduceCtorEq]
   repeat apply zaa
   refine zae ?_
   simp only [push_cast, seval, reduceCtorEq]
   refine ⟨fun h2 => ?_, fun h2 => ?_⟩
   ·have hxl : x < l.length := by omega
    obtain ⟨r, hr⟩ := zaE hxl
    have hrl := hlr r (zas hr)
    have hw4 : IntKind.i64.wrap ((x : Int) + 1) = x + 1 := zau _ (by omega)
    have hol : ((o ++ (l.take x).map (((first + j : Nat) : Int) :: ·)).map aInts).length = o.length + x := by simp; omega
    have hnx : (o ++ (l.take (x + 1)).map (((first + j : Nat) : Int) :: ·)).map aInts = (o ++ (l.take x).map (((first + j : Nat) : Int) :: ·)).map aInts ++ [aInts (((first + j : Nat) : Int) :: r)] := by
     rw [zlC _ hr, ← List.append_assoc, List.map_append]; rfl
    have hri : (r.map iv).length = r.length := List.length_map ..
    repeat apply zaa
    refine zah ?_
    simp only [push_cast, seval, reduceCtorEq]
    repeat apply zaa
    refine zag ?_
    repeat apply zaa
    refine zl5 ?_
    simp only [push_cast, seval, reduceCtorEq, z1, zs1, zhq, zlB hr, zaz hxl, hol, hri, aInts]
    refine ⟨by omega, by simp; omega, by omega, ?_⟩
    repeat apply zaa
    refine zl5 ?_
    simp only [push_cast, seval, reduceCtorEq, hw4]
    refine hR2 _ ⟨hxl, trivial, ?_⟩
    rw [hnx]
    refine zce [.tail (1 + r.length) 1 3] (zam rfl rfl) ?_ (zlX hH _ _ _) ?_ (by simp [Nat.add_assoc])
    ·try simp only [push_cast, seval, reduceCtorEq]
     exact ⟨⟨_, rfl, have h := zlW (l := (o ++ (l.take x).map (((first + j : Nat) : Int) :: ·)).map aInts) (show Wk (.sl (1 + r.length) (iv ((first : Int) + j) :: r.map iv) (.opn (H.length + 1))) (aInts (((first : Int) + j) :: r)) by rw [aInts, Nat.add_comm]; exact zaK _ _ _); zeg h.len h.at⟩, _, rfl, Wk.refl _⟩
    ·rw [← hnx]
     simp only [List.forall_mem_cons, zap, zlZ, iv]; simp
   ·have hxx : x = l.length := by omega
    subst hxx
    repeat apply zaa
    refine zaq ?_
    simp only [push_cast, seval, reduceCtorEq]
    repeat apply zaa
    refine zl5 ?_
    simp only [push_cast, seval, reduceCtorEq, hw2]
    refine hR _ ⟨hjl, trivial, ?_⟩
    rw [hsucc]
    simp only [List.take_length, List.length_append, List.length_map]
    exact (zax (zam rfl rfl) (by simp only [push_cast, seval, reduceCtorEq]; simp [zaf, Wk.refl]))
  ·have hjx : j = n - kk - first := by omega
   subst hjx
   repeat apply zaa
   refine zaq ?_
   simp only [push_cast, seval, reduceCtorEq]
   repeat apply zaa
   refine zl5 ?_
   simp only [push_cast, seval, reduceCtorEq]
   repeat apply zaa
   refine zai ?_
   simp only [push_cast, seval, reduceCtorEq]
   rw [outJ_all]
   exact endA (b := aRows (subsetsM n (kk + 1) first)) hH (zaK _ _ _) (by rw [zlv]; trivial) hk
end
open Go.Conc Go.Proofs
def choicesTo (n j : Nat) : List (List Int) := (List.range j).flatMap fun k => subsetsM n k 0
theorem zly (n j : Nat) : choicesTo n (j + 1) = choicesTo n j ++ subsetsM n j 0 := by unfold choicesTo; rw [List.range_succ, List.flatMap_append]; simp
theorem zlu : ∀ n, n ≤ 6 → ∀ j, j ≤ 7 → (choicesTo n j).length ≤ 64 := by decide +kernel
theorem zlI : ∀ n, n ≤ 6 → ∀ r ∈ choicesM n, r.length ≤ 6 ∧ ∀ i ∈ r, 0 ≤ i ∧ i < n := by decide +kernel
section
variable {lv : Bool} {H : List AObj} {k kp : AV → List AObj → Prop}
theorem f130_c {n kk : Nat} (hn : n ≤ 6) (hkk : kk ≤ 6) (hk : k (aRows (subsetsM n kk 0)) H) : FnC lv Tryz.prog 130 H [iv n, iv kk] k kp := by
 refine zak (rs := [.tmp 4]) (nt := 8) F.f130 rfl rfl rfl (by simp) fun hH hA => ?_
 simp only [argsT, Nat.reduceAdd]
 repeat apply zaa
 refine zl5 ?_
 simp only [push_cast, seval, reduceCtorEq]
 repeat apply zaa
 refine zl5 ?_
 simp only [push_cast, seval, reduceCtorEq]
 refine zl6 ((f160_c kk (first := 0) hn hkk (by omega) ?_))
 try simp only [push_cast, seval, reduceCtorEq]
 repeat apply zaa
 refine zai ?_
 simp only [push_cast, seval, reduceCtorEq]
 exact zao hk
theorem f52_c {n : Nat} (hn : n ≤ 6) (hk : k (aRows (choicesM n)) H) : FnC lv Tryz.prog 52 H [iv n] k kp := by
 refine zak (rs := [.tmp 2]) (nt := 16) F.f52 rfl rfl rfl (by simp) fun hH hA => ?_
 simp only [argsT, Nat.reduceAdd]
 repeat apply zaa
 refine zl5 ?_
 simp only [push_cast, seval, reduceCtorEq]
 repeat apply zaa
 refine zl5 ?_
 simp only [push_cast, seval, reduceCtorEq]
 (repeat apply zaa); refine zbV (t := 3) (sz := 1) (el := 30) (by simp only [push_cast, seval, reduceCtorEq] <;> rfl) ?_
 repeat apply zaa
 refine zl5 ?_
 simp only [push_cast, seval, reduceCtorEq]
 repeat apply zaa
 refine zag ?_
 refine zaB (n + 1) (fun j : Nat => [(3, .sl (choicesTo n j).length ((choicesTo n j).map aInts) (.opn H.length)), (4, iv j)]) (fun j => H ++ [.tail (choicesTo n j).length 1 30]) (fun i => True) (fun _ _ => rfl) (by simp only [push_cast, seval, reduceCtorEq, List.forall_mem_cons, List.not_mem_nil, false_imp_iff, implies_true, List.forall_mem_nil]; simp [zaf, Wk.refl]; exact Wk.refl _) rfl (fun _ _ _ => by simp) trivial (fun hHs hLt j hjn hj R hR => ?_)
 clear hHs hLt
 repeat apply zaa
 refine zl5 ?_
 simp only [push_cast, seval, reduceCtorEq]
 repeat apply zaa
 refine zae ?_
 simp only [push_cast, seval, reduceCtorEq]
 refine ⟨fun h => ?_, fun h => ?_⟩
 ·have hjl : j ≤ n := by omega
  have hw2 : IntKind.i64.wrap ((j : Int) + 1) = j + 1 := zau _ (by omega)
  have hsucc := zly n j
  have hl1 := zlu n hn j (by omega)
  have hl2 := zlu n hn (j + 1) (by omega)
  have hsl : (subsetsM n j 0).length ≤ 64 := by rw [hsucc, List.length_append] at hl2; omega
  have hol : ((choicesTo n j).map aInts).length = (choicesTo n j).length := List.length_map ..
  have hsm : ((subsetsM n j 0).map aInts).length = (subsetsM n j 0).length := List.length_map ..
  have htk : List.take (subsetsM n j 0).length ((subsetsM n j 0).map aInts) = (subsetsM n j 0).map aInts := List.take_of_length_le (by simp)
  have hlf : ∀ a ∈ (subsetsM n j 0).map aInts, a.leaf = true := fun a ha => by obtain ⟨r, _, rfl⟩ := List.mem_map.1 ha; rfl
  repeat apply zaa
  refine zah ?_
  simp only [push_cast, seval, reduceCtorEq]
  repeat apply zaa
  refine zag ?_
  repeat apply zaa
  refine zl5 ?_
  simp only [push_cast, seval, reduceCtorEq]
  refine zl6 ((f130_c hn (by omega) ?_))
  try simp only [push_cast, seval, reduceCtorEq, aRows, hol, hsm, htk]
  refine ⟨by omega, hlf, ?_⟩
  repeat apply zaa
  refine zl5 ?_
  simp only [push_cast, seval, reduceCtorEq, hw2]
  refine hR _ ⟨by omega, trivial, ?_⟩
  rw [hsucc]
  simp only [List.length_append, List.map_append]
  exact (zax (zam rfl rfl) (by simp only [push_cast, seval, reduceCtorEq]; simp [zaf, Wk.refl]))
 ·have hjx : j = n + 1 := by omega
  subst hjx
  repeat apply zaa
  refine zaq ?_
  simp only [push_cast, seval, reduceCtorEq]
  repeat apply zaa
  refine zl5 ?_
  simp only [push_cast, seval, reduceCtorEq]
  repeat apply zaa
  refine zai ?_
  simp only [push_cast, seval, reduceCtorEq]
  exact endA (b := aRows (choicesM n)) hH (zaK _ _ _) (by rw [zlv]; trivial) hk
end
theorem zlO : ∀ (ys : List Key) (n : Nat) (t : List Int), (∀ y ∈ ys, y.wear.min ≤ y.wear.max) → growM ys n t ≠ []
 | [], n, t, _ => by simp [growM]
 | y :: ys, n, t, h => by
  rw [growM]
  intro e
  rw [List.flatMap_eq_nil_iff] at e
  have hy := h y List.mem_cons_self
  have h0 : y.wear.min ∈ rangeI y.wear.min y.wear.max := by
   refine zas (i := 0) ?_
   rw [ziT (by omega)]
   simp
  exact zlO ys (n + 1) (t.set n y.wear.min) (fun z hz => h z (List.mem_cons_of_mem _ hz)) (e _ h0)
theorem zlP (x : Ring) (but : List Int) : ∀ i, ∀ r ∈ butM x but i, r ∈ x.tries
 | 0, r, h => by cases h
 | i + 1, r, h => by
  rw [butM] at h
  rcases List.mem_append.1 h with h | h
  ·exact zlP x but i r h
  ·cases ht : x.tries[i]? with
   | none => rw [ht] at h; cases h
   | some s =>
    rw [ht] at h
    simp only at h
    split at h
    ·cases h
    ·rw [List.mem_singleton.1 h]; exact zas ht
theorem zlK {x : Ring} (h : x.Ok) (but : List Int) : (withoutR x but).Ok where
 cuts := h.cuts
 keys := h.keys
 key := h.key
 locks := h.locks
 lock := h.lock
 tries := Nat.le_trans (zlF x but _) h.tries
 tried := fun t ht => h.tried t (zlP x but _ t ht)
theorem zlA (x : Ring) (row : List Int) (m : Nat) : ∀ i, i ≤ m → okTo x (belowM m) row i = true
 | 0, _ => rfl
 | i + 1, h => by
  rw [okTo, zlA x row m i (by omega)]
  have : (belowM m).contains (i : Int) = true := by rw [List.contains_iff_mem]; exact zas (zjx (by omega))
  rw [this]
  cases x.tries[i]? <;> rfl
theorem zlJ : ∀ n, n ≤ 6 → belowM n ∈ choicesM n := by decide +kernel
theorem zlG {x : Ring} (h : x.Ok) : truthsM x (belowM x.tries.length) ≠ [] := by
 unfold truthsM truthsTo
 rw [List.filter_eq_self.2 fun y _ => zlA x y.1 _ _ (Nat.le_refl _)]
 intro e
 have : (wears0 x).zipIdx.length = 0 := by rw [e]; rfl
 rw [List.length_zipIdx] at this
 exact zlO x.keys 0 [0, 0, 0, 0] (fun y hy => (h.key y hy).2.2.le) (List.length_eq_zero_iff.1 this)
theorem wrong_at {x : Ring} (h : x.Ok) {i : Nat} {l : List Int} (hl : (choicesM x.tries.length)[i]? = some l) (hp : 0 < (truthsM x l).length) (hb : ∀ y ∈ (choicesM x.tries.length).take i, (truthsM x y).length = 0) : wrongM x = l := by
 unfold wrongM fewestM
 rw [← zlE _ h.tries, zfN hl (by simpa using hp) fun y hy => by simp [hb y hy]]
 rfl
theorem zlQ {x : Ring} (h : x.Ok) (hb : ∀ y ∈ choicesM x.tries.length, (truthsM x y).length = 0) : False :=
 zlG h (List.length_eq_zero_iff.1 (hb _ (zlJ _ h.tries)))
open Go.Conc Go.Proofs
section
variable {H : List AObj} {k kp : AV → List AObj → Prop}
theorem f51_k {x : Ring} (hmain : H[0]? = some .main) (hs : x.Small) (hx : x.Ok) (h : k (.tup [aInts (wrongM x), iv 0]) H) : FnC true Tryz.prog 51 H [x.av] k kp :=
 f51_c zaQ hmain hs (fun e => absurd (zaN.2 ⟨zbH.2 hx, rfl⟩) e) fun _ => h
theorem f7_c {nums : List Int} (hmain : H[0]? = some .main) (hn : nums.length ≤ 2 ^ 50) (hk : k (bv true) H) : FnC true Tryz.prog 7 H [aInts nums] k kp := by
 have hmn : ∀ L : List AObj, (H ++ L)[0]? = some .main := fun L => zay hmain
 refine zak (rs := [.tmp 2]) (nt := 59) F.f7 rfl rfl rfl (by simp) fun hH hA => ?_
 simp only [argsT, Nat.reduceAdd]
 repeat apply zaa
 refine zl5 ?_
 simp only [push_cast, seval, reduceCtorEq]
 repeat apply zaa
 refine zl5 ?_
 simp only [push_cast, seval, reduceCtorEq]
 refine zl6 ((f26_c ?_))
 try simp only [push_cast, seval, reduceCtorEq]
 refine zl6 ((f49_c (K := 3) (L := 3) (T := 5) (wr := true) (zjT H) (tinOk0 hn _) (by decide) (by decide) (by decide) (by decide) fun x ws τ hP hτ => ?_))
 try simp only [push_cast, seval, reduceCtorEq, Ring.av, Ring.l]
 have hx := hP.ok (by decide) (by decide) (by decide)
 have hs := hx.small
 have htr := hP.tries
 repeat apply zaa
 refine zl5 ?_
 simp only [push_cast, seval, reduceCtorEq]
 refine zl6 ((f51_k (x := x) (hmn _) hs hx ?_))
 try simp only [push_cast, seval, reduceCtorEq]
 repeat apply zaa
 refine zl5 ?_
 simp only [push_cast, seval, reduceCtorEq, aTries]
 refine zl6 ((f52_c (n := x.tries.length) (by omega) ?_))
 try simp only [push_cast, seval, reduceCtorEq]
 repeat apply zaa
 refine zl5 ?_
 simp only [push_cast, seval, reduceCtorEq]
 have hrows := zlI x.tries.length (by omega)
 have hcl : (choicesM x.tries.length).length ≤ 64 := zlu x.tries.length (by omega) (x.tries.length + 1) (by omega)
 have hat := fun i l h => wrong_at (x := x) hx (i := i) (l := l) h
 have hno := zlQ hx
 generalize choicesM x.tries.length = C at hrows hcl hat hno ⊢
 repeat apply zaa
 refine zag ?_
 refine zaB C.length (fun i : Nat => [(8, iv i)]) (fun _ => _) (fun i => ∀ y ∈ C.take i, (truthsM x y).length = 0) (fun _ _ => rfl) (by simp only [push_cast, seval, reduceCtorEq, List.forall_mem_cons, List.not_mem_nil, false_imp_iff, implies_true, List.forall_mem_nil]; simp [zaf, Wk.refl]) rfl (fun _ _ _ => rfl) (by simp) (fun hHs hLt i hin hi R hR => ?_)
 clear hHs hLt
 repeat apply zaa
 refine zl5 ?_
 simp only [push_cast, seval, reduceCtorEq, aRows]
 repeat apply zaa
 refine zae ?_
 simp only [push_cast, seval, reduceCtorEq]
 refine ⟨fun h => ?_, fun h => ?_⟩
 ·have hil : i < C.length := by omega
  obtain ⟨l, hl⟩ := zaE hil
  obtain ⟨hl6, _⟩ := hrows l (zas hl)
  have hwo := zlK hx l
  have htw := zlx x l
  have hw2 : IntKind.i64.wrap ((i : Int) + 1) = i + 1 := zau _ (by omega)
  repeat apply zaa
  refine zah ?_
  simp only [push_cast, seval, reduceCtorEq]
  repeat apply zaa
  refine zag ?_
  repeat apply zaa
  refine zaT F.mixed 11 (by kernel_rfl) ?_
  simp only [push_cast, seval, reduceCtorEq, zlB hl, zaz hil]
  refine qCall (withoutR x l).av (zad (by kernel_rfl) (f54_c (x := x) (by omega) (by omega) ⟨rfl, rfl⟩)) ?_
  refine qCall (.tup [iv (truthsM (withoutR x l) []).length, iv 0]) (zad (by kernel_rfl) (f53_k (x := withoutR x l) (hmn _) hwo.small hwo ⟨rfl, rfl⟩)) ?_
  try simp only [push_cast, seval, reduceCtorEq, htw]
  repeat apply zaa
  refine zl5 ?_
  simp only [push_cast, seval, reduceCtorEq, bne_self_eq_false]
  repeat apply zaa
  refine zae ?_
  simp only [push_cast, seval, reduceCtorEq]
  repeat apply zaa
  refine zah ?_
  simp only [push_cast, seval, reduceCtorEq]
  repeat apply zaa
  refine zl5 ?_
  simp only [push_cast, seval, reduceCtorEq]
  repeat apply zaa
  refine zae ?_
  simp only [push_cast, seval, reduceCtorEq]
  refine ⟨fun h2 => ?_, fun h2 => ?_⟩
  ·have h2 : 0 < (truthsM x l).length := by omega
   rw [hat i l hl h2 hi]
   repeat apply zaa
   refine zl5 ?_
   simp only [push_cast, seval, reduceCtorEq, beq_self_eq_true, zlB hl, zaz hil]
   refine zl6 ((f34_same (xs := l) (by omega) ?_))
   try simp only [push_cast, seval, reduceCtorEq]
   refine zl6 ((f25_c (hmn _) ?_))
   try simp only [push_cast, seval, reduceCtorEq]
   repeat apply zaa
   refine zai ?_
   simp only [push_cast, seval, reduceCtorEq]
   exact endA hH (Wk.refl _) (by simp [zap]) hk
  ·have h2 : (truthsM x l).length = 0 := by omega
   repeat apply zaa
   refine zah ?_
   simp only [push_cast, seval, reduceCtorEq]
   repeat apply zaa
   refine zl5 ?_
   simp only [push_cast, seval, reduceCtorEq, hw2]
   refine hR _ ⟨hil, fun y hy => ?_, (zax (zam rfl rfl) (by simp only [push_cast, seval, reduceCtorEq]; simp [zaf, Wk.refl]))⟩
   obtain ⟨hj, hle⟩ := List.getElem?_eq_some_iff.1 hl
   rw [List.take_succ_eq_append_getElem hj, hle] at hy
   rcases List.mem_append.1 hy with hy | hy
   ·exact hi y hy
   ·rw [List.mem_singleton.1 hy]; exact h2
 ·have hix : i = C.length := by omega
  subst hix
  rw [List.take_length] at hi
  exact (hno hi).elim
end
end Go.Gg
namespace Go.Proofs.YtoaaoiipickclaaGreat
open Go.Conc Go.Proofs Go.Gg
theorem kwName : Tryz.prog.funcNamed Rows.keyWrongRow.func = some 7 := by kernel_rfl
theorem kwJoined : joinedFacts Tryz.prog 7 Tryz.f7 Rows.keyWrongSpec Rows.keyWrongRow = true :=
 zkH (by kernel_rfl) Tz.laidOut (by kernel_rfl) (by kernel_rfl) (by kernel_rfl) (by kernel_rfl) (by kernel_rfl) (by kernel_rfl) (by kernel_rfl) (by kernel_rfl) (by kernel_rfl) (by kernel_rfl) (by kernel_rfl) (by kernel_rfl) (by kernel_rfl) (by kernel_rfl) (by kernel_rfl) (by kernel_rfl) (by kernel_rfl) (by kernel_rfl) (by kernel_rfl) (by kernel_rfl) (by kernel_rfl) (by kernel_rfl) (by kernel_rfl) Tz.mayEnter (zkB (by kernel_rfl)) (make_of' (by kernel_rfl)) (by kernel_rfl) (by kernel_rfl) (by kernel_rfl) (by kernel_rfl) (by kernel_rfl)
theorem kwInst : Tryz.f7.isInstance Tryz.prog Rows.keyWrongRow.origin Rows.keyWrongRow.targs := of_decide_eq_true (by kernel_rfl)
theorem kwWrap : Tryz.f7.isWrapper Tryz.prog Rows.keyWrongRow.wrapper Rows.keyWrongRow.mainSum := by unfold Func.isWrapper; first | (rw [if_pos (by decide +kernel)]; kernel_rfl) | (rw [if_neg (by decide +kernel)]; exact ⟨rfl, rfl⟩)
theorem zlw (os : Os) (started : os.Started) (H : Type) (enc : TypeId × Value → H) :
  ReturnsInLeavingWide {} Tryz.checked os 7 .any (Rows.keyWrongSpec.pre6 enc Tryz.prog Tryz.f7 Rows.keyWrongRow.domain false) (Rows.keyWrongSpec.post enc Tryz.prog Tryz.f7 false true false false) :=
 zhC (f := 7) (fn := Tryz.f7) (s := Rows.keyWrongSpec) Tryz.func7 rfl rfl rfl (fun _ _ => rfl) (by kernel_rfl) (fun nums hn => f7_c rfl hn rfl) os started H enc
  (ChangeSpec.witness6 (enc := enc) (C := Tryz.checked) false ⟨#[], #[.slice none 0 0], []⟩ 8 (by kernel_rfl) (by kernel_rfl) (by kernel_rfl) (by kernel_rfl))
theorem keyWrong_holds : Rows.KeyWrongSaid :=
 OpenClaim.holds_of_wide_leaving 7 Tryz.f7 rfl rfl rfl rfl rfl rfl rfl ⟨rfl, rfl, rfl, rfl, rfl⟩ rfl rfl rfl rfl rfl kwName Tryz.func7 kwJoined kwInst kwWrap
  (fun os started H enc _ => zlw os started H enc)
end Go.Proofs.YtoaaoiipickclaaGreat
