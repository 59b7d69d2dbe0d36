/- The law KeyBag answers true at every list of numbers, on every schedule. No condition. -/
import Derived.Test.YtoaaoiipickclaaGreatQ05
set_option linter.all false
namespace Go.Gg
open Go.Conc Go.Proofs
theorem F.AppOf_50_50 : AppOf Tryz.prog 50 50 = (some (52, (2, (.agg #[(.int .i64 0), (.bool false)])))) := by kernel_rfl
theorem F.f12 : Tryz.prog.funcs[12]? = some Tryz.f12 := by kernel_rfl
attribute [push_cast] F.AppOf_50_50
def subsetsM (n : Nat) : Nat → Nat → List (List Int)
 | 0, _ => [[]]
 | k + 1, first => (List.range' first (n - k - first)).flatMap fun i => (subsetsM n k (i + 1)).map ((i : Int) :: ·)
def choicesM (n : Nat) : List (List Int) := (List.range (n + 1)).flatMap fun k => subsetsM n k 0
theorem zlE : ∀ n, n ≤ 6 → choicesM n = (List.range (n + 1)).flatMap (levelM n) := by decide +kernel
def butM (x : Ring) (but : List Int) : Nat → List Try
 | 0 => []
 | i + 1 => butM x but i ++ (match x.tries[i]? with | some r => if but.contains (i : Int) then [] else [r] | none => [])
def withoutR (x : Ring) (but : List Int) : Ring := ⟨x.cuts, x.keys, x.locks, butM x but x.tries.length⟩
def okAll (x : Ring) (row : List Int) (ts : List Try) : Bool := ts.all (triedM x row)
open Go.Conc Go.Proofs
section
variable {lv : Bool} {H : List AObj} {k kp : AV → List AObj → Prop}
end
section
variable {lv : Bool} {H : List AObj} {k kp : AV → List AObj → Prop}
end
open Go.Conc Go.Proofs
theorem zlz : ∀ n, n ≤ 6 → ∀ k, k ≤ 6 → ∀ first, first ≤ 7 → (subsetsM n k first).length ≤ 20 ∧ ∀ r ∈ subsetsM n k first, r.length = k := by decide +kernel
def outJ (n kk first j : Nat) : List (List Int) := (List.range' first j).flatMap fun i => (subsetsM n kk (i + 1)).map ((i : Int) :: ·)
theorem zlH (n kk first j : Nat) : outJ n kk first (j + 1) = outJ n kk first j ++ (subsetsM n kk (first + j + 1)).map (((first + j : Nat) : Int) :: ·) := by
 unfold outJ
 rw [List.range'_concat, List.flatMap_append]; simp
theorem outJ_all (n kk first : Nat) : outJ n kk first (n - kk - first) = subsetsM n (kk + 1) first := rfl
theorem zlL (n kk first : Nat) : ∀ j, (∀ i, i < j → (subsetsM n kk (first + i + 1)).length ≤ 20) → (outJ n kk first j).length ≤ 20 * j
 | 0, _ => by simp [outJ]
 | j + 1, h => by
  have h1 := zlL n kk first j fun i hi => h i (by omega)
  have h2 := h j (by omega)
  rw [zlH, List.length_append, List.length_map]; omega
theorem zlW {l : List AV} {a b : AV} (h : Wk a b) : Wks (l ++ [a]) (l ++ [b]) := by
 induction l with
 | nil => exact .cons h .nil
 | cons x l ih => exact .cons (Wk.refl _) ih
theorem zlZ (n m k : Nat) (bs : List (List Int)) : Lt n (.sl m (bs.map aInts) (.opn k)) = (k < n) := by
 rw [zdq, eq_iff_iff]
 refine ⟨fun h => h.1, fun h => ⟨h, fun a ha => ?_⟩⟩
 have := zlv n bs
 rw [aRows, za3] at this
 exact this.mpr trivial a ha
theorem zs1 : zeroRow (Value.slice none 0 0) 1 = [.sl 0 [] .exact] := rfl
theorem zlC {α β : Type} {xs : List α} {i : Nat} {x : α} (f : α → β) (h : xs[i]? = some x) : (xs.take (i + 1)).map f = (xs.take i).map f ++ [f x] := by
 obtain ⟨hj, rfl⟩ := List.getElem?_eq_some_iff.1 h
 rw [List.take_succ_eq_append_getElem hj, List.map_append]; rfl
theorem zlX {H : List AObj} (hH : HOk H) (n sz : Nat) (el : TypeId) : HOk (H ++ [.tail n sz el]) := zc6 hH fun z hz m => by rw [List.mem_singleton.1 hz]; trivial
section
variable {lv : Bool}
theorem f160_c : ∀ (kk : Nat) {n first : Nat} {H : List AObj} {k kp : AV → List AObj → Prop}, n ≤ 6 → kk ≤ 6 → first ≤ 7 → k (aRows (subsetsM n kk first)) H → FnC lv Tryz.prog 160 H [iv first, iv n, iv kk] k kp
 | 0, n, first, H, k, kp, hn, hkk, hf, hk => by
  refine zak (rs := [.tmp 6]) (nt := 45) F.f160 rfl rfl rfl (by simp) fun hH hA => ?_
  simp only [argsT, Nat.reduceAdd]
  repeat apply zaa
  refine zl5 ?_
  simp only [push_cast, seval]
  repeat apply zaa
  refine zl5 ?_
  simp only [push_cast, seval, beq_self_eq_true]
  repeat apply zaa
  refine zae ?_
  simp only [push_cast, seval]
  repeat apply zaa
  refine zl5 ?_
  simp only [push_cast, seval, zs1, zhq]
  repeat apply zaa
  refine zai ?_
  simp only [push_cast, seval]
  exact zaJ (b := aRows [[]]) (H' := H) (G := []) (wk_sl (.cons (zaK _ _ _) .nil)) (by simp) (Nat.le_refl _) hH (by rw [zlv]; trivial) hk
 | kk + 1, n, first, H, k, kp, hn, hkk, hf, hk => by
  refine zak (rs := [.tmp 6]) (nt := 45) F.f160 rfl rfl rfl (by simp) fun hH hA => ?_
  simp only [argsT, Nat.reduceAdd]
  have hz : (((kk : Int) + 1) == 0) = false := by simp; omega
  repeat apply zaa
  refine zl5 ?_
  simp only [push_cast, seval]
  repeat apply zaa
  refine zl5 ?_
  simp only [push_cast, seval, hz]
  repeat apply zaa
  refine zae ?_
  simp only [push_cast, seval]
  repeat apply zaa
  refine zah ?_
  simp only [push_cast, seval]
  repeat apply zaa
  refine zl5 ?_
  simp only [push_cast, seval]
  (repeat apply zaa); refine zbV (t := 7) (sz := 1) (el := 30) (by simp only [push_cast, seval] <;> rfl) ?_
  repeat apply zaa
  refine zl5 ?_
  simp only [push_cast, seval]
  repeat apply zaa
  refine zag ?_
  have hlen : ∀ j, j ≤ n - kk - first → (outJ n kk first j).length ≤ 20 * j := fun j hj => zlL n kk first j fun i hi => (zlz n hn kk (by omega) (first + i + 1) (by omega)).1
  refine zaB (n - kk - first) (fun j : Nat => [(7, .sl (outJ n kk first j).length ((outJ n kk first j).map aInts) (.opn H.length)), (8, iv ((first : Int) + j))]) (fun j => H ++ [.tail (outJ n kk first j).length 1 30]) (fun i => True) (fun _ _ => rfl) (by simp only [push_cast, seval, List.forall_mem_cons, List.not_mem_nil, false_imp_iff, implies_true, List.forall_mem_nil]; simp [zaf, Wk.refl]; exact Wk.refl _) rfl (fun _ _ _ => by simp) trivial (fun hHs hLt j hjn hj R hR => ?_)
  clear hHs hLt
  have hw1 : IntKind.i64.wrap ((first : Int) + j + (kk + 1)) = first + j + (kk + 1) := zau _ (by omega)
  have hw2 : IntKind.i64.wrap ((first : Int) + j + 1) = first + (j + 1) := by rw [zau _ (by omega)]; omega
  have hw3 : IntKind.i64.wrap ((kk : Int) + 1 - 1) = kk := by rw [zau _ (by omega)]; omega
  repeat apply zaa
  refine zl5 ?_
  simp only [push_cast, seval, hw1]
  repeat apply zaa
  refine zae ?_
  simp only [push_cast, seval]
  refine ⟨fun h => ?_, fun h => ?_⟩
  ·have hjl : j < n - kk - first := by omega
   have hfa := zlz n hn kk (by omega) (first + j + 1) (by omega)
   have hsucc := zlH n kk first j
   have hll := hlen j (by omega)
   generalize outJ n kk first j = o at hsucc hll hR ⊢
   have hfj : ((first : Int) + (j + 1)) = ((first + j + 1 : Nat) : Int) := by omega
   repeat apply zaa
   refine zah ?_
   simp only [push_cast, seval]
   repeat apply zaa
   refine zag ?_
   repeat apply zaa
   refine zl5 ?_
   simp only [push_cast, seval, hw2, hw3]
   rw [hfj]
   refine zl6 ((f160_c kk hn (by omega) (by omega) ?_))
   generalize subsetsM n kk (first + j + 1) = l at hfa hsucc ⊢
   obtain ⟨hl20, hlr⟩ := hfa
   try simp only [push_cast, seval, aRows]
   repeat apply zaa
   refine zl5 ?_
   simp only [push_cast, seval]
   repeat apply zaa
   refine zag ?_
   refine zaB l.length (fun x : Nat => [(7, .sl (o.length + x) ((o ++ (l.take x).map (((first + j : Nat) : Int) :: ·)).map aInts) (.opn H.length)), (10, iv x)]) (fun x => H ++ [.tail (o.length + x) 1 30]) (fun i => True) (fun _ _ => rfl) (by simp only [push_cast, seval, List.forall_mem_cons, List.not_mem_nil, false_imp_iff, implies_true, List.forall_mem_nil]; simp [zaf, Wk.refl]) (by simp) (fun _ _ _ => by simp) trivial (fun hHs hLt x hxn hx R2 hR2 => ?_)
   clear hHs hLt
   repeat apply zaa
   refine zl5 ?_
   simp only [push_cast, seval]
   repeat apply zaa
   refine zae ?_
   simp only [push_cast, seval]
   refine ⟨fun h2 => ?_, fun h2 => ?_⟩
   ·have hxl : x < l.length := by omega
    obtain ⟨r, hr⟩ := zaE hxl
    have hrl := hlr r (zas hr)
    have hw4 : IntKind.i64.wrap ((x : Int) + 1) = x + 1 := zau _ (by omega)
    have hol : ((o ++ (l.take x).map (((first + j : Nat) : Int) :: ·)).map aInts).length = o.length + x := by simp; omega
    have hnx : (o ++ (l.take (x + 1)).map (((first + j : Nat) : Int) :: ·)).map aInts = (o ++ (l.take x).map (((first + j : Nat) : Int) :: ·)).map aInts ++ [aInts (((first + j : Nat) : Int) :: r)] := by
     rw [zlC _ hr, ← List.append_assoc, List.map_append]; rfl
    have hri : (r.map iv).length = r.length := List.length_map ..
    repeat apply zaa
    refine zah ?_
    simp only [push_cast, seval]
    repeat apply zaa
    refine zag ?_
    repeat apply zaa
    refine zl5 ?_
    simp only [push_cast, seval, z1, zs1, zhq, zlB hr, zaz hxl, hol, hri, aInts]
    refine ⟨by omega, by simp; omega, by omega, ?_⟩
    repeat apply zaa
    refine zl5 ?_
    simp only [push_cast, seval, hw4]
    refine hR2 _ ⟨hxl, trivial, ?_⟩
    rw [hnx]
    refine zce [.tail (1 + r.length) 1 3] (zam rfl rfl) ?_ (zlX hH _ _ _) ?_ (by simp [Nat.add_assoc])
    ·try simp only [push_cast, seval]
     exact ⟨⟨_, rfl, have h := zlW (l := (o ++ (l.take x).map (((first + j : Nat) : Int) :: ·)).map aInts) (show Wk (.sl (1 + r.length) (iv ((first : Int) + j) :: r.map iv) (.opn (H.length + 1))) (aInts (((first : Int) + j) :: r)) by rw [aInts, Nat.add_comm]; exact zaK _ _ _); zeg h.len h.at⟩, _, rfl, Wk.refl _⟩
    ·rw [← hnx]
     simp only [List.forall_mem_cons, zap, zlZ, iv]; simp
   ·have hxx : x = l.length := by omega
    subst hxx
    repeat apply zaa
    refine zaq ?_
    simp only [push_cast, seval]
    repeat apply zaa
    refine zl5 ?_
    simp only [push_cast, seval, hw2]
    refine hR _ ⟨hjl, trivial, ?_⟩
    rw [hsucc]
    simp only [List.take_length, List.length_append, List.length_map]
    exact (zax (zam rfl rfl) (by simp only [push_cast, seval]; simp [zaf, Wk.refl]))
  ·have hjx : j = n - kk - first := by omega
   subst hjx
   repeat apply zaa
   refine zaq ?_
   simp only [push_cast, seval]
   repeat apply zaa
   refine zl5 ?_
   simp only [push_cast, seval]
   repeat apply zaa
   refine zai ?_
   simp only [push_cast, seval]
   rw [outJ_all]
   exact endA (b := aRows (subsetsM n (kk + 1) first)) hH (zaK _ _ _) (by rw [zlv]; trivial) hk
end
open Go.Conc Go.Proofs
def choicesTo (n j : Nat) : List (List Int) := (List.range j).flatMap fun k => subsetsM n k 0
theorem zly (n j : Nat) : choicesTo n (j + 1) = choicesTo n j ++ subsetsM n j 0 := by unfold choicesTo; rw [List.range_succ, List.flatMap_append]; simp
theorem zlu : ∀ n, n ≤ 6 → ∀ j, j ≤ 7 → (choicesTo n j).length ≤ 64 := by decide +kernel
theorem zlI : ∀ n, n ≤ 6 → ∀ r ∈ choicesM n, r.length ≤ 6 ∧ ∀ i ∈ r, 0 ≤ i ∧ i < n := by decide +kernel
section
variable {lv : Bool} {H : List AObj} {k kp : AV → List AObj → Prop}
theorem f130_c {n kk : Nat} (hn : n ≤ 6) (hkk : kk ≤ 6) (hk : k (aRows (subsetsM n kk 0)) H) : FnC lv Tryz.prog 130 H [iv n, iv kk] k kp := by
 refine zak (rs := [.tmp 4]) (nt := 8) F.f130 rfl rfl rfl (by simp) fun hH hA => ?_
 simp only [argsT, Nat.reduceAdd]
 repeat apply zaa
 refine zl5 ?_
 simp only [push_cast, seval]
 repeat apply zaa
 refine zl5 ?_
 simp only [push_cast, seval]
 refine zl6 ((f160_c kk (first := 0) hn hkk (by omega) ?_))
 try simp only [push_cast, seval]
 repeat apply zaa
 refine zai ?_
 simp only [push_cast, seval]
 exact zao hk
theorem f52_c {n : Nat} (hn : n ≤ 6) (hk : k (aRows (choicesM n)) H) : FnC lv Tryz.prog 52 H [iv n] k kp := by
 refine zak (rs := [.tmp 2]) (nt := 16) F.f52 rfl rfl rfl (by simp) fun hH hA => ?_
 simp only [argsT, Nat.reduceAdd]
 repeat apply zaa
 refine zl5 ?_
 simp only [push_cast, seval]
 repeat apply zaa
 refine zl5 ?_
 simp only [push_cast, seval]
 (repeat apply zaa); refine zbV (t := 3) (sz := 1) (el := 30) (by simp only [push_cast, seval] <;> rfl) ?_
 repeat apply zaa
 refine zl5 ?_
 simp only [push_cast, seval]
 repeat apply zaa
 refine zag ?_
 refine zaB (n + 1) (fun j : Nat => [(3, .sl (choicesTo n j).length ((choicesTo n j).map aInts) (.opn H.length)), (4, iv j)]) (fun j => H ++ [.tail (choicesTo n j).length 1 30]) (fun i => True) (fun _ _ => rfl) (by simp only [push_cast, seval, List.forall_mem_cons, List.not_mem_nil, false_imp_iff, implies_true, List.forall_mem_nil]; simp [zaf, Wk.refl]; exact Wk.refl _) rfl (fun _ _ _ => by simp) trivial (fun hHs hLt j hjn hj R hR => ?_)
 clear hHs hLt
 repeat apply zaa
 refine zl5 ?_
 simp only [push_cast, seval]
 repeat apply zaa
 refine zae ?_
 simp only [push_cast, seval]
 refine ⟨fun h => ?_, fun h => ?_⟩
 ·have hjl : j ≤ n := by omega
  have hw2 : IntKind.i64.wrap ((j : Int) + 1) = j + 1 := zau _ (by omega)
  have hsucc := zly n j
  have hl1 := zlu n hn j (by omega)
  have hl2 := zlu n hn (j + 1) (by omega)
  have hsl : (subsetsM n j 0).length ≤ 64 := by rw [hsucc, List.length_append] at hl2; omega
  have hol : ((choicesTo n j).map aInts).length = (choicesTo n j).length := List.length_map ..
  have hsm : ((subsetsM n j 0).map aInts).length = (subsetsM n j 0).length := List.length_map ..
  have htk : List.take (subsetsM n j 0).length ((subsetsM n j 0).map aInts) = (subsetsM n j 0).map aInts := List.take_of_length_le (by simp)
  have hlf : ∀ a ∈ (subsetsM n j 0).map aInts, a.leaf = true := fun a ha => by obtain ⟨r, _, rfl⟩ := List.mem_map.1 ha; rfl
  repeat apply zaa
  refine zah ?_
  simp only [push_cast, seval]
  repeat apply zaa
  refine zag ?_
  repeat apply zaa
  refine zl5 ?_
  simp only [push_cast, seval]
  refine zl6 ((f130_c hn (by omega) ?_))
  try simp only [push_cast, seval, aRows, hol, hsm, htk]
  refine ⟨by omega, hlf, ?_⟩
  repeat apply zaa
  refine zl5 ?_
  simp only [push_cast, seval, hw2]
  refine hR _ ⟨by omega, trivial, ?_⟩
  rw [hsucc]
  simp only [List.length_append, List.map_append]
  exact (zax (zam rfl rfl) (by simp only [push_cast, seval]; simp [zaf, Wk.refl]))
 ·have hjx : j = n + 1 := by omega
  subst hjx
  repeat apply zaa
  refine zaq ?_
  simp only [push_cast, seval]
  repeat apply zaa
  refine zl5 ?_
  simp only [push_cast, seval]
  repeat apply zaa
  refine zai ?_
  simp only [push_cast, seval]
  exact endA (b := aRows (choicesM n)) hH (zaK _ _ _) (by rw [zlv]; trivial) hk
end
open Go.Conc Go.Proofs
def listsM (n : Nat) : Nat → List (List Int)
 | 0 => [[]]
 | k + 1 => (List.range n).flatMap fun i : Nat => (listsM n k).map ((i : Int) :: ·)
def listJ (n kk j : Nat) : List (List Int) := (List.range j).flatMap fun i : Nat => (listsM n kk).map ((i : Int) :: ·)
theorem zlA (n kk j : Nat) : listJ n kk (j + 1) = listJ n kk j ++ (listsM n kk).map ((j : Int) :: ·) := by
 unfold listJ
 rw [List.range_succ, List.flatMap_append]; simp
theorem zeh : ∀ n, n ≤ 4 → ∀ k, k ≤ 4 → (listsM n k).length ≤ 256 ∧ ∀ r ∈ listsM n k, r.length = k ∧ ∀ i ∈ r, 0 ≤ i ∧ i < n := by decide +kernel
theorem zlF (n kk : Nat) (h : (listsM n kk).length ≤ 256) : ∀ j, (listJ n kk j).length ≤ 256 * j
 | 0 => by simp [listJ]
 | j + 1 => by
  have h1 := zlF n kk h j
  rw [zlA, List.length_append, List.length_map]; omega
section
variable {lv : Bool}
theorem f63_c : ∀ (kk : Nat) {n : Nat} {H : List AObj} {k kp : AV → List AObj → Prop}, n ≤ 4 → kk ≤ 4 → k (aRows (listsM n kk)) H → FnC lv Tryz.prog 63 H [iv n, iv kk] k kp
 | 0, n, H, k, kp, hn, hkk, hk => by
  refine zak (rs := [.tmp 4]) (nt := 38) F.f63 rfl rfl rfl (by simp) fun hH hA => ?_
  simp only [argsT, Nat.reduceAdd]
  repeat apply zaa
  refine zl5 ?_
  simp only [push_cast, seval]
  repeat apply zaa
  refine zl5 ?_
  simp only [push_cast, seval, beq_self_eq_true]
  repeat apply zaa
  refine zae ?_
  simp only [push_cast, seval]
  repeat apply zaa
  refine zl5 ?_
  simp only [push_cast, seval, zs1, zhq]
  repeat apply zaa
  refine zai ?_
  simp only [push_cast, seval]
  exact zaJ (b := aRows [[]]) (H' := H) (G := []) (wk_sl (.cons (zaK _ _ _) .nil)) (by simp) (Nat.le_refl _) hH (by rw [zlv]; trivial) hk
 | kk + 1, n, H, k, kp, hn, hkk, hk => by
  refine zak (rs := [.tmp 4]) (nt := 38) F.f63 rfl rfl rfl (by simp) fun hH hA => ?_
  simp only [argsT, Nat.reduceAdd]
  have hz : (((kk : Int) + 1) == 0) = false := by simp; omega
  have hw3 : IntKind.i64.wrap ((kk : Int) + 1 - 1) = kk := by rw [zau _ (by omega)]; omega
  repeat apply zaa
  refine zl5 ?_
  simp only [push_cast, seval]
  repeat apply zaa
  refine zl5 ?_
  simp only [push_cast, seval, hz]
  repeat apply zaa
  refine zae ?_
  simp only [push_cast, seval]
  repeat apply zaa
  refine zah ?_
  simp only [push_cast, seval]
  repeat apply zaa
  refine zl5 ?_
  simp only [push_cast, seval]
  (repeat apply zaa); refine zbV (t := 5) (sz := 1) (el := 30) (by simp only [push_cast, seval] <;> rfl) ?_
  repeat apply zaa
  refine zl5 ?_
  simp only [push_cast, seval, hw3]
  refine zl6 ((f63_c kk hn (by omega) ?_))
  try simp only [push_cast, seval, aRows]
  have hfa := zeh n hn kk (by omega)
  have hlen := zlF n kk hfa.1
  have hsuc := zlA n kk
  have hall : listJ n kk n = listsM n (kk + 1) := rfl
  generalize listsM n kk = l at hfa hsuc ⊢
  obtain ⟨hl20, hlr⟩ := hfa
  repeat apply zaa
  refine zl5 ?_
  simp only [push_cast, seval]
  repeat apply zaa
  refine zag ?_
  refine zaB n (fun j : Nat => [(5, .sl (listJ n kk j).length ((listJ n kk j).map aInts) (.opn H.length)), (7, iv j)]) (fun j => H ++ [.tail (listJ n kk j).length 1 30]) (fun i => True) (fun _ _ => rfl) (by simp only [push_cast, seval, List.forall_mem_cons, List.not_mem_nil, false_imp_iff, implies_true, List.forall_mem_nil]; simp [zaf, Wk.refl]; exact Wk.refl _) rfl (fun _ _ _ => by simp) trivial (fun hHs hLt j hjn hj R hR => ?_)
  clear hHs hLt
  repeat apply zaa
  refine zl5 ?_
  simp only [push_cast, seval]
  repeat apply zaa
  refine zae ?_
  simp only [push_cast, seval]
  refine ⟨fun h => ?_, fun h => ?_⟩
  ·have hjl : j < n := by omega
   have hw2 : IntKind.i64.wrap ((j : Int) + 1) = j + 1 := zau _ (by omega)
   have hsucc := hsuc j
   have hll := hlen j
   generalize listJ n kk j = o at hsucc hll hR ⊢
   repeat apply zaa
   refine zah ?_
   simp only [push_cast, seval]
   repeat apply zaa
   refine zag ?_
   repeat apply zaa
   refine zl5 ?_
   simp only [push_cast, seval]
   repeat apply zaa
   refine zag ?_
   refine zaB l.length (fun x : Nat => [(5, .sl (o.length + x) ((o ++ (l.take x).map ((j : Int) :: ·)).map aInts) (.opn H.length)), (8, iv x)]) (fun x => H ++ [.tail (o.length + x) 1 30]) (fun i => True) (fun _ _ => rfl) (by simp only [push_cast, seval, List.forall_mem_cons, List.not_mem_nil, false_imp_iff, implies_true, List.forall_mem_nil]; simp [zaf, Wk.refl]) (by simp) (fun _ _ _ => by simp) trivial (fun hHs hLt x hxn hx R2 hR2 => ?_)
   clear hHs hLt
   repeat apply zaa
   refine zl5 ?_
   simp only [push_cast, seval]
   repeat apply zaa
   refine zae ?_
   simp only [push_cast, seval]
   refine ⟨fun h2 => ?_, fun h2 => ?_⟩
   ·have hxl : x < l.length := by omega
    obtain ⟨r, hr⟩ := zaE hxl
    have hrl := (hlr r (zas hr)).1
    have hw4 : IntKind.i64.wrap ((x : Int) + 1) = x + 1 := zau _ (by omega)
    have hol : ((o ++ (l.take x).map ((j : Int) :: ·)).map aInts).length = o.length + x := by simp; omega
    have hnx : (o ++ (l.take (x + 1)).map ((j : Int) :: ·)).map aInts = (o ++ (l.take x).map ((j : Int) :: ·)).map aInts ++ [aInts ((j : Int) :: r)] := by
     rw [zlC _ hr, ← List.append_assoc, List.map_append]; rfl
    have hri : (r.map iv).length = r.length := List.length_map ..
    repeat apply zaa
    refine zah ?_
    simp only [push_cast, seval]
    repeat apply zaa
    refine zag ?_
    repeat apply zaa
    refine zl5 ?_
    simp only [push_cast, seval, z1, zs1, zhq, zlB hr, zaz hxl, hol, hri, aInts]
    first | refine ⟨by omega, by simp; omega, by omega, ?_⟩ | refine ⟨by omega, by omega, ?_⟩
    repeat apply zaa
    refine zl5 ?_
    simp only [push_cast, seval, hw4]
    refine hR2 _ ⟨hxl, trivial, ?_⟩
    rw [hnx]
    refine zce [.tail (1 + r.length) 1 3] (zam rfl rfl) ?_ (zlX hH _ _ _) ?_ (by simp [Nat.add_assoc])
    ·try simp only [push_cast, seval]
     exact ⟨⟨_, rfl, have h := zlW (l := (o ++ (l.take x).map ((j : Int) :: ·)).map aInts) (show Wk (.sl (1 + r.length) (iv (j : Int) :: r.map iv) (.opn (H.length + 1))) (aInts ((j : Int) :: r)) by rw [aInts, Nat.add_comm]; exact zaK _ _ _); zeg h.len h.at⟩, _, rfl, Wk.refl _⟩
    ·rw [← hnx]
     simp only [List.forall_mem_cons, zap, zlZ, iv]; simp
   ·have hxx : x = l.length := by omega
    subst hxx
    repeat apply zaa
    refine zaq ?_
    simp only [push_cast, seval]
    repeat apply zaa
    refine zl5 ?_
    simp only [push_cast, seval, hw2]
    refine hR _ ⟨hjl, trivial, ?_⟩
    rw [hsucc]
    simp only [List.take_length, List.length_append, List.length_map]
    exact (zax (zam rfl rfl) (by simp only [push_cast, seval]; simp [zaf, Wk.refl]))
  ·have hjx : j = n := by omega
   subst hjx
   repeat apply zaa
   refine zaq ?_
   simp only [push_cast, seval]
   repeat apply zaa
   refine zl5 ?_
   simp only [push_cast, seval]
   repeat apply zaa
   refine zai ?_
   simp only [push_cast, seval]
   rw [hall]
   exact endA (b := aRows (listsM j (kk + 1))) hH (zaK _ _ _) (by rw [zlv]; trivial) hk
end
section
variable {lv : Bool} {H : List AObj} {k kp : AV → List AObj → Prop}
theorem f58_c {x : Ring} {t : List Int} {e : End} {kn ln : Nat} (hx : x.Ok) (hkn : kn < x.keys.length) (hln : ln < x.locks.length) (htl : x.keys.length ≤ t.length) (htb : ∀ w ∈ t, 0 ≤ w ∧ w ≤ 2) (hk : k (bv (opensW x.keys t x.locks kn ln)) H) : FnC lv Tryz.prog 58 H [x.av, .sl t.length (t.map iv) e, iv kn, iv ln] k kp := by
 refine zak (rs := [.tmp 8]) (nt := 26) F.f58 rfl rfl rfl (by simp) fun hH hA => ?_
 simp only [argsT, Nat.reduceAdd, Ring.av, Ring.l]
 obtain ⟨y, hy⟩ := zaE hkn
 obtain ⟨l, hl⟩ := zaE hln
 obtain ⟨w, hw⟩ := zaE (xs := t) (i := kn) (by omega)
 obtain ⟨hyc, hyb, hyw⟩ := hx.key y (zas hy)
 obtain ⟨hlc, hlb⟩ := hx.lock l (zas hl)
 obtain ⟨hw0, hw2⟩ := htb w (zas hw)
 have hc := hx.cuts
 have hdl : (wornM w y.cuts).length = y.cuts.length := by simp [wornM]
 have how : opensW x.keys t x.locks kn ln = fitsM (wornM w y.cuts) l := by
  unfold opensW
  simp only [Int.toNat_natCast, List.getD_eq_getElem?_getD, hy, hw, hl, Option.map_some, Option.getD_some]
 rw [how] at hk
 repeat apply zaa
 refine zl5 ?_
 simp only [push_cast, seval]
 repeat apply zaa
 refine zaT F.mixed 16 (by kernel_rfl) ?_
 simp only [push_cast, seval, zc2 hy, zaz hkn, za2 hw, zaz (get_lt hw), zfu hl, zaz hln, aKeys, aLocks]
 refine qCall _ (zad (by kernel_rfl) (f78_c hyb ⟨by omega, by omega⟩ (by omega) ⟨rfl, rfl⟩)) ?_
 refine zl6 ((f64_c (by omega) (by omega) ?_))
 try simp only [push_cast, seval]
 repeat apply zaa
 refine zai ?_
 simp only [push_cast, seval]
 exact endA hH (Wk.refl _) (by simp [zap]) hk
end
open Go.Conc Go.Proofs
def wearOk (x : Ring) (t : List Int) : Nat → Bool
 | 0 => true
 | k + 1 => wearOk x t k && (match x.keys[k]?, t[k]? with | some y, some w => decide (y.wear.min ≤ w) && decide (w ≤ y.wear.max) | _, _ => true)
def triesOk (x : Ring) (t : List Int) : Nat → Bool
 | 0 => true
 | i + 1 => triesOk x t i && (match x.tries[i]? with | some r => opensW x.keys t x.locks r.key r.lock == r.opens | none => true)
def fineW (x : Ring) (t : List Int) : Bool := wearOk x t x.keys.length && triesOk x t x.tries.length
def truthsL (x : Ring) : List (List Int) := (listsM 3 x.keys.length).filter (fineW x)
theorem zlS (t : List Int) : (aInts t).parts = some [aInts t] := rfl
theorem zgv {x : Ring} {t : List Int} {k : Nat} {y : Key} {w : Int} (hy : x.keys[k]? = some y) (hw : t[k]? = some w) : wearOk x t (k + 1) = (wearOk x t k && (decide (y.wear.min ≤ w) && decide (w ≤ y.wear.max))) := by rw [wearOk, hy, hw]
theorem zf9 {x : Ring} {t : List Int} {i : Nat} {r : Try} (hr : x.tries[i]? = some r) : triesOk x t (i + 1) = (triesOk x t i && (opensW x.keys t x.locks r.key r.lock == r.opens)) := by rw [triesOk, hr]
section
variable {lv : Bool} {H : List AObj} {k kp : AV → List AObj → Prop}
theorem f57_c {x : Ring} (hx : x.Ok) (hk : k (aRows (truthsL x)) H) : FnC lv Tryz.prog 57 H [x.av] k kp := by
 refine zak (rs := [.tmp 2]) (nt := 105) F.f57 rfl rfl rfl (by simp) fun hH hA => ?_
 simp only [argsT, Nat.reduceAdd, Ring.av, Ring.l]
 have hkl := hx.keys
 have htl := hx.tries
 repeat apply zaa
 refine zl5 ?_
 simp only [push_cast, seval]
 repeat apply zaa
 refine zl5 ?_
 simp only [push_cast, seval]
 (repeat apply zaa); refine zbV (t := 3) (sz := 1) (el := 30) (by simp only [push_cast, seval] <;> rfl) ?_
 try simp only [push_cast, seval]
 repeat apply zaa
 refine zl5 ?_
 simp only [push_cast, seval, aKeys]
 refine zl6 ((f63_c x.keys.length (n := 3) (by omega) hkl ?_))
 try simp only [push_cast, seval, aRows]
 have hfa := zeh 3 (by omega) x.keys.length hkl
 have hfin : ((listsM 3 x.keys.length).filter (fineW x)) = truthsL x := rfl
 generalize listsM 3 x.keys.length = L at hfa hfin ⊢
 obtain ⟨hL, hLr⟩ := hfa
 repeat apply zaa
 refine zl5 ?_
 simp only [push_cast, seval]
 repeat apply zaa
 refine zag ?_
 have hfl : ∀ i, ((L.take i).filter (fineW x)).length ≤ 256 := fun i => by
  have h1 := List.length_filter_le (fineW x) (L.take i)
  have h2 := List.length_take_le i L
  have h3 : (L.take i).length ≤ L.length := by rw [List.length_take]; omega
  omega
 refine zaB L.length (fun i : Nat => [(3, .sl ((L.take i).filter (fineW x)).length (((L.take i).filter (fineW x)).map aInts) (.opn (H.length + 1))), (5, iv i)]) (fun i => H ++ [.cells [iv x.cuts, aKeys x.keys, aLocks x.locks, aTries x.tries] 26, .tail ((L.take i).filter (fineW x)).length 1 30]) (fun i => True) (fun _ _ => rfl) (by simp only [push_cast, seval, List.forall_mem_cons, List.not_mem_nil, false_imp_iff, implies_true, List.forall_mem_nil]; simp [zaf, Wk.refl]; try exact Wk.refl _) rfl (fun _ _ _ => by simp) trivial (fun hHs hLt i hin hi R hR => ?_)
 clear hHs hLt
 repeat apply zaa
 refine zl5 ?_
 simp only [push_cast, seval]
 repeat apply zaa
 refine zae ?_
 simp only [push_cast, seval]
 refine ⟨fun h => ?_, fun h => ?_⟩
 ·have hil : i < L.length := by omega
  obtain ⟨t, ht⟩ := zaE hil
  obtain ⟨htn, htb⟩ := hLr t (zas ht)
  have hw1 : IntKind.i64.wrap ((i : Int) + 1) = i + 1 := zau _ (by omega)
  have hfs : (L.take (i + 1)).filter (fineW x) = (L.take i).filter (fineW x) ++ (if fineW x t then [t] else []) := by
   obtain ⟨hj, hle⟩ := List.getElem?_eq_some_iff.1 ht
   rw [List.take_succ_eq_append_getElem hj, hle, List.filter_append]
   congr 1
   cases hf : fineW x t <;> simp [hf]
  have hfi := hfl i
  generalize (L.take i).filter (fineW x) = o at hfs hfi hR ⊢
  repeat apply zaa
  refine zah ?_
  simp only [push_cast, seval]
  repeat apply zaa
  refine zag ?_
  repeat apply zaa
  refine zl5 ?_
  simp only [push_cast, seval]
  repeat apply zaa
  refine zl5 ?_
  simp only [push_cast, seval]
  repeat apply zaa
  refine zag ?_
  refine zaB x.keys.length (fun j : Nat => [(6, bv (wearOk x t j)), (7, iv j)]) (fun _ => _) (fun j => True) (fun _ _ => rfl) (by simp only [push_cast, seval, List.forall_mem_cons, List.not_mem_nil, false_imp_iff, implies_true, List.forall_mem_nil]; simp [zaf, Wk.refl]; try exact Wk.refl _) rfl (fun _ _ _ => rfl) trivial (fun hHs hLt j hjn hj R2 hR2 => ?_)
  clear hHs hLt
  repeat apply zaa
  refine zl5 ?_
  simp only [push_cast, seval, aKeys]
  repeat apply zaa
  refine zae ?_
  simp only [push_cast, seval]
  refine ⟨fun h2 => ?_, fun h2 => ?_⟩
  ·have hjl : j < x.keys.length := by omega
   obtain ⟨y, hy⟩ := zaE hjl
   obtain ⟨w, hw⟩ := zaE (xs := t) (i := j) (by omega)
   have hsucc := zgv hy hw
   have hw2 : IntKind.i64.wrap ((j : Int) + 1) = j + 1 := zau _ (by omega)
   repeat apply zaa
   refine zah ?_
   simp only [push_cast, seval]
   repeat apply zaa
   refine zag ?_
   cases hb : wearOk x t j with
   | false =>
    repeat apply zaa
    refine zaT F.mixed 33 (by kernel_rfl) ?_
    simp only [push_cast, seval, aKeys, aInts, zlB ht, zaz hil, za2 hw, zaz (get_lt hw), zc2 hy, zaz hjl, hb]
    rw [hsucc, hb] at hR2
    repeat apply zaa
    refine zl5 ?_
    simp only [push_cast, seval, hw2]
    refine hR2 _ ⟨hjl, trivial, ?_⟩
    simp only [Bool.false_and]
    exact (zax (zam rfl rfl) (by simp only [push_cast, seval]; simp [zaf, Wk.refl]))
   | true =>
    repeat apply zaa
    refine zaT F.mixed 33 (by kernel_rfl) ?_
    simp only [push_cast, seval, aKeys, aInts, zlB ht, zaz hil, za2 hw, zaz (get_lt hw), zc2 hy, zaz hjl, hb]
    rw [hsucc, hb] at hR2
    refine guardI (fun h3 => ?_) (fun h3 => ?_)
    ·have h3 : y.wear.min ≤ w := by simpa using h3
     try simp only [push_cast, seval, aKeys, aInts, zlB ht, zaz hil, za2 hw, zaz (get_lt hw), zc2 hy, zaz hjl, hb]
     repeat apply zaa
     refine zl5 ?_
     simp only [push_cast, seval, hw2]
     refine hR2 _ ⟨hjl, trivial, ?_⟩
     rw [decide_eq_true h3]
     simp only [Bool.true_and]
     exact (zax (zam rfl rfl) (by simp only [push_cast, seval]; simp [zaf, Wk.refl]))
    ·have h3 : ¬ y.wear.min ≤ w := by simpa using h3
     try simp only [push_cast, seval, aKeys, aInts, zlB ht, zaz hil, za2 hw, zaz (get_lt hw), zc2 hy, zaz hjl, hb]
     repeat apply zaa
     refine zl5 ?_
     simp only [push_cast, seval, hw2]
     refine hR2 _ ⟨hjl, trivial, ?_⟩
     rw [decide_eq_false h3]
     simp only [Bool.true_and, Bool.false_and]
     exact (zax (zam rfl rfl) (by simp only [push_cast, seval]; simp [zaf, Wk.refl]))
  ·have hjx : j = x.keys.length := by omega
   subst hjx
   clear hR2
   repeat apply zaa
   refine zaq ?_
   simp only [push_cast, seval]
   repeat apply zaa
   refine zl5 ?_
   simp only [push_cast, seval]
   repeat apply zaa
   refine zag ?_
   refine zaB x.tries.length (fun j : Nat => [(6, bv (wearOk x t x.keys.length && triesOk x t j)), (8, iv j)]) (fun _ => _) (fun j => True) (fun _ _ => rfl) (by simp only [triesOk, Bool.and_true]; simp only [push_cast, seval, List.forall_mem_cons, List.not_mem_nil, false_imp_iff, implies_true, List.forall_mem_nil]; simp [zaf, Wk.refl]; try exact Wk.refl _) rfl (fun _ _ _ => rfl) trivial (fun hHs hLt j hjn hj R2 hR2 => ?_)
   clear hHs hLt
   repeat apply zaa
   refine zl5 ?_
   simp only [push_cast, seval, aTries]
   repeat apply zaa
   refine zae ?_
   simp only [push_cast, seval]
   refine ⟨fun h2 => ?_, fun h2 => ?_⟩
   ·have hjl : j < x.tries.length := by omega
    obtain ⟨r, hr⟩ := zaE hjl
    obtain ⟨⟨hrk0, hrk⟩, hrl0, hrl⟩ := hx.tried r (zas hr)
    have hsucc := zf9 (t := t) hr
    have hw2 : IntKind.i64.wrap ((j : Int) + 1) = j + 1 := zau _ (by omega)
    rw [hsucc, ← Bool.and_assoc] at hR2
    obtain ⟨rk, rl, ro⟩ := r
    simp only at hrk0 hrk hrl0 hrl hR2
    obtain ⟨rk, rfl⟩ : ∃ m : Nat, rk = m := ⟨rk.toNat, by omega⟩
    obtain ⟨rl, rfl⟩ : ∃ m : Nat, rl = m := ⟨rl.toNat, by omega⟩
    repeat apply zaa
    refine zah ?_
    simp only [push_cast, seval]
    repeat apply zaa
    refine zag ?_
    cases hb : (wearOk x t x.keys.length && triesOk x t j) with
    | false =>
     repeat apply zaa
     refine zaT F.mixed 26 (by kernel_rfl) ?_
     simp only [push_cast, seval, aTries, zlB ht, zaz hil, zh6 hr, zaz hjl, hb]
     rw [hb] at hR2
     repeat apply zaa
     refine zl5 ?_
     simp only [push_cast, seval, hw2]
     refine hR2 _ ⟨hjl, trivial, ?_⟩
     simp only [Bool.false_and]
     exact (zax (zam rfl rfl) (by simp only [push_cast, seval]; simp [zaf, Wk.refl]))
    | true =>
     repeat apply zaa
     refine zaT F.mixed 26 (by kernel_rfl) ?_
     simp only [push_cast, seval, aTries, zlB ht, zaz hil, zh6 hr, zaz hjl, hb]
     rw [hb] at hR2
     refine qCall (bv (opensW x.keys t x.locks rk rl)) (zad (by kernel_rfl) (f58_c (x := x) hx (by omega) (by omega) (by omega) (fun w hw => by have := htb w hw; omega) ⟨rfl, rfl⟩)) ?_
     try simp only [push_cast, seval, aTries, zlB ht, zaz hil, zh6 hr, zaz hjl, hb]
     repeat apply zaa
     refine zl5 ?_
     simp only [push_cast, seval, hw2]
     refine hR2 _ ⟨hjl, trivial, ?_⟩
     simp only [Bool.true_and]
     exact (zax (zam rfl rfl) (by simp only [push_cast, seval]; simp [zaf, Wk.refl]))
   ·have hjx : j = x.tries.length := by omega
    subst hjx
    have hff : (wearOk x t x.keys.length && triesOk x t x.tries.length) = fineW x t := rfl
    rw [hff]
    repeat apply zaa
    refine zaq ?_
    simp only [push_cast, seval]
    repeat apply zaa
    refine zl5 ?_
    simp only [push_cast, seval]
    repeat apply zaa
    refine zae ?_
    simp only [push_cast, seval]
    refine ⟨fun h3 => ?_, fun h3 => ?_⟩
    ·have h3 : fineW x t = true := by simpa using h3
     rw [if_pos h3] at hfs
     have hol : (o.map aInts).length = o.length := List.length_map ..
     repeat apply zaa
     refine zl5 ?_
     simp only [push_cast, seval, zs1, zhq, zlB ht, zaz hil, hol, zlS, zkE]
     refine ⟨by omega, ?_⟩
     repeat apply zaa
     refine zl5 ?_
     simp only [push_cast, seval, hw1]
     refine hR _ ⟨hil, trivial, ?_⟩
     rw [hfs]
     simp only [List.length_append, List.map_append]
     exact (zax (zam rfl rfl) (by simp only [push_cast, seval]; simp [zaf, Wk.refl]))
    ·have h3 : ¬ fineW x t = true := by simpa using h3
     rw [if_neg h3, List.append_nil] at hfs
     repeat apply zaa
     refine zah ?_
     simp only [push_cast, seval]
     repeat apply zaa
     refine zl5 ?_
     simp only [push_cast, seval, hw1]
     refine hR _ ⟨hil, trivial, ?_⟩
     rw [hfs]
     exact (zax (zam rfl rfl) (by simp only [push_cast, seval]; simp [zaf, Wk.refl]))
 ·have hix : i = L.length := by omega
  subst hix
  repeat apply zaa
  refine zaq ?_
  simp only [push_cast, seval]
  repeat apply zaa
  refine zl5 ?_
  simp only [push_cast, seval]
  repeat apply zaa
  refine zai ?_
  simp only [push_cast, seval]
  rw [List.take_length, hfin]
  exact endA (b := aRows (truthsL x)) hH (zaK _ _ _) (by rw [zlv]; trivial) hk
end
def rowOk (ks : List Key) (r : List Int) : Bool := (ks.zip r).all fun p => decide (p.1.wear.min ≤ p.2) && decide (p.2 ≤ p.1.wear.max)
theorem zlx (y : Key) (ks : List Key) (w : Int) (r : List Int) : rowOk (y :: ks) (w :: r) = (decide (y.wear.min ≤ w) && decide (w ≤ y.wear.max) && rowOk ks r) := by simp [rowOk]
theorem zlU {lo hi : Int} (h0 : 0 ≤ lo) (h1 : lo ≤ hi) (h2 : hi ≤ 2) {β : Type} (f : Int → List β) : (rangeI lo hi).flatMap f = (List.range 3).flatMap fun i : Nat => if decide (lo ≤ (i : Int)) && decide ((i : Int) ≤ hi) then f i else [] := by
 have hr : List.range 3 = [0, 1, 2] := rfl
 have hl : lo = 0 ∨ lo = 1 ∨ lo = 2 := by omega
 have hh : hi = 0 ∨ hi = 1 ∨ hi = 2 := by omega
 rw [hr]
 rcases hl with rfl | rfl | rfl <;> rcases hh with rfl | rfl | rfl <;> first | omega | (simp [rangeI, List.range_succ])
theorem zli : ∀ (ys : List Key) (pre : List Int) (m : Nat), (∀ y ∈ ys, y.wear.Ok 2) → growM ys pre.length (pre ++ List.replicate (m + ys.length) 0) = ((listsM 3 ys.length).filter (rowOk ys)).map fun r => pre ++ r ++ List.replicate m 0
 | [], pre, m, _ => by simp [growM, listsM, rowOk]
 | y :: ys, pre, m, h => by
  have hy := h y List.mem_cons_self
  rw [growM, zlU hy.min hy.le hy.max]
  show _ = (((List.range 3).flatMap fun i : Nat => (listsM 3 ys.length).map ((i : Int) :: ·)).filter (rowOk (y :: ys))).map _
  rw [List.filter_flatMap, List.map_flatMap]
  congr 1
  funext i
  have hset : (pre ++ List.replicate (m + (y :: ys).length) 0).set pre.length (i : Int) = (pre ++ [(i : Int)]) ++ List.replicate (m + ys.length) 0 := by
   rw [List.set_append_right _ _ (Nat.le_refl _), Nat.sub_self, List.length_cons, ← Nat.add_assoc, List.replicate_succ, List.set_cons_zero, List.append_assoc]; rfl
  have ih := zli ys (pre ++ [(i : Int)]) m fun z hz => h z (List.mem_cons_of_mem _ hz)
  rw [List.length_append, List.length_singleton] at ih
  rw [hset, ih]
  cases hc : (decide (y.wear.min ≤ (i : Int)) && decide ((i : Int) ≤ y.wear.max)) with
  | true =>
   rw [if_pos rfl, List.filter_map, List.map_map]
   have : (rowOk (y :: ys) ∘ fun x => (i : Int) :: x) = rowOk ys := by funext r; simp only [Function.comp]; rw [zlx, hc, Bool.true_and]
   rw [this]
   congr 1
   funext r
   simp
  | false =>
   rw [if_neg (by simp), List.filter_map, List.map_map]
   have : (rowOk (y :: ys) ∘ fun x => (i : Int) :: x) = fun _ => false := by funext r; simp only [Function.comp]; rw [zlx, hc, Bool.false_and]
   rw [this]
   simp
def padR (n : Nat) (r : List Int) : List Int := r ++ List.replicate (4 - n) 0
theorem zlG {x : Ring} (hx : x.Ok) : wears0 x = ((listsM 3 x.keys.length).filter (rowOk x.keys)).map (padR x.keys.length) := by
 have h4 := hx.keys
 have h := zli x.keys [] (4 - x.keys.length) fun y hy => (hx.key y hy).2.2
 rw [show 4 - x.keys.length + x.keys.length = 4 by omega] at h
 exact h
theorem zlw (x : Ring) (t : List Int) : ∀ k, k ≤ x.keys.length → k ≤ t.length → wearOk x t k = ((x.keys.zip t).take k).all fun p => decide (p.1.wear.min ≤ p.2) && decide (p.2 ≤ p.1.wear.max)
 | 0, _, _ => rfl
 | k + 1, h, h' => by
  obtain ⟨y, hy⟩ := zaE (xs := x.keys) (i := k) (by omega)
  obtain ⟨w, hw⟩ := zaE (xs := t) (i := k) (by omega)
  have hz : (x.keys.zip t)[k]? = some (y, w) := by rw [List.getElem?_zip_eq_some]; exact ⟨hy, hw⟩
  rw [zgv hy hw, zlw x t k (by omega) (by omega)]
  obtain ⟨hj, hle⟩ := List.getElem?_eq_some_iff.1 hz
  rw [List.take_succ_eq_append_getElem hj, hle, List.all_append]
  simp
theorem zlP {x : Ring} {t : List Int} (h : t.length = x.keys.length) : wearOk x t x.keys.length = rowOk x.keys t := by
 rw [zlw x t _ (Nat.le_refl _) (by omega), List.take_of_length_le (by simp [h])]; rfl
theorem ziC (cuts : Int) (ds : List Int) (ls : List (List Band)) (j : Nat) : ∀ i, (openedM cuts ds ls i).testBit j = (decide (j < i) && (match ls[j]? with | some l => fitsM (ds.take cuts.toNat) l | none => false))
 | 0 => by simp [openedM]
 | i + 1 => by
  have ih := ziC cuts ds ls j i
  have hlt := zb5 cuts ds ls i
  have hhi : (openedM cuts ds ls i).testBit i = false := Nat.testBit_lt_two_pow hlt
  unfold openedM
  by_cases hji : j = i
  ·subst hji
   cases hl : ls[j]? with
   | none => simp [hhi]
   | some l =>
    simp only
    split
    ·rename_i hf; simp [Nat.testBit_or, Nat.testBit_two_pow_self, hf]
    ·rename_i hf; simp [hhi, hf]
  ·have hd : decide (j < i + 1) = decide (j < i) := by congr 1; simp; omega
   rw [hd]
   cases hl : ls[i]? with
   | none => exact ih
   | some l =>
    simp only
    split
    ·rw [Nat.testBit_or, ih, Nat.testBit_two_pow_of_ne (Ne.symm hji), Bool.or_false]
    ·exact ih
theorem zf8 {x : Ring} (hx : x.Ok) {t : List Int} (ht : t.length = x.keys.length) (hb : ∀ w ∈ t, 0 ≤ w ∧ w ≤ 2) {k l : Nat} (hk : k < x.keys.length) (hl : l < x.locks.length) : (inTruth x (padR x.keys.length t) k).testBit l = opensW x.keys t x.locks k l := by
 obtain ⟨y, hy⟩ := zaE hk
 obtain ⟨lk, hlk⟩ := zaE hl
 obtain ⟨w, hw⟩ := zaE (xs := t) (i := k) (by omega)
 obtain ⟨hyc, hyb, hyw⟩ := hx.key y (zas hy)
 have hw0 := (hb w (zas hw)).1
 have hc := hx.cuts
 have hp : (padR x.keys.length t).getD k 0 = w := by
  unfold padR
  rw [List.getD_eq_getElem?_getD, List.getElem?_append_left (by omega), hw]; rfl
 have how : opensW x.keys t x.locks k l = fitsM (wornM w y.cuts) lk := by
  unfold opensW
  simp only [Int.toNat_natCast, List.getD_eq_getElem?_getD, hy, hw, hlk, Option.map_some, Option.getD_some]
 rw [how]
 unfold inTruth opensM
 rw [hp, hy]
 simp only
 rw [ziC, hlk]
 have hwn : ((w.toNat : Nat) : Int) = w := by omega
 have htk : (wornM (w.toNat : Nat) (depthsM y.cuts)).take x.cuts.toNat = wornM w y.cuts := by
  rw [hwn]
  unfold wornM depthsM
  rw [List.take_of_length_le (show y.cuts.length ≤ 4 by omega), List.map_append, List.take_append_of_le_length (by simp; omega), List.take_of_length_le (by simp; omega)]
 rw [htk]
 simp [hl]
open Go.Conc Go.Proofs
def differM (x : Ring) (t keys : List Int) (p q : Nat) : Bool := keys.any fun k => opensW x.keys t x.locks k p != opensW x.keys t x.locks k q
theorem zlK {x : Ring} {t keys : List Int} {p q i : Nat} {k : Int} (h : keys[i]? = some k) : differM x t (keys.take (i + 1)) p q = (differM x t (keys.take i) p q || (opensW x.keys t x.locks k p != opensW x.keys t x.locks k q)) := by
 obtain ⟨hj, rfl⟩ := List.getElem?_eq_some_iff.1 h
 unfold differM
 rw [List.take_succ_eq_append_getElem hj, List.any_append]; simp
theorem zlM {x : Ring} {t keys : List Int} {p q i : Nat} {k : Int} (h : keys[i]? = some k) (hd : (opensW x.keys t x.locks k p != opensW x.keys t x.locks k q) = true) : differM x t keys p q = true := List.any_eq_true.2 ⟨k, zas h, hd⟩
theorem zlN {x : Ring} (hx : x.Ok) {t : List Int} (ht : t.length = x.keys.length) (hb : ∀ w ∈ t, 0 ≤ w ∧ w ≤ 2) : ∀ i, i ≤ x.tries.length → okTo x [] (padR x.keys.length t) i = triesOk x t i
 | 0, _ => rfl
 | i + 1, h => by
  obtain ⟨r, hr⟩ := zaE (xs := x.tries) (i := i) (by omega)
  obtain ⟨⟨hk0, hk⟩, hl0, hl⟩ := hx.tried r (zas hr)
  rw [okTo, zlN hx ht hb i (by omega), zf9 hr, hr]
  have h1 := zf8 hx ht hb (k := r.key.toNat) (l := r.lock.toNat) (by omega) (by omega)
  have e1 : ((r.key.toNat : Nat) : Int) = r.key := by omega
  have e2 : ((r.lock.toNat : Nat) : Int) = r.lock := by omega
  rw [e1, e2] at h1
  simp only [List.contains_nil, Bool.false_or]
  unfold triedM
  rw [← h1]; rfl
theorem zlO {α : Type} (l : List α) (p : α → Bool) : ((l.zipIdx.filter fun y => p y.1).map (·.1)) = l.filter p := by
 have h := List.filter_map (f := fun y : α × Nat => y.1) (p := p) (l := l.zipIdx)
 rw [List.zipIdx_map_fst] at h
 exact h.symm
theorem zgX {x : Ring} (hx : x.Ok) : (truthsM x []).map (·.1) = (truthsL x).map (padR x.keys.length) := by
 unfold truthsM truthsTo
 rw [zlO (wears0 x) fun r => okTo x [] r x.tries.length, zlG hx, List.filter_map, List.filter_filter]
 congr 1
 unfold truthsL
 refine List.filter_congr fun t ht => ?_
 obtain ⟨h1, h2⟩ := (zeh 3 (by omega) x.keys.length hx.keys).2 t ht
 have hb : ∀ w ∈ t, 0 ≤ w ∧ w ≤ 2 := fun w hw => by have := h2 w hw; omega
 simp only [Function.comp]
 rw [zlN hx h1 hb _ (Nat.le_refl _), fineW, zlP h1, Bool.and_comm]
theorem zlQ {x : Ring} (hx : x.Ok) : (truthsM x []).length = (truthsL x).length := by
 have := congrArg List.length (zgX hx)
 rwa [List.length_map, List.length_map] at this
theorem zlR {x : Ring} (hx : x.Ok) (f : List Int → Bool) : ((truthsM x []).all fun y => f y.1) = (truthsL x).all fun t => f (padR x.keys.length t) := by
 have h := congrArg (fun l => List.all l f) (zgX hx)
 simp only [List.all_map] at h
 exact h
theorem truths_any {x : Ring} (hx : x.Ok) (f : List Int → Bool) : ((truthsM x []).any fun y => f y.1) = (truthsL x).any fun t => f (padR x.keys.length t) := by
 have h := congrArg (fun l => List.any l f) (zgX hx)
 simp only [List.any_map] at h
 exact h
theorem zhQ {x : Ring} (hx : x.Ok) : ∀ t ∈ truthsL x, t.length = x.keys.length ∧ ∀ w ∈ t, 0 ≤ w ∧ w ≤ 2 := fun t ht => by
 obtain ⟨h1, h2⟩ := (zeh 3 (by omega) x.keys.length hx.keys).2 t (List.mem_filter.1 ht).1
 exact ⟨h1, fun w hw => by have := h2 w hw; omega⟩
theorem zlJ {x : Ring} (hx : x.Ok) : (truthsL x).length ≤ 256 := Nat.le_trans (List.length_filter_le _ _) (zeh 3 (by omega) x.keys.length hx.keys).1
section
variable {lv : Bool} {H : List AObj} {k kp : AV → List AObj → Prop}
theorem f60_c {x : Ring} {t keys : List Int} {e e' : End} {p q : Nat} (hx : x.Ok) (htl : x.keys.length ≤ t.length) (htb : ∀ w ∈ t, 0 ≤ w ∧ w ≤ 2) (hks : keys.length < 2 ^ 20) (hkb : ∀ k ∈ keys, 0 ≤ k ∧ k < x.keys.length) (hp : p < x.locks.length) (hq : q < x.locks.length) (hk : k (bv (differM x t keys p q)) H) : FnC lv Tryz.prog 60 H [x.av, .sl t.length (t.map iv) e, .sl keys.length (keys.map iv) e', iv p, iv q] k kp := by
 refine zak (rs := [.tmp 10]) (nt := 35) F.f60 rfl rfl rfl (by simp) fun hH hA => ?_
 simp only [argsT, Nat.reduceAdd, Ring.av, Ring.l]
 repeat apply zaa
 refine zl5 ?_
 simp only [push_cast, seval]
 repeat apply zaa
 refine zl5 ?_
 simp only [push_cast, seval]
 repeat apply zaa
 refine zag ?_
 refine zaB keys.length (fun i : Nat => [(11, iv i)]) (fun _ => _) (fun i => differM x t (keys.take i) p q = false) (fun _ _ => rfl) (by simp only [push_cast, seval, List.forall_mem_cons, List.not_mem_nil, false_imp_iff, implies_true, List.forall_mem_nil]; simp [zaf, Wk.refl]) rfl (fun _ _ _ => rfl) (by simp [differM]) (fun hHs hLt i hin hi R hR => ?_)
 clear hHs hLt
 repeat apply zaa
 refine zl5 ?_
 simp only [push_cast, seval]
 repeat apply zaa
 refine zae ?_
 simp only [push_cast, seval]
 refine ⟨fun h => ?_, fun h => ?_⟩
 ·have hil : i < keys.length := by omega
  obtain ⟨kx, hkx⟩ := zaE hil
  obtain ⟨hk0, hk1⟩ := hkb kx (zas hkx)
  have hdt := zlK (x := x) (t := t) (p := p) (q := q) hkx
  have hds := zlM (x := x) (t := t) (p := p) (q := q) hkx
  obtain ⟨kn, rfl⟩ : ∃ m : Nat, kx = m := ⟨kx.toNat, by omega⟩
  have hw1 : IntKind.i64.wrap ((i : Int) + 1) = i + 1 := zau _ (by omega)
  repeat apply zaa
  refine zah ?_
  simp only [push_cast, seval]
  repeat apply zaa
  refine zag ?_
  repeat apply zaa
  refine zaT F.mixed 15 (by kernel_rfl) ?_
  simp only [push_cast, seval, za2 hkx, zaz hil]
  refine qCall (bv (opensW x.keys t x.locks kn p)) (zad (by kernel_rfl) (f58_c (x := x) hx (by omega) hp htl htb ⟨rfl, rfl⟩)) ?_
  refine zl6 ((f58_c (x := x) hx (by omega) hq htl htb ?_))
  try simp only [push_cast, seval]
  repeat apply zaa
  refine zae ?_
  simp only [push_cast, seval]
  refine ⟨fun h3 => ?_, fun h3 => ?_⟩
  ·have h3 : (opensW x.keys t x.locks kn p != opensW x.keys t x.locks kn q) = true := by simpa using h3
   repeat apply zaa
   refine zl5 ?_
   simp only [push_cast, seval]
   repeat apply zaa
   refine zai ?_
   simp only [push_cast, seval]
   rw [hds h3] at hk
   exact endA hH (Wk.refl _) (by simp [zap]) hk
  ·have h3 : (opensW x.keys t x.locks kn p != opensW x.keys t x.locks kn q) = false := by simpa using h3
   repeat apply zaa
   refine zah ?_
   simp only [push_cast, seval]
   repeat apply zaa
   refine zl5 ?_
   simp only [push_cast, seval, hw1]
   refine hR _ ⟨hil, by rw [hdt, hi, h3]; rfl, (zax (zam rfl rfl) (by simp only [push_cast, seval]; simp [zaf, Wk.refl]))⟩
 ·have hix : i = keys.length := by omega
  subst hix
  rw [List.take_length] at hi
  rw [hi] at hk
  repeat apply zaa
  refine zaq ?_
  simp only [push_cast, seval]
  repeat apply zaa
  refine zl5 ?_
  simp only [push_cast, seval]
  repeat apply zaa
  refine zai ?_
  simp only [push_cast, seval]
  exact endA hH (Wk.refl _) (by simp [zap]) hk
end
open Go.Conc Go.Proofs
def pairsL (x : Ring) (t keys : List Int) (n : Nat) : Bool := (List.range n).all fun b => (List.range b).all fun a => differM x t keys b a
def tellL (x : Ring) (keys : List Int) : Bool := (truthsL x).all fun t => pairsL x t keys x.locks.length
theorem tell_law {x : Ring} (hx : x.Ok) {keys : List Int} (hk : ∀ k ∈ keys, 0 ≤ k ∧ k < x.keys.length) : tellB x (truthsM x []) keys = tellL x keys := by
 unfold tellB tellL
 rw [zlR hx fun r => pairsB x r keys, Bool.eq_iff_iff]
 simp only [List.all_eq_true]
 refine forall_congr' fun t => forall_congr' fun ht => ?_
 obtain ⟨h1, h2⟩ := zhQ hx t ht
 rw [← Bool.eq_iff_iff]
 unfold pairsB pairsL
 rw [Bool.eq_iff_iff]
 simp only [List.all_eq_true, List.mem_range]
 refine forall_congr' fun b => forall_congr' fun hb => forall_congr' fun a => forall_congr' fun ha => ?_
 rw [← Bool.eq_iff_iff]
 unfold apartM differM
 rw [Bool.eq_iff_iff]
 simp only [List.any_eq_true]
 refine exists_congr fun k => and_congr_right fun hkm => ?_
 obtain ⟨hk0, hk1⟩ := hk k hkm
 have e : ((k.toNat : Nat) : Int) = k := by omega
 have e1 := zf8 hx h1 h2 (k := k.toNat) (l := a) (by omega) (by omega)
 have e2 := zf8 hx h1 h2 (k := k.toNat) (l := b) (by omega) (by omega)
 rw [e] at e1 e2
 rw [e1, e2]
 simp only [bne_iff_ne]
 exact ne_comm
def TellIs (x : Ring) (g : List Int) (e : Int) : Prop := (truthsM x [] ≠ [] ∧ tellM x = some g ∧ e = 0) ∨ ((truthsM x [] = [] ∨ tellM x = none) ∧ g = [] ∧ e = 11)
theorem zlT {x : Ring} (hx : x.Ok) : tellM x = (choicesM x.keys.length).find? (tellB x (truthsM x [])) := by
 unfold tellM fewestM
 rw [zlE _ (by have := hx.keys; omega)]
theorem zlD {α : Type} {l : List α} {i : Nat} {a : α} (f : α → Bool) (h : l[i]? = some a) : (l.take (i + 1)).all f = ((l.take i).all f && f a) := by
 obtain ⟨hj, rfl⟩ := List.getElem?_eq_some_iff.1 h
 rw [List.take_succ_eq_append_getElem hj, List.all_append]; simp
theorem zfK (n : Nat) (f : Nat → Bool) : (List.range (n + 1)).all f = ((List.range n).all f && f n) := by
 rw [List.range_succ, List.all_append]; simp
section
variable {H : List AObj} {k kp : AV → List AObj → Prop}
theorem f42_k {x : Ring} (hmain : H[0]? = some .main) (hs : x.Small) (hx : x.Ok) (h : ∀ g en e, TellIs x g e → k (.tup [.sl g.length (g.map iv) en, iv e]) H) : FnC true Tryz.prog 42 H [x.av] k kp := by
 have h0 : openE x none = 0 := zaN.2 ⟨zbH.2 hx, rfl⟩
 refine f42_c zaQ hmain hs (fun e => ?_) (fun e hn => h [] .exact 11 (.inr ⟨.inr hn, rfl, rfl⟩)) fun e xs hn => h xs .shut 0 (.inl ⟨(zaP.1 e).2, hn, rfl⟩)
 have ht : truthsM x [] = [] := Classical.byContradiction fun hn => e (zaP.2 ⟨h0, hn⟩)
 have ho : openingE x none = 11 := by unfold openingE; rw [h0, if_neg (by simp), if_pos ht]
 rw [ho]
 exact h [] .exact 11 (.inr ⟨.inl ht, rfl, rfl⟩)
end
open Go.Conc Go.Proofs
def bagL (x : Ring) (us : List Turn) (n : Nat) : Bool := (truthsL x).any fun t => us.all fun u => opensW x.keys t x.locks u.key n == u.opens
def dueL (x : Ring) (us : List Turn) (n : Nat) : List Int := ((List.range n).filter (bagL x us)).map fun i : Nat => (i : Int)
theorem dueL_le (x : Ring) (us : List Turn) (n : Nat) : (dueL x us n).length ≤ n := by
 unfold dueL
 rw [List.length_map]
 have := List.length_filter_le (bagL x us) (List.range n)
 simpa using this
theorem dueL_succ (x : Ring) (us : List Turn) (n : Nat) : dueL x us (n + 1) = dueL x us n ++ (if bagL x us n then [(n : Int)] else []) := by
 unfold dueL
 rw [List.range_succ, List.filter_append, List.map_append]
 congr 1
 by_cases h : bagL x us n = true <;> simp [h]
def UsOk (x : Ring) (us : List Turn) : Prop := ∀ u ∈ us, 0 ≤ u.key ∧ u.key ≤ (x.keys.length : Int) - 1
theorem bag_law {x : Ring} (hx : x.Ok) {us : List Turn} (hu : UsOk x us) {n : Nat} (hn : n < x.locks.length) : bagB x (truthsM x []) us n = bagL x us n := by
 unfold bagB bagL
 rw [truths_any hx fun r => us.all (fitsB x r n), Bool.eq_iff_iff]
 simp only [List.any_eq_true]
 refine exists_congr fun t => and_congr_right fun ht => ?_
 obtain ⟨h1, h2⟩ := zhQ hx t ht
 simp only [List.all_eq_true]
 refine forall_congr' fun u => forall_congr' fun hum => ?_
 obtain ⟨hk0, hk1⟩ := hu u hum
 have e : ((u.key.toNat : Nat) : Int) = u.key := by omega
 have e1 := zf8 hx h1 h2 (k := u.key.toNat) (l := n) (by omega) hn
 rw [e] at e1
 unfold fitsB
 rw [e1]
theorem which_law {x : Ring} (hx : x.Ok) {us : List Turn} (hu : UsOk x us) : whichM x us = dueL x us x.locks.length := by
 unfold whichM whichTo dueL
 congr 1
 exact List.filter_congr fun n hn => bag_law hx hu (List.mem_range.1 hn)
def WhichIs (x : Ring) (us : List Turn) (g : List Int) (e : Int) : Prop := (truthsM x [] ≠ [] ∧ g = whichM x us ∧ e = 0) ∨ (truthsM x [] = [] ∧ g = [] ∧ e = 11)
theorem tinAt_at (H L : List AObj) : TinAt (fun τ => H ++ tinO τ :: L) H.length (H.length + 1 + L.length) := by
 have h := (zjT H).more L
 refine ⟨fun τ => ?_, fun τ => ?_, fun τ τ' => ?_, fun m τ τ' h1 => ?_⟩
 ·have := h.len τ; simpa [Nat.add_comm, Nat.add_left_comm] using this
 ·have := h.get τ; simpa using this
 ·have := h.set τ τ'; simpa using this
 ·have := h.ok m τ τ'; simpa using this (by simpa using h1)
section
variable {H : List AObj} {k kp : AV → List AObj → Prop}
theorem f46_k {x : Ring} {us : List Turn} (hmain : H[0]? = some .main) (hs : x.Small) (hx : x.Ok) (hul : us.length ≤ 6) (hu : UsOk x us) (h : ∀ g e, WhichIs x us g e → ∀ en, k (.tup [.sl g.length (g.map iv) en, iv e]) H) : FnC true Tryz.prog 46 H [x.av, aTurns us] k kp := by
 have hf : whichFl x us = none := zf3.2 ⟨hul, hu⟩
 have h0 : openE x none = 0 := zaN.2 ⟨zbH.2 hx, rfl⟩
 refine f46_c zaQ hmain hs (by omega) (fun e => ?_) (fun e => h _ 0 (.inl ⟨(zaP.1 e).2, rfl, rfl⟩) .shut)
 rw [hf] at e ⊢
 have ht : truthsM x [] = [] := Classical.byContradiction fun hn => e (zaP.2 ⟨h0, hn⟩)
 have ho : openingE x none = 11 := by unfold openingE; rw [h0, if_neg (by simp), if_pos ht]
 rw [ho]
 exact h [] 11 (.inr ⟨ht, rfl, rfl⟩) .exact
end
open Go.Conc Go.Proofs
theorem turns_len (us : List Turn) : (us.flatMap Turn.l).length = us.length * 2 := by
 induction us with
 | nil => rfl
 | cons b bs ih => rw [List.flatMap_cons, List.length_append, ih]; simp [Turn.l]; omega
theorem turns_snoc (us : List Turn) (u : Turn) : (us ++ [u]).flatMap Turn.l = us.flatMap Turn.l ++ [iv u.key, bv u.opens] := by
 rw [List.flatMap_append]; simp [Turn.l]
theorem any_take_succ {α : Type} {l : List α} {i : Nat} {a : α} (f : α → Bool) (h : l[i]? = some a) : (l.take (i + 1)).any f = ((l.take i).any f || f a) := by
 obtain ⟨hj, rfl⟩ := List.getElem?_eq_some_iff.1 h
 rw [List.take_succ_eq_append_getElem hj, List.any_append]; simp
theorem all_take_suc {α : Type} {l : List α} {i : Nat} {a : α} (f : α → Bool) (h : l[i]? = some a) : (l.take (i + 1)).all f = ((l.take i).all f && f a) := by
 obtain ⟨hj, rfl⟩ := List.getElem?_eq_some_iff.1 h
 rw [List.take_succ_eq_append_getElem hj, List.all_append]; simp
theorem awp_wkT {lv : Bool} {P : Program} {r : Option Nat} {nt : Nat} {c : Code} {s : AS} {Φ : AEx → AS → Prop} (t : Nat) {x : AV} (y : AV) (ht : look s.T t = some x) (hw : Wk x y) (h : AWP lv P r nt c ⟨(t, y) :: s.T, s.H⟩ Φ) : AWP lv P r nt c s Φ := by
 refine ziu (s' := ⟨(t, y) :: s.T, s.H⟩) ⟨fun t' a e => ?_, rfl⟩ h
 by_cases htt : t = t'
 ·subst htt
  have e : look ((t, y) :: s.T) t = some a := e
  rw [look_hit] at e; cases e
  exact ⟨x, ht, hw⟩
 ·have e : look ((t, y) :: s.T) t' = some a := e
  rw [zkx _ _ _ _ (by simpa using htt)] at e
  exact ⟨a, e, Wk.refl _⟩
section
variable {H : List AObj} {k kp : AV → List AObj → Prop}
set_option maxRecDepth 4000 in
theorem f12_c {nums : List Int} (hmain : H[0]? = some .main) (hn : nums.length ≤ 2 ^ 50) (hk : k (bv true) H) : FnC true Tryz.prog 12 H [aInts nums] k kp := by
 have hmn : ∀ L : List AObj, (H ++ L)[0]? = some .main := fun L => zay hmain
 refine zak (rs := [.tmp 2]) (nt := 122) F.f12 rfl rfl rfl (by simp) fun hH hA => ?_
 simp only [argsT, Nat.reduceAdd]
 repeat apply zaa
 refine zl5 ?_
 simp only [push_cast, seval]
 repeat apply zaa
 refine zl5 ?_
 simp only [push_cast, seval]
 refine zl6 ((f26_c ?_))
 try simp only [push_cast, seval]
 repeat apply zaa
 refine zl5 ?_
 simp only [push_cast, seval]
 refine zl6 ((f49_c (K := 3) (L := 4) (T := 3) (wr := true) (zjT H) (tinOk0 hn _) (by decide) (by decide) (by decide) (by decide) fun x ws τ hP hτ => ?_))
 try simp only [push_cast, seval, Ring.av, Ring.l]
 have hx := hP.ok (by decide) (by decide) (by decide)
 have hs := hx.small
 have hkl := hP.keys
 have hll := hP.locks
 repeat apply zaa
 refine zl5 ?_
 simp only [push_cast, seval]
 (repeat apply zaa); refine zbV (t := 6) (sz := 2) (el := 52) (by simp only [push_cast, seval] <;> rfl) ?_
 try simp only [push_cast, seval]
 repeat apply zaa
 refine zl5 ?_
 simp only [push_cast, seval]
 refine zl6 ((f29_c (tinAt_at H _) hτ (by omega) (by omega) ?_))
 try simp only [push_cast, seval]
 have hr := zaX τ 4
 generalize uptoT τ 4 = tot at hr
 obtain ⟨tot, rfl⟩ : ∃ n : Nat, tot = n := ⟨tot.toNat, by omega⟩
 repeat apply zaa
 refine zag ?_
 refine za9 (measure fun m : List Turn × TinS => tot - m.1.length).wf (fun m => [(7, iv ((tot : Int) - m.1.length)), (6, .sl m.1.length (m.1.flatMap Turn.l) (.opn (H.length + 2)))]) (fun m => H ++ [tinO m.2, .cells [iv x.cuts, aKeys x.keys, aLocks x.locks, aTries x.tries] 26, .tail m.1.length 2 52]) (fun m => UsOk x m.1 ∧ m.1.length ≤ tot ∧ m.2.Ok (0 + 1000 + 1 + 2 * m.1.length)) ([], tick τ) (fun _ _ => rfl) (by simp only [push_cast, seval, List.forall_mem_cons, List.not_mem_nil, false_imp_iff, implies_true, List.forall_mem_nil]; simp [zaf, Wk.refl]) rfl (fun _ _ => by simp) ⟨fun u hu => absurd hu (by simp), by simp, hτ.tick.mono (by simp)⟩ (fun hHs hLt m hok R hR => ?_)
 clear hHs hLt
 obtain ⟨us, τ'⟩ := m
 obtain ⟨hus, hut, hto⟩ := hok
 simp only at hus hut hto
 repeat apply zaa
 refine zl5 ?_
 simp only [push_cast, seval]
 repeat apply zaa
 refine zae ?_
 simp only [push_cast, seval]
 refine ⟨fun h => ?_, fun h => ?_⟩
 ·have hlt : us.length < tot := by omega
  have htl := turns_len us
  have hw1 : IntKind.i64.wrap ((x.keys.length : Int) - 1) = x.keys.length - 1 := zau _ (by omega)
  have hw2 : IntKind.i64.wrap ((tot : Int) - us.length - 1) = tot - (us.length + 1) := by rw [zau _ (by omega)]; omega
  repeat apply zaa
  refine zah ?_
  simp only [push_cast, seval]
  repeat apply zaa
  refine zag ?_
  repeat apply zaa
  refine zl5 ?_
  simp only [push_cast, seval, aKeys, hw1]
  refine zl6 ((f29_c (tinAt_at H _) hto (by omega) (by omega) ?_))
  try simp only [push_cast, seval]
  refine zl6 ((f44_c (tinAt_at H _) hto.tick (by omega) (by omega) ?_))
  have hv := zaX τ' ((x.keys.length : Int) - 1)
  try simp only [push_cast, seval, zu2, zhq, htl]
  first | refine ⟨by omega, by omega, ?_⟩ | refine ⟨by omega, ?_⟩
  repeat apply zaa
  refine zl5 ?_
  simp only [push_cast, seval, hw2]
  refine hR _ ⟨(us ++ [⟨uptoT τ' ((x.keys.length : Int) - 1), rarelyT (tick τ') 2⟩], tick (tick τ')), by show tot - (us ++ [_]).length < tot - us.length; simp; omega, ⟨fun u hu => ?_, by simp; omega, hto.tick.tick.mono (by simp; omega)⟩, ?_⟩
  ·rcases List.mem_append.1 hu with hu | hu
   ·exact hus u hu
   ·rw [List.mem_singleton.1 hu]; exact ⟨hv.1, by simp only; omega⟩
  ·simp only [turns_snoc, List.length_append]
   exact (zax (zam rfl rfl) (by simp only [push_cast, seval]; simp [zaf, Wk.refl]))
 ·repeat apply zaa
  refine zaq ?_
  simp only [push_cast, seval]
  refine awp_wkT 6 (aTurns us) (by simp only [push_cast, seval] <;> rfl) (zaK _ _ _) ?_
  have hu4 : us.length ≤ 4 := by omega
  clear hR hto hP hτ
  repeat apply zaa
  refine zl5 ?_
  simp only [push_cast, seval]
  refine zl6 ((f57_c (x := x) hx ?_))
  try simp only [push_cast, seval]
  repeat apply zaa
  refine zl5 ?_
  simp only [push_cast, seval]
  refine zl6 ((f46_k (x := x) (us := us) (hmn _) hs hx (by omega) hus fun g e hg en => ?_))
  try simp only [push_cast, seval]
  have htl := zlJ hx
  have htr := zhQ hx
  have hzero : truthsM x [] = [] ↔ truthsL x = [] := by rw [← List.length_eq_zero_iff, zlQ hx, List.length_eq_zero_iff]
  have hbag : ∀ n, bagL x us n = (truthsL x).any fun t => us.all fun u => opensW x.keys t x.locks u.key n == u.opens := fun n => rfl
  have hgg : (truthsL x = [] → g = [] ∧ e = 11) ∧ (truthsL x ≠ [] → g = dueL x us x.locks.length ∧ e = 0) := by
   rcases hg with ⟨h1, h2, h3⟩ | ⟨h1, h2, h3⟩
   ·exact ⟨fun h => absurd (hzero.2 h) h1, fun _ => ⟨h2.trans (which_law hx hus), h3⟩⟩
   ·exact ⟨fun _ => ⟨h2, h3⟩, fun h => absurd (hzero.1 h1) h⟩
  obtain ⟨hg1, hg2⟩ := hgg
  generalize truthsL x = D at htl htr hbag hg1 hg2 ⊢
  repeat apply zaa
  refine zl5 ?_
  simp only [push_cast, seval, aRows]
  repeat apply zaa
  refine zae ?_
  simp only [push_cast, seval]
  refine ⟨fun h2 => ?_, fun h2 => ?_⟩
  ·have hD : D = [] := by cases D with
    | nil => rfl
    | cons a l => exfalso; simp at h2; omega
   obtain ⟨rfl, rfl⟩ := hg1 hD
   repeat apply zaa
   refine zl5 ?_
   simp only [push_cast, seval, beq_self_eq_true]
   refine zl6 ((f25_c (hmn _) ?_))
   try simp only [push_cast, seval]
   repeat apply zaa
   refine zai ?_
   simp only [push_cast, seval]
   exact endA hH (Wk.refl _) (by simp [zap]) hk
  ·have hD : D ≠ [] := fun e => by rw [e] at h2; simp at h2
   obtain ⟨hge, rfl⟩ := hg2 hD
   clear hg1 hg2 hg
   repeat apply zaa
   refine zah ?_
   simp only [push_cast, seval]
   repeat apply zaa
   refine zl5 ?_
   simp only [push_cast, seval]
   (repeat apply zaa); refine zbV (t := 11) (sz := 1) (el := 3) (by simp only [push_cast, seval] <;> rfl) ?_
   try simp only [push_cast, seval]
   repeat apply zaa
   refine zl5 ?_
   simp only [push_cast, seval]
   repeat apply zaa
   refine zag ?_
   refine zaB x.locks.length (fun n : Nat => [(11, .sl (dueL x us n).length ((dueL x us n).map iv) (.opn (H.length + 3))), (12, iv n)]) (fun n => H ++ [tinO τ', .cells [iv x.cuts, aKeys x.keys, aLocks x.locks, aTries x.tries] 26, .tail us.length 2 52, .tail (dueL x us n).length 1 3]) (fun _ => True) (fun _ _ => rfl) (by simp only [push_cast, seval, List.forall_mem_cons, List.not_mem_nil, false_imp_iff, implies_true, List.forall_mem_nil]; simp [zaf, Wk.refl]; first | exact Wk.refl _ | exact ⟨Wk.refl _, Wk.refl _⟩) rfl (fun _ _ _ => by simp) trivial (fun hHs hLt n hnn hno R hR => ?_)
   clear hHs hLt
   have hdl := dueL_le x us n
   repeat apply zaa
   refine zl5 ?_
   simp only [push_cast, seval, aLocks]
   repeat apply zaa
   refine zae ?_
   simp only [push_cast, seval]
   refine ⟨fun h3 => ?_, fun h3 => ?_⟩
   ·have hnl : n < x.locks.length := by omega
    have hsuc := dueL_succ x us n
    rw [hbag n] at hsuc
    have hw1 : IntKind.i64.wrap ((n : Int) + 1) = n + 1 := zau _ (by omega)
    repeat apply zaa
    refine zah ?_
    simp only [push_cast, seval]
    repeat apply zaa
    refine zag ?_
    repeat apply zaa
    refine zl5 ?_
    simp only [push_cast, seval]
    repeat apply zaa
    refine zl5 ?_
    simp only [push_cast, seval]
    repeat apply zaa
    refine zag ?_
    refine zaB D.length (fun j : Nat => [(13, bv ((D.take j).any fun t => us.all fun u => opensW x.keys t x.locks u.key n == u.opens)), (14, iv j)]) (fun _ => _) (fun j => True) (fun _ _ => rfl) (by simp only [push_cast, seval, List.forall_mem_cons, List.not_mem_nil, false_imp_iff, implies_true, List.forall_mem_nil]; simp [zaf, Wk.refl]) rfl (fun _ _ _ => rfl) trivial (fun hHs hLt j hjn hj R2 hR2 => ?_)
    clear hHs hLt
    repeat apply zaa
    refine zl5 ?_
    simp only [push_cast, seval]
    repeat apply zaa
    refine zae ?_
    simp only [push_cast, seval]
    refine ⟨fun h4 => ?_, fun h4 => ?_⟩
    ·have hjl : j < D.length := by omega
     obtain ⟨t, ht⟩ := zaE hjl
     obtain ⟨htn, htb⟩ := htr t (zas ht)
     have hw2 : IntKind.i64.wrap ((j : Int) + 1) = j + 1 := zau _ (by omega)
     rw [any_take_succ _ ht] at hR2
     generalize ((D.take j).any fun t => us.all fun u => opensW x.keys t x.locks u.key n == u.opens) = b1 at hR2 ⊢
     repeat apply zaa
     refine zah ?_
     simp only [push_cast, seval]
     repeat apply zaa
     refine zag ?_
     repeat apply zaa
     refine zl5 ?_
     simp only [push_cast, seval]
     repeat apply zaa
     refine zl5 ?_
     simp only [push_cast, seval]
     repeat apply zaa
     refine zag ?_
     refine zaB us.length (fun q : Nat => [(15, bv ((us.take q).all fun u => opensW x.keys t x.locks u.key n == u.opens)), (16, iv q)]) (fun _ => _) (fun j => True) (fun _ _ => rfl) (by simp only [push_cast, seval, List.forall_mem_cons, List.not_mem_nil, false_imp_iff, implies_true, List.forall_mem_nil]; simp [zaf, Wk.refl]) rfl (fun _ _ _ => rfl) trivial (fun hHs hLt q hqn hq R3 hR3 => ?_)
     clear hHs hLt
     repeat apply zaa
     refine zl5 ?_
     simp only [push_cast, seval, aTurns]
     repeat apply zaa
     refine zae ?_
     simp only [push_cast, seval]
     refine ⟨fun h5 => ?_, fun h5 => ?_⟩
     ·have hql : q < us.length := by omega
      have hw4 : IntKind.i64.wrap ((q : Int) + 1) = q + 1 := zau _ (by omega)
      obtain ⟨u, hu⟩ := zaE hql
      obtain ⟨hk0, hk1⟩ := hus u (zas hu)
      rw [all_take_suc _ hu] at hR3
      obtain ⟨uk, uo⟩ := u
      simp only at hk0 hk1 hR3
      obtain ⟨kn, rfl⟩ : ∃ m : Nat, uk = m := ⟨uk.toNat, by omega⟩
      repeat apply zaa
      refine zah ?_
      simp only [push_cast, seval]
      repeat apply zaa
      refine zag ?_
      cases hb : ((us.take q).all fun u => opensW x.keys t x.locks u.key n == u.opens) with
      | false =>
       repeat apply zaa
       refine zaT F.mixed 19 (by kernel_rfl) ?_
       simp only [push_cast, seval, hb, zlB ht, zaz hjl, zh5 hu, zaz hql, aTurns]
       rw [hb] at hR3
       repeat apply zaa
       refine zl5 ?_
       simp only [push_cast, seval, hw4]
       refine hR3 _ ⟨hql, trivial, ?_⟩
       simp only [Bool.false_and]
       exact (zax (zam rfl rfl) (by simp only [push_cast, seval]; simp [zaf, Wk.refl]))
      | true =>
       repeat apply zaa
       refine zaT F.mixed 19 (by kernel_rfl) ?_
       simp only [push_cast, seval, hb, zlB ht, zaz hjl, zh5 hu, zaz hql, aTurns]
       rw [hb] at hR3
       refine qCall (bv (opensW x.keys t x.locks kn n)) (zad (by kernel_rfl) (f58_c (x := x) hx (by omega) hnl (by omega) htb ⟨rfl, rfl⟩)) ?_
       try simp only [push_cast, seval, hb, zlB ht, zaz hjl, zh5 hu, zaz hql, aTurns]
       repeat apply zaa
       refine zl5 ?_
       simp only [push_cast, seval, hw4]
       refine hR3 _ ⟨hql, trivial, ?_⟩
       simp only [Bool.true_and]
       exact (zax (zam rfl rfl) (by simp only [push_cast, seval]; simp [zaf, Wk.refl]))
     ·have hqx : q = us.length := by omega
      subst hqx
      clear hR3
      rw [List.take_length]
      repeat apply zaa
      refine zaq ?_
      simp only [push_cast, seval]
      cases hb1 : b1 with
      | false =>
       repeat apply zaa
       refine zl5 ?_
       simp only [push_cast, seval]
       repeat apply zaa
       refine zl5 ?_
       simp only [push_cast, seval, hw2]
       rw [hb1] at hR2
       refine hR2 _ ⟨hjl, trivial, ?_⟩
       simp only [Bool.false_or]
       exact (zax (zam rfl rfl) (by simp only [push_cast, seval]; simp [zaf, Wk.refl]))
      | true =>
       repeat apply zaa
       refine zl5 ?_
       simp only [push_cast, seval]
       repeat apply zaa
       refine zl5 ?_
       simp only [push_cast, seval, hw2]
       rw [hb1] at hR2
       refine hR2 _ ⟨hjl, trivial, ?_⟩
       simp only [Bool.true_or]
       exact (zax (zam rfl rfl) (by simp only [push_cast, seval]; simp [zaf, Wk.refl]))
    ·have hjx : j = D.length := by omega
     subst hjx
     clear hR2
     rw [List.take_length]
     repeat apply zaa
     refine zaq ?_
     simp only [push_cast, seval]
     generalize (D.any fun t => us.all fun u => opensW x.keys t x.locks u.key n == u.opens) = b2 at hsuc ⊢
     repeat apply zaa
     refine zl5 ?_
     simp only [push_cast, seval]
     repeat apply zaa
     refine zae ?_
     simp only [push_cast, seval]
     refine ⟨fun h5 => ?_, fun h5 => ?_⟩
     ·have h5 : b2 = true := by simpa using h5
      subst h5
      repeat apply zaa
      refine zl5 ?_
      simp only [push_cast, seval, z1, zhq, List.length_map]
      first | refine ⟨by omega, by omega, ?_⟩ | refine ⟨by omega, ?_⟩
      repeat apply zaa
      refine zl5 ?_
      simp only [push_cast, seval, hw1]
      refine hR _ ⟨hnl, trivial, ?_⟩
      rw [hsuc]
      simp only [if_true, List.map_append, List.map_cons, List.map_nil, List.length_append, List.length_cons, List.length_nil]
      exact (zax (zam rfl rfl) (by simp only [push_cast, seval]; simp [zaf, Wk.refl]))
     ·have h5 : b2 = false := by simpa using h5
      subst h5
      repeat apply zaa
      refine zah ?_
      simp only [push_cast, seval]
      repeat apply zaa
      refine zl5 ?_
      simp only [push_cast, seval, hw1]
      refine hR _ ⟨hnl, trivial, ?_⟩
      rw [hsuc]
      simp only [Bool.false_eq_true, if_false, List.append_nil]
      exact (zax (zam rfl rfl) (by simp only [push_cast, seval]; simp [zaf, Wk.refl]))
   ·have hnx : n = x.locks.length := by omega
    subst hnx
    clear hR
    subst hge
    repeat apply zaa
    refine zaq ?_
    simp only [push_cast, seval]
    repeat apply zaa
    refine zl5 ?_
    simp only [push_cast, seval, beq_self_eq_true]
    refine zl6 ((f34_same (xs := dueL x us x.locks.length) (by omega) ?_))
    try simp only [push_cast, seval]
    refine zl6 ((f25_c (hmn _) ?_))
    try simp only [push_cast, seval]
    repeat apply zaa
    refine zai ?_
    simp only [push_cast, seval]
    exact endA hH (Wk.refl _) (by simp [zap]) hk
end
end Go.Gg
namespace Go.Proofs.YtoaaoiipickclaaGreat
open Go.Conc Go.Proofs Go.Gg
theorem kgName : Tryz.prog.funcNamed Rows.keyBagRow.func = some 12 := by kernel_rfl
theorem kgJoined : joinedFacts Tryz.prog 12 Tryz.f12 Rows.keyBagSpec Rows.keyBagRow = true :=
 zkH (by kernel_rfl) Tz.laidOut (by kernel_rfl) (by kernel_rfl) (by kernel_rfl) (by kernel_rfl) (by kernel_rfl) (by kernel_rfl) (by kernel_rfl) (by kernel_rfl) (by kernel_rfl) (by kernel_rfl) (by kernel_rfl) (by kernel_rfl) (by kernel_rfl) (by kernel_rfl) (by kernel_rfl) (by kernel_rfl) (by kernel_rfl) (by kernel_rfl) (by kernel_rfl) (by kernel_rfl) (by kernel_rfl) (by kernel_rfl) (by kernel_rfl) Tz.mayEnter (zkB (by kernel_rfl)) (make_of' (by kernel_rfl)) (by kernel_rfl) (by kernel_rfl) (by kernel_rfl) (by kernel_rfl) (by kernel_rfl)
theorem kgInst : Tryz.f12.isInstance Tryz.prog Rows.keyBagRow.origin Rows.keyBagRow.targs := of_decide_eq_true (by kernel_rfl)
theorem kgWrap : Tryz.f12.isWrapper Tryz.prog Rows.keyBagRow.wrapper Rows.keyBagRow.mainSum := by unfold Func.isWrapper; first | (rw [if_pos (by decide +kernel)]; kernel_rfl) | (rw [if_neg (by decide +kernel)]; exact ⟨rfl, rfl⟩)
theorem keyBag_lifted (os : Os) (started : os.Started) (H : Type) (enc : TypeId × Value → H) :
  ReturnsInLeavingWide {} Tryz.checked os 12 .any (Rows.keyBagSpec.pre6 enc Tryz.prog Tryz.f12 Rows.keyBagRow.domain false) (Rows.keyBagSpec.post enc Tryz.prog Tryz.f12 false true false false) :=
 zhC (f := 12) (fn := Tryz.f12) (s := Rows.keyBagSpec) Tryz.func12 rfl rfl rfl (fun _ _ => rfl) (by kernel_rfl) (fun nums hn => f12_c rfl hn rfl) os started H enc
  (ChangeSpec.witness6 (enc := enc) (C := Tryz.checked) false ⟨#[], #[.slice none 0 0], []⟩ 8 (by kernel_rfl) (by kernel_rfl) (by kernel_rfl) (by kernel_rfl))
theorem keyBag_holds : Rows.KeyBagSaid :=
 OpenClaim.holds_of_wide_leaving 12 Tryz.f12 rfl rfl rfl rfl rfl rfl rfl ⟨rfl, rfl, rfl, rfl, rfl⟩ rfl rfl rfl rfl rfl kgName Tryz.func12 kgJoined kgInst kgWrap
  (fun os started H enc _ => keyBag_lifted os started H enc)
end Go.Proofs.YtoaaoiipickclaaGreat
