/- KeyAll answers true. -/
import Derived.Test.YtoaaoiipickclaaGreatQ05
set_option linter.all false
namespace Go.Gg
open Go.Conc Go.Proofs
theorem F.AppOf_50_50 : AppOf Tryz.prog 50 50 = (some (52, (2, (.agg #[(.int .i64 0), (.bool false)])))) := by kernel_rfl
theorem F.ElemOf_155 : ElemOf Tryz.prog 155 = (some (3, (1, false))) := by kernel_rfl
theorem F.IdxOf_155 : IdxOf Tryz.prog 155 = (some ((some 3), 1)) := by kernel_rfl
theorem F.Ty_155 : Ty Tryz.prog 155 = (some (3, true)) := by kernel_rfl
theorem F.ZeroOf_155 : ZeroOf Tryz.prog 155 = (some (.agg #[(.bool false), (.bool false), (.bool false)])) := by kernel_rfl
theorem F.f16 : Tryz.prog.funcs[16]? = some Tryz.f16 := by kernel_rfl
theorem F.f69 : Tryz.prog.funcs[69]? = some Tryz.f69 := by kernel_rfl
theorem F.f71 : Tryz.prog.funcs[71]? = some Tryz.f71 := by kernel_rfl
attribute [push_cast] F.AppOf_50_50 F.ElemOf_155 F.IdxOf_155 F.Ty_155 F.ZeroOf_155
section
variable {lv : Bool} {H : List AObj} {k kp : AV → List AObj → Prop}
theorem vaD {r i : Nat} {x : Ring} {n : Int} (hx : x.Small) (hr : H[r]? = some (.cells x.l 26)) (hi : H[i]? = some (.cells [iv n] 3)) : AskC lv H (.fn (.func 152) [] [.op i 0, .op r 0]) (if inM n 0 (x.keys.length - 1) then none else some 0) := fun L k kp h1 h2 =>
 zad (by kernel_rfl) (f152_c hx (zay hr) (zay hi) (fun h => h1 (by rw [h]; rfl)) (fun h => h2 0 (by rw [h]; rfl)))
theorem f53_k {x : Ring} (hmain : H[0]? = some .main) (hs : x.Small) (hx : x.Ok) (h : k (.tup [iv (truthsM x []).length, iv 0]) H) : FnC true Tryz.prog 53 H [x.av] k kp :=
 f53_c zaQ hmain hs (fun e => absurd (zaN.2 ⟨zbH.2 hx, rfl⟩) e) fun _ => h
end
open Go.Conc Go.Proofs
theorem zlW {l : List AV} {a b : AV} (h : Wk a b) : Wks (l ++ [a]) (l ++ [b]) := by
 induction l with
 | nil => exact .cons h .nil
 | cons x l ih => exact .cons (Wk.refl _) ih
theorem zlZ (n m k : Nat) (bs : List (List Int)) : Lt n (.sl m (bs.map aInts) (.opn k)) = (k < n) := by
 rw [zdq, eq_iff_iff]
 refine ⟨fun h => h.1, fun h => ⟨h, fun a ha => ?_⟩⟩
 have := zlv n bs
 rw [aRows, za3] at this
 exact this.mpr trivial a ha
theorem zs1 : zeroRow (Value.slice none 0 0) 1 = [.sl 0 [] .exact] := rfl
theorem zlC {α β : Type} {xs : List α} {i : Nat} {x : α} (f : α → β) (h : xs[i]? = some x) : (xs.take (i + 1)).map f = (xs.take i).map f ++ [f x] := by
 obtain ⟨hj, rfl⟩ := List.getElem?_eq_some_iff.1 h
 rw [List.take_succ_eq_append_getElem hj, List.map_append]; rfl
theorem zlX {H : List AObj} (hH : HOk H) (n sz : Nat) (el : TypeId) : HOk (H ++ [.tail n sz el]) := zc6 hH fun z hz m => by rw [List.mem_singleton.1 hz]; trivial
section
variable {lv : Bool}
end
open Go.Conc Go.Proofs
def vab (n : Nat) : Nat → List (List Int)
 | 0 => [[]]
 | k + 1 => (List.range n).flatMap fun i : Nat => (vab n k).map ((i : Int) :: ·)
def vam (n kk j : Nat) : List (List Int) := (List.range j).flatMap fun i : Nat => (vab n kk).map ((i : Int) :: ·)
theorem zlA (n kk j : Nat) : vam n kk (j + 1) = vam n kk j ++ (vab n kk).map ((j : Int) :: ·) := by
 unfold vam
 rw [List.range_succ, List.flatMap_append]; simp
theorem zeh : ∀ n, n ≤ 4 → ∀ k, k ≤ 4 → (vab n k).length ≤ 256 ∧ ∀ r ∈ vab n k, r.length = k ∧ ∀ i ∈ r, 0 ≤ i ∧ i < n := by decide +kernel
theorem zlF (n kk : Nat) (h : (vab n kk).length ≤ 256) : ∀ j, (vam n kk j).length ≤ 256 * j
 | 0 => by simp [vam]
 | j + 1 => by
  have h1 := zlF n kk h j
  rw [zlA, List.length_append, List.length_map]; omega
section
variable {lv : Bool}
theorem f63_c : ∀ (kk : Nat) {n : Nat} {H : List AObj} {k kp : AV → List AObj → Prop}, n ≤ 4 → kk ≤ 4 → k (aRows (vab n kk)) H → FnC lv Tryz.prog 63 H [iv n, iv kk] k kp
 | 0, n, H, k, kp, hn, hkk, hk => by
  refine zak (rs := [.tmp 4]) (nt := 38) F.f63 rfl rfl rfl (by simp) fun hH hA => ?_
  simp only [argsT, Nat.reduceAdd]
  repeat apply zaa
  refine zl5 ?_
  simp only [push_cast, seval]
  repeat apply zaa
  refine zl5 ?_
  simp only [push_cast, seval, beq_self_eq_true]
  repeat apply zaa
  refine zae ?_
  simp only [push_cast, seval]
  repeat apply zaa
  refine zl5 ?_
  simp only [push_cast, seval, zs1, zhq]
  repeat apply zaa
  refine zai ?_
  simp only [push_cast, seval]
  exact zaJ (b := aRows [[]]) (H' := H) (G := []) (wk_sl (.cons (zaK _ _ _) .nil)) (by simp) (Nat.le_refl _) hH (by rw [zlv]; trivial) hk
 | kk + 1, n, H, k, kp, hn, hkk, hk => by
  refine zak (rs := [.tmp 4]) (nt := 38) F.f63 rfl rfl rfl (by simp) fun hH hA => ?_
  simp only [argsT, Nat.reduceAdd]
  have hz : (((kk : Int) + 1) == 0) = false := by simp; omega
  have hw3 : IntKind.i64.wrap ((kk : Int) + 1 - 1) = kk := by rw [zau _ (by omega)]; omega
  repeat apply zaa
  refine zl5 ?_
  simp only [push_cast, seval]
  repeat apply zaa
  refine zl5 ?_
  simp only [push_cast, seval, hz]
  repeat apply zaa
  refine zae ?_
  simp only [push_cast, seval]
  repeat apply zaa
  refine zah ?_
  simp only [push_cast, seval]
  repeat apply zaa
  refine zl5 ?_
  simp only [push_cast, seval]
  (repeat apply zaa); refine zbV (t := 5) (sz := 1) (el := 30) (by simp only [push_cast, seval] <;> rfl) ?_
  repeat apply zaa
  refine zl5 ?_
  simp only [push_cast, seval, hw3]
  refine zl6 ((f63_c kk hn (by omega) ?_))
  try simp only [push_cast, seval, aRows]
  have hfa := zeh n hn kk (by omega)
  have hlen := zlF n kk hfa.1
  have hsuc := zlA n kk
  have hall : vam n kk n = vab n (kk + 1) := rfl
  generalize vab n kk = l at hfa hsuc ⊢
  obtain ⟨hl20, hlr⟩ := hfa
  repeat apply zaa
  refine zl5 ?_
  simp only [push_cast, seval]
  repeat apply zaa
  refine zag ?_
  refine zaB n (fun j : Nat => [(5, .sl (vam n kk j).length ((vam n kk j).map aInts) (.opn H.length)), (7, iv j)]) (fun j => H ++ [.tail (vam n kk j).length 1 30]) (fun i => True) (fun _ _ => rfl) (by simp only [push_cast, seval, List.forall_mem_cons, List.not_mem_nil, false_imp_iff, implies_true, List.forall_mem_nil]; simp [zaf, Wk.refl]; exact Wk.refl _) rfl (fun _ _ _ => by simp) trivial (fun hHs hLt j hjn hj R hR => ?_)
  clear hHs hLt
  repeat apply zaa
  refine zl5 ?_
  simp only [push_cast, seval]
  repeat apply zaa
  refine zae ?_
  simp only [push_cast, seval]
  refine ⟨fun h => ?_, fun h => ?_⟩
  ·have hjl : j < n := by omega
   have hw2 : IntKind.i64.wrap ((j : Int) + 1) = j + 1 := zau _ (by omega)
   have hsucc := hsuc j
   have hll := hlen j
   generalize vam n kk j = o at hsucc hll hR ⊢
   repeat apply zaa
   refine zah ?_
   simp only [push_cast, seval]
   repeat apply zaa
   refine zag ?_
   repeat apply zaa
   refine zl5 ?_
   simp only [push_cast, seval]
   repeat apply zaa
   refine zag ?_
   refine zaB l.length (fun x : Nat => [(5, .sl (o.length + x) ((o ++ (l.take x).map ((j : Int) :: ·)).map aInts) (.opn H.length)), (8, iv x)]) (fun x => H ++ [.tail (o.length + x) 1 30]) (fun i => True) (fun _ _ => rfl) (by simp only [push_cast, seval, List.forall_mem_cons, List.not_mem_nil, false_imp_iff, implies_true, List.forall_mem_nil]; simp [zaf, Wk.refl]) (by simp) (fun _ _ _ => by simp) trivial (fun hHs hLt x hxn hx R2 hR2 => ?_)
   clear hHs hLt
   repeat apply zaa
   refine zl5 ?_
   simp only [push_cast, seval]
   repeat apply zaa
   refine zae ?_
   simp only [push_cast, seval]
   refine ⟨fun h2 => ?_, fun h2 => ?_⟩
   ·have hxl : x < l.length := by omega
    obtain ⟨r, hr⟩ := zaE hxl
    have hrl := (hlr r (zas hr)).1
    have hw4 : IntKind.i64.wrap ((x : Int) + 1) = x + 1 := zau _ (by omega)
    have hol : ((o ++ (l.take x).map ((j : Int) :: ·)).map aInts).length = o.length + x := by simp; omega
    have hnx : (o ++ (l.take (x + 1)).map ((j : Int) :: ·)).map aInts = (o ++ (l.take x).map ((j : Int) :: ·)).map aInts ++ [aInts ((j : Int) :: r)] := by
     rw [zlC _ hr, ← List.append_assoc, List.map_append]; rfl
    have hri : (r.map iv).length = r.length := List.length_map ..
    repeat apply zaa
    refine zah ?_
    simp only [push_cast, seval]
    repeat apply zaa
    refine zag ?_
    repeat apply zaa
    refine zl5 ?_
    simp only [push_cast, seval, z1, zs1, zhq, zlB hr, zaz hxl, hol, hri, aInts]
    first | refine ⟨by omega, by simp; omega, by omega, ?_⟩ | refine ⟨by omega, by omega, ?_⟩
    repeat apply zaa
    refine zl5 ?_
    simp only [push_cast, seval, hw4]
    refine hR2 _ ⟨hxl, trivial, ?_⟩
    rw [hnx]
    refine zce [.tail (1 + r.length) 1 3] (zam rfl rfl) ?_ (zlX hH _ _ _) ?_ (by simp [Nat.add_assoc])
    ·try simp only [push_cast, seval]
     exact ⟨⟨_, rfl, have h := zlW (l := (o ++ (l.take x).map ((j : Int) :: ·)).map aInts) (show Wk (.sl (1 + r.length) (iv (j : Int) :: r.map iv) (.opn (H.length + 1))) (aInts ((j : Int) :: r)) by rw [aInts, Nat.add_comm]; exact zaK _ _ _); zeg h.len h.at⟩, _, rfl, Wk.refl _⟩
    ·rw [← hnx]
     simp only [List.forall_mem_cons, zap, zlZ, iv]; simp
   ·have hxx : x = l.length := by omega
    subst hxx
    repeat apply zaa
    refine zaq ?_
    simp only [push_cast, seval]
    repeat apply zaa
    refine zl5 ?_
    simp only [push_cast, seval, hw2]
    refine hR _ ⟨hjl, trivial, ?_⟩
    rw [hsucc]
    simp only [List.take_length, List.length_append, List.length_map]
    exact (zax (zam rfl rfl) (by simp only [push_cast, seval]; simp [zaf, Wk.refl]))
  ·have hjx : j = n := by omega
   subst hjx
   repeat apply zaa
   refine zaq ?_
   simp only [push_cast, seval]
   repeat apply zaa
   refine zl5 ?_
   simp only [push_cast, seval]
   repeat apply zaa
   refine zai ?_
   simp only [push_cast, seval]
   rw [hall]
   exact endA (b := aRows (vab j (kk + 1))) hH (zaK _ _ _) (by rw [zlv]; trivial) hk
end
section
variable {lv : Bool} {H : List AObj} {k kp : AV → List AObj → Prop}
theorem f58_c {x : Ring} {t : List Int} {e : End} {kn ln : Nat} (hx : x.Ok) (hkn : kn < x.keys.length) (hln : ln < x.locks.length) (htl : x.keys.length ≤ t.length) (htb : ∀ w ∈ t, 0 ≤ w ∧ w ≤ 2) (hk : k (bv (opensW x.keys t x.locks kn ln)) H) : FnC lv Tryz.prog 58 H [x.av, .sl t.length (t.map iv) e, iv kn, iv ln] k kp := by
 refine zak (rs := [.tmp 8]) (nt := 26) F.f58 rfl rfl rfl (by simp) fun hH hA => ?_
 simp only [argsT, Nat.reduceAdd, Ring.av, Ring.l]
 obtain ⟨y, hy⟩ := zaE hkn
 obtain ⟨l, hl⟩ := zaE hln
 obtain ⟨w, hw⟩ := zaE (xs := t) (i := kn) (by omega)
 obtain ⟨hyc, hyb, hyw⟩ := hx.key y (zas hy)
 obtain ⟨hlc, hlb⟩ := hx.lock l (zas hl)
 obtain ⟨hw0, hw2⟩ := htb w (zas hw)
 have hc := hx.cuts
 have hdl : (wornM w y.cuts).length = y.cuts.length := by simp [wornM]
 have how : opensW x.keys t x.locks kn ln = fitsM (wornM w y.cuts) l := by
  unfold opensW
  simp only [Int.toNat_natCast, List.getD_eq_getElem?_getD, hy, hw, hl, Option.map_some, Option.getD_some]
 rw [how] at hk
 repeat apply zaa
 refine zl5 ?_
 simp only [push_cast, seval]
 repeat apply zaa
 refine zaT F.mixed 16 (by kernel_rfl) ?_
 simp only [push_cast, seval, zc2 hy, zaz hkn, za2 hw, zaz (get_lt hw), zfu hl, zaz hln, aKeys, aLocks]
 refine qCall _ (zad (by kernel_rfl) (f78_c hyb ⟨by omega, by omega⟩ (by omega) ⟨rfl, rfl⟩)) ?_
 refine zl6 ((f64_c (by omega) (by omega) ?_))
 try simp only [push_cast, seval]
 repeat apply zaa
 refine zai ?_
 simp only [push_cast, seval]
 exact endA hH (Wk.refl _) (by simp [zap]) hk
end
open Go.Conc Go.Proofs
def vae (x : Ring) (t : List Int) : Nat → Bool
 | 0 => true
 | k + 1 => vae x t k && (match x.keys[k]?, t[k]? with | some y, some w => decide (y.wear.min ≤ w) && decide (w ≤ y.wear.max) | _, _ => true)
def vad (x : Ring) (t : List Int) : Nat → Bool
 | 0 => true
 | i + 1 => vad x t i && (match x.tries[i]? with | some r => opensW x.keys t x.locks r.key r.lock == r.opens | none => true)
def vah (x : Ring) (t : List Int) : Bool := vae x t x.keys.length && vad x t x.tries.length
def vaa (x : Ring) : List (List Int) := (vab 3 x.keys.length).filter (vah x)
theorem zlS (t : List Int) : (aInts t).parts = some [aInts t] := rfl
theorem zgv {x : Ring} {t : List Int} {k : Nat} {y : Key} {w : Int} (hy : x.keys[k]? = some y) (hw : t[k]? = some w) : vae x t (k + 1) = (vae x t k && (decide (y.wear.min ≤ w) && decide (w ≤ y.wear.max))) := by rw [vae, hy, hw]
theorem zf9 {x : Ring} {t : List Int} {i : Nat} {r : Try} (hr : x.tries[i]? = some r) : vad x t (i + 1) = (vad x t i && (opensW x.keys t x.locks r.key r.lock == r.opens)) := by rw [vad, hr]
section
variable {lv : Bool} {H : List AObj} {k kp : AV → List AObj → Prop}
theorem f57_c {x : Ring} (hx : x.Ok) (hk : k (aRows (vaa x)) H) : FnC lv Tryz.prog 57 H [x.av] k kp := by
 refine zak (rs := [.tmp 2]) (nt := 105) F.f57 rfl rfl rfl (by simp) fun hH hA => ?_
 simp only [argsT, Nat.reduceAdd, Ring.av, Ring.l]
 have hkl := hx.keys
 have htl := hx.tries
 repeat apply zaa
 refine zl5 ?_
 simp only [push_cast, seval]
 repeat apply zaa
 refine zl5 ?_
 simp only [push_cast, seval]
 (repeat apply zaa); refine zbV (t := 3) (sz := 1) (el := 30) (by simp only [push_cast, seval] <;> rfl) ?_
 try simp only [push_cast, seval]
 repeat apply zaa
 refine zl5 ?_
 simp only [push_cast, seval, aKeys]
 refine zl6 ((f63_c x.keys.length (n := 3) (by omega) hkl ?_))
 try simp only [push_cast, seval, aRows]
 have hfa := zeh 3 (by omega) x.keys.length hkl
 have hfin : ((vab 3 x.keys.length).filter (vah x)) = vaa x := rfl
 generalize vab 3 x.keys.length = L at hfa hfin ⊢
 obtain ⟨hL, hLr⟩ := hfa
 repeat apply zaa
 refine zl5 ?_
 simp only [push_cast, seval]
 repeat apply zaa
 refine zag ?_
 have hfl : ∀ i, ((L.take i).filter (vah x)).length ≤ 256 := fun i => by
  have h1 := List.length_filter_le (vah x) (L.take i)
  have h2 := List.length_take_le i L
  have h3 : (L.take i).length ≤ L.length := by rw [List.length_take]; omega
  omega
 refine zaB L.length (fun i : Nat => [(3, .sl ((L.take i).filter (vah x)).length (((L.take i).filter (vah x)).map aInts) (.opn (H.length + 1))), (5, iv i)]) (fun i => H ++ [.cells [iv x.cuts, aKeys x.keys, aLocks x.locks, aTries x.tries] 26, .tail ((L.take i).filter (vah x)).length 1 30]) (fun i => True) (fun _ _ => rfl) (by simp only [push_cast, seval, List.forall_mem_cons, List.not_mem_nil, false_imp_iff, implies_true, List.forall_mem_nil]; simp [zaf, Wk.refl]; try exact Wk.refl _) rfl (fun _ _ _ => by simp) trivial (fun hHs hLt i hin hi R hR => ?_)
 clear hHs hLt
 repeat apply zaa
 refine zl5 ?_
 simp only [push_cast, seval]
 repeat apply zaa
 refine zae ?_
 simp only [push_cast, seval]
 refine ⟨fun h => ?_, fun h => ?_⟩
 ·have hil : i < L.length := by omega
  obtain ⟨t, ht⟩ := zaE hil
  obtain ⟨htn, htb⟩ := hLr t (zas ht)
  have hw1 : IntKind.i64.wrap ((i : Int) + 1) = i + 1 := zau _ (by omega)
  have hfs : (L.take (i + 1)).filter (vah x) = (L.take i).filter (vah x) ++ (if vah x t then [t] else []) := by
   obtain ⟨hj, hle⟩ := List.getElem?_eq_some_iff.1 ht
   rw [List.take_succ_eq_append_getElem hj, hle, List.filter_append]
   congr 1
   cases hf : vah x t <;> simp [hf]
  have hfi := hfl i
  generalize (L.take i).filter (vah x) = o at hfs hfi hR ⊢
  repeat apply zaa
  refine zah ?_
  simp only [push_cast, seval]
  repeat apply zaa
  refine zag ?_
  repeat apply zaa
  refine zl5 ?_
  simp only [push_cast, seval]
  repeat apply zaa
  refine zl5 ?_
  simp only [push_cast, seval]
  repeat apply zaa
  refine zag ?_
  refine zaB x.keys.length (fun j : Nat => [(6, bv (vae x t j)), (7, iv j)]) (fun _ => _) (fun j => True) (fun _ _ => rfl) (by simp only [push_cast, seval, List.forall_mem_cons, List.not_mem_nil, false_imp_iff, implies_true, List.forall_mem_nil]; simp [zaf, Wk.refl]; try exact Wk.refl _) rfl (fun _ _ _ => rfl) trivial (fun hHs hLt j hjn hj R2 hR2 => ?_)
  clear hHs hLt
  repeat apply zaa
  refine zl5 ?_
  simp only [push_cast, seval, aKeys]
  repeat apply zaa
  refine zae ?_
  simp only [push_cast, seval]
  refine ⟨fun h2 => ?_, fun h2 => ?_⟩
  ·have hjl : j < x.keys.length := by omega
   obtain ⟨y, hy⟩ := zaE hjl
   obtain ⟨w, hw⟩ := zaE (xs := t) (i := j) (by omega)
   have hsucc := zgv hy hw
   have hw2 : IntKind.i64.wrap ((j : Int) + 1) = j + 1 := zau _ (by omega)
   repeat apply zaa
   refine zah ?_
   simp only [push_cast, seval]
   repeat apply zaa
   refine zag ?_
   cases hb : vae x t j with
   | false =>
    repeat apply zaa
    refine zaT F.mixed 33 (by kernel_rfl) ?_
    simp only [push_cast, seval, aKeys, aInts, zlB ht, zaz hil, za2 hw, zaz (get_lt hw), zc2 hy, zaz hjl, hb]
    rw [hsucc, hb] at hR2
    repeat apply zaa
    refine zl5 ?_
    simp only [push_cast, seval, hw2]
    refine hR2 _ ⟨hjl, trivial, ?_⟩
    simp only [Bool.false_and]
    exact (zax (zam rfl rfl) (by simp only [push_cast, seval]; simp [zaf, Wk.refl]))
   | true =>
    repeat apply zaa
    refine zaT F.mixed 33 (by kernel_rfl) ?_
    simp only [push_cast, seval, aKeys, aInts, zlB ht, zaz hil, za2 hw, zaz (get_lt hw), zc2 hy, zaz hjl, hb]
    rw [hsucc, hb] at hR2
    refine guardI (fun h3 => ?_) (fun h3 => ?_)
    ·have h3 : y.wear.min ≤ w := by simpa using h3
     try simp only [push_cast, seval, aKeys, aInts, zlB ht, zaz hil, za2 hw, zaz (get_lt hw), zc2 hy, zaz hjl, hb]
     repeat apply zaa
     refine zl5 ?_
     simp only [push_cast, seval, hw2]
     refine hR2 _ ⟨hjl, trivial, ?_⟩
     rw [decide_eq_true h3]
     simp only [Bool.true_and]
     exact (zax (zam rfl rfl) (by simp only [push_cast, seval]; simp [zaf, Wk.refl]))
    ·have h3 : ¬ y.wear.min ≤ w := by simpa using h3
     try simp only [push_cast, seval, aKeys, aInts, zlB ht, zaz hil, za2 hw, zaz (get_lt hw), zc2 hy, zaz hjl, hb]
     repeat apply zaa
     refine zl5 ?_
     simp only [push_cast, seval, hw2]
     refine hR2 _ ⟨hjl, trivial, ?_⟩
     rw [decide_eq_false h3]
     simp only [Bool.true_and, Bool.false_and]
     exact (zax (zam rfl rfl) (by simp only [push_cast, seval]; simp [zaf, Wk.refl]))
  ·have hjx : j = x.keys.length := by omega
   subst hjx
   clear hR2
   repeat apply zaa
   refine zaq ?_
   simp only [push_cast, seval]
   repeat apply zaa
   refine zl5 ?_
   simp only [push_cast, seval]
   repeat apply zaa
   refine zag ?_
   refine zaB x.tries.length (fun j : Nat => [(6, bv (vae x t x.keys.length && vad x t j)), (8, iv j)]) (fun _ => _) (fun j => True) (fun _ _ => rfl) (by simp only [vad, Bool.and_true]; simp only [push_cast, seval, List.forall_mem_cons, List.not_mem_nil, false_imp_iff, implies_true, List.forall_mem_nil]; simp [zaf, Wk.refl]; try exact Wk.refl _) rfl (fun _ _ _ => rfl) trivial (fun hHs hLt j hjn hj R2 hR2 => ?_)
   clear hHs hLt
   repeat apply zaa
   refine zl5 ?_
   simp only [push_cast, seval, aTries]
   repeat apply zaa
   refine zae ?_
   simp only [push_cast, seval]
   refine ⟨fun h2 => ?_, fun h2 => ?_⟩
   ·have hjl : j < x.tries.length := by omega
    obtain ⟨r, hr⟩ := zaE hjl
    obtain ⟨⟨hrk0, hrk⟩, hrl0, hrl⟩ := hx.tried r (zas hr)
    have hsucc := zf9 (t := t) hr
    have hw2 : IntKind.i64.wrap ((j : Int) + 1) = j + 1 := zau _ (by omega)
    rw [hsucc, ← Bool.and_assoc] at hR2
    obtain ⟨rk, rl, ro⟩ := r
    simp only at hrk0 hrk hrl0 hrl hR2
    obtain ⟨rk, rfl⟩ : ∃ m : Nat, rk = m := ⟨rk.toNat, by omega⟩
    obtain ⟨rl, rfl⟩ : ∃ m : Nat, rl = m := ⟨rl.toNat, by omega⟩
    repeat apply zaa
    refine zah ?_
    simp only [push_cast, seval]
    repeat apply zaa
    refine zag ?_
    cases hb : (vae x t x.keys.length && vad x t j) with
    | false =>
     repeat apply zaa
     refine zaT F.mixed 26 (by kernel_rfl) ?_
     simp only [push_cast, seval, aTries, zlB ht, zaz hil, zh6 hr, zaz hjl, hb]
     rw [hb] at hR2
     repeat apply zaa
     refine zl5 ?_
     simp only [push_cast, seval, hw2]
     refine hR2 _ ⟨hjl, trivial, ?_⟩
     simp only [Bool.false_and]
     exact (zax (zam rfl rfl) (by simp only [push_cast, seval]; simp [zaf, Wk.refl]))
    | true =>
     repeat apply zaa
     refine zaT F.mixed 26 (by kernel_rfl) ?_
     simp only [push_cast, seval, aTries, zlB ht, zaz hil, zh6 hr, zaz hjl, hb]
     rw [hb] at hR2
     refine qCall (bv (opensW x.keys t x.locks rk rl)) (zad (by kernel_rfl) (f58_c (x := x) hx (by omega) (by omega) (by omega) (fun w hw => by have := htb w hw; omega) ⟨rfl, rfl⟩)) ?_
     try simp only [push_cast, seval, aTries, zlB ht, zaz hil, zh6 hr, zaz hjl, hb]
     repeat apply zaa
     refine zl5 ?_
     simp only [push_cast, seval, hw2]
     refine hR2 _ ⟨hjl, trivial, ?_⟩
     simp only [Bool.true_and]
     exact (zax (zam rfl rfl) (by simp only [push_cast, seval]; simp [zaf, Wk.refl]))
   ·have hjx : j = x.tries.length := by omega
    subst hjx
    have hff : (vae x t x.keys.length && vad x t x.tries.length) = vah x t := rfl
    rw [hff]
    repeat apply zaa
    refine zaq ?_
    simp only [push_cast, seval]
    repeat apply zaa
    refine zl5 ?_
    simp only [push_cast, seval]
    repeat apply zaa
    refine zae ?_
    simp only [push_cast, seval]
    refine ⟨fun h3 => ?_, fun h3 => ?_⟩
    ·have h3 : vah x t = true := by simpa using h3
     rw [if_pos h3] at hfs
     have hol : (o.map aInts).length = o.length := List.length_map ..
     repeat apply zaa
     refine zl5 ?_
     simp only [push_cast, seval, zs1, zhq, zlB ht, zaz hil, hol, zlS, zkE]
     refine ⟨by omega, ?_⟩
     repeat apply zaa
     refine zl5 ?_
     simp only [push_cast, seval, hw1]
     refine hR _ ⟨hil, trivial, ?_⟩
     rw [hfs]
     simp only [List.length_append, List.map_append]
     exact (zax (zam rfl rfl) (by simp only [push_cast, seval]; simp [zaf, Wk.refl]))
    ·have h3 : ¬ vah x t = true := by simpa using h3
     rw [if_neg h3, List.append_nil] at hfs
     repeat apply zaa
     refine zah ?_
     simp only [push_cast, seval]
     repeat apply zaa
     refine zl5 ?_
     simp only [push_cast, seval, hw1]
     refine hR _ ⟨hil, trivial, ?_⟩
     rw [hfs]
     exact (zax (zam rfl rfl) (by simp only [push_cast, seval]; simp [zaf, Wk.refl]))
 ·have hix : i = L.length := by omega
  subst hix
  repeat apply zaa
  refine zaq ?_
  simp only [push_cast, seval]
  repeat apply zaa
  refine zl5 ?_
  simp only [push_cast, seval]
  repeat apply zaa
  refine zai ?_
  simp only [push_cast, seval]
  rw [List.take_length, hfin]
  exact endA (b := aRows (vaa x)) hH (zaK _ _ _) (by rw [zlv]; trivial) hk
end
def vaj (ks : List Key) (r : List Int) : Bool := (ks.zip r).all fun p => decide (p.1.wear.min ≤ p.2) && decide (p.2 ≤ p.1.wear.max)
theorem zlx (y : Key) (ks : List Key) (w : Int) (r : List Int) : vaj (y :: ks) (w :: r) = (decide (y.wear.min ≤ w) && decide (w ≤ y.wear.max) && vaj ks r) := by simp [vaj]
theorem zlU {lo hi : Int} (h0 : 0 ≤ lo) (h1 : lo ≤ hi) (h2 : hi ≤ 2) {β : Type} (f : Int → List β) : (rangeI lo hi).flatMap f = (List.range 3).flatMap fun i : Nat => if decide (lo ≤ (i : Int)) && decide ((i : Int) ≤ hi) then f i else [] := by
 have hr : List.range 3 = [0, 1, 2] := rfl
 have hl : lo = 0 ∨ lo = 1 ∨ lo = 2 := by omega
 have hh : hi = 0 ∨ hi = 1 ∨ hi = 2 := by omega
 rw [hr]
 rcases hl with rfl | rfl | rfl <;> rcases hh with rfl | rfl | rfl <;> first | omega | (simp [rangeI, List.range_succ])
theorem zli : ∀ (ys : List Key) (pre : List Int) (m : Nat), (∀ y ∈ ys, y.wear.Ok 2) → growM ys pre.length (pre ++ List.replicate (m + ys.length) 0) = ((vab 3 ys.length).filter (vaj ys)).map fun r => pre ++ r ++ List.replicate m 0
 | [], pre, m, _ => by simp [growM, vab, vaj]
 | y :: ys, pre, m, h => by
  have hy := h y List.mem_cons_self
  rw [growM, zlU hy.min hy.le hy.max]
  show _ = (((List.range 3).flatMap fun i : Nat => (vab 3 ys.length).map ((i : Int) :: ·)).filter (vaj (y :: ys))).map _
  rw [List.filter_flatMap, List.map_flatMap]
  congr 1
  funext i
  have hset : (pre ++ List.replicate (m + (y :: ys).length) 0).set pre.length (i : Int) = (pre ++ [(i : Int)]) ++ List.replicate (m + ys.length) 0 := by
   rw [List.set_append_right _ _ (Nat.le_refl _), Nat.sub_self, List.length_cons, ← Nat.add_assoc, List.replicate_succ, List.set_cons_zero, List.append_assoc]; rfl
  have ih := zli ys (pre ++ [(i : Int)]) m fun z hz => h z (List.mem_cons_of_mem _ hz)
  rw [List.length_append, List.length_singleton] at ih
  rw [hset, ih]
  cases hc : (decide (y.wear.min ≤ (i : Int)) && decide ((i : Int) ≤ y.wear.max)) with
  | true =>
   rw [if_pos rfl, List.filter_map, List.map_map]
   have : (vaj (y :: ys) ∘ fun x => (i : Int) :: x) = vaj ys := by funext r; simp only [Function.comp]; rw [zlx, hc, Bool.true_and]
   rw [this]
   congr 1
   funext r
   simp
  | false =>
   rw [if_neg (by simp), List.filter_map, List.map_map]
   have : (vaj (y :: ys) ∘ fun x => (i : Int) :: x) = fun _ => false := by funext r; simp only [Function.comp]; rw [zlx, hc, Bool.false_and]
   rw [this]
   simp
def vaJ (n : Nat) (r : List Int) : List Int := r ++ List.replicate (4 - n) 0
theorem zlG {x : Ring} (hx : x.Ok) : wears0 x = ((vab 3 x.keys.length).filter (vaj x.keys)).map (vaJ x.keys.length) := by
 have h4 := hx.keys
 have h := zli x.keys [] (4 - x.keys.length) fun y hy => (hx.key y hy).2.2
 rw [show 4 - x.keys.length + x.keys.length = 4 by omega] at h
 exact h
theorem zlw (x : Ring) (t : List Int) : ∀ k, k ≤ x.keys.length → k ≤ t.length → vae x t k = ((x.keys.zip t).take k).all fun p => decide (p.1.wear.min ≤ p.2) && decide (p.2 ≤ p.1.wear.max)
 | 0, _, _ => rfl
 | k + 1, h, h' => by
  obtain ⟨y, hy⟩ := zaE (xs := x.keys) (i := k) (by omega)
  obtain ⟨w, hw⟩ := zaE (xs := t) (i := k) (by omega)
  have hz : (x.keys.zip t)[k]? = some (y, w) := by rw [List.getElem?_zip_eq_some]; exact ⟨hy, hw⟩
  rw [zgv hy hw, zlw x t k (by omega) (by omega)]
  obtain ⟨hj, hle⟩ := List.getElem?_eq_some_iff.1 hz
  rw [List.take_succ_eq_append_getElem hj, hle, List.all_append]
  simp
theorem zlP {x : Ring} {t : List Int} (h : t.length = x.keys.length) : vae x t x.keys.length = vaj x.keys t := by
 rw [zlw x t _ (Nat.le_refl _) (by omega), List.take_of_length_le (by simp [h])]; rfl
theorem ziC (cuts : Int) (ds : List Int) (ls : List (List Band)) (j : Nat) : ∀ i, (openedM cuts ds ls i).testBit j = (decide (j < i) && (match ls[j]? with | some l => fitsM (ds.take cuts.toNat) l | none => false))
 | 0 => by simp [openedM]
 | i + 1 => by
  have ih := ziC cuts ds ls j i
  have hlt := zb5 cuts ds ls i
  have hhi : (openedM cuts ds ls i).testBit i = false := Nat.testBit_lt_two_pow hlt
  unfold openedM
  by_cases hji : j = i
  ·subst hji
   cases hl : ls[j]? with
   | none => simp [hhi]
   | some l =>
    simp only
    split
    ·rename_i hf; simp [Nat.testBit_or, Nat.testBit_two_pow_self, hf]
    ·rename_i hf; simp [hhi, hf]
  ·have hd : decide (j < i + 1) = decide (j < i) := by congr 1; simp; omega
   rw [hd]
   cases hl : ls[i]? with
   | none => exact ih
   | some l =>
    simp only
    split
    ·rw [Nat.testBit_or, ih, Nat.testBit_two_pow_of_ne (Ne.symm hji), Bool.or_false]
    ·exact ih
theorem zf8 {x : Ring} (hx : x.Ok) {t : List Int} (ht : t.length = x.keys.length) (hb : ∀ w ∈ t, 0 ≤ w ∧ w ≤ 2) {k l : Nat} (hk : k < x.keys.length) (hl : l < x.locks.length) : (inTruth x (vaJ x.keys.length t) k).testBit l = opensW x.keys t x.locks k l := by
 obtain ⟨y, hy⟩ := zaE hk
 obtain ⟨lk, hlk⟩ := zaE hl
 obtain ⟨w, hw⟩ := zaE (xs := t) (i := k) (by omega)
 obtain ⟨hyc, hyb, hyw⟩ := hx.key y (zas hy)
 have hw0 := (hb w (zas hw)).1
 have hc := hx.cuts
 have hp : (vaJ x.keys.length t).getD k 0 = w := by
  unfold vaJ
  rw [List.getD_eq_getElem?_getD, List.getElem?_append_left (by omega), hw]; rfl
 have how : opensW x.keys t x.locks k l = fitsM (wornM w y.cuts) lk := by
  unfold opensW
  simp only [Int.toNat_natCast, List.getD_eq_getElem?_getD, hy, hw, hlk, Option.map_some, Option.getD_some]
 rw [how]
 unfold inTruth opensM
 rw [hp, hy]
 simp only
 rw [ziC, hlk]
 have hwn : ((w.toNat : Nat) : Int) = w := by omega
 have htk : (wornM (w.toNat : Nat) (depthsM y.cuts)).take x.cuts.toNat = wornM w y.cuts := by
  rw [hwn]
  unfold wornM depthsM
  rw [List.take_of_length_le (show y.cuts.length ≤ 4 by omega), List.map_append, List.take_append_of_le_length (by simp; omega), List.take_of_length_le (by simp; omega)]
 rw [htk]
 simp [hl]
open Go.Conc Go.Proofs
def vaV (x : Ring) (t keys : List Int) (p q : Nat) : Bool := keys.any fun k => opensW x.keys t x.locks k p != opensW x.keys t x.locks k q
theorem zlN {x : Ring} (hx : x.Ok) {t : List Int} (ht : t.length = x.keys.length) (hb : ∀ w ∈ t, 0 ≤ w ∧ w ≤ 2) : ∀ i, i ≤ x.tries.length → okTo x [] (vaJ x.keys.length t) i = vad x t i
 | 0, _ => rfl
 | i + 1, h => by
  obtain ⟨r, hr⟩ := zaE (xs := x.tries) (i := i) (by omega)
  obtain ⟨⟨hk0, hk⟩, hl0, hl⟩ := hx.tried r (zas hr)
  rw [okTo, zlN hx ht hb i (by omega), zf9 hr, hr]
  have h1 := zf8 hx ht hb (k := r.key.toNat) (l := r.lock.toNat) (by omega) (by omega)
  have e1 : ((r.key.toNat : Nat) : Int) = r.key := by omega
  have e2 : ((r.lock.toNat : Nat) : Int) = r.lock := by omega
  rw [e1, e2] at h1
  simp only [List.contains_nil, Bool.false_or]
  unfold triedM
  rw [← h1]; rfl
theorem zlO {α : Type} (l : List α) (p : α → Bool) : ((l.zipIdx.filter fun y => p y.1).map (·.1)) = l.filter p := by
 have h := List.filter_map (f := fun y : α × Nat => y.1) (p := p) (l := l.zipIdx)
 rw [List.zipIdx_map_fst] at h
 exact h.symm
theorem zgX {x : Ring} (hx : x.Ok) : (truthsM x []).map (·.1) = (vaa x).map (vaJ x.keys.length) := by
 unfold truthsM truthsTo
 rw [zlO (wears0 x) fun r => okTo x [] r x.tries.length, zlG hx, List.filter_map, List.filter_filter]
 congr 1
 unfold vaa
 refine List.filter_congr fun t ht => ?_
 obtain ⟨h1, h2⟩ := (zeh 3 (by omega) x.keys.length hx.keys).2 t ht
 have hb : ∀ w ∈ t, 0 ≤ w ∧ w ≤ 2 := fun w hw => by have := h2 w hw; omega
 simp only [Function.comp]
 rw [zlN hx h1 hb _ (Nat.le_refl _), vah, zlP h1, Bool.and_comm]
theorem zlQ {x : Ring} (hx : x.Ok) : (truthsM x []).length = (vaa x).length := by
 have := congrArg List.length (zgX hx)
 rwa [List.length_map, List.length_map] at this
theorem vax {x : Ring} (hx : x.Ok) (f : List Int → Bool) : ((truthsM x []).any fun y => f y.1) = (vaa x).any fun t => f (vaJ x.keys.length t) := by
 have h := congrArg (fun l => List.any l f) (zgX hx)
 simp only [List.any_map] at h
 exact h
theorem zhQ {x : Ring} (hx : x.Ok) : ∀ t ∈ vaa x, t.length = x.keys.length ∧ ∀ w ∈ t, 0 ≤ w ∧ w ≤ 2 := fun t ht => by
 obtain ⟨h1, h2⟩ := (zeh 3 (by omega) x.keys.length hx.keys).2 t (List.mem_filter.1 ht).1
 exact ⟨h1, fun w hw => by have := h2 w hw; omega⟩
theorem zlJ {x : Ring} (hx : x.Ok) : (vaa x).length ≤ 256 := Nat.le_trans (List.length_filter_le _ _) (zeh 3 (by omega) x.keys.length hx.keys).1
section
variable {lv : Bool} {H : List AObj} {k kp : AV → List AObj → Prop}
end
open Go.Conc Go.Proofs
def vaf (x : Ring) (n : Int) : Option Int := if inM n 0 (x.keys.length - 1) then none else some 0
def van (ts : List (List Int × Nat)) (n w : Nat) : Bool := ts.any fun y => y.1.getD n 0 == (w : Int)
def vac (ts : List (List Int × Nat)) (n i : Nat) : List Int := ((List.range i).filter (van ts n)).map fun i : Nat => (i : Int)
def vaG (x : Ring) (n : Nat) : List Int := vac (truthsM x []) n 3
theorem vaA (vs : List (List Int × Nat)) (y : List Int × Nat) (n w : Nat) : van (vs ++ [y]) n w = (van vs n w || y.1.getD n 0 == (w : Int)) := by
 unfold van; rw [List.any_append]; simp
theorem vaE {a b : List (List Int × Nat)} (h : a.Perm b) (n w : Nat) : van a n w = van b n w := by
 unfold van
 rw [Bool.eq_iff_iff, List.any_eq_true, List.any_eq_true]
 exact exists_congr fun y => and_congr_left fun _ => h.mem_iff
theorem vas (ts : List (List Int × Nat)) (n i : Nat) : vac ts n (i + 1) = vac ts n i ++ (if van ts n i then [(i : Int)] else []) := by
 unfold vac
 rw [List.range_succ, List.filter_append, List.map_append]
 congr 1
 by_cases h : van ts n i = true <;> simp [h]
theorem vay (ts : List (List Int × Nat)) (n i : Nat) : (vac ts n i).length ≤ i := by
 unfold vac
 rw [List.length_map]
 have := List.length_filter_le (van ts n) (List.range i)
 simpa using this
section
variable {lv : Bool} {H : List AObj} {k kp : AV → List AObj → Prop}
set_option maxRecDepth 4000 in
theorem f69_c {x : Ring} {n : Int} (hnr : NewRingC lv) (hmain : H[0]? = some .main) (hs : x.Small) (h1 : openingE x (vaf x n) ≠ 0 → k (.tup [.sl 0 [] .exact, iv (openingE x (vaf x n))]) H) (h2 : openingE x (vaf x n) = 0 → k (.tup [aInts (vaG x n.toNat), iv 0]) H) : FnC lv Tryz.prog 69 H [x.av, iv n] k kp := by
 have hmn : ∀ L : List AObj, (H ++ L)[0]? = some .main := fun L => zay hmain
 refine zak (rs := [.tmp 4, .tmp 5]) (nt := 48) F.f69 rfl rfl rfl (by simp) fun hH hA => ?_
 simp only [argsT, Nat.reduceAdd, Ring.av]
 repeat apply zaa
 refine zl5 ?_
 simp only [push_cast, seval, Ring.l]
 have hask : AskC lv (H ++ [.cells x.l 26, .cells x.l 26, .cells [iv n] 3]) (.fn (.func 152) [] [.op (H.length + 2) 0, .op (H.length + 1) 0]) (vaf x n) := vaD hs (by simp only [push_cast, seval] <;> rfl) (by simp only [push_cast, seval] <;> rfl)
 by_cases hz : openingE x (vaf x n) = 0
 ·repeat apply zaa
  refine zbE [3, 4] [0, 1, 2, 3, 4, 5, 6, 7, 8, 9, 10, 11] [⟨0, false, [], [([3], [3])]⟩, ⟨1, false, [], []⟩, ⟨2, false, [], []⟩, ⟨3, true, [3], []⟩, ⟨4, true, [3, 4], []⟩, ⟨5, false, [3, 4], []⟩, ⟨6, false, [3, 4], []⟩, ⟨7, false, [3, 4], []⟩, ⟨8, false, [3, 4], []⟩, ⟨9, false, [3, 4], []⟩, ⟨10, false, [3, 4], []⟩, ⟨11, false, [3, 4], []⟩] (fun D => bif isDone 4 D then H ++ [.cells x.l 26, .cells x.l 26, .cells [iv n] 3, .cells x.l 26, setObj (truthsM x []) (wears0 x).length] else bif isDone 3 D then H ++ [.cells x.l 26, .cells x.l 26, .cells [iv n] 3] else H ++ [.cells x.l 26]) F.mixed (by kernel_rfl) (by kernel_rfl) (by first | rfl | simp only [push_cast, seval]) ?_
  simp only [push_cast, seval, Ring.l]
  refine eCall _ _ (zad (by kernel_rfl) (f89_c (x := x) ⟨rfl, rfl⟩)) ?_
  try simp only [push_cast, seval, Ring.l]
  refine eCall _ _ (zad (by kernel_rfl) (f99_c hnr (hmn _) hs hask (fun h => absurd hz h) (fun _ => ⟨rfl, rfl⟩))) ?_
  try simp only [push_cast, seval, Ring.l]
  obtain ⟨ho, hne⟩ := zaP.1 hz
  have hx := zbp ho
  have hkn : 0 ≤ n ∧ n ≤ (x.keys.length : Int) - 1 := by
   have := (zaN.1 ho).2
   unfold vaf inM at this
   by_cases hq : 0 ≤ n ∧ n ≤ (x.keys.length : Int) - 1
   ·exact hq
   ·simp [hq] at this
  obtain ⟨kn, rfl⟩ : ∃ m : Nat, n = m := ⟨n.toNat, by omega⟩
  have hx4 := hx.keys
  repeat apply zaa
  refine zl5 ?_
  simp only [push_cast, seval]
  repeat apply zaa
  refine zae ?_
  simp only [push_cast, seval]
  repeat apply zaa
  refine zah ?_
  simp only [push_cast, seval]
  repeat apply zaa
  refine zl5 ?_
  simp only [push_cast, seval]
  have hg4 : ∀ L : List AObj, (H ++ L)[H.length + 3 + 1]? = L[4]? := fun L => zbD H L 4
  repeat apply zaa
  refine zl5 ?_
  simp only [push_cast, seval, zaL, hg4]
  repeat apply zaa
  refine zag ?_
  have hb := zbm x []
  have hnd := zba x []
  have h4 := zbt hx []
  have hall := zcO (truthsM x []) (wears0 x).length hb
  refine za9 (measure fun vs : List (List Int × Nat) => (truthsM x []).length - vs.length).wf (fun vs => []) (fun vs => H ++ [AObj.cells x.l 26, .cells x.l 26, .cells [iv kn] 3, .cells x.l 26, setObj (truthsM x []) (wears0 x).length, .cells [bv (van vs kn 0), bv (van vs kn 1), bv (van vs kn 2)] 155, .iter (H.length + 3 + 1) (wears0 x).length (vs.map (·.2)).toArray (wears0 x).length]) (fun vs => ((vs.map (·.2)).Nodup ∧ ∀ y ∈ vs, y ∈ truthsM x [])) [] (fun _ _ => rfl) (by simp) (by simp [zaL, van, Ring.l]) (fun _ _ => by simp) ⟨by simp, by simp⟩ (fun hHs3 hLt3 vs hok R3 hR3 => ?_)
  clear hLt3
  have hokI : ∀ (a b c : Bool) sn, HOk (H ++ [AObj.cells x.l 26, .cells x.l 26, .cells [iv kn] 3, .cells x.l 26, setObj (truthsM x []) (wears0 x).length, .cells [bv a, bv b, bv c] 155, .iter (H.length + 3 + 1) (wears0 x).length sn (wears0 x).length]) := fun a b c sn => by
   have h0 : HOk (H ++ [AObj.cells x.l 26, .cells x.l 26, .cells [iv kn] 3, .cells x.l 26, setObj (truthsM x []) (wears0 x).length, .cells [bv false, bv false, bv false] 155, .iter (H.length + 3 + 1) (wears0 x).length #[] (wears0 x).length]) := hHs3
   have h1 := zec (H := H ++ [AObj.cells x.l 26, .cells x.l 26, .cells [iv kn] 3, .cells x.l 26, setObj (truthsM x []) (wears0 x).length]) (L := [.iter (H.length + 3 + 1) (wears0 x).length #[] (wears0 x).length]) (o := .cells [bv false, bv false, bv false] 155) (o' := .cells [bv a, bv b, bv c] 155) (by simpa using h0) (fun _ => by
    intro q hq
    simp only [List.mem_cons, List.not_mem_nil, or_false] at hq
    rcases hq with rfl | rfl | rfl <;> exact .val _)
   intro z hz
   have hl : (H ++ [AObj.cells x.l 26, .cells x.l 26, .cells [iv kn] 3, .cells x.l 26, setObj (truthsM x []) (wears0 x).length, .cells [bv a, bv b, bv c] 155, .iter (H.length + 3 + 1) (wears0 x).length sn (wears0 x).length]).length = ((H ++ [AObj.cells x.l 26, .cells x.l 26, .cells [iv kn] 3, .cells x.l 26, setObj (truthsM x []) (wears0 x).length]) ++ AObj.cells [bv a, bv b, bv c] 155 :: [AObj.iter (H.length + 3 + 1) (wears0 x).length #[] (wears0 x).length]).length := by simp
   rw [hl]
   have hz2 : z ∈ (H ++ [AObj.cells x.l 26, .cells x.l 26, .cells [iv kn] 3, .cells x.l 26, setObj (truthsM x []) (wears0 x).length]) ++ AObj.cells [bv a, bv b, bv c] 155 :: [AObj.iter (H.length + 3 + 1) (wears0 x).length #[] (wears0 x).length] ∨ z = .iter (H.length + 3 + 1) (wears0 x).length sn (wears0 x).length := by
    simp only [List.mem_append, List.mem_cons, List.not_mem_nil, or_false] at hz ⊢
    rcases hz with hz | hz | hz | hz | hz | hz | hz | hz <;> simp [hz]
   rcases hz2 with hz2 | rfl
   ·exact h1 z hz2
   ·show H.length + 3 + 1 < _
    simp
  repeat apply zaa
  refine zl5 ?_
  simp only [push_cast, seval, zaL, hg4]
  refine ⟨hall.elim .inl (fun h => .inr (.inl h)), fun e he hn => ?_, fun hs => ?_⟩
  ·obtain ⟨y, hy, rfl⟩ : ∃ y ∈ truthsM x [], setEntry y = e := by simpa using he
   have hyn : y.2 ∉ vs.map (·.2) := by simpa [setEntry] using hn
   have hok' := zdk hok hy hyn
   have hrel := zdl hok'
   repeat apply zaa
   refine zae ?_
   simp only [push_cast, seval]
   repeat apply zaa
   refine zah ?_
   simp only [push_cast, seval]
   repeat apply zaa
   refine zag ?_
   obtain ⟨h41, h42⟩ := h4 y hy
   have hborn : (setEntry y).born = y.2 := rfl
   have hlen : (y.1.map iv).length = 4 := by simp [h41]
   have hdrop : List.drop 4 [AV.val (Value.int IntKind.i64 0), AV.val (Value.int IntKind.i64 0), AV.val (Value.int IntKind.i64 0), AV.val (Value.int IntKind.i64 0)] = [] := rfl
   repeat apply zaa
   refine zl5 ?_
   simp only [push_cast, seval, zaL, hg4, Array.back?_push, hborn, zcL hnd hy, zb7, h41, hlen, hdrop]
   have hkl : kn < y.1.length := by omega
   obtain ⟨w, hw⟩ := zaE hkl
   have hwb := h42 w (zas hw)
   obtain ⟨wn, rfl⟩ : ∃ n : Nat, w = n := ⟨w.toNat, by omega⟩
   have b4 : (0 ≤ (kn : Int) ∧ (kn : Int) < 4) = True := by simp; omega
   have hget : y.1.getD kn 0 = (wn : Int) := by rw [List.getD_eq_getElem?_getD, hw]; rfl
   have hmm : ∀ w' : Nat, van (vs ++ [y]) kn w' = (van vs kn w' || decide (wn = w')) := fun w' => by
    rw [vaA, hget]
    congr 1
    by_cases e : wn = w'
    ·simp [e]
    ·have : ¬ (wn : Int) = w' := by omega
     simp [e, this]
   have d00 : decide ((0 : Nat) = 0) = true := rfl
   have d01 : decide ((0 : Nat) = 1) = false := rfl
   have d02 : decide ((0 : Nat) = 2) = false := rfl
   have d10 : decide ((1 : Nat) = 0) = false := rfl
   have d11 : decide ((1 : Nat) = 1) = true := rfl
   have d12 : decide ((1 : Nat) = 2) = false := rfl
   have d20 : decide ((2 : Nat) = 0) = false := rfl
   have d21 : decide ((2 : Nat) = 1) = false := rfl
   have d22 : decide ((2 : Nat) = 2) = true := rfl
   have hw3 : wn = 0 ∨ wn = 1 ∨ wn = 2 := by omega
   rcases hw3 with rfl | rfl | rfl
   all_goals
    repeat apply zaa
    refine zl5 ?_
    simp only [push_cast, seval, b4, zbf hw]
    rw [zdm]
    refine hR3 _ ⟨vs ++ [y], hrel, hok', ?_⟩
    simp only [hmm, d00, d01, d02, d10, d11, d12, d20, d21, d22, decide_true, decide_false, Bool.or_true, Bool.or_false]
    exact zat (zam rfl rfl) (by simp [zaf, Wk.refl]) (hokI _ _ _ _) (by simp [zap])
  ·have hp : vs.Perm (truthsM x []) := zct hok.1 hnd hok.2 fun y hy => by
    have := hs (setEntry y) (by simp; exact ⟨y.1, y.2, hy, rfl⟩) (hb y hy)
    simpa [setEntry] using this
   simp only [vaE hp]
   clear hR3
   repeat apply zaa
   refine zae ?_
   simp only [push_cast, seval]
   repeat apply zaa
   refine zaq ?_
   simp only [push_cast, seval]
   repeat apply zaa
   refine zl5 ?_
   simp only [push_cast, seval]
   (repeat apply zaa); refine zbV (t := 11) (sz := 1) (el := 3) (by simp only [push_cast, seval] <;> rfl) ?_
   try simp only [push_cast, seval]
   repeat apply zaa
   refine zl5 ?_
   simp only [push_cast, seval]
   repeat apply zaa
   refine zag ?_
   have hwt := vas (truthsM x []) kn
   have hwl := vay (truthsM x []) kn
   have v1 : IntKind.i64.wrap (0 + 1) = 1 := zau _ (by omega)
   have v2 : IntKind.i64.wrap (1 + 1) = 2 := zau _ (by omega)
   have v3 : IntKind.i64.wrap (2 + 1) = 3 := zau _ (by omega)
   have w1 : IntKind.i64.wrap 1 = 1 := zau _ (by omega)
   have w2 : IntKind.i64.wrap 2 = 2 := zau _ (by omega)
   have w3 : IntKind.i64.wrap 3 = 3 := zau _ (by omega)
   refine zaB 3 (fun i : Nat => [(37, iv i), (11, .sl (vac (truthsM x []) kn i).length ((vac (truthsM x []) kn i).map iv) (.opn (H.length + 7)))]) (fun i => H ++ [AObj.cells x.l 26, .cells x.l 26, .cells [iv kn] 3, .cells x.l 26, setObj (truthsM x []) (wears0 x).length, .cells [bv (van (truthsM x []) kn 0), bv (van (truthsM x []) kn 1), bv (van (truthsM x []) kn 2)] 155, .iter (H.length + 3 + 1) (wears0 x).length (vs.map (·.2)).toArray (wears0 x).length, .tail (vac (truthsM x []) kn i).length 1 3]) (fun _ => True) (fun _ _ => rfl) (by simp only [push_cast, seval, List.forall_mem_cons, List.not_mem_nil, false_imp_iff, implies_true, List.forall_mem_nil]; simp [zaf, Wk.refl]; first | exact Wk.refl _ | exact ⟨Wk.refl _, Wk.refl _⟩) rfl (fun _ _ _ => by simp) trivial (fun hHs hLt i hin hi R hR => ?_)
   clear hHs hLt
   repeat apply zaa
   refine zl5 ?_
   simp only [push_cast, seval]
   repeat apply zaa
   refine zae ?_
   simp only [push_cast, seval]
   refine ⟨fun h => ?_, fun h => ?_⟩
   ·have hi3 : i = 0 ∨ i = 1 ∨ i = 2 := by omega
    repeat apply zaa
    refine zah ?_
    simp only [push_cast, seval]
    repeat apply zaa
    refine zag ?_
    rcases hi3 with rfl | rfl | rfl
    all_goals
     repeat apply zaa
     refine zl5 ?_
     simp only [push_cast, seval]
     repeat apply zaa
     refine zl5 ?_
     simp only [push_cast, seval]
     repeat apply zaa
     refine zae ?_
     simp only [push_cast, seval]
    ·refine ⟨fun h2 => ?_, fun h2 => ?_⟩
     ·have hsuc := hwt 0
      have hl0 := hwl 0
      rw [if_pos (by simpa using h2)] at hsuc
      repeat apply zaa
      refine zl5 ?_
      simp only [push_cast, seval, z1, zhq, List.length_map]
      first | refine ⟨by omega, by omega, ?_⟩ | refine ⟨by omega, ?_⟩
      repeat apply zaa
      refine zl5 ?_
      simp only [push_cast, seval, w1, v1]
      refine hR _ ⟨by omega, trivial, ?_⟩
      rw [hsuc]
      simp only [List.map_append, List.map_cons, List.map_nil, List.length_append, List.length_cons, List.length_nil]
      exact (zax (zam rfl rfl) (by simp only [push_cast, seval]; simp [zaf, Wk.refl]))
     ·have hsuc := hwt 0
      rw [if_neg (by simpa using h2), List.append_nil] at hsuc
      repeat apply zaa
      refine zah ?_
      simp only [push_cast, seval]
      repeat apply zaa
      refine zl5 ?_
      simp only [push_cast, seval, w1, v1]
      refine hR _ ⟨by omega, trivial, ?_⟩
      rw [hsuc]
      exact (zax (zam rfl rfl) (by simp only [push_cast, seval]; simp [zaf, Wk.refl]))
    ·refine ⟨fun h2 => ?_, fun h2 => ?_⟩
     ·have hsuc := hwt 1
      have hl0 := hwl 1
      rw [if_pos (by simpa using h2)] at hsuc
      repeat apply zaa
      refine zl5 ?_
      simp only [push_cast, seval, z1, zhq, List.length_map]
      first | refine ⟨by omega, by omega, ?_⟩ | refine ⟨by omega, ?_⟩
      repeat apply zaa
      refine zl5 ?_
      simp only [push_cast, seval, w2, v2]
      refine hR _ ⟨by omega, trivial, ?_⟩
      rw [hsuc]
      simp only [List.map_append, List.map_cons, List.map_nil, List.length_append, List.length_cons, List.length_nil]
      exact (zax (zam rfl rfl) (by simp only [push_cast, seval]; simp [zaf, Wk.refl]))
     ·have hsuc := hwt 1
      rw [if_neg (by simpa using h2), List.append_nil] at hsuc
      repeat apply zaa
      refine zah ?_
      simp only [push_cast, seval]
      repeat apply zaa
      refine zl5 ?_
      simp only [push_cast, seval, w2, v2]
      refine hR _ ⟨by omega, trivial, ?_⟩
      rw [hsuc]
      exact (zax (zam rfl rfl) (by simp only [push_cast, seval]; simp [zaf, Wk.refl]))
    ·refine ⟨fun h2 => ?_, fun h2 => ?_⟩
     ·have hsuc := hwt 2
      have hl0 := hwl 2
      rw [if_pos (by simpa using h2)] at hsuc
      repeat apply zaa
      refine zl5 ?_
      simp only [push_cast, seval, z1, zhq, List.length_map]
      first | refine ⟨by omega, by omega, ?_⟩ | refine ⟨by omega, ?_⟩
      repeat apply zaa
      refine zl5 ?_
      simp only [push_cast, seval, w3, v3]
      refine hR _ ⟨by omega, trivial, ?_⟩
      rw [hsuc]
      simp only [List.map_append, List.map_cons, List.map_nil, List.length_append, List.length_cons, List.length_nil]
      exact (zax (zam rfl rfl) (by simp only [push_cast, seval]; simp [zaf, Wk.refl]))
     ·have hsuc := hwt 2
      rw [if_neg (by simpa using h2), List.append_nil] at hsuc
      repeat apply zaa
      refine zah ?_
      simp only [push_cast, seval]
      repeat apply zaa
      refine zl5 ?_
      simp only [push_cast, seval, w3, v3]
      refine hR _ ⟨by omega, trivial, ?_⟩
      rw [hsuc]
      exact (zax (zam rfl rfl) (by simp only [push_cast, seval]; simp [zaf, Wk.refl]))
   ·have hi3 : i = 3 := by omega
    subst hi3
    clear hR
    repeat apply zaa
    refine zaq ?_
    simp only [push_cast, seval]
    repeat apply zaa
    refine zl5 ?_
    simp only [push_cast, seval]
    repeat apply zaa
    refine zai ?_
    simp only [push_cast, seval]
    rw [Int.toNat_natCast] at h2
    exact endA hH (zdC (zaK _ _ _) (Wk.refl _)) (by simp [zap, zaD, za3]) (h2 hz)
 ·repeat apply zaa
  refine zbE [3, 4] [0, 1, 2, 3, 4, 5, 6, 7, 8, 9, 10, 11] [⟨0, false, [], [([3], [3])]⟩, ⟨1, false, [], []⟩, ⟨2, false, [], []⟩, ⟨3, true, [3], []⟩, ⟨4, true, [3, 4], []⟩, ⟨5, false, [3, 4], []⟩, ⟨6, false, [3, 4], []⟩, ⟨7, false, [3, 4], []⟩, ⟨8, false, [3, 4], []⟩, ⟨9, false, [3, 4], []⟩, ⟨10, false, [3, 4], []⟩, ⟨11, false, [3, 4], []⟩] (fun D => bif isDone 3 D then H ++ [.cells x.l 26, .cells x.l 26, .cells [iv n] 3] else H ++ [.cells x.l 26]) F.mixed (by kernel_rfl) (by kernel_rfl) (by first | rfl | simp only [push_cast, seval]) ?_
  simp only [push_cast, seval, Ring.l]
  refine eCall _ _ (zad (by kernel_rfl) (f89_c (x := x) ⟨rfl, rfl⟩)) ?_
  try simp only [push_cast, seval, Ring.l]
  refine eCall _ _ (zad (by kernel_rfl) (f99_c hnr (hmn _) hs hask (fun _ => ⟨rfl, rfl⟩) (fun h => absurd h hz))) ?_
  try simp only [push_cast, seval, Ring.l]
  repeat apply zaa
  refine zl5 ?_
  simp only [push_cast, seval]
  repeat apply zaa
  refine zae ?_
  simp only [push_cast, seval]
  refine ⟨fun h => ?_, fun h => absurd (by simpa using h) hz⟩
  repeat apply zaa
  refine zl5 ?_
  simp only [push_cast, seval]
  repeat apply zaa
  refine zai ?_
  simp only [push_cast, seval]
  exact endA hH (Wk.refl _) (by simp [zap, zaD, zbh]) (h1 hz)
end
open Go.Conc Go.Proofs
def vaC (D : List (List Int)) (k w : Nat) : Bool := D.any fun t => t.getD k 0 == (w : Int)
def vau (D : List (List Int)) (k i : Nat) : List Int := ((List.range i).filter (vaC D k)).map fun i : Nat => (i : Int)
def vai (x : Ring) (D : List (List Int)) (k l : Nat) : Nat := (D.filter fun t => opensW x.keys t x.locks k l).length
theorem vaL (D : List (List Int)) (k i : Nat) : (vau D k i).length ≤ i := by
 unfold vau
 rw [List.length_map]
 have := List.length_filter_le (vaC D k) (List.range i)
 simpa using this
theorem vaF (D : List (List Int)) (k i : Nat) : vau D k (i + 1) = vau D k i ++ (if vaC D k i then [(i : Int)] else []) := by
 unfold vau
 rw [List.range_succ, List.filter_append, List.map_append]
 congr 1
 by_cases h : vaC D k i = true <;> simp [h]
theorem vaB {n k : Nat} {t : List Int} (hk : k < t.length) : (vaJ n t).getD k 0 = t.getD k 0 := by
 unfold vaJ
 rw [List.getD_eq_getElem?_getD, List.getD_eq_getElem?_getD, List.getElem?_append_left hk]
theorem vaz {x : Ring} (hx : x.Ok) {k : Nat} (hk : k < x.keys.length) : vaG x k = vau (vaa x) k 3 := by
 unfold vaG vac vau
 congr 1
 refine List.filter_congr fun w _ => ?_
 unfold van vaC
 rw [vax hx fun r => r.getD k 0 == (w : Int), Bool.eq_iff_iff]
 simp only [List.any_eq_true]
 refine exists_congr fun t => and_congr_right fun ht => ?_
 obtain ⟨h1, h2⟩ := zhQ hx t ht
 rw [vaB (by omega)]
theorem vaK {x : Ring} (hx : x.Ok) {k l : Nat} (hk : k < x.keys.length) (hl : l < x.locks.length) : cntM x k l (truthsM x []) = vai x (vaa x) k l := by
 unfold cntM vai
 have h1 : ((truthsM x []).filter fun t => (opensM x k (t.1.getD k 0).toNat).testBit l).length = (((truthsM x []).map (·.1)).filter fun r => (inTruth x r k).testBit l).length := by
  rw [List.filter_map, List.length_map]; rfl
 rw [h1, zgX hx, List.filter_map, List.length_map]
 congr 1
 refine List.filter_congr fun t ht => ?_
 obtain ⟨h1, h2⟩ := zhQ hx t ht
 exact zf8 hx h1 h2 hk hl
theorem vap {x : Ring} {D : List (List Int)} {k l i : Nat} {t : List Int} (h : D[i]? = some t) : vai x (D.take (i + 1)) k l = vai x (D.take i) k l + (if opensW x.keys t x.locks k l then 1 else 0) := by
 obtain ⟨hj, rfl⟩ := List.getElem?_eq_some_iff.1 h
 unfold vai
 rw [List.take_succ_eq_append_getElem hj, List.filter_append, List.length_append]
 congr 1
 by_cases hb : opensW x.keys D[i] x.locks k l = true <;> simp [hb]
theorem vav (x : Ring) (D : List (List Int)) (k l : Nat) : vai x D k l ≤ D.length := List.length_filter_le _ _
def vaH (x : Ring) : Int := if vaa x = [] then 11 else 0
theorem vaw {x : Ring} (hx : x.Ok) : truthsM x [] = [] ↔ vaa x = [] := by rw [← List.length_eq_zero_iff, zlQ hx, List.length_eq_zero_iff]
theorem vao {x : Ring} (hx : x.Ok) {fl : Option Int} (hf : fl = none) : openingE x fl = vaH x := by
 subst hf
 have h0 : openE x none = 0 := zaN.2 ⟨zbH.2 hx, rfl⟩
 unfold openingE vaH
 rw [h0, if_neg (by simp)]
 by_cases h : vaa x = []
 ·rw [if_pos h, if_pos ((vaw hx).2 h)]
 ·rw [if_neg h, if_neg (fun e => h ((vaw hx).1 e))]
section
variable {H : List AObj} {k kp : AV → List AObj → Prop}
theorem f69_k {x : Ring} {n : Nat} (hmain : H[0]? = some .main) (hx : x.Ok) (hn : n < x.keys.length) (h : ∀ en, k (.tup [.sl (vau (vaa x) n 3).length ((vau (vaa x) n 3).map iv) en, iv (vaH x)]) H) : FnC true Tryz.prog 69 H [x.av, iv n] k kp := by
 have hf : vaf x n = none := by unfold vaf inM; simp; omega
 have ho := vao hx hf
 refine f69_c zaQ hmain hx.small (fun e => ?_) (fun e => ?_)
 ·rw [ho] at e ⊢
  have hD : vaa x = [] := Classical.byContradiction fun hn => e (by unfold vaH; rw [if_neg hn])
  have hd : vau (vaa x) n 3 = [] := by rw [hD]; rfl
  have := h .exact
  rw [hd] at this
  exact this
 ·rw [ho] at e
  rw [Int.toNat_natCast, vaz hx hn]
  have := h .shut
  rw [e] at this
  exact this
theorem f32_k {x : Ring} {n l : Nat} (hmain : H[0]? = some .main) (hx : x.Ok) (hn : n < x.keys.length) (hl : l < x.locks.length) (h : k (.tup [iv (if vaa x = [] then 0 else verdictM (vai x (vaa x) n l) (vaa x).length), iv (vaH x)]) H) : FnC true Tryz.prog 32 H [x.av, iv n, iv l] k kp := by
 have hf : opensFl x n l = none := zgu.2 ⟨⟨by omega, by omega⟩, by omega, by omega⟩
 have ho := vao hx hf
 refine f32_c zaQ hmain hx.small (fun e => ?_) (fun e => ?_)
 ·rw [ho] at e ⊢
  have hD : vaa x = [] := Classical.byContradiction fun hn => e (by unfold vaH; rw [if_neg hn])
  rw [if_pos hD] at h
  exact h
 ·rw [ho] at e
  rw [Int.toNat_natCast, Int.toNat_natCast, vaK hx hn hl, zlQ hx]
  have hD : vaa x ≠ [] := fun hD => by unfold vaH at e; rw [if_pos hD] at e; cases e
  rw [if_neg hD, e] at h
  exact h
theorem f71_c {lv : Bool} {n all : Nat} (hk : k (iv (verdictM n all)) H) : FnC lv Tryz.prog 71 H [iv n, iv all] k kp := by
 refine zak (rs := [.tmp 4]) (nt := 10) F.f71 rfl rfl rfl (by simp) fun hH hA => ?_
 simp only [argsT, Nat.reduceAdd]
 repeat refine zaa ?_
 refine zab (by kernel_rfl) ?_
 simp only [push_cast, seval]
 repeat refine zaa ?_
 refine zab (by kernel_rfl) ?_
 simp only [push_cast, seval]
 repeat refine zaa ?_
 refine zae ?_
 simp only [push_cast, seval]
 refine ⟨fun h => ?_, fun h => ?_⟩
 ·repeat refine zaa ?_
  refine zab (by kernel_rfl) ?_
  simp only [push_cast, seval]
  repeat refine zaa ?_
  refine zai ?_
  simp only [push_cast, seval]
  have h : n = 0 := by simpa using h
  rw [verdictM, if_pos h] at hk
  exact zao hk
 ·have h : n ≠ 0 := by simpa using h
  repeat refine zaa ?_
  refine zah ?_
  simp only [push_cast, seval]
  repeat refine zaa ?_
  refine zab (by kernel_rfl) ?_
  simp only [push_cast, seval]
  repeat refine zaa ?_
  refine zae ?_
  simp only [push_cast, seval]
  refine ⟨fun h2 => ?_, fun h2 => ?_⟩
  ·repeat refine zaa ?_
   refine zab (by kernel_rfl) ?_
   simp only [push_cast, seval]
   repeat refine zaa ?_
   refine zai ?_
   simp only [push_cast, seval]
   have h2 : n = all := Int.ofNat_inj.1 (by simpa using h2)
   rw [verdictM, if_neg h, if_pos h2] at hk
   exact zao hk
  ·have h2 : n ≠ all := fun e => by subst e; simp at h2
   repeat refine zaa ?_
   refine zah ?_
   simp only [push_cast, seval]
   repeat refine zaa ?_
   refine zab (by kernel_rfl) ?_
   simp only [push_cast, seval]
   repeat refine zaa ?_
   refine zai ?_
   simp only [push_cast, seval]
   rw [verdictM, if_neg h, if_neg h2] at hk
   exact zao hk
end
open Go.Conc Go.Proofs
theorem vaq {α : Type} {l : List α} {i : Nat} {a : α} (f : α → Bool) (h : l[i]? = some a) : (l.take (i + 1)).any f = ((l.take i).any f || f a) := by
 obtain ⟨hj, rfl⟩ := List.getElem?_eq_some_iff.1 h
 rw [List.take_succ_eq_append_getElem hj, List.any_append]; simp
section
variable {H : List AObj} {k kp : AV → List AObj → Prop}
end
open Go.Conc
structure vat (X Y Z : Prop) : Type where
 n : Nat
def UG (a : AV) (want : Bool) (X Y Z : Prop) (_t : vat X Y Z) : Prop := (∃ b, a = .val (.bool b) ∧ (b = want → X) ∧ (b = !want → Y)) ∨ (a = .val undef ∧ Z)
theorem vaR {b want : Bool} {X Y Z : Prop} {t : vat X Y Z} : UG (.val (.bool b)) want X Y Z t = ((b = want → X) ∧ (b = !want → Y)) := by
 unfold UG
 refine propext ⟨fun h => ?_, fun h => .inl ⟨b, rfl, h⟩⟩
 rcases h with ⟨b', e, h⟩ | ⟨e, _⟩
 ·cases e; exact h
 ·cases e
theorem vaS (X Y Z : Prop) (t : vat X Y Z) : UG (.val (.bool true)) true X Y Z t = X := by rw [vaR]; simp
theorem vaW (X Y Z : Prop) (t : vat X Y Z) : UG (.val (.bool true)) false X Y Z t = Y := by rw [vaR]; simp
theorem vaT (X Y Z : Prop) (t : vat X Y Z) : UG (.val (.bool false)) true X Y Z t = Y := by rw [vaR]; simp
theorem vaU (X Y Z : Prop) (t : vat X Y Z) : UG (.val (.bool false)) false X Y Z t = X := by rw [vaR]; simp
theorem vaX (want : Bool) (X Y Z : Prop) (t : vat X Y Z) : UG (.val undef) want X Y Z t = Z := by
 unfold UG
 refine propext ⟨fun h => ?_, fun h => .inr ⟨rfl, h⟩⟩
 rcases h with ⟨b', e, _⟩ | ⟨_, h⟩
 ·cases e
 ·exact h
section
variable (lv : Bool) (P : Program)
def UOps (all : Array Oper) : List Oper → AS → (AS → Prop) → (AV → AS → Prop) → Prop
 | [], s, next, _ => next s
 | o :: rest, s, next, bad => match o.guard with
  | none => AStep lv P s o (fun s' => UOps all rest s' next bad) bad
  | some (j, want) => one1 ((all[j]?).bind (·.dst)) fun d => one1 (look s.T d) fun a => UG a want (AStep lv P ⟨(d, .val (.bool want)) :: s.T, s.H⟩ o (fun s' => UOps all rest s' next bad) bad) (UOps all rest ((⟨(d, .val (.bool !want)) :: s.T, s.H⟩ : AS).put o.dst (.val undef)) next bad) (UOps all rest (s.put o.dst (.val undef)) next bad) ⟨0⟩
end
theorem vaO : type_of% @UOps.eq_1 := by intros; rw [UOps.eq_1]
theorem vaQ : type_of% @UOps.eq_2 := by intros; rw [UOps.eq_2]
@[congr] theorem uOps_congr {lv : Bool} {P : Program} {s s' : AS} {all : Array Oper} {l : List Oper} {next : AS → Prop} {bad : AV → AS → Prop} (h : s = s') : UOps lv P all l s next bad = UOps lv P all l s' next bad := by rw [h]
attribute [push_cast] vaO vaQ vaS vaW vaT vaU vaX
section
variable {lv : Bool} {P : Program} {r : Option Nat} {s : AS}
theorem vag {nt : Nat} {all : Array Oper} {Φ : AEx → AS → Prop} (hdst : ∀ o ∈ all, ∀ d, o.dst = some d → d < nt) (hdef : ∀ o ∈ all, r = none ∨ isDefer o.op = false) : ∀ (n k : Nat) (s : AS), k + n = all.size → UOps lv P all (all.toList.drop k) s (Φ .normal) (fun pv s => Φ (.panic pv) s) →
  ∀ (E : Env) (V : View) (a : Act) (Q : Ex → Act → View → Prop), At E V s a nt → (∀ ae e E' V' a' s', Kept E E' V V' a a' → At E' V' s' a' nt → ExDen E' ae e → Φ ae s' → Q e a' V') → WPOps lv P r all Q (List.range' k n) a V
 | 0, k, s, hk, h, E, V, a, Q, hat, hQ => by
  have : all.toList.drop k = [] := by simp; omega
  rw [this] at h
  exact hQ .normal .normal E V a s (Kept.refl E V a) hat trivial h
 | n + 1, k, s, hk, h, E, V, a, Q, hat, hQ => by
  have hlt : k < all.size := by omega
  have hd : all.toList.drop k = all[k] :: all.toList.drop (k + 1) := by
   rw [List.drop_eq_getElem_cons (by simpa using hlt)]; simp
  rw [hd] at h
  have hmem : all[k] ∈ all := Array.getElem_mem hlt
  have ho : all[k]? = some all[k] := Array.getElem?_eq_getElem hlt
  simp only [List.range'_succ, WPOps, ho]
  have go : ∀ s : AS, At E V s a nt → AStep lv P s all[k] (fun s' => UOps lv P all (all.toList.drop (k + 1)) s' (Φ .normal) (fun pv s => Φ (.panic pv) s)) (fun pv s => Φ (.panic pv) s) → OpWP lv P r all[k] a V (WPOps lv P r all Q (List.range' (k + 1) n)) Q := fun s hat h => by
   refine h.sound (lv := lv) (r := r) E V a _ Q hat.conc hat.tok (fun d e => by rw [hat.size]; exact hdst _ hmem d e) (hdef _ hmem) (fun E' V' a' s' hk' hc' ht' hn => ?_) (fun E' V' s' pv v hk' hc' ht' hden hb => ?_)
   ·exact vag hdst hdef n (k + 1) s' (by omega) hn E' V' a' Q ⟨hc', ht', hk'.size.trans hat.size⟩ (fun ae e E'' V'' a'' s'' hk'' hat'' he hΦ => hQ ae e E'' V'' a'' s'' (hk'.trans hk'') hat'' he hΦ)
   ·exact hQ (.panic pv) (.panic _) E' V' a s' hk' ⟨hc', ht', hat.size⟩ ⟨v, rfl, hden⟩ hb
  simp only [UOps] at h
  split at h
  ·rename_i hg
   have hw : Region.wanted all[k] (yielded all a.tmps) = true := by unfold Region.wanted; rw [hg]
   rw [if_pos hw]
   exact .inl (go s hat h)
  ·rename_i j want hg
   obtain ⟨d, hdj, h⟩ := h.out
   obtain ⟨av, h1, h⟩ := h.out
   rcases h with ⟨b, rfl, h2, h3⟩ | ⟨rfl, h3⟩
   case inr =>
    have hv := (hat.tok d _ h1).2
    have hy : yielded all a.tmps j ≠ some want := by
     obtain ⟨oj, hoj, hdd⟩ := Option.bind_eq_some_iff.1 hdj
     generalize hx : a.tmps.getD d undef = x at hv
     cases hv
     have hlt' : d < a.tmps.size := (hat.tok d _ h1).1
     rw [Array.getD_eq_getD_getElem?, Array.getElem?_eq_getElem hlt'] at hx
     simp only [Option.getD_some] at hx
     simp [yielded, hoj, hdd, Array.getElem?_eq_getElem hlt', hx, undef]
    have hw : ¬ Region.wanted all[k] (yielded all a.tmps) = true := by
     unfold Region.wanted; rw [hg]
     intro h
     exact hy (by simpa using h)
    rw [if_neg hw]
    exact vag hdst hdef n (k + 1) (s.put all[k].dst (.val undef)) (by omega) h3 E V (a.put all[k].dst undef) Q
     ⟨by rw [zbx]; exact hat.conc, hat.tok.putd (fun d e => by rw [hat.size]; exact hdst _ hmem d e) (.val undef), by rw [zaA]; exact hat.size⟩
     (fun ae e E'' V'' a'' s'' hk'' hat'' he hΦ => hQ ae e E'' V'' a'' s'' ⟨hk''.le, hk''.size.trans (zaA _ _ _), hk''.defers.trans (zaw _ _ _), hk''.role, hk''.deaf⟩ hat'' he hΦ)
   have hv := (hat.tok d _ h1).2
   have hy : yielded all a.tmps j = some b := by
    obtain ⟨oj, hoj, hdd⟩ := Option.bind_eq_some_iff.1 hdj
    generalize hx : a.tmps.getD d undef = x at hv
    cases hv
    have hlt' : d < a.tmps.size := (hat.tok d _ h1).1
    rw [Array.getD_eq_getD_getElem?, Array.getElem?_eq_getElem hlt'] at hx
    simp only [Option.getD_some] at hx
    simp [yielded, hoj, hdd, Array.getElem?_eq_getElem hlt', hx]
   have know : ∀ b', b = b' → At E V ⟨(d, .val (.bool b')) :: s.T, s.H⟩ a nt := fun b' hb' => by
    subst hb'
    refine ⟨hat.conc, fun t x e => ?_, hat.size⟩
    simp only [look] at e
    split at e
    ·rename_i e'; subst e'; cases e; exact hat.tok d _ h1
    ·exact hat.tok t x e
   by_cases hb : b = want
   ·have hw : Region.wanted all[k] (yielded all a.tmps) = true := by unfold Region.wanted; rw [hg]; simp [hy, hb]
    rw [if_pos hw]
    exact .inl (go _ (know want hb) (h2 hb))
   ·have hw : ¬ Region.wanted all[k] (yielded all a.tmps) = true := by unfold Region.wanted; rw [hg]; simp [hy, hb]
    rw [if_neg hw]
    have hb' : b = !want := by cases b <;> cases want <;> simp_all
    have h3' := h3 hb'
    have hat := know _ hb'
    exact vag hdst hdef n (k + 1) ((⟨(d, .val (.bool !want)) :: s.T, s.H⟩ : AS).put all[k].dst (.val undef)) (by omega) h3' E V (a.put all[k].dst undef) Q
     ⟨by rw [zbx]; exact hat.conc, hat.tok.putd (fun d e => by rw [hat.size]; exact hdst _ hmem d e) (.val undef), by rw [zaA]; exact hat.size⟩
     (fun ae e E'' V'' a'' s'' hk'' hat'' he hΦ => hQ ae e E'' V'' a'' s'' ⟨hk''.le, hk''.size.trans (zaA _ _ _), hk''.defers.trans (zaw _ _ _), hk''.role, hk''.deaf⟩ hat'' he hΦ)
theorem vak {nt id : Nat} {ops : Array Oper} {Φ : AEx → AS → Prop} (hd : dstsOk nt ops = true) (h : UOps lv P ops ops.toList s (Φ .normal) (fun pv s => Φ (.panic pv) s)) : AWP lv P r nt (.region id ops false) s Φ := by
 intro E V a Q hat hQ
 refine zda ?_
 rw [List.range_eq_range']
 exact vag (Φ := Φ) (fun o ho d e => (dstsOk.out hd ho).1 d e) (fun o ho => .inr (dstsOk.out hd ho).2) ops.size 0 s (by omega) (by simpa using h) E V a Q hat hQ
end
open Go.Conc Go.Proofs
section
variable {H : List AObj} {k kp : AV → List AObj → Prop}
set_option maxRecDepth 4000 in
set_option maxHeartbeats 1000000 in
theorem f16_c {nums : List Int} (hmain : H[0]? = some .main) (hn : nums.length ≤ 2 ^ 50) (hk : k (bv true) H) : FnC true Tryz.prog 16 H [aInts nums] k kp := by
 have hmn : ∀ L : List AObj, (H ++ L)[0]? = some .main := fun L => zay hmain
 refine zak (rs := [.tmp 2]) (nt := 155) F.f16 rfl rfl rfl (by simp) fun hH hA => ?_
 simp only [argsT, Nat.reduceAdd]
 repeat apply zaa
 refine zl5 ?_
 simp only [push_cast, seval]
 repeat apply zaa
 refine zl5 ?_
 simp only [push_cast, seval]
 refine zl6 ((f26_c ?_))
 try simp only [push_cast, seval]
 refine zl6 ((f49_c (K := 4) (L := 3) (T := 4) (wr := true) (zjT H) (tinOk0 hn _) (by decide) (by decide) (by decide) (by decide) fun x ws τ hP hτ => ?_))
 try simp only [push_cast, seval, Ring.av, Ring.l]
 have hx := hP.ok (by decide) (by decide) (by decide)
 have hs := hx.small
 have hkl := hP.keys
 have hll := hP.locks
 clear hP hτ
 repeat apply zaa
 refine zl5 ?_
 simp only [push_cast, seval]
 refine zl6 ((f57_c (x := x) hx ?_))
 try simp only [push_cast, seval]
 repeat apply zaa
 refine zl5 ?_
 simp only [push_cast, seval]
 refine zl6 ((f53_k (x := x) (hmn _) hs hx ?_))
 try simp only [push_cast, seval, zlQ hx]
 repeat apply zaa
 refine zl5 ?_
 simp only [push_cast, seval, aRows, bne_self_eq_false]
 repeat apply zaa
 refine zae ?_
 simp only [push_cast, seval]
 repeat apply zaa
 refine zah ?_
 simp only [push_cast, seval]
 repeat apply zaa
 refine zl5 ?_
 simp only [push_cast, seval]
 have htl := zlJ hx
 have htr := zhQ hx
 have w1 : ∀ i : Nat, i ≤ 1000 → IntKind.i64.wrap ((i : Int) + 1) = i + 1 := fun i _ => zau _ (by omega)
 repeat apply zaa
 refine zag ?_
 refine zaB x.keys.length (fun n : Nat => [(8, iv n)]) (fun _ => _) (fun _ => True) (fun _ _ => rfl) (by simp only [push_cast, seval, List.forall_mem_cons, List.not_mem_nil, false_imp_iff, implies_true, List.forall_mem_nil]; simp [zaf, Wk.refl]) rfl (fun _ _ _ => rfl) trivial (fun hHs0 hLt0 n hnn hno R hR => ?_)
 clear hLt0
 repeat apply zaa
 refine zl5 ?_
 simp only [push_cast, seval, aKeys]
 repeat apply zaa
 refine zae ?_
 simp only [push_cast, seval]
 refine ⟨fun h => ?_, fun h => ?_⟩
 ·have hnl : n < x.keys.length := by omega
  have hwn := w1 n (by omega)
  repeat apply zaa
  refine zah ?_
  simp only [push_cast, seval]
  repeat apply zaa
  refine zag ?_
  repeat apply zaa
  refine zl5 ?_
  simp only [push_cast, seval]
  (repeat apply zaa); refine zbV (t := 9) (sz := 1) (el := 3) (by simp only [push_cast, seval] <;> rfl) ?_
  try simp only [push_cast, seval]
  repeat apply zaa
  refine zl5 ?_
  simp only [push_cast, seval]
  repeat apply zaa
  refine zag ?_
  refine zaB 3 (fun w : Nat => [(9, .sl (vau (vaa x) n w).length ((vau (vaa x) n w).map iv) (.opn (H.length + 2))), (10, iv w)]) (fun w => H ++ [tinO τ, .cells [iv x.cuts, aKeys x.keys, aLocks x.locks, aTries x.tries] 26, .tail (vau (vaa x) n w).length 1 3]) (fun _ => True) (fun _ _ => rfl) (by simp only [push_cast, seval, List.forall_mem_cons, List.not_mem_nil, false_imp_iff, implies_true, List.forall_mem_nil]; simp [zaf, Wk.refl]; first | exact Wk.refl _ | exact ⟨Wk.refl _, Wk.refl _⟩) rfl (fun _ _ _ => by simp) trivial (fun hHs hLt w hwn3 hwo R2 hR2 => ?_)
  clear hHs hLt
  have hdl := vaL (vaa x) n w
  repeat apply zaa
  refine zl5 ?_
  simp only [push_cast, seval]
  repeat apply zaa
  refine zae ?_
  simp only [push_cast, seval]
  refine ⟨fun h2 => ?_, fun h2 => ?_⟩
  ·have hw3 : w < 3 := by omega
   have hww := w1 w (by omega)
   have hsuc := vaF (vaa x) n w
   repeat apply zaa
   refine zah ?_
   simp only [push_cast, seval]
   repeat apply zaa
   refine zag ?_
   repeat apply zaa
   refine zl5 ?_
   simp only [push_cast, seval]
   repeat apply zaa
   refine zl5 ?_
   simp only [push_cast, seval]
   repeat apply zaa
   refine zag ?_
   refine zaB (vaa x).length (fun i : Nat => [(11, bv (vaC ((vaa x).take i) n w)), (12, iv i)]) (fun _ => _) (fun j => True) (fun _ _ => rfl) (by simp only [vaC, List.take_zero, List.any_nil]; simp only [push_cast, seval, List.forall_mem_cons, List.not_mem_nil, false_imp_iff, implies_true, List.forall_mem_nil]; simp [zaf, Wk.refl]) rfl (fun _ _ _ => rfl) trivial (fun hHs hLt i hin hio R3 hR3 => ?_)
   clear hHs hLt
   repeat apply zaa
   refine zl5 ?_
   simp only [push_cast, seval]
   repeat apply zaa
   refine zae ?_
   simp only [push_cast, seval]
   refine ⟨fun h3 => ?_, fun h3 => ?_⟩
   ·have hil : i < (vaa x).length := by omega
    obtain ⟨t, ht⟩ := zaE hil
    obtain ⟨htn, htb⟩ := htr t (zas ht)
    obtain ⟨tv, htv⟩ := zaE (xs := t) (i := n) (by omega)
    have hget : t.getD n 0 = tv := by rw [List.getD_eq_getElem?_getD, htv]; rfl
    have hwi := w1 i (by omega)
    have hms : vaC ((vaa x).take (i + 1)) n w = (vaC ((vaa x).take i) n w || tv == (w : Int)) := by
     unfold vaC
     rw [vaq _ ht, hget]
    rw [hms] at hR3
    repeat apply zaa
    refine zah ?_
    simp only [push_cast, seval]
    repeat apply zaa
    refine zag ?_
    cases hb : vaC ((vaa x).take i) n w with
    | true =>
     repeat apply zaa
     refine zl5 ?_
     simp only [push_cast, seval, hb]
     rw [hb] at hR3
     repeat apply zaa
     refine zl5 ?_
     simp only [push_cast, seval, hwi]
     refine hR3 _ ⟨hil, trivial, ?_⟩
     simp only [Bool.true_or]
     exact (zax (zam rfl rfl) (by simp only [push_cast, seval]; simp [zaf, Wk.refl]))
    | false =>
     repeat apply zaa
     refine zl5 ?_
     simp only [push_cast, seval, hb, zlB ht, zaz hil, za2 htv, zaz (get_lt htv), aInts]
     rw [hb] at hR3
     repeat apply zaa
     refine zl5 ?_
     simp only [push_cast, seval, hwi]
     refine hR3 _ ⟨hil, trivial, ?_⟩
     simp only [Bool.false_or]
     exact (zax (zam rfl rfl) (by simp only [push_cast, seval]; simp [zaf, Wk.refl]))
   ·have hix : i = (vaa x).length := by omega
    subst hix
    clear hR3
    rw [List.take_length]
    repeat apply zaa
    refine zaq ?_
    simp only [push_cast, seval]
    repeat apply zaa
    refine zl5 ?_
    simp only [push_cast, seval]
    repeat apply zaa
    refine zae ?_
    simp only [push_cast, seval]
    refine ⟨fun h4 => ?_, fun h4 => ?_⟩
    ·rw [if_pos (by simpa using h4)] at hsuc
     repeat apply zaa
     refine zl5 ?_
     simp only [push_cast, seval, z1, zhq, List.length_map]
     first | refine ⟨by omega, by omega, ?_⟩ | refine ⟨by omega, ?_⟩
     repeat apply zaa
     refine zl5 ?_
     simp only [push_cast, seval, hww]
     refine hR2 _ ⟨hw3, trivial, ?_⟩
     rw [hsuc]
     simp only [List.map_append, List.map_cons, List.map_nil, List.length_append, List.length_cons, List.length_nil]
     exact (zax (zam rfl rfl) (by simp only [push_cast, seval]; simp [zaf, Wk.refl]))
    ·rw [if_neg (by simpa using h4), List.append_nil] at hsuc
     repeat apply zaa
     refine zah ?_
     simp only [push_cast, seval]
     repeat apply zaa
     refine zl5 ?_
     simp only [push_cast, seval, hww]
     refine hR2 _ ⟨hw3, trivial, ?_⟩
     rw [hsuc]
     exact (zax (zam rfl rfl) (by simp only [push_cast, seval]; simp [zaf, Wk.refl]))
  ·have hw3 : w = 3 := by omega
   subst hw3
   clear hR2
   repeat apply zaa
   refine zaq ?_
   simp only [push_cast, seval]
   repeat apply zaa
   refine zl5 ?_
   simp only [push_cast, seval]
   refine zl6 ((f69_k (x := x) (n := n) (hmn _) hx hnl fun en => ?_))
   try simp only [push_cast, seval]
   have hend : ((vaa x).length : Int) = 0 ∧ vaa x = [] ∧ vaH x = 11 ∨ (0 < ((vaa x).length : Int)) ∧ vaa x ≠ [] ∧ vaH x = 0 := by
    by_cases hD : vaa x = []
    ·exact .inl ⟨by rw [hD]; rfl, hD, if_pos hD⟩
    ·exact .inr ⟨by have := List.length_pos_iff.2 hD; omega, hD, if_neg hD⟩
   rcases hend with ⟨hl0, hD, hE⟩ | ⟨hl0, hD, hE⟩
   ·have hl1 : (0 < ((vaa x).length : Int)) = False := by rw [hl0]; simp
    have hl2 : (((vaa x).length : Int) == 0) = true := by rw [hl0]; rfl
    clear hl0
    repeat apply zaa
    refine zl5 ?_
    simp only [push_cast, seval, hE, hl1, decide_true, decide_false, bne_self_eq_false, beq_self_eq_true, Int.reduceBEq, Int.reduceBNe]
    refine zl6 ((f34_same (xs := vau (vaa x) n 3) (by omega) ?_))
    try simp only [push_cast, seval]
    repeat apply zaa
    refine zae ?_
    simp only [push_cast, seval]
    repeat apply zaa
    refine zah ?_
    simp only [push_cast, seval]
    repeat apply zaa
    refine zl5 ?_
    simp only [push_cast, seval]
    repeat apply zaa
    refine zag ?_
    refine zaB x.locks.length (fun l : Nat => [(15, iv l)]) (fun _ => _) (fun _ => True) (fun _ _ => rfl) (by simp only [push_cast, seval, List.forall_mem_cons, List.not_mem_nil, false_imp_iff, implies_true, List.forall_mem_nil]; simp [zaf, Wk.refl]) rfl (fun _ _ _ => rfl) trivial (fun hHs hLt l hln hlo R2 hR2 => ?_)
    clear hHs hLt
    repeat apply zaa
    refine zl5 ?_
    simp only [push_cast, seval, aLocks]
    repeat apply zaa
    refine zae ?_
    simp only [push_cast, seval]
    refine ⟨fun h3 => ?_, fun h3 => ?_⟩
    ·have hll2 : l < x.locks.length := by omega
     have hwl := w1 l (by omega)
     repeat apply zaa
     refine zah ?_
     simp only [push_cast, seval]
     repeat apply zaa
     refine zag ?_
     repeat apply zaa
     refine zl5 ?_
     simp only [push_cast, seval]
     repeat apply zaa
     refine zl5 ?_
     simp only [push_cast, seval]
     repeat apply zaa
     refine zag ?_
     refine zaB (vaa x).length (fun i : Nat => [(16, iv (vai x ((vaa x).take i) n l)), (17, iv i)]) (fun _ => _) (fun j => True) (fun _ _ => rfl) (by simp only [vai, List.take_zero, List.filter_nil, List.length_nil]; simp only [push_cast, seval, List.forall_mem_cons, List.not_mem_nil, false_imp_iff, implies_true, List.forall_mem_nil]; simp [zaf, Wk.refl]) rfl (fun _ _ _ => rfl) trivial (fun hHs hLt i hin hio R3 hR3 => ?_)
     clear hHs hLt
     repeat apply zaa
     refine zl5 ?_
     simp only [push_cast, seval]
     repeat apply zaa
     refine zae ?_
     simp only [push_cast, seval]
     refine ⟨fun h4 => ?_, fun h4 => ?_⟩
     ·have hil : i < (vaa x).length := by omega
      obtain ⟨t, ht⟩ := zaE hil
      obtain ⟨htn, htb⟩ := htr t (zas ht)
      have hwi := w1 i (by omega)
      have hst := vap (x := x) (k := n) (l := l) ht
      have hsl := vav x ((vaa x).take i) n l
      have hsl2 : ((vaa x).take i).length ≤ i := by rw [List.length_take]; omega
      have hws := w1 (vai x ((vaa x).take i) n l) (by omega)
      repeat apply zaa
      refine zah ?_
      simp only [push_cast, seval]
      repeat apply zaa
      refine zag ?_
      repeat apply zaa
      refine zaT F.mixed 7 (by kernel_rfl) ?_
      simp only [push_cast, seval, zlB ht, zaz hil]
      refine zl6 ((f58_c (x := x) hx hnl hll2 (by omega) htb ?_))
      try simp only [push_cast, seval]
      repeat apply zaa
      refine zae ?_
      simp only [push_cast, seval]
      refine ⟨fun h5 => ?_, fun h5 => ?_⟩
      ·rw [if_pos (by simpa using h5)] at hst
       repeat apply zaa
       refine zl5 ?_
       simp only [push_cast, seval, hws]
       repeat apply zaa
       refine zl5 ?_
       simp only [push_cast, seval, hwi]
       refine hR3 _ ⟨hil, trivial, ?_⟩
       rw [hst]
       exact (zax (zam rfl rfl) (by simp only [push_cast, seval]; simp [zaf, Wk.refl]))
      ·rw [if_neg (by simpa using h5), Nat.add_zero] at hst
       repeat apply zaa
       refine zah ?_
       simp only [push_cast, seval]
       repeat apply zaa
       refine zl5 ?_
       simp only [push_cast, seval, hwi]
       refine hR3 _ ⟨hil, trivial, ?_⟩
       rw [hst]
       exact (zax (zam rfl rfl) (by simp only [push_cast, seval]; simp [zaf, Wk.refl]))
     ·have hix : i = (vaa x).length := by omega
      subst hix
      clear hR3
      rw [List.take_length]
      repeat apply zaa
      refine zaq ?_
      simp only [push_cast, seval]
      repeat apply zaa
      refine zl5 ?_
      simp only [push_cast, seval]
      refine zl6 ((f32_k (x := x) (hmn _) hx hnl hll2 ?_))
      try simp only [push_cast, seval]
      repeat apply zaa
      refine vak (by kernel_rfl) ?_
      simp only [push_cast, seval, hE, hl1, hl2, if_pos hD, decide_true, decide_false, bne_self_eq_false, beq_self_eq_true, Int.reduceBEq, Int.reduceBNe]
      repeat apply zaa
      refine zae ?_
      simp only [push_cast, seval]
      repeat apply zaa
      refine zah ?_
      simp only [push_cast, seval]
      repeat apply zaa
      refine zl5 ?_
      simp only [push_cast, seval, hwl]
      refine hR2 _ ⟨hll2, trivial, ?_⟩
      exact (zax (zam rfl rfl) (by simp only [push_cast, seval]; simp [zaf, Wk.refl]))
    ·have hlx : l = x.locks.length := by omega
     subst hlx
     clear hR2
     repeat apply zaa
     refine zaq ?_
     simp only [push_cast, seval]
     repeat apply zaa
     refine zl5 ?_
     simp only [push_cast, seval, hwn]
     refine hR _ ⟨hnl, trivial, ?_⟩
     have hHs := hHs0
     exact (by first | exact zaS (zam rfl rfl) (by simp only [push_cast, seval]; simp [zaf, Wk.refl]) hHs (by simp [zap]) | exact zat (zam rfl rfl) (by simp only [push_cast, seval]; simp [zaf, Wk.refl]) hHs (by simp [zap]))
   ·have hl1 : (0 < ((vaa x).length : Int)) = True := by simpa using hl0
    repeat apply zaa
    refine zl5 ?_
    simp only [push_cast, seval, hE, hl1, decide_true, decide_false, bne_self_eq_false, beq_self_eq_true, Int.reduceBEq, Int.reduceBNe]
    refine zl6 ((f34_same (xs := vau (vaa x) n 3) (by omega) ?_))
    try simp only [push_cast, seval]
    repeat apply zaa
    refine zae ?_
    simp only [push_cast, seval]
    repeat apply zaa
    refine zah ?_
    simp only [push_cast, seval]
    repeat apply zaa
    refine zl5 ?_
    simp only [push_cast, seval]
    repeat apply zaa
    refine zag ?_
    refine zaB x.locks.length (fun l : Nat => [(15, iv l)]) (fun _ => _) (fun _ => True) (fun _ _ => rfl) (by simp only [push_cast, seval, List.forall_mem_cons, List.not_mem_nil, false_imp_iff, implies_true, List.forall_mem_nil]; simp [zaf, Wk.refl]) rfl (fun _ _ _ => rfl) trivial (fun hHs hLt l hln hlo R2 hR2 => ?_)
    clear hHs hLt
    repeat apply zaa
    refine zl5 ?_
    simp only [push_cast, seval, aLocks]
    repeat apply zaa
    refine zae ?_
    simp only [push_cast, seval]
    refine ⟨fun h3 => ?_, fun h3 => ?_⟩
    ·have hll2 : l < x.locks.length := by omega
     have hwl := w1 l (by omega)
     repeat apply zaa
     refine zah ?_
     simp only [push_cast, seval]
     repeat apply zaa
     refine zag ?_
     repeat apply zaa
     refine zl5 ?_
     simp only [push_cast, seval]
     repeat apply zaa
     refine zl5 ?_
     simp only [push_cast, seval]
     repeat apply zaa
     refine zag ?_
     refine zaB (vaa x).length (fun i : Nat => [(16, iv (vai x ((vaa x).take i) n l)), (17, iv i)]) (fun _ => _) (fun j => True) (fun _ _ => rfl) (by simp only [vai, List.take_zero, List.filter_nil, List.length_nil]; simp only [push_cast, seval, List.forall_mem_cons, List.not_mem_nil, false_imp_iff, implies_true, List.forall_mem_nil]; simp [zaf, Wk.refl]) rfl (fun _ _ _ => rfl) trivial (fun hHs hLt i hin hio R3 hR3 => ?_)
     clear hHs hLt
     repeat apply zaa
     refine zl5 ?_
     simp only [push_cast, seval]
     repeat apply zaa
     refine zae ?_
     simp only [push_cast, seval]
     refine ⟨fun h4 => ?_, fun h4 => ?_⟩
     ·have hil : i < (vaa x).length := by omega
      obtain ⟨t, ht⟩ := zaE hil
      obtain ⟨htn, htb⟩ := htr t (zas ht)
      have hwi := w1 i (by omega)
      have hst := vap (x := x) (k := n) (l := l) ht
      have hsl := vav x ((vaa x).take i) n l
      have hsl2 : ((vaa x).take i).length ≤ i := by rw [List.length_take]; omega
      have hws := w1 (vai x ((vaa x).take i) n l) (by omega)
      repeat apply zaa
      refine zah ?_
      simp only [push_cast, seval]
      repeat apply zaa
      refine zag ?_
      repeat apply zaa
      refine zaT F.mixed 7 (by kernel_rfl) ?_
      simp only [push_cast, seval, zlB ht, zaz hil]
      refine zl6 ((f58_c (x := x) hx hnl hll2 (by omega) htb ?_))
      try simp only [push_cast, seval]
      repeat apply zaa
      refine zae ?_
      simp only [push_cast, seval]
      refine ⟨fun h5 => ?_, fun h5 => ?_⟩
      ·rw [if_pos (by simpa using h5)] at hst
       repeat apply zaa
       refine zl5 ?_
       simp only [push_cast, seval, hws]
       repeat apply zaa
       refine zl5 ?_
       simp only [push_cast, seval, hwi]
       refine hR3 _ ⟨hil, trivial, ?_⟩
       rw [hst]
       exact (zax (zam rfl rfl) (by simp only [push_cast, seval]; simp [zaf, Wk.refl]))
      ·rw [if_neg (by simpa using h5), Nat.add_zero] at hst
       repeat apply zaa
       refine zah ?_
       simp only [push_cast, seval]
       repeat apply zaa
       refine zl5 ?_
       simp only [push_cast, seval, hwi]
       refine hR3 _ ⟨hil, trivial, ?_⟩
       rw [hst]
       exact (zax (zam rfl rfl) (by simp only [push_cast, seval]; simp [zaf, Wk.refl]))
     ·have hix : i = (vaa x).length := by omega
      subst hix
      clear hR3
      rw [List.take_length]
      repeat apply zaa
      refine zaq ?_
      simp only [push_cast, seval]
      repeat apply zaa
      refine zl5 ?_
      simp only [push_cast, seval]
      refine zl6 ((f32_k (x := x) (hmn _) hx hnl hll2 ?_))
      try simp only [push_cast, seval]
      have hl2 : (((vaa x).length : Int) == 0) = false := by
       have : ¬ ((vaa x).length : Int) = 0 := by omega
       simpa using this
      repeat apply zaa
      refine vak (by kernel_rfl) ?_
      simp only [push_cast, seval, hE, hl1, hl2, if_neg hD, decide_true, decide_false, bne_self_eq_false, beq_self_eq_true, Int.reduceBEq, Int.reduceBNe]
      refine zl6 ((f71_c ?_))
      try simp only [push_cast, seval, bne_self_eq_false]
      repeat apply zaa
      refine zae ?_
      simp only [push_cast, seval]
      repeat apply zaa
      refine zah ?_
      simp only [push_cast, seval]
      repeat apply zaa
      refine zl5 ?_
      simp only [push_cast, seval, hwl]
      refine hR2 _ ⟨hll2, trivial, ?_⟩
      exact (zax (zam rfl rfl) (by simp only [push_cast, seval]; simp [zaf, Wk.refl]))
    ·have hlx : l = x.locks.length := by omega
     subst hlx
     clear hR2
     repeat apply zaa
     refine zaq ?_
     simp only [push_cast, seval]
     repeat apply zaa
     refine zl5 ?_
     simp only [push_cast, seval, hwn]
     refine hR _ ⟨hnl, trivial, ?_⟩
     have hHs := hHs0
     exact (by first | exact zaS (zam rfl rfl) (by simp only [push_cast, seval]; simp [zaf, Wk.refl]) hHs (by simp [zap]) | exact zat (zam rfl rfl) (by simp only [push_cast, seval]; simp [zaf, Wk.refl]) hHs (by simp [zap]))
 ·have hnx : n = x.keys.length := by omega
  subst hnx
  clear hR
  repeat apply zaa
  refine zaq ?_
  simp only [push_cast, seval]
  repeat apply zaa
  refine zl5 ?_
  simp only [push_cast, seval]
  refine zl6 ((f25_c (hmn _) ?_))
  try simp only [push_cast, seval]
  repeat apply zaa
  refine zai ?_
  simp only [push_cast, seval]
  exact endA hH (Wk.refl _) (by simp [zap]) hk
end
end Go.Gg
namespace Go.Proofs.YtoaaoiipickclaaGreat
open Go.Conc Go.Proofs Go.Gg
theorem vaM : Tryz.prog.funcNamed Rows.keyAllRow.func = some 16 := by kernel_rfl
theorem vaI : joinedFacts Tryz.prog 16 Tryz.f16 Rows.keyAllSpec Rows.keyAllRow = true :=
 zkH (by kernel_rfl) Tz.laidOut (by kernel_rfl) (by kernel_rfl) (by kernel_rfl) (by kernel_rfl) (by kernel_rfl) (by kernel_rfl) (by kernel_rfl) (by kernel_rfl) (by kernel_rfl) (by kernel_rfl) (by kernel_rfl) (by kernel_rfl) (by kernel_rfl) (by kernel_rfl) (by kernel_rfl) (by kernel_rfl) (by kernel_rfl) (by kernel_rfl) (by kernel_rfl) (by kernel_rfl) (by kernel_rfl) (by kernel_rfl) (by kernel_rfl) Tz.mayEnter (zkB (by kernel_rfl)) (make_of' (by kernel_rfl)) (by kernel_rfl) (by kernel_rfl) (by kernel_rfl) (by kernel_rfl) (by kernel_rfl)
theorem vaN : Tryz.f16.isInstance Tryz.prog Rows.keyAllRow.origin Rows.keyAllRow.targs := of_decide_eq_true (by kernel_rfl)
theorem vaP : Tryz.f16.isWrapper Tryz.prog Rows.keyAllRow.wrapper Rows.keyAllRow.mainSum := by unfold Func.isWrapper; first | (rw [if_pos (by decide +kernel)]; kernel_rfl) | (rw [if_neg (by decide +kernel)]; exact ⟨rfl, rfl⟩)
theorem var (os : Os) (started : os.Started) (H : Type) (enc : TypeId × Value → H) :
  ReturnsInLeavingWide {} Tryz.checked os 16 .any (Rows.keyAllSpec.pre6 enc Tryz.prog Tryz.f16 Rows.keyAllRow.domain false) (Rows.keyAllSpec.post enc Tryz.prog Tryz.f16 false true false false) :=
 zhC (f := 16) (fn := Tryz.f16) (s := Rows.keyAllSpec) Tryz.func16 rfl rfl rfl (fun _ _ => rfl) (by kernel_rfl) (fun nums hn => f16_c rfl hn rfl) os started H enc
  (ChangeSpec.witness6 (enc := enc) (C := Tryz.checked) false ⟨#[], #[.slice none 0 0], []⟩ 8 (by kernel_rfl) (by kernel_rfl) (by kernel_rfl) (by kernel_rfl))
theorem keyAll_holds : Rows.KeyAllSaid :=
 OpenClaim.holds_of_wide_leaving 16 Tryz.f16 rfl rfl rfl rfl rfl rfl rfl ⟨rfl, rfl, rfl, rfl, rfl⟩ rfl rfl rfl rfl rfl vaM Tryz.func16 vaI vaN vaP
  (fun os started H enc _ => var os started H enc)
end Go.Proofs.YtoaaoiipickclaaGreat
