/- The law KeyAlike answers true at every list of numbers, on every schedule. No condition. -/
import Derived.Test.YtoaaoiipickclaaGreatR05
set_option linter.all false
namespace Go.Gg
open Go.Conc Go.Proofs
theorem F.AppOf_50_50 : AppOf Tryz.prog 50 50 = (some (52, (2, (.agg #[(.int .i64 0), (.bool false)])))) := by kernel_rfl
theorem F.ElemOf_155 : ElemOf Tryz.prog 155 = (some (3, (1, false))) := by kernel_rfl
theorem F.IdxOf_155 : IdxOf Tryz.prog 155 = (some ((some 3), 1)) := by kernel_rfl
theorem F.Ty_155 : Ty Tryz.prog 155 = (some (3, true)) := by kernel_rfl
theorem F.ZeroOf_155 : ZeroOf Tryz.prog 155 = (some (.agg #[(.bool false), (.bool false), (.bool false)])) := by kernel_rfl
theorem F.f10 : Tryz.prog.funcs[10]? = some Tryz.f10 := by kernel_rfl
theorem F.f12 : Tryz.prog.funcs[12]? = some Tryz.f12 := by kernel_rfl
theorem F.f59 : Tryz.prog.funcs[59]? = some Tryz.f59 := by kernel_rfl
theorem F.f61 : Tryz.prog.funcs[61]? = some Tryz.f61 := by kernel_rfl
theorem F.f65 : Tryz.prog.funcs[65]? = some Tryz.f65 := by kernel_rfl
theorem F.f69 : Tryz.prog.funcs[69]? = some Tryz.f69 := by kernel_rfl
theorem F.f71 : Tryz.prog.funcs[71]? = some Tryz.f71 := by kernel_rfl
attribute [push_cast] F.AppOf_50_50 F.ElemOf_155 F.IdxOf_155 F.Ty_155 F.ZeroOf_155
section
variable {lv : Bool} {H : List AObj} {k kp : AV → List AObj → Prop} {Gf : TinS → List AObj} {t N : Nat} {τ : TinS} {b : Int}
theorem f49_o {K L T : Nat} {wr : Bool} (hT : TinAt Gf t N) (hτ : τ.Ok b) (hb : b < 2 ^ 30) (hK : 1 ≤ K ∧ K ≤ 4) (hL : L ≤ 4) (hTn : T ≤ 6)
  (hk : ∀ x ws τ', RingP K L T wr x ws → τ'.Ok (b + 1000) → k (.tup [.agg [iv x.cuts, aKeys x.keys, .sl x.locks.length (x.locks.map aBands) (.opn (N + 3)), aTries x.tries], aInts ws]) (Gf τ' ++ roE N x.cuts x.keys x.locks x.tries)) : FnC lv Tryz.prog 49 (Gf τ) [.op t 0, iv K, iv L, iv T, bv wr] k kp :=
 f49_g hT hτ hb hK hL hTn fun x ws τ' hP hto _ hwl => ⟨_, zdC (zhX (.cons (Wk.refl _) (.cons (zaK _ _ _) (.cons (Wk.refl _) (.cons (zaK _ _ _) .nil))))) (by rw [← hwl]; exact zaK _ _ _), .inl (hk x ws τ' hP hto)⟩
end
def subsetsM (n : Nat) : Nat → Nat → List (List Int)
 | 0, _ => [[]]
 | k + 1, first => (List.range' first (n - k - first)).flatMap fun i => (subsetsM n k (i + 1)).map ((i : Int) :: ·)
def choicesM (n : Nat) : List (List Int) := (List.range (n + 1)).flatMap fun k => subsetsM n k 0
def butM (x : Ring) (but : List Int) : Nat → List Try
 | 0 => []
 | i + 1 => butM x but i ++ (match x.tries[i]? with | some r => if but.contains (i : Int) then [] else [r] | none => [])
def withoutR (x : Ring) (but : List Int) : Ring := ⟨x.cuts, x.keys, x.locks, butM x but x.tries.length⟩
def okAll (x : Ring) (row : List Int) (ts : List Try) : Bool := ts.all (triedM x row)
open Go.Conc Go.Proofs
section
variable {lv : Bool} {H : List AObj} {k kp : AV → List AObj → Prop}
end
section
variable {lv : Bool} {H : List AObj} {k kp : AV → List AObj → Prop}
end
open Go.Conc Go.Proofs
def outJ (n kk first j : Nat) : List (List Int) := (List.range' first j).flatMap fun i => (subsetsM n kk (i + 1)).map ((i : Int) :: ·)
theorem zlW {l : List AV} {a b : AV} (h : Wk a b) : Wks (l ++ [a]) (l ++ [b]) := by
 induction l with
 | nil => exact .cons h .nil
 | cons x l ih => exact .cons (Wk.refl _) ih
theorem zlZ (n m k : Nat) (bs : List (List Int)) : Lt n (.sl m (bs.map aInts) (.opn k)) = (k < n) := by
 rw [zdq, eq_iff_iff];refine ⟨fun h => h.1, fun h => ⟨h, fun a ha => ?_⟩⟩;have := zlv n bs;rw [aRows, za3] at this;exact this.mpr trivial a ha
theorem zs1 : zeroRow (Value.slice none 0 0) 1 = [.sl 0 [] .exact] := rfl
theorem zlC {α β : Type} {xs : List α} {i : Nat} {x : α} (f : α → β) (h : xs[i]? = some x) : (xs.take (i + 1)).map f = (xs.take i).map f ++ [f x] := by
 obtain ⟨hj, rfl⟩ := List.getElem?_eq_some_iff.1 h;rw [List.take_succ_eq_append_getElem hj, List.map_append]; rfl
theorem zlX {H : List AObj} (hH : HOk H) (n sz : Nat) (el : TypeId) : HOk (H ++ [.tail n sz el]) := zc6 hH fun z hz m => by rw [List.mem_singleton.1 hz]; trivial
section
variable {lv : Bool}
end
open Go.Conc Go.Proofs
def choicesTo (n j : Nat) : List (List Int) := (List.range j).flatMap fun k => subsetsM n k 0
section
variable {lv : Bool} {H : List AObj} {k kp : AV → List AObj → Prop}
end
open Go.Conc Go.Proofs
def listsM (n : Nat) : Nat → List (List Int)
 | 0 => [[]]
 | k + 1 => (List.range n).flatMap fun i : Nat => (listsM n k).map ((i : Int) :: ·)
def listJ (n kk j : Nat) : List (List Int) := (List.range j).flatMap fun i : Nat => (listsM n kk).map ((i : Int) :: ·)
theorem zlA (n kk j : Nat) : listJ n kk (j + 1) = listJ n kk j ++ (listsM n kk).map ((j : Int) :: ·) := by
 unfold listJ;rw [List.range_succ, List.flatMap_append]; simp
theorem zeh : ∀ n, n ≤ 4 → ∀ k, k ≤ 4 → (listsM n k).length ≤ 256 ∧ ∀ r ∈ listsM n k, r.length = k ∧ ∀ i ∈ r, 0 ≤ i ∧ i < n := by decide +kernel
theorem zlF (n kk : Nat) (h : (listsM n kk).length ≤ 256) : ∀ j, (listJ n kk j).length ≤ 256 * j
 | 0 => by simp [listJ]
 | j + 1 => by
  have h1 := zlF n kk h j;rw [zlA, List.length_append, List.length_map]; omega
section
variable {lv : Bool}
theorem f63_c : ∀ (kk : Nat) {n : Nat} {H : List AObj} {k kp : AV → List AObj → Prop}, n ≤ 4 → kk ≤ 4 → k (aRows (listsM n kk)) H → FnC lv Tryz.prog 63 H [iv n, iv kk] k kp
 | 0, n, H, k, kp, hn, hkk, hk => by
  refine zak (rs := [.tmp 4]) (nt := 38) F.f63 rfl rfl rfl (by simp) fun hH hA => ?_;simp only [argsT, Nat.reduceAdd];(repeat apply zaa);refine zl5 ?_;simp only [push_cast, seval];(repeat apply zaa);refine zl5 ?_;simp only [push_cast, seval, beq_self_eq_true];(repeat apply zaa);refine zae ?_;simp only [push_cast, seval];(repeat apply zaa);refine zl5 ?_;simp only [push_cast, seval, zs1, zhq];(repeat apply zaa);refine zai ?_;simp only [push_cast, seval];exact zaJ (b := aRows [[]]) (H' := H) (G := []) (wk_sl (.cons (zaK _ _ _) .nil)) (by simp) (Nat.le_refl _) hH (by rw [zlv]; trivial) hk
 | kk + 1, n, H, k, kp, hn, hkk, hk => by
  refine zak (rs := [.tmp 4]) (nt := 38) F.f63 rfl rfl rfl (by simp) fun hH hA => ?_;simp only [argsT, Nat.reduceAdd];have hz : (((kk : Int) + 1) == 0) = false := by simp; omega
  have hw3 : IntKind.i64.wrap ((kk : Int) + 1 - 1) = kk := by rw [zau _ (by omega)]; omega
  (repeat apply zaa);refine zl5 ?_;simp only [push_cast, seval];(repeat apply zaa);refine zl5 ?_;simp only [push_cast, seval, hz];(repeat apply zaa);refine zae ?_;simp only [push_cast, seval];(repeat apply zaa);refine zah ?_;simp only [push_cast, seval];(repeat apply zaa);refine zl5 ?_;simp only [push_cast, seval]
  (repeat apply zaa); refine zbV (t := 5) (sz := 1) (el := 30) (by simp only [push_cast, seval] <;> rfl) ?_
  (repeat apply zaa);refine zl5 ?_;simp only [push_cast, seval, hw3];refine zl6 ((f63_c kk hn (by omega) ?_));(try simp only [push_cast, seval, aRows]);have hfa := zeh n hn kk (by omega);have hlen := zlF n kk hfa.1;have hsuc := zlA n kk;have hall : listJ n kk n = listsM n (kk + 1) := rfl;generalize listsM n kk = l at hfa hsuc ⊢;obtain ⟨hl20, hlr⟩ := hfa;(repeat apply zaa);refine zl5 ?_;simp only [push_cast, seval];(repeat apply zaa);refine zag ?_;refine zaB n (fun j : Nat => [(5, .sl (listJ n kk j).length ((listJ n kk j).map aInts) (.opn H.length)), (7, iv j)]) (fun j => H ++ [.tail (listJ n kk j).length 1 30]) (fun i => True) (fun _ _ => rfl) (by simp only [push_cast, seval, List.forall_mem_cons, List.not_mem_nil, false_imp_iff, implies_true, List.forall_mem_nil]; simp [zaf, Wk.refl]; exact Wk.refl _) rfl (fun _ _ _ => by simp) trivial (fun hHs hLt j hjn hj R hR => ?_);clear hHs hLt;(repeat apply zaa);refine zl5 ?_;simp only [push_cast, seval];(repeat apply zaa);refine zae ?_;simp only [push_cast, seval];refine ⟨fun h => ?_, fun h => ?_⟩
  ·have hjl : j < n := (by omega);have hw2 : IntKind.i64.wrap ((j : Int) + 1) = j + 1 := zau _ (by omega);have hsucc := hsuc j;have hll := hlen j;generalize listJ n kk j = o at hsucc hll hR ⊢;(repeat apply zaa);refine zah ?_;simp only [push_cast, seval];(repeat apply zaa);refine zag ?_;(repeat apply zaa);refine zl5 ?_;simp only [push_cast, seval];(repeat apply zaa);refine zag ?_;refine zaB l.length (fun x : Nat => [(5, .sl (o.length + x) ((o ++ (l.take x).map ((j : Int) :: ·)).map aInts) (.opn H.length)), (8, iv x)]) (fun x => H ++ [.tail (o.length + x) 1 30]) (fun i => True) (fun _ _ => rfl) (by simp only [push_cast, seval, List.forall_mem_cons, List.not_mem_nil, false_imp_iff, implies_true, List.forall_mem_nil]; simp [zaf, Wk.refl]) (by simp) (fun _ _ _ => by simp) trivial (fun hHs hLt x hxn hx R2 hR2 => ?_);clear hHs hLt;(repeat apply zaa);refine zl5 ?_;simp only [push_cast, seval];(repeat apply zaa);refine zae ?_;simp only [push_cast, seval];refine ⟨fun h2 => ?_, fun h2 => ?_⟩
   ·have hxl : x < l.length := (by omega);obtain ⟨r, hr⟩ := zaE hxl;have hrl := (hlr r (zas hr)).1;have hw4 : IntKind.i64.wrap ((x : Int) + 1) = x + 1 := zau _ (by omega);have hol : ((o ++ (l.take x).map ((j : Int) :: ·)).map aInts).length = o.length + x := (by simp; omega);have hnx : (o ++ (l.take (x + 1)).map ((j : Int) :: ·)).map aInts = (o ++ (l.take x).map ((j : Int) :: ·)).map aInts ++ [aInts ((j : Int) :: r)] := by
     rw [zlC _ hr, ← List.append_assoc, List.map_append]; rfl
    have hri : (r.map iv).length = r.length := List.length_map ..;(repeat apply zaa);refine zah ?_;simp only [push_cast, seval];(repeat apply zaa);refine zag ?_;(repeat apply zaa);refine zl5 ?_;simp only [push_cast, seval, z1, zs1, zhq, zlB hr, zaz hxl, hol, hri, aInts]
    first | refine ⟨by omega, by simp; omega, by omega, ?_⟩ | refine ⟨by omega, by omega, ?_⟩
    (repeat apply zaa);refine zl5 ?_;simp only [push_cast, seval, hw4];refine hR2 _ ⟨hxl, trivial, ?_⟩;rw [hnx];refine zce [.tail (1 + r.length) 1 3] (zam rfl rfl) ?_ (zlX hH _ _ _) ?_ (by simp [Nat.add_assoc])
    ·(try simp only [push_cast, seval]);exact ⟨⟨_, rfl, have h := zlW (l := (o ++ (l.take x).map ((j : Int) :: ·)).map aInts) (show Wk (.sl (1 + r.length) (iv (j : Int) :: r.map iv) (.opn (H.length + 1))) (aInts ((j : Int) :: r)) by rw [aInts, Nat.add_comm]; exact zaK _ _ _); zeg h.len h.at⟩, _, rfl, Wk.refl _⟩
    ·rw [← hnx];simp only [List.forall_mem_cons, zap, zlZ, iv]; simp
   ·have hxx : x = l.length := (by omega);subst hxx;(repeat apply zaa);refine zaq ?_;simp only [push_cast, seval];(repeat apply zaa);refine zl5 ?_;simp only [push_cast, seval, hw2];refine hR _ ⟨hjl, trivial, ?_⟩;rw [hsucc];simp only [List.take_length, List.length_append, List.length_map];exact (zax (zam rfl rfl) (by simp only [push_cast, seval]; simp [zaf, Wk.refl]))
  ·have hjx : j = n := (by omega);subst hjx;(repeat apply zaa);refine zaq ?_;simp only [push_cast, seval];(repeat apply zaa);refine zl5 ?_;simp only [push_cast, seval];(repeat apply zaa);refine zai ?_;simp only [push_cast, seval];rw [hall];exact endA (b := aRows (listsM j (kk + 1))) hH (zaK _ _ _) (by rw [zlv]; trivial) hk
end
section
variable {lv : Bool} {H : List AObj} {k kp : AV → List AObj → Prop}
theorem f58_c {x : Ring} {t : List Int} {e : End} {kn ln : Nat} (hx : x.Ok) (hkn : kn < x.keys.length) (hln : ln < x.locks.length) (htl : x.keys.length ≤ t.length) (htb : ∀ w ∈ t, 0 ≤ w ∧ w ≤ 2) (hk : k (bv (opensW x.keys t x.locks kn ln)) H) : FnC lv Tryz.prog 58 H [x.av, .sl t.length (t.map iv) e, iv kn, iv ln] k kp := by
 refine zak (rs := [.tmp 8]) (nt := 26) F.f58 rfl rfl rfl (by simp) fun hH hA => ?_;simp only [argsT, Nat.reduceAdd, Ring.av, Ring.l];obtain ⟨y, hy⟩ := zaE hkn;obtain ⟨l, hl⟩ := zaE hln;obtain ⟨w, hw⟩ := zaE (xs := t) (i := kn) (by omega);obtain ⟨hyc, hyb, hyw⟩ := hx.key y (zas hy);obtain ⟨hlc, hlb⟩ := hx.lock l (zas hl);obtain ⟨hw0, hw2⟩ := htb w (zas hw);have hc := hx.cuts;have hdl : (wornM w y.cuts).length = y.cuts.length := by simp [wornM]
 have how : opensW x.keys t x.locks kn ln = fitsM (wornM w y.cuts) l := by
  unfold opensW;simp only [Int.toNat_natCast, List.getD_eq_getElem?_getD, hy, hw, hl, Option.map_some, Option.getD_some]
 rw [how] at hk;(repeat apply zaa);refine zl5 ?_;simp only [push_cast, seval];(repeat apply zaa);refine zaT F.mixed 16 (by kernel_rfl) ?_;simp only [push_cast, seval, zc2 hy, zaz hkn, za2 hw, zaz (get_lt hw), zfu hl, zaz hln, aKeys, aLocks];refine qCall _ (zad (by kernel_rfl) (f78_c hyb ⟨by omega, by omega⟩ (by omega) ⟨rfl, rfl⟩)) ?_;refine zl6 ((f64_c (by omega) (by omega) ?_));(try simp only [push_cast, seval]);(repeat apply zaa);refine zai ?_;simp only [push_cast, seval];exact endA hH (Wk.refl _) (by simp [zap]) hk
end
open Go.Conc Go.Proofs
def wearOk (x : Ring) (t : List Int) : Nat → Bool
 | 0 => true
 | k + 1 => wearOk x t k && (match x.keys[k]?, t[k]? with | some y, some w => decide (y.wear.min ≤ w) && decide (w ≤ y.wear.max) | _, _ => true)
def triesOk (x : Ring) (t : List Int) : Nat → Bool
 | 0 => true
 | i + 1 => triesOk x t i && (match x.tries[i]? with | some r => opensW x.keys t x.locks r.key r.lock == r.opens | none => true)
def fineW (x : Ring) (t : List Int) : Bool := wearOk x t x.keys.length && triesOk x t x.tries.length
def truthsL (x : Ring) : List (List Int) := (listsM 3 x.keys.length).filter (fineW x)
theorem zlS (t : List Int) : (aInts t).parts = some [aInts t] := rfl
theorem zgv {x : Ring} {t : List Int} {k : Nat} {y : Key} {w : Int} (hy : x.keys[k]? = some y) (hw : t[k]? = some w) : wearOk x t (k + 1) = (wearOk x t k && (decide (y.wear.min ≤ w) && decide (w ≤ y.wear.max))) := by rw [wearOk, hy, hw]
theorem zf9 {x : Ring} {t : List Int} {i : Nat} {r : Try} (hr : x.tries[i]? = some r) : triesOk x t (i + 1) = (triesOk x t i && (opensW x.keys t x.locks r.key r.lock == r.opens)) := by rw [triesOk, hr]
section
variable {lv : Bool} {H : List AObj} {k kp : AV → List AObj → Prop}
theorem f57_c {x : Ring} (hx : x.Ok) (hk : k (aRows (truthsL x)) H) : FnC lv Tryz.prog 57 H [x.av] k kp := by
 refine zak (rs := [.tmp 2]) (nt := 105) F.f57 rfl rfl rfl (by simp) fun hH hA => ?_;simp only [argsT, Nat.reduceAdd, Ring.av, Ring.l];have hkl := hx.keys;have htl := hx.tries;(repeat apply zaa);refine zl5 ?_;simp only [push_cast, seval];(repeat apply zaa);refine zl5 ?_;simp only [push_cast, seval]
 (repeat apply zaa); refine zbV (t := 3) (sz := 1) (el := 30) (by simp only [push_cast, seval] <;> rfl) ?_
 (try simp only [push_cast, seval]);(repeat apply zaa);refine zl5 ?_;simp only [push_cast, seval, aKeys];refine zl6 ((f63_c x.keys.length (n := 3) (by omega) hkl ?_));(try simp only [push_cast, seval, aRows]);have hfa := zeh 3 (by omega) x.keys.length hkl;have hfin : ((listsM 3 x.keys.length).filter (fineW x)) = truthsL x := rfl;generalize listsM 3 x.keys.length = L at hfa hfin ⊢;obtain ⟨hL, hLr⟩ := hfa;(repeat apply zaa);refine zl5 ?_;simp only [push_cast, seval];(repeat apply zaa);refine zag ?_;have hfl : ∀ i, ((L.take i).filter (fineW x)).length ≤ 256 := fun i => by
  have h1 := List.length_filter_le (fineW x) (L.take i);have h2 := List.length_take_le i L;have h3 : (L.take i).length ≤ L.length := by rw [List.length_take]; omega
  omega
 refine zaB L.length (fun i : Nat => [(3, .sl ((L.take i).filter (fineW x)).length (((L.take i).filter (fineW x)).map aInts) (.opn (H.length + 1))), (5, iv i)]) (fun i => H ++ [.cells [iv x.cuts, aKeys x.keys, aLocks x.locks, aTries x.tries] 26, .tail ((L.take i).filter (fineW x)).length 1 30]) (fun i => True) (fun _ _ => rfl) (by simp only [push_cast, seval, List.forall_mem_cons, List.not_mem_nil, false_imp_iff, implies_true, List.forall_mem_nil]; simp [zaf, Wk.refl]; try exact Wk.refl _) rfl (fun _ _ _ => by simp) trivial (fun hHs hLt i hin hi R hR => ?_);clear hHs hLt;(repeat apply zaa);refine zl5 ?_;simp only [push_cast, seval];(repeat apply zaa);refine zae ?_;simp only [push_cast, seval];refine ⟨fun h => ?_, fun h => ?_⟩
 ·have hil : i < L.length := by omega
  obtain ⟨t, ht⟩ := zaE hil;obtain ⟨htn, htb⟩ := hLr t (zas ht);have hw1 : IntKind.i64.wrap ((i : Int) + 1) = i + 1 := zau _ (by omega);have hfs : (L.take (i + 1)).filter (fineW x) = (L.take i).filter (fineW x) ++ (if fineW x t then [t] else []) := by
   obtain ⟨hj, hle⟩ := List.getElem?_eq_some_iff.1 ht;rw [List.take_succ_eq_append_getElem hj, hle, List.filter_append];congr 1;cases hf : fineW x t <;> simp [hf]
  have hfi := hfl i;generalize (L.take i).filter (fineW x) = o at hfs hfi hR ⊢;(repeat apply zaa);refine zah ?_;simp only [push_cast, seval];(repeat apply zaa);refine zag ?_;(repeat apply zaa);refine zl5 ?_;simp only [push_cast, seval];(repeat apply zaa);refine zl5 ?_;simp only [push_cast, seval];(repeat apply zaa);refine zag ?_;refine zaB x.keys.length (fun j : Nat => [(6, bv (wearOk x t j)), (7, iv j)]) (fun _ => _) (fun j => True) (fun _ _ => rfl) (by simp only [push_cast, seval, List.forall_mem_cons, List.not_mem_nil, false_imp_iff, implies_true, List.forall_mem_nil]; simp [zaf, Wk.refl]; try exact Wk.refl _) rfl (fun _ _ _ => rfl) trivial (fun hHs hLt j hjn hj R2 hR2 => ?_);clear hHs hLt;(repeat apply zaa);refine zl5 ?_;simp only [push_cast, seval, aKeys];(repeat apply zaa);refine zae ?_;simp only [push_cast, seval];refine ⟨fun h2 => ?_, fun h2 => ?_⟩
  ·have hjl : j < x.keys.length := (by omega);obtain ⟨y, hy⟩ := zaE hjl;obtain ⟨w, hw⟩ := zaE (xs := t) (i := j) (by omega);have hsucc := zgv hy hw;have hw2 : IntKind.i64.wrap ((j : Int) + 1) = j + 1 := zau _ (by omega);(repeat apply zaa);refine zah ?_;simp only [push_cast, seval];(repeat apply zaa);refine zag ?_;cases hb : wearOk x t j with
   | false =>
    (repeat apply zaa);refine zaT F.mixed 33 (by kernel_rfl) ?_;simp only [push_cast, seval, aKeys, aInts, zlB ht, zaz hil, za2 hw, zaz (get_lt hw), zc2 hy, zaz hjl, hb];rw [hsucc, hb] at hR2;(repeat apply zaa);refine zl5 ?_;simp only [push_cast, seval, hw2];refine hR2 _ ⟨hjl, trivial, ?_⟩;simp only [Bool.false_and];exact (zax (zam rfl rfl) (by simp only [push_cast, seval]; simp [zaf, Wk.refl]))
   | true =>
    (repeat apply zaa);refine zaT F.mixed 33 (by kernel_rfl) ?_;simp only [push_cast, seval, aKeys, aInts, zlB ht, zaz hil, za2 hw, zaz (get_lt hw), zc2 hy, zaz hjl, hb];rw [hsucc, hb] at hR2;refine guardI (fun h3 => ?_) (fun h3 => ?_)
    ·have h3 : y.wear.min ≤ w := (by simpa using h3);(try simp only [push_cast, seval, aKeys, aInts, zlB ht, zaz hil, za2 hw, zaz (get_lt hw), zc2 hy, zaz hjl, hb]);(repeat apply zaa);refine zl5 ?_;simp only [push_cast, seval, hw2];refine hR2 _ ⟨hjl, trivial, ?_⟩;rw [decide_eq_true h3];simp only [Bool.true_and];exact (zax (zam rfl rfl) (by simp only [push_cast, seval]; simp [zaf, Wk.refl]))
    ·have h3 : ¬ y.wear.min ≤ w := (by simpa using h3);(try simp only [push_cast, seval, aKeys, aInts, zlB ht, zaz hil, za2 hw, zaz (get_lt hw), zc2 hy, zaz hjl, hb]);(repeat apply zaa);refine zl5 ?_;simp only [push_cast, seval, hw2];refine hR2 _ ⟨hjl, trivial, ?_⟩;rw [decide_eq_false h3];simp only [Bool.true_and, Bool.false_and];exact (zax (zam rfl rfl) (by simp only [push_cast, seval]; simp [zaf, Wk.refl]))
  ·have hjx : j = x.keys.length := (by omega);subst hjx;clear hR2;(repeat apply zaa);refine zaq ?_;simp only [push_cast, seval];(repeat apply zaa);refine zl5 ?_;simp only [push_cast, seval];(repeat apply zaa);refine zag ?_;refine zaB x.tries.length (fun j : Nat => [(6, bv (wearOk x t x.keys.length && triesOk x t j)), (8, iv j)]) (fun _ => _) (fun j => True) (fun _ _ => rfl) (by simp only [triesOk, Bool.and_true]; simp only [push_cast, seval, List.forall_mem_cons, List.not_mem_nil, false_imp_iff, implies_true, List.forall_mem_nil]; simp [zaf, Wk.refl]; try exact Wk.refl _) rfl (fun _ _ _ => rfl) trivial (fun hHs hLt j hjn hj R2 hR2 => ?_);clear hHs hLt;(repeat apply zaa);refine zl5 ?_;simp only [push_cast, seval, aTries];(repeat apply zaa);refine zae ?_;simp only [push_cast, seval];refine ⟨fun h2 => ?_, fun h2 => ?_⟩
   ·have hjl : j < x.tries.length := (by omega);obtain ⟨r, hr⟩ := zaE hjl;obtain ⟨⟨hrk0, hrk⟩, hrl0, hrl⟩ := hx.tried r (zas hr);have hsucc := zf9 (t := t) hr;have hw2 : IntKind.i64.wrap ((j : Int) + 1) = j + 1 := zau _ (by omega);rw [hsucc, ← Bool.and_assoc] at hR2;obtain ⟨rk, rl, ro⟩ := r;simp only at hrk0 hrk hrl0 hrl hR2;obtain ⟨rk, rfl⟩ : ∃ m : Nat, rk = m := ⟨rk.toNat, by omega⟩;obtain ⟨rl, rfl⟩ : ∃ m : Nat, rl = m := ⟨rl.toNat, by omega⟩;(repeat apply zaa);refine zah ?_;simp only [push_cast, seval];(repeat apply zaa);refine zag ?_;cases hb : (wearOk x t x.keys.length && triesOk x t j) with
    | false =>
     (repeat apply zaa);refine zaT F.mixed 26 (by kernel_rfl) ?_;simp only [push_cast, seval, aTries, zlB ht, zaz hil, zh6 hr, zaz hjl, hb];rw [hb] at hR2;(repeat apply zaa);refine zl5 ?_;simp only [push_cast, seval, hw2];refine hR2 _ ⟨hjl, trivial, ?_⟩;simp only [Bool.false_and];exact (zax (zam rfl rfl) (by simp only [push_cast, seval]; simp [zaf, Wk.refl]))
    | true =>
     (repeat apply zaa);refine zaT F.mixed 26 (by kernel_rfl) ?_;simp only [push_cast, seval, aTries, zlB ht, zaz hil, zh6 hr, zaz hjl, hb];rw [hb] at hR2;refine qCall (bv (opensW x.keys t x.locks rk rl)) (zad (by kernel_rfl) (f58_c (x := x) hx (by omega) (by omega) (by omega) (fun w hw => by have := htb w hw; omega) ⟨rfl, rfl⟩)) ?_;(try simp only [push_cast, seval, aTries, zlB ht, zaz hil, zh6 hr, zaz hjl, hb]);(repeat apply zaa);refine zl5 ?_;simp only [push_cast, seval, hw2];refine hR2 _ ⟨hjl, trivial, ?_⟩;simp only [Bool.true_and];exact (zax (zam rfl rfl) (by simp only [push_cast, seval]; simp [zaf, Wk.refl]))
   ·have hjx : j = x.tries.length := (by omega);subst hjx;have hff : (wearOk x t x.keys.length && triesOk x t x.tries.length) = fineW x t := rfl;rw [hff];(repeat apply zaa);refine zaq ?_;simp only [push_cast, seval];(repeat apply zaa);refine zl5 ?_;simp only [push_cast, seval];(repeat apply zaa);refine zae ?_;simp only [push_cast, seval];refine ⟨fun h3 => ?_, fun h3 => ?_⟩
    ·have h3 : fineW x t = true := (by simpa using h3);rw [if_pos h3] at hfs;have hol : (o.map aInts).length = o.length := List.length_map ..;(repeat apply zaa);refine zl5 ?_;simp only [push_cast, seval, zs1, zhq, zlB ht, zaz hil, hol, zlS, zkE];refine ⟨by omega, ?_⟩;(repeat apply zaa);refine zl5 ?_;simp only [push_cast, seval, hw1];refine hR _ ⟨hil, trivial, ?_⟩;rw [hfs];simp only [List.length_append, List.map_append];exact (zax (zam rfl rfl) (by simp only [push_cast, seval]; simp [zaf, Wk.refl]))
    ·have h3 : ¬ fineW x t = true := (by simpa using h3);rw [if_neg h3, List.append_nil] at hfs;(repeat apply zaa);refine zah ?_;simp only [push_cast, seval];(repeat apply zaa);refine zl5 ?_;simp only [push_cast, seval, hw1];refine hR _ ⟨hil, trivial, ?_⟩;rw [hfs];exact (zax (zam rfl rfl) (by simp only [push_cast, seval]; simp [zaf, Wk.refl]))
 ·have hix : i = L.length := by omega
  subst hix;(repeat apply zaa);refine zaq ?_;simp only [push_cast, seval];(repeat apply zaa);refine zl5 ?_;simp only [push_cast, seval];(repeat apply zaa);refine zai ?_;simp only [push_cast, seval];rw [List.take_length, hfin];exact endA (b := aRows (truthsL x)) hH (zaK _ _ _) (by rw [zlv]; trivial) hk
end
def rowOk (ks : List Key) (r : List Int) : Bool := (ks.zip r).all fun p => decide (p.1.wear.min ≤ p.2) && decide (p.2 ≤ p.1.wear.max)
theorem zlx (y : Key) (ks : List Key) (w : Int) (r : List Int) : rowOk (y :: ks) (w :: r) = (decide (y.wear.min ≤ w) && decide (w ≤ y.wear.max) && rowOk ks r) := by simp [rowOk]
theorem zlU {lo hi : Int} (h0 : 0 ≤ lo) (h1 : lo ≤ hi) (h2 : hi ≤ 2) {β : Type} (f : Int → List β) : (rangeI lo hi).flatMap f = (List.range 3).flatMap fun i : Nat => if decide (lo ≤ (i : Int)) && decide ((i : Int) ≤ hi) then f i else [] := by
 have hr : List.range 3 = [0, 1, 2] := rfl;have hl : lo = 0 ∨ lo = 1 ∨ lo = 2 := by omega
 have hh : hi = 0 ∨ hi = 1 ∨ hi = 2 := by omega
 rw [hr];rcases hl with rfl | rfl | rfl <;> rcases hh with rfl | rfl | rfl <;> first | omega | (simp [rangeI, List.range_succ])
theorem zli : ∀ (ys : List Key) (pre : List Int) (m : Nat), (∀ y ∈ ys, y.wear.Ok 2) → growM ys pre.length (pre ++ List.replicate (m + ys.length) 0) = ((listsM 3 ys.length).filter (rowOk ys)).map fun r => pre ++ r ++ List.replicate m 0
 | [], pre, m, _ => by simp [growM, listsM, rowOk]
 | y :: ys, pre, m, h => by
  have hy := h y List.mem_cons_self;rw [growM, zlU hy.min hy.le hy.max];show _ = (((List.range 3).flatMap fun i : Nat => (listsM 3 ys.length).map ((i : Int) :: ·)).filter (rowOk (y :: ys))).map _;rw [List.filter_flatMap, List.map_flatMap];congr 1;funext i;have hset : (pre ++ List.replicate (m + (y :: ys).length) 0).set pre.length (i : Int) = (pre ++ [(i : Int)]) ++ List.replicate (m + ys.length) 0 := by
   rw [List.set_append_right _ _ (Nat.le_refl _), Nat.sub_self, List.length_cons, ← Nat.add_assoc, List.replicate_succ, List.set_cons_zero, List.append_assoc]; rfl
  have ih := zli ys (pre ++ [(i : Int)]) m fun z hz => h z (List.mem_cons_of_mem _ hz);rw [List.length_append, List.length_singleton] at ih;rw [hset, ih];cases hc : (decide (y.wear.min ≤ (i : Int)) && decide ((i : Int) ≤ y.wear.max)) with
  | true =>
   rw [if_pos rfl, List.filter_map, List.map_map];have : (rowOk (y :: ys) ∘ fun x => (i : Int) :: x) = rowOk ys := (by funext r; simp only [Function.comp]; rw [zlx, hc, Bool.true_and]);rw [this];congr 1;funext r;simp
  | false =>
   rw [if_neg (by simp), List.filter_map, List.map_map];have : (rowOk (y :: ys) ∘ fun x => (i : Int) :: x) = fun _ => false := (by funext r; simp only [Function.comp]; rw [zlx, hc, Bool.false_and]);rw [this];simp
def padR (n : Nat) (r : List Int) : List Int := r ++ List.replicate (4 - n) 0
theorem zlG {x : Ring} (hx : x.Ok) : wears0 x = ((listsM 3 x.keys.length).filter (rowOk x.keys)).map (padR x.keys.length) := by
 have h4 := hx.keys;have h := zli x.keys [] (4 - x.keys.length) fun y hy => (hx.key y hy).2.2;rw [show 4 - x.keys.length + x.keys.length = 4 by omega] at h;exact h
theorem zlw (x : Ring) (t : List Int) : ∀ k, k ≤ x.keys.length → k ≤ t.length → wearOk x t k = ((x.keys.zip t).take k).all fun p => decide (p.1.wear.min ≤ p.2) && decide (p.2 ≤ p.1.wear.max)
 | 0, _, _ => rfl
 | k + 1, h, h' => by
  obtain ⟨y, hy⟩ := zaE (xs := x.keys) (i := k) (by omega);obtain ⟨w, hw⟩ := zaE (xs := t) (i := k) (by omega);have hz : (x.keys.zip t)[k]? = some (y, w) := by rw [List.getElem?_zip_eq_some]; exact ⟨hy, hw⟩
  rw [zgv hy hw, zlw x t k (by omega) (by omega)];obtain ⟨hj, hle⟩ := List.getElem?_eq_some_iff.1 hz;rw [List.take_succ_eq_append_getElem hj, hle, List.all_append];simp
theorem zlP {x : Ring} {t : List Int} (h : t.length = x.keys.length) : wearOk x t x.keys.length = rowOk x.keys t := by
 rw [zlw x t _ (Nat.le_refl _) (by omega), List.take_of_length_le (by simp [h])]; rfl
theorem ziC (cuts : Int) (ds : List Int) (ls : List (List Band)) (j : Nat) : ∀ i, (openedM cuts ds ls i).testBit j = (decide (j < i) && (match ls[j]? with | some l => fitsM (ds.take cuts.toNat) l | none => false))
 | 0 => by simp [openedM]
 | i + 1 => by
  have ih := ziC cuts ds ls j i;have hlt := zb5 cuts ds ls i;have hhi : (openedM cuts ds ls i).testBit i = false := Nat.testBit_lt_two_pow hlt;unfold openedM;by_cases hji : j = i
  ·subst hji;cases hl : ls[j]? with
   | none => simp [hhi]
   | some l =>
    simp only;split
    ·rename_i hf; simp [Nat.testBit_or, Nat.testBit_two_pow_self, hf]
    ·rename_i hf; simp [hhi, hf]
  ·have hd : decide (j < i + 1) = decide (j < i) := (by congr 1; simp; omega);rw [hd];cases hl : ls[i]? with
   | none => exact ih
   | some l =>
    simp only;split
    ·rw [Nat.testBit_or, ih, Nat.testBit_two_pow_of_ne (Ne.symm hji), Bool.or_false]
    ·exact ih
theorem zf8 {x : Ring} (hx : x.Ok) {t : List Int} (ht : t.length = x.keys.length) (hb : ∀ w ∈ t, 0 ≤ w ∧ w ≤ 2) {k l : Nat} (hk : k < x.keys.length) (hl : l < x.locks.length) : (inTruth x (padR x.keys.length t) k).testBit l = opensW x.keys t x.locks k l := by
 obtain ⟨y, hy⟩ := zaE hk;obtain ⟨lk, hlk⟩ := zaE hl;obtain ⟨w, hw⟩ := zaE (xs := t) (i := k) (by omega);obtain ⟨hyc, hyb, hyw⟩ := hx.key y (zas hy);have hw0 := (hb w (zas hw)).1;have hc := hx.cuts;have hp : (padR x.keys.length t).getD k 0 = w := by
  unfold padR;rw [List.getD_eq_getElem?_getD, List.getElem?_append_left (by omega), hw]; rfl
 have how : opensW x.keys t x.locks k l = fitsM (wornM w y.cuts) lk := by
  unfold opensW;simp only [Int.toNat_natCast, List.getD_eq_getElem?_getD, hy, hw, hlk, Option.map_some, Option.getD_some]
 rw [how];unfold inTruth opensM;rw [hp, hy];simp only;rw [ziC, hlk];have hwn : ((w.toNat : Nat) : Int) = w := by omega
 have htk : (wornM (w.toNat : Nat) (depthsM y.cuts)).take x.cuts.toNat = wornM w y.cuts := by
  rw [hwn];unfold wornM depthsM;rw [List.take_of_length_le (show y.cuts.length ≤ 4 by omega), List.map_append, List.take_append_of_le_length (by simp; omega), List.take_of_length_le (by simp; omega)]
 rw [htk];simp [hl]
open Go.Conc Go.Proofs
def differM (x : Ring) (t keys : List Int) (p q : Nat) : Bool := keys.any fun k => opensW x.keys t x.locks k p != opensW x.keys t x.locks k q
theorem zlK {x : Ring} {t keys : List Int} {p q i : Nat} {k : Int} (h : keys[i]? = some k) : differM x t (keys.take (i + 1)) p q = (differM x t (keys.take i) p q || (opensW x.keys t x.locks k p != opensW x.keys t x.locks k q)) := by
 obtain ⟨hj, rfl⟩ := List.getElem?_eq_some_iff.1 h;unfold differM;rw [List.take_succ_eq_append_getElem hj, List.any_append]; simp
theorem zlM {x : Ring} {t keys : List Int} {p q i : Nat} {k : Int} (h : keys[i]? = some k) (hd : (opensW x.keys t x.locks k p != opensW x.keys t x.locks k q) = true) : differM x t keys p q = true := List.any_eq_true.2 ⟨k, zas h, hd⟩
theorem zlN {x : Ring} (hx : x.Ok) {t : List Int} (ht : t.length = x.keys.length) (hb : ∀ w ∈ t, 0 ≤ w ∧ w ≤ 2) : ∀ i, i ≤ x.tries.length → okTo x [] (padR x.keys.length t) i = triesOk x t i
 | 0, _ => rfl
 | i + 1, h => by
  obtain ⟨r, hr⟩ := zaE (xs := x.tries) (i := i) (by omega);obtain ⟨⟨hk0, hk⟩, hl0, hl⟩ := hx.tried r (zas hr);rw [okTo, zlN hx ht hb i (by omega), zf9 hr, hr];have h1 := zf8 hx ht hb (k := r.key.toNat) (l := r.lock.toNat) (by omega) (by omega);have e1 : ((r.key.toNat : Nat) : Int) = r.key := by omega
  have e2 : ((r.lock.toNat : Nat) : Int) = r.lock := by omega
  rw [e1, e2] at h1;simp only [List.contains_nil, Bool.false_or];unfold triedM;rw [← h1]; rfl
theorem zlO {α : Type} (l : List α) (p : α → Bool) : ((l.zipIdx.filter fun y => p y.1).map (·.1)) = l.filter p := by
 have h := List.filter_map (f := fun y : α × Nat => y.1) (p := p) (l := l.zipIdx);rw [List.zipIdx_map_fst] at h;exact h.symm
theorem zgX {x : Ring} (hx : x.Ok) : (truthsM x []).map (·.1) = (truthsL x).map (padR x.keys.length) := by
 unfold truthsM truthsTo;rw [zlO (wears0 x) fun r => okTo x [] r x.tries.length, zlG hx, List.filter_map, List.filter_filter];congr 1;unfold truthsL;refine List.filter_congr fun t ht => ?_;obtain ⟨h1, h2⟩ := (zeh 3 (by omega) x.keys.length hx.keys).2 t ht;have hb : ∀ w ∈ t, 0 ≤ w ∧ w ≤ 2 := fun w hw => by have := h2 w hw; omega
 simp only [Function.comp];rw [zlN hx h1 hb _ (Nat.le_refl _), fineW, zlP h1, Bool.and_comm]
theorem zlQ {x : Ring} (hx : x.Ok) : (truthsM x []).length = (truthsL x).length := by
 have := congrArg List.length (zgX hx);rwa [List.length_map, List.length_map] at this
theorem zlR {x : Ring} (hx : x.Ok) (f : List Int → Bool) : ((truthsM x []).all fun y => f y.1) = (truthsL x).all fun t => f (padR x.keys.length t) := by
 have h := congrArg (fun l => List.all l f) (zgX hx);simp only [List.all_map] at h;exact h
theorem zhQ {x : Ring} (hx : x.Ok) : ∀ t ∈ truthsL x, t.length = x.keys.length ∧ ∀ w ∈ t, 0 ≤ w ∧ w ≤ 2 := fun t ht => by
 obtain ⟨h1, h2⟩ := (zeh 3 (by omega) x.keys.length hx.keys).2 t (List.mem_filter.1 ht).1;exact ⟨h1, fun w hw => by have := h2 w hw; omega⟩
theorem zlJ {x : Ring} (hx : x.Ok) : (truthsL x).length ≤ 256 := Nat.le_trans (List.length_filter_le _ _) (zeh 3 (by omega) x.keys.length hx.keys).1
section
variable {lv : Bool} {H : List AObj} {k kp : AV → List AObj → Prop}
theorem f60_c {x : Ring} {t keys : List Int} {e e' : End} {p q : Nat} (hx : x.Ok) (htl : x.keys.length ≤ t.length) (htb : ∀ w ∈ t, 0 ≤ w ∧ w ≤ 2) (hks : keys.length < 2 ^ 20) (hkb : ∀ k ∈ keys, 0 ≤ k ∧ k < x.keys.length) (hp : p < x.locks.length) (hq : q < x.locks.length) (hk : k (bv (differM x t keys p q)) H) : FnC lv Tryz.prog 60 H [x.av, .sl t.length (t.map iv) e, .sl keys.length (keys.map iv) e', iv p, iv q] k kp := by
 refine zak (rs := [.tmp 10]) (nt := 35) F.f60 rfl rfl rfl (by simp) fun hH hA => ?_;simp only [argsT, Nat.reduceAdd, Ring.av, Ring.l];(repeat apply zaa);refine zl5 ?_;simp only [push_cast, seval];(repeat apply zaa);refine zl5 ?_;simp only [push_cast, seval];(repeat apply zaa);refine zag ?_;refine zaB keys.length (fun i : Nat => [(11, iv i)]) (fun _ => _) (fun i => differM x t (keys.take i) p q = false) (fun _ _ => rfl) (by simp only [push_cast, seval, List.forall_mem_cons, List.not_mem_nil, false_imp_iff, implies_true, List.forall_mem_nil]; simp [zaf, Wk.refl]) rfl (fun _ _ _ => rfl) (by simp [differM]) (fun hHs hLt i hin hi R hR => ?_);clear hHs hLt;(repeat apply zaa);refine zl5 ?_;simp only [push_cast, seval];(repeat apply zaa);refine zae ?_;simp only [push_cast, seval];refine ⟨fun h => ?_, fun h => ?_⟩
 ·have hil : i < keys.length := by omega
  obtain ⟨kx, hkx⟩ := zaE hil;obtain ⟨hk0, hk1⟩ := hkb kx (zas hkx);have hdt := zlK (x := x) (t := t) (p := p) (q := q) hkx;have hds := zlM (x := x) (t := t) (p := p) (q := q) hkx;obtain ⟨kn, rfl⟩ : ∃ m : Nat, kx = m := ⟨kx.toNat, by omega⟩;have hw1 : IntKind.i64.wrap ((i : Int) + 1) = i + 1 := zau _ (by omega);(repeat apply zaa);refine zah ?_;simp only [push_cast, seval];(repeat apply zaa);refine zag ?_;(repeat apply zaa);refine zaT F.mixed 15 (by kernel_rfl) ?_;simp only [push_cast, seval, za2 hkx, zaz hil];refine qCall (bv (opensW x.keys t x.locks kn p)) (zad (by kernel_rfl) (f58_c (x := x) hx (by omega) hp htl htb ⟨rfl, rfl⟩)) ?_;refine zl6 ((f58_c (x := x) hx (by omega) hq htl htb ?_));(try simp only [push_cast, seval]);(repeat apply zaa);refine zae ?_;simp only [push_cast, seval];refine ⟨fun h3 => ?_, fun h3 => ?_⟩
  ·have h3 : (opensW x.keys t x.locks kn p != opensW x.keys t x.locks kn q) = true := (by simpa using h3);(repeat apply zaa);refine zl5 ?_;simp only [push_cast, seval];(repeat apply zaa);refine zai ?_;simp only [push_cast, seval];rw [hds h3] at hk;exact endA hH (Wk.refl _) (by simp [zap]) hk
  ·have h3 : (opensW x.keys t x.locks kn p != opensW x.keys t x.locks kn q) = false := (by simpa using h3);(repeat apply zaa);refine zah ?_;simp only [push_cast, seval];(repeat apply zaa);refine zl5 ?_;simp only [push_cast, seval, hw1];refine hR _ ⟨hil, by rw [hdt, hi, h3]; rfl, (zax (zam rfl rfl) (by simp only [push_cast, seval]; simp [zaf, Wk.refl]))⟩
 ·have hix : i = keys.length := by omega
  subst hix;rw [List.take_length] at hi;rw [hi] at hk;(repeat apply zaa);refine zaq ?_;simp only [push_cast, seval];(repeat apply zaa);refine zl5 ?_;simp only [push_cast, seval];(repeat apply zaa);refine zai ?_;simp only [push_cast, seval];exact endA hH (Wk.refl _) (by simp [zap]) hk
end
open Go.Conc Go.Proofs
def pairsL (x : Ring) (t keys : List Int) (n : Nat) : Bool := (List.range n).all fun b => (List.range b).all fun a => differM x t keys b a
def tellL (x : Ring) (keys : List Int) : Bool := (truthsL x).all fun t => pairsL x t keys x.locks.length
def TellIs (x : Ring) (g : List Int) (e : Int) : Prop := (truthsM x [] ≠ [] ∧ tellM x = some g ∧ e = 0) ∨ ((truthsM x [] = [] ∨ tellM x = none) ∧ g = [] ∧ e = 11)
section
variable {H : List AObj} {k kp : AV → List AObj → Prop}
end
open Go.Conc Go.Proofs
def bagL (x : Ring) (us : List Turn) (n : Nat) : Bool := (truthsL x).any fun t => us.all fun u => opensW x.keys t x.locks u.key n == u.opens
def dueL (x : Ring) (us : List Turn) (n : Nat) : List Int := ((List.range n).filter (bagL x us)).map fun i : Nat => (i : Int)
def UsOk (x : Ring) (us : List Turn) : Prop := ∀ u ∈ us, 0 ≤ u.key ∧ u.key ≤ (x.keys.length : Int) - 1
def WhichIs (x : Ring) (us : List Turn) (g : List Int) (e : Int) : Prop := (truthsM x [] ≠ [] ∧ g = whichM x us ∧ e = 0) ∨ (truthsM x [] = [] ∧ g = [] ∧ e = 11)
theorem tinAt_at (H L : List AObj) : TinAt (fun τ => H ++ tinO τ :: L) H.length (H.length + 1 + L.length) := by
 have h := (zjT H).more L;refine ⟨fun τ => ?_, fun τ => ?_, fun τ τ' => ?_, fun m τ τ' h1 => ?_⟩
 ·have := h.len τ; simpa [Nat.add_comm, Nat.add_left_comm] using this
 ·have := h.get τ; simpa using this
 ·have := h.set τ τ'; simpa using this
 ·have := h.ok m τ τ'; simpa using this (by simpa using h1)
section
variable {H : List AObj} {k kp : AV → List AObj → Prop}
end
open Go.Conc Go.Proofs
theorem all_take_suc {α : Type} {l : List α} {i : Nat} {a : α} (f : α → Bool) (h : l[i]? = some a) : (l.take (i + 1)).all f = ((l.take i).all f && f a) := by
 obtain ⟨hj, rfl⟩ := List.getElem?_eq_some_iff.1 h;rw [List.take_succ_eq_append_getElem hj, List.all_append]; simp
section
variable {H : List AObj} {k kp : AV → List AObj → Prop}
end
open Go.Conc Go.Proofs
def wearsFl (x : Ring) (n : Int) : Option Int := if inM n 0 (x.keys.length - 1) then none else some 0
def metB (ts : List (List Int × Nat)) (n w : Nat) : Bool := ts.any fun y => y.1.getD n 0 == (w : Int)
def wearsTo (ts : List (List Int × Nat)) (n i : Nat) : List Int := ((List.range i).filter (metB ts n)).map fun i : Nat => (i : Int)
def wearsM (x : Ring) (n : Nat) : List Int := wearsTo (truthsM x []) n 3
section
variable {lv : Bool} {H : List AObj} {k kp : AV → List AObj → Prop}
end
open Go.Conc Go.Proofs
def metL (D : List (List Int)) (k w : Nat) : Bool := D.any fun t => t.getD k 0 == (w : Int)
def dueW (D : List (List Int)) (k i : Nat) : List Int := ((List.range i).filter (metL D k)).map fun i : Nat => (i : Int)
def someW (x : Ring) (D : List (List Int)) (k l : Nat) : Nat := (D.filter fun t => opensW x.keys t x.locks k l).length
theorem some_law {x : Ring} (hx : x.Ok) {k l : Nat} (hk : k < x.keys.length) (hl : l < x.locks.length) : cntM x k l (truthsM x []) = someW x (truthsL x) k l := by
 unfold cntM someW;have h1 : ((truthsM x []).filter fun t => (opensM x k (t.1.getD k 0).toNat).testBit l).length = (((truthsM x []).map (·.1)).filter fun r => (inTruth x r k).testBit l).length := by
  rw [List.filter_map, List.length_map]; rfl
 rw [h1, zgX hx, List.filter_map, List.length_map];congr 1;refine List.filter_congr fun t ht => ?_;obtain ⟨h1, h2⟩ := zhQ hx t ht;exact zf8 hx h1 h2 hk hl
def endE (x : Ring) : Int := if truthsL x = [] then 11 else 0
theorem zero_iff {x : Ring} (hx : x.Ok) : truthsM x [] = [] ↔ truthsL x = [] := by rw [← List.length_eq_zero_iff, zlQ hx, List.length_eq_zero_iff]
theorem opening_of {x : Ring} (hx : x.Ok) {fl : Option Int} (hf : fl = none) : openingE x fl = endE x := by
 subst hf;have h0 : openE x none = 0 := zaN.2 ⟨zbH.2 hx, rfl⟩;unfold openingE endE;rw [h0, if_neg (by simp)];by_cases h : truthsL x = []
 ·rw [if_pos h, if_pos ((zero_iff hx).2 h)]
 ·rw [if_neg h, if_neg (fun e => h ((zero_iff hx).1 e))]
section
variable {H : List AObj} {k kp : AV → List AObj → Prop}
theorem f32_k {x : Ring} {n l : Nat} (hmain : H[0]? = some .main) (hx : x.Ok) (hn : n < x.keys.length) (hl : l < x.locks.length) (h : k (.tup [iv (if truthsL x = [] then 0 else verdictM (someW x (truthsL x) n l) (truthsL x).length), iv (endE x)]) H) : FnC true Tryz.prog 32 H [x.av, iv n, iv l] k kp := by
 have hf : opensFl x n l = none := zgu.2 ⟨⟨by omega, by omega⟩, by omega, by omega⟩;have ho := opening_of hx hf;refine f32_c zaQ hmain hx.small (fun e => ?_) (fun e => ?_)
 ·rw [ho] at e ⊢;have hD : truthsL x = [] := Classical.byContradiction fun hn => e (by unfold endE; rw [if_neg hn]);rw [if_pos hD] at h;exact h
 ·rw [ho] at e;rw [Int.toNat_natCast, Int.toNat_natCast, some_law hx hn hl, zlQ hx];have hD : truthsL x ≠ [] := fun hD => by unfold endE at e; rw [if_pos hD] at e; cases e
  rw [if_neg hD, e] at h;exact h
end
open Go.Conc
structure Kept3 (X Y Z : Prop) : Type where
 n : Nat
def UG (a : AV) (want : Bool) (X Y Z : Prop) (_t : Kept3 X Y Z) : Prop := (∃ b, a = .val (.bool b) ∧ (b = want → X) ∧ (b = !want → Y)) ∨ (a = .val undef ∧ Z)
theorem ug_b {b want : Bool} {X Y Z : Prop} {t : Kept3 X Y Z} : UG (.val (.bool b)) want X Y Z t = ((b = want → X) ∧ (b = !want → Y)) := by
 unfold UG;refine propext ⟨fun h => ?_, fun h => .inl ⟨b, rfl, h⟩⟩;rcases h with ⟨b', e, h⟩ | ⟨e, _⟩
 ·cases e; exact h
 ·cases e
theorem ug_tt (X Y Z : Prop) (t : Kept3 X Y Z) : UG (.val (.bool true)) true X Y Z t = X := by rw [ug_b]; simp
theorem ug_tf (X Y Z : Prop) (t : Kept3 X Y Z) : UG (.val (.bool true)) false X Y Z t = Y := by rw [ug_b]; simp
theorem ug_ft (X Y Z : Prop) (t : Kept3 X Y Z) : UG (.val (.bool false)) true X Y Z t = Y := by rw [ug_b]; simp
theorem ug_ff (X Y Z : Prop) (t : Kept3 X Y Z) : UG (.val (.bool false)) false X Y Z t = X := by rw [ug_b]; simp
theorem ug_u (want : Bool) (X Y Z : Prop) (t : Kept3 X Y Z) : UG (.val undef) want X Y Z t = Z := by
 unfold UG;refine propext ⟨fun h => ?_, fun h => .inr ⟨rfl, h⟩⟩;rcases h with ⟨b', e, _⟩ | ⟨_, h⟩
 ·cases e
 ·exact h
section
variable (lv : Bool) (P : Program)
def UOps (all : Array Oper) : List Oper → AS → (AS → Prop) → (AV → AS → Prop) → Prop
 | [], s, next, _ => next s
 | o :: rest, s, next, bad => match o.guard with
  | none => AStep lv P s o (fun s' => UOps all rest s' next bad) bad
  | some (j, want) => one1 ((all[j]?).bind (·.dst)) fun d => one1 (look s.T d) fun a => UG a want (AStep lv P ⟨(d, .val (.bool want)) :: s.T, s.H⟩ o (fun s' => UOps all rest s' next bad) bad) (UOps all rest ((⟨(d, .val (.bool !want)) :: s.T, s.H⟩ : AS).put o.dst (.val undef)) next bad) (UOps all rest (s.put o.dst (.val undef)) next bad) ⟨0⟩
end
theorem uOps_n : type_of% @UOps.eq_1 := by intros; rw [UOps.eq_1]
theorem uOps_c : type_of% @UOps.eq_2 := by intros; rw [UOps.eq_2]
@[congr] theorem uOps_congr {lv : Bool} {P : Program} {s s' : AS} {all : Array Oper} {l : List Oper} {next : AS → Prop} {bad : AV → AS → Prop} (h : s = s') : UOps lv P all l s next bad = UOps lv P all l s' next bad := by rw [h]
attribute [push_cast] uOps_n uOps_c ug_tt ug_tf ug_ft ug_ff ug_u
section
variable {lv : Bool} {P : Program} {r : Option Nat} {s : AS}
end
open Go.Conc Go.Proofs
section
variable {lv : Bool} {H : List AObj} {k kp : AV → List AObj → Prop}
theorem f65_c {xs : List Int} {n : Int} {e : End} (hl : xs.length < 2 ^ 30) (hk : ∀ v : Int, (0 ≤ v ↔ n ∈ xs) → (∀ i : Nat, v = i → xs[i]? = some n) → k (iv v) H) : FnC lv Tryz.prog 65 H [.sl xs.length (xs.map iv) e, iv n] k kp := by
 refine zak (rs := [.tmp 4]) (nt := 19) F.f65 rfl rfl rfl (by simp) fun hH hA => ?_;simp only [argsT, Nat.reduceAdd];(repeat apply zaa);refine zl5 ?_;simp only [push_cast, seval];(repeat apply zaa);refine zl5 ?_;simp only [push_cast, seval];(repeat apply zaa);refine zag ?_;refine zaB xs.length (fun i : Nat => [(5, iv i)]) (fun _ => _) (fun i => n ∉ xs.take i) (fun _ _ => rfl) (by simp only [push_cast, seval, List.forall_mem_cons, List.not_mem_nil, false_imp_iff, implies_true, List.forall_mem_nil]; simp [zaf, Wk.refl]) rfl (fun _ _ _ => rfl) (by simp) (fun hHs hLt i hin hi R hR => ?_);clear hHs hLt;(repeat apply zaa);refine zl5 ?_;simp only [push_cast, seval];(repeat apply zaa);refine zae ?_;simp only [push_cast, seval];refine ⟨fun h => ?_, fun h => ?_⟩
 ·have hil : i < xs.length := by omega
  obtain ⟨y, hy⟩ := zaE hil;have hw1 : IntKind.i64.wrap ((i : Int) + 1) = i + 1 := zau _ (by omega);(repeat apply zaa);refine zah ?_;simp only [push_cast, seval];(repeat apply zaa);refine zag ?_;(repeat apply zaa);refine zl5 ?_;simp only [push_cast, seval, za2 hy, zaz hil];(repeat apply zaa);refine zae ?_;simp only [push_cast, seval];refine ⟨fun h2 => ?_, fun h2 => ?_⟩
  ·have h2 : y = n := (by simpa using h2);subst h2;(repeat apply zaa);refine zl5 ?_;simp only [push_cast, seval];(repeat apply zaa);refine zai ?_;simp only [push_cast, seval];exact zao (hk i ⟨fun _ => zas hy, fun _ => by omega⟩ fun j hj => by
    have : i = j := (by omega);subst this; exact hy)
  ·have h2 : ¬ y = n := (by simpa using h2);(repeat apply zaa);refine zah ?_;simp only [push_cast, seval];(repeat apply zaa);refine zl5 ?_;simp only [push_cast, seval, hw1];refine hR _ ⟨hil, fun hm => ?_, (zax (zam rfl rfl) (by simp only [push_cast, seval]; simp [zaf, Wk.refl]))⟩;obtain ⟨hj, hle⟩ := List.getElem?_eq_some_iff.1 hy;rw [List.take_succ_eq_append_getElem hj, hle] at hm;rcases List.mem_append.1 hm with hm | hm
   ·exact hi hm
   ·exact h2 (List.mem_singleton.1 hm).symm
 ·have hix : i = xs.length := by omega
  subst hix;rw [List.take_length] at hi;(repeat apply zaa);refine zaq ?_;simp only [push_cast, seval];(repeat apply zaa);refine zl5 ?_;simp only [push_cast, seval];(repeat apply zaa);refine zai ?_;simp only [push_cast, seval];exact zao (hk (-1) ⟨fun h => by omega, fun h => absurd h hi⟩ fun j hj => by omega)
end
open Go.Conc Go.Proofs
def alS (S : Nat → Nat → Bool) : Nat → List Int × Nat
 | 0 => ([], 0)
 | b + 1 => match (List.range b).find? fun a => S a b with
  | some a => ((alS S b).1 ++ [(alS S b).1.getD a 0], (alS S b).2)
  | none => ((alS S b).1 ++ [((alS S b).2 : Int)], (alS S b).2 + 1)
def valS (S : Nat → Nat → Bool) (i : Nat) : Int := (alS S (i + 1)).1.getD i 0
theorem alS_len (S : Nat → Nat → Bool) : ∀ b, (alS S b).1.length = b
 | 0 => rfl
 | b + 1 => by
  unfold alS;split <;> simp [alS_len S b]
theorem alS_get (S : Nat → Nat → Bool) {i : Nat} : ∀ {b : Nat}, i < b → (alS S b).1.getD i 0 = valS S i
 | b + 1, h => by
  by_cases e : i = b
  ·subst e; rfl
  ·rw [← alS_get S (b := b) (by omega)];have hl := alS_len S b;rw [alS];split <;> simp only [List.getD_eq_getElem?_getD] <;> rw [List.getElem?_append_left (by omega)]
theorem valS_some {S : Nat → Nat → Bool} {a b : Nat} (h : (List.range b).find? (fun a => S a b) = some a) : valS S b = valS S a ∧ (alS S (b + 1)).2 = (alS S b).2 ∧ a < b ∧ S a b = true := by
 have hl := alS_len S b;have hab : a < b := List.mem_range.1 (List.mem_of_find?_eq_some h);refine ⟨?_, ?_, hab, by simpa using List.find?_some h⟩
 ·unfold valS;rw [alS, h];simp only;rw [alS_get S hab, List.getD_eq_getElem?_getD, List.getElem?_append_right (by omega)];simp [hl, valS]
 ·rw [alS, h]
theorem valS_none {S : Nat → Nat → Bool} {b : Nat} (h : (List.range b).find? (fun a => S a b) = none) : valS S b = (alS S b).2 ∧ (alS S (b + 1)).2 = (alS S b).2 + 1 := by
 have hl := alS_len S b;refine ⟨?_, by rw [alS, h]⟩;unfold valS;rw [alS, h];simp only;rw [List.getD_eq_getElem?_getD, List.getElem?_append_right (by omega)];simp [hl]
theorem alS_main {S : Nat → Nat → Bool} (hs : ∀ a b, S a b = true → S b a = true) (ht : ∀ a b c, S a b = true → S b c = true → S a c = true) : ∀ b, (∀ i < b, 0 ≤ valS S i ∧ valS S i < (alS S b).2) ∧ ∀ i < b, ∀ x < i, (S x i = true ↔ valS S i = valS S x)
 | 0 => ⟨fun i h => absurd h (Nat.not_lt_zero _), fun i h => absurd h (Nat.not_lt_zero _)⟩
 | b + 1 => by
  obtain ⟨h1, h2⟩ := alS_main hs ht b;have pair : ∀ a x, a < b → x < b → valS S x = valS S a → S a x = true ∨ a = x := fun a x ha hx e => by
   rcases Nat.lt_trichotomy a x with h | h | h
   ·exact .inl ((h2 x hx a h).2 e)
   ·exact .inr h
   ·exact .inl (hs _ _ ((h2 a ha x h).2 e.symm))
  cases hf : (List.range b).find? (fun a => S a b) with
  | some a =>
   obtain ⟨e1, e2, hab, hS⟩ := valS_some hf;rw [e2];refine ⟨fun i hi => ?_, fun i hi x hx => ?_⟩
   ·by_cases e : i = b
    ·rw [e, e1]; exact h1 a hab
    ·exact h1 i (by omega)
   ·by_cases e : i = b
    ·subst e;rw [e1];refine ⟨fun h => ?_, fun h => ?_⟩
     ·have hxa : S a x = true := ht _ _ _ hS (hs _ _ h);rcases Nat.lt_trichotomy a x with q | q | q
      ·exact ((h2 x hx a q).1 hxa).symm
      ·rw [q]
      ·exact (h2 a hab x q).1 (hs _ _ hxa)
     ·rcases pair a x hab hx h.symm with q | q
      ·exact ht _ _ _ (hs _ _ q) hS
      ·rw [← q]; exact hS
    ·exact h2 i (by omega) x hx
  | none =>
   obtain ⟨e1, e2⟩ := valS_none hf;have hno : ∀ x < b, S x b = false := fun x hx => by
    have := List.find?_eq_none.1 hf x (List.mem_range.2 hx);simpa using this
   rw [e2];refine ⟨fun i hi => ?_, fun i hi x hx => ?_⟩
   ·by_cases e : i = b
    ·rw [e, e1]; exact ⟨by omega, by omega⟩
    ·have := h1 i (by omega); omega
   ·by_cases e : i = b
    ·subst e;rw [e1, hno x hx];have := h1 x hx;exact ⟨fun h => absurd h (by simp), fun h => by omega⟩
    ·exact h2 i (by omega) x hx
theorem alS_next {S : Nat → Nat → Bool} (hs : ∀ a b, S a b = true → S b a = true) (ht : ∀ a b c, S a b = true → S b c = true → S a c = true) (i : Nat) : 0 ≤ valS S i ∧ valS S i ≤ (alS S i).2 ∧ (alS S (i + 1)).2 = if valS S i = (alS S i).2 then (alS S i).2 + 1 else (alS S i).2 := by
 obtain ⟨h1, _⟩ := alS_main hs ht i;cases hf : (List.range i).find? (fun a => S a i) with
 | some a =>
  obtain ⟨e1, e2, hab, _⟩ := valS_some hf;have := h1 a hab;rw [e2, e1, if_neg (by omega)];exact ⟨by omega, by omega, rfl⟩
 | none =>
  obtain ⟨e1, e2⟩ := valS_none hf;rw [e2, e1, if_pos rfl];exact ⟨by omega, by omega, rfl⟩
theorem alS_congr {S S' : Nat → Nat → Bool} : ∀ n, (∀ b < n, ∀ a < b, S a b = S' a b) → alS S n = alS S' n
 | 0, _ => rfl
 | b + 1, h => by
  have ih := alS_congr b fun c hc a ha => h c (by omega) a ha;have hf : (List.range b).find? (fun a => S a b) = (List.range b).find? (fun a => S' a b) := by
   have hm : ∀ l : List Nat, (∀ a ∈ l, a < b) → l.find? (fun a => S a b) = l.find? (fun a => S' a b) := fun l => by
    induction l with
    | nil => intro _; rfl
    | cons a l ih => intro hl; rw [List.find?_cons, List.find?_cons, h b (by omega) a (hl a List.mem_cons_self), ih fun c hc => hl c (List.mem_cons_of_mem _ hc)]
   exact hm _ fun a ha => List.mem_range.1 ha
  rw [alS, alS, hf, ih]
theorem alikeTo_al (x : Ring) (ts : List (List Int × Nat)) (keys : List Int) : ∀ b, alikeTo x ts keys b = alS (sameB x ts keys) b
 | 0 => rfl
 | b + 1 => by rw [alikeTo, alS, alikeTo_al x ts keys b]; rfl
def smL (x : Ring) (D : List (List Int)) (keys : List Int) (p q : Nat) : Bool := D.all fun t => !differM x t keys p q
theorem smL_iff {x : Ring} {D : List (List Int)} {keys : List Int} {p q : Nat} : smL x D keys p q = true ↔ ∀ t ∈ D, ∀ k ∈ keys, opensW x.keys t x.locks k p = opensW x.keys t x.locks k q := by
 unfold smL differM;rw [List.all_eq_true];refine forall_congr' fun t => forall_congr' fun _ => ?_;rw [Bool.not_eq_true', List.any_eq_false];refine forall_congr' fun k => forall_congr' fun _ => ?_;simp
theorem same_law {x : Ring} (hx : x.Ok) {keys : List Int} (hk : ∀ k ∈ keys, 0 ≤ k ∧ k < x.keys.length) {a b : Nat} (ha : a < x.locks.length) (hb : b < x.locks.length) : sameB x (truthsM x []) keys a b = smL x (truthsL x) keys b a := by
 unfold sameB smL;rw [zlR hx fun r => !apartM x r keys a b, Bool.eq_iff_iff];simp only [List.all_eq_true];refine forall_congr' fun t => forall_congr' fun ht => ?_;obtain ⟨h1, h2⟩ := zhQ hx t ht;have e : apartM x (padR x.keys.length t) keys a b = differM x t keys b a := by
  unfold apartM differM;rw [Bool.eq_iff_iff];simp only [List.any_eq_true];refine exists_congr fun k => and_congr_right fun hkm => ?_;obtain ⟨hk0, hk1⟩ := hk k hkm;have e : ((k.toNat : Nat) : Int) = k := by omega
  have e1 := zf8 hx h1 h2 (k := k.toNat) (l := a) (by omega) ha;have e2 := zf8 hx h1 h2 (k := k.toNat) (l := b) (by omega) hb;rw [e] at e1 e2;rw [e1, e2];simp only [bne_iff_ne];exact ne_comm
 rw [e]
theorem alS_le (S : Nat → Nat → Bool) : ∀ b, (alS S b).2 ≤ b
 | 0 => Nat.le_refl _
 | b + 1 => by
  have := alS_le S b;rw [alS];split <;> simp only <;> omega
def alkS (x : Ring) (a b : Nat) : Bool := smL x (truthsL x) (belowM x.keys.length) b a
theorem alkS_sym (x : Ring) : ∀ a b, alkS x a b = true → alkS x b a = true := fun a b h => smL_iff.2 fun t ht k hk => (smL_iff.1 h t ht k hk).symm
theorem alkS_tr (x : Ring) : ∀ a b c, alkS x a b = true → alkS x b c = true → alkS x a c = true := fun a b c h h' => smL_iff.2 fun t ht k hk => (smL_iff.1 h' t ht k hk).trans (smL_iff.1 h t ht k hk)
theorem mem_below {n : Nat} {k : Int} : k ∈ belowM n ↔ 0 ≤ k ∧ k < n := by
 unfold belowM;rw [List.mem_map];refine ⟨fun ⟨i, h, e⟩ => by have := List.mem_range.1 h; omega, fun h => ⟨k.toNat, List.mem_range.2 (by omega), by omega⟩⟩
theorem alike_law {x : Ring} (hx : x.Ok) : alikeM x = (alS (alkS x) x.locks.length).1 := by
 unfold alikeM;rw [alikeTo_al, alS_congr _ fun b hb a ha => ?_];exact same_law hx (fun k hk => mem_below.1 hk) (by omega) hb
theorem alS_at (S : Nat → Nat → Bool) {i b : Nat} (h : i < b) : (alS S b).1[i]? = some (valS S i) := by
 rw [← alS_get S h, List.getD_eq_getElem?_getD, List.getElem?_eq_getElem (by rw [alS_len]; exact h), Option.getD_some]
theorem alike_some {x : Ring} {p q k : Nat} (h : smL x (truthsL x) (belowM x.keys.length) p q = true) (hk : k < x.keys.length) : someW x (truthsL x) k p = someW x (truthsL x) k q := by
 unfold someW;congr 1;exact List.filter_congr fun t ht => smL_iff.1 h t ht k (mem_below.2 ⟨by omega, by omega⟩)
def AlIs (x : Ring) (g : List Int) (e : Int) : Prop := (truthsL x = [] ∧ g = [] ∧ e = 11) ∨ (truthsL x ≠ [] ∧ g = (alS (alkS x) x.locks.length).1 ∧ e = 0)
theorem f40_k {H : List AObj} {k kp : AV → List AObj → Prop} {x : Ring} (hmain : H[0]? = some .main) (hx : x.Ok) (h : ∀ g e en, AlIs x g e → k (.tup [.sl g.length (g.map iv) en, iv e]) H) : FnC true Tryz.prog 40 H [x.av] k kp := by
 have ho := opening_of (x := x) hx (fl := none) rfl;refine f40_c zaQ hmain hx.small (fun e => ?_) (fun e => ?_)
 ·rw [ho] at e ⊢;have hD : truthsL x = [] := Classical.byContradiction fun hn => e (by unfold endE; rw [if_neg hn]);have := h [] (endE x) .exact (.inl ⟨hD, rfl, by unfold endE; rw [if_pos hD]⟩);exact this
 ·rw [ho] at e;have hD : truthsL x ≠ [] := fun hD => by unfold endE at e; rw [if_pos hD] at e; cases e
  rw [alike_law hx];exact h _ 0 .shut (.inr ⟨hD, rfl, rfl⟩)
open Go.Conc Go.Proofs
def allIn (n : Nat) (t : List Int) : Bool := (List.range n).all fun k : Nat => decide ((k : Int) ∈ t)
def ordersM (n : Nat) : List (List Int) := (listsM n n).filter (allIn n)
theorem orders_first : ∀ n, n < 4 → 0 < n → (ordersM n)[0]? = some (belowM n) := by decide +kernel
theorem orders_cons (n : Nat) (h : 0 < n) (h3 : n < 4) : ∃ l, ordersM n = belowM n :: l := by
 have := orders_first n h3 h;cases hq : ordersM n with
 | nil => rw [hq] at this; cases this
 | cons a l => rw [hq] at this; cases this; exact ⟨l, rfl⟩
section
variable {lv : Bool} {H : List AObj} {k kp : AV → List AObj → Prop}
theorem f59_c {xs : List Band} {e : End} (hl : xs.length ≤ 2 ^ 30) (hk : k (aBands xs) H) : FnC lv Tryz.prog 59 H [.sl xs.length (xs.flatMap Band.l) e] k kp := by
 refine zak (rs := [.tmp 2]) (nt := 6) F.f59 rfl rfl rfl (by simp) fun hH hA => ?_;simp only [argsT, Nat.reduceAdd];have hlen : (xs.flatMap Band.l).length = xs.length * 2 := zld xs;have htake : (xs.flatMap Band.l).take (xs.length * 2) = xs.flatMap Band.l := List.take_of_length_le (by omega);(repeat apply zaa);refine zl5 ?_;simp only [push_cast, seval];(repeat apply zaa);refine zl5 ?_;simp only [push_cast, seval, htake, hlen];refine ⟨hl, ?_⟩;(repeat apply zaa);refine zai ?_;simp only [push_cast, seval];exact endA (b := aBands xs) hH (zaK _ _ _) (by rw [zfD]; trivial) hk
theorem f61_c {n : Nat} (hn : n ≤ 3) (hk : k (aRows (ordersM n)) H) : FnC lv Tryz.prog 61 H [iv n] k kp := by
 refine zak (rs := [.tmp 2]) (nt := 41) F.f61 rfl rfl rfl (by simp) fun hH hA => ?_;simp only [argsT, Nat.reduceAdd];(repeat apply zaa);refine zl5 ?_;simp only [push_cast, seval];(repeat apply zaa);refine zl5 ?_;simp only [push_cast, seval]
 (repeat apply zaa); refine zbV (t := 3) (sz := 1) (el := 30) (by simp only [push_cast, seval] <;> rfl) ?_
 (repeat apply zaa);refine zl5 ?_;simp only [push_cast, seval];refine zl6 ((f63_c n (n := n) (by omega) (by omega) ?_));(try simp only [push_cast, seval, aRows]);have hfa := zeh n (by omega) n (by omega);have hfin : (listsM n n).filter (allIn n) = ordersM n := rfl;generalize listsM n n = L at hfa hfin ⊢;obtain ⟨hL, hLr⟩ := hfa;(repeat apply zaa);refine zl5 ?_;simp only [push_cast, seval];have hfl : ∀ i, ((L.take i).filter (allIn n)).length ≤ 256 := fun i => by
  have h1 := List.length_filter_le (allIn n) (L.take i);have h3 : (L.take i).length ≤ L.length := by rw [List.length_take]; omega
  omega
 (repeat apply zaa);refine zag ?_;refine zaB L.length (fun i : Nat => [(3, .sl ((L.take i).filter (allIn n)).length (((L.take i).filter (allIn n)).map aInts) (.opn H.length)), (5, iv i)]) (fun i => H ++ [.tail ((L.take i).filter (allIn n)).length 1 30]) (fun i => True) (fun _ _ => rfl) (by simp only [push_cast, seval, List.forall_mem_cons, List.not_mem_nil, false_imp_iff, implies_true, List.forall_mem_nil]; simp [zaf, Wk.refl]; try exact Wk.refl _) rfl (fun _ _ _ => by simp) trivial (fun hHs hLt i hin hi R hR => ?_);clear hHs hLt;(repeat apply zaa);refine zl5 ?_;simp only [push_cast, seval];(repeat apply zaa);refine zae ?_;simp only [push_cast, seval];refine ⟨fun h => ?_, fun h => ?_⟩
 ·have hil : i < L.length := by omega
  obtain ⟨t, ht⟩ := zaE hil;obtain ⟨htn, htb⟩ := hLr t (zas ht);have hw1 : IntKind.i64.wrap ((i : Int) + 1) = i + 1 := zau _ (by omega);have hfs : (L.take (i + 1)).filter (allIn n) = (L.take i).filter (allIn n) ++ (if allIn n t then [t] else []) := by
   obtain ⟨hj, hle⟩ := List.getElem?_eq_some_iff.1 ht;rw [List.take_succ_eq_append_getElem hj, hle, List.filter_append];congr 1;cases hf : allIn n t <;> simp [hf]
  have hfi := hfl i;generalize (L.take i).filter (allIn n) = o at hfs hfi hR ⊢;have hol : (o.map aInts).length = o.length := List.length_map ..;(repeat apply zaa);refine zah ?_;simp only [push_cast, seval];(repeat apply zaa);refine zag ?_;(repeat apply zaa);refine zl5 ?_;simp only [push_cast, seval];(repeat apply zaa);refine zl5 ?_;simp only [push_cast, seval];(repeat apply zaa);refine zag ?_;refine zaB n (fun j : Nat => [(6, bv (allIn j t)), (7, iv j)]) (fun _ => _) (fun j => True) (fun _ _ => rfl) (by simp only [push_cast, seval, List.forall_mem_cons, List.not_mem_nil, false_imp_iff, implies_true, List.forall_mem_nil]; simp [zaf, Wk.refl]; try exact Wk.refl _) rfl (fun _ _ _ => rfl) trivial (fun hHs hLt j hjn hj R2 hR2 => ?_);clear hHs hLt;(repeat apply zaa);refine zl5 ?_;simp only [push_cast, seval];(repeat apply zaa);refine zae ?_;simp only [push_cast, seval];refine ⟨fun h2 => ?_, fun h2 => ?_⟩
  ·have hjl : j < n := (by omega);have hsucc : allIn (j + 1) t = (allIn j t && decide ((j : Int) ∈ t)) := (by unfold allIn; rw [List.range_succ, List.all_append]; simp);have hw2 : IntKind.i64.wrap ((j : Int) + 1) = j + 1 := zau _ (by omega);rw [hsucc] at hR2;(repeat apply zaa);refine zah ?_;simp only [push_cast, seval];(repeat apply zaa);refine zag ?_;cases hb : allIn j t with
   | false =>
    rw [hb] at hR2;(repeat apply zaa);refine zl5 ?_;simp only [push_cast, seval, zlB ht, zaz hil];(repeat apply zaa);refine zl5 ?_;simp only [push_cast, seval, hw2];refine hR2 _ ⟨hjl, trivial, ?_⟩;simp only [Bool.false_and];exact (zax (zam rfl rfl) (by simp only [push_cast, seval]; simp [zaf, Wk.refl]))
   | true =>
    rw [hb] at hR2;(repeat apply zaa);refine zl5 ?_;simp only [push_cast, seval, zlB ht, zaz hil, aInts];refine zl6 ((f65_c (xs := t) (by omega) fun v hv _ => ?_));have hge : decide (v ≥ 0) = decide ((j : Int) ∈ t) := (by rw [decide_eq_decide]; exact hv);(try simp only [push_cast, seval, hge]);(repeat apply zaa);refine zl5 ?_;simp only [push_cast, seval, hw2];refine hR2 _ ⟨hjl, trivial, ?_⟩;simp only [Bool.true_and];exact (zax (zam rfl rfl) (by simp only [push_cast, seval]; simp [zaf, Wk.refl]))
  ·have hjx : j = n := (by omega);subst hjx;clear hR2;(repeat apply zaa);refine zaq ?_;simp only [push_cast, seval];(repeat apply zaa);refine zl5 ?_;simp only [push_cast, seval];(repeat apply zaa);refine zae ?_;simp only [push_cast, seval];refine ⟨fun h3 => ?_, fun h3 => ?_⟩
   ·have h3 : allIn j t = true := (by simpa using h3);(repeat apply zaa);refine zl5 ?_;simp only [push_cast, seval, zlB ht, zaz hil, hol, zs1, zhq, zlS, zkE];refine ⟨by omega, ?_⟩;(repeat apply zaa);refine zl5 ?_;simp only [push_cast, seval, hw1];refine hR _ ⟨hil, trivial, ?_⟩;rw [hfs, h3];simp only [if_true, List.map_append, List.map_cons, List.map_nil, List.length_append, List.length_cons, List.length_nil];exact (zax (zam rfl rfl) (by simp only [push_cast, seval]; simp [zaf, Wk.refl]))
   ·have h3 : allIn j t = false := (by simpa using h3);(repeat apply zaa);refine zah ?_;simp only [push_cast, seval];(repeat apply zaa);refine zl5 ?_;simp only [push_cast, seval, hw1];refine hR _ ⟨hil, trivial, ?_⟩;rw [hfs, h3];simp only [Bool.false_eq_true, if_false, List.append_nil];exact (zax (zam rfl rfl) (by simp only [push_cast, seval]; simp [zaf, Wk.refl]))
 ·have hix : i = L.length := by omega
  subst hix;clear hR;rw [List.take_length, hfin];(repeat apply zaa);refine zaq ?_;simp only [push_cast, seval];(repeat apply zaa);refine zl5 ?_;simp only [push_cast, seval];(repeat apply zaa);refine zai ?_;simp only [push_cast, seval];exact endA (b := aRows (ordersM n)) hH (zaK _ _ _) (by rw [zlv]; trivial) hk
end
open Go.Conc Go.Proofs
section
variable {lv : Bool} {H : List AObj} {k kp : AV → List AObj → Prop}
theorem awp_thenQ {P : Program} {r : Option Nat} {s : AS} {nt : Nat} {x : Code} {K : AS → Prop} {Φ : AEx → AS → Prop} (Q : AS → Prop) (h2 : ∀ s', Q s' → K s') (h1 : AWP lv P r nt x s (AEx.then Q Φ)) : AWP lv P r nt x s (AEx.then K Φ) := h1.mono fun e s h => by
 cases e <;> first | exact h2 _ h | exact h
theorem sub_look3 {T base : List (Nat × AV)} {k : Nat} {v : AV} (hK : Keeps T base [(k, v)]) (h0 : ∃ b, look T k = some b ∧ Wk b v) {t : Nat} {a : AV} (e : look ((k, v) :: base) t = some a) : ∃ b, look T t = some b ∧ Wk b a := by
 simp only [look] at e;by_cases hk : k = t
 ·rw [if_pos hk] at e; cases e; subst hk; exact h0
 ·rw [if_neg hk] at e;exact ⟨a, hK.look e (by simp [look, hk]), Wk.refl _⟩
def AlikeQ (H : List AObj) (s : AS) : Prop := ∃ (y : Ring) (L : List AObj) (e : End), y.Ok ∧ (1 ≤ y.keys.length ∧ y.keys.length ≤ 3) ∧ L.length = 7 ∧ s.Sub ⟨[(4, .op (H.length + 7) 0)], (H ++ L) ++ [.cells [iv y.cuts, aKeys y.keys, .sl y.locks.length (y.locks.map aBands) e, aTries y.tries] 26]⟩
theorem withL_ok {x : Ring} {l : List Band} (hx : x.Ok) (hl : l ∈ x.locks) (h3 : x.locks.length ≤ 3) : Ring.Ok ⟨x.cuts, x.keys, x.locks ++ [l], x.tries⟩ :=
 ⟨hx.cuts, hx.keys, hx.key, by show (x.locks ++ [l]).length ≤ 4; simp; omega, fun l' h => by
  rcases List.mem_append.1 h with h | h
  ·exact hx.lock l' h
  ·rw [List.mem_singleton.1 h]; exact hx.lock l hl, hx.tries, fun t h => by
  have := hx.tried t h;refine ⟨this.1, this.2.1, ?_⟩;show t.lock < ((x.locks ++ [l]).length : Nat);have := this.2.2;simp; omega⟩
set_option maxRecDepth 4000 in
set_option maxHeartbeats 1000000 in
theorem f10_c {nums : List Int} (hmain : H[0]? = some .main) (hn : nums.length ≤ 2 ^ 50) (hk : k (bv true) H) : FnC true Tryz.prog 10 H [aInts nums] k kp := by
 have hmn : ∀ L : List AObj, (H ++ L)[0]? = some .main := fun L => zay hmain;refine zak (rs := [.tmp 2]) (nt := 183) F.f10 rfl rfl rfl (by simp) fun hH hA => ?_;simp only [argsT, Nat.reduceAdd];have h13 : H.length + 1 + 3 = H.length + 4 := rfl;(repeat apply zaa);refine zl5 ?_;simp only [push_cast, seval];(repeat apply zaa);refine zl5 ?_;simp only [push_cast, seval];refine zl6 ((f26_c ?_));(try simp only [push_cast, seval]);(repeat apply zaa);refine zl5 ?_;simp only [push_cast, seval];refine zl6 ((f49_o (K := 3) (L := 3) (T := 3) (wr := true) (zjT H) (tinOk0 hn _) (by decide) (by decide) (by decide) (by decide) fun x ws τ hP hτ => ?_));(try simp only [push_cast, seval, Ring.l, roE, roL, List.tail_cons, h13]);have hx := hP.ok (by decide) (by decide) (by decide);have hkl := hP.keys;have hll := hP.locks;have htl := hP.tries;(repeat apply zaa);refine zl5 ?_;simp only [push_cast, seval];generalize AObj.cells [AV.val (Value.int IntKind.i64 x.cuts), AV.sl x.keys.length (List.flatMap Key.l x.keys) (End.opn (H.length + 1 + 2)), AV.sl x.locks.length (List.map aBands x.locks) (End.opn (H.length + 4)), AV.sl x.tries.length (List.flatMap Try.l x.tries) (End.opn (H.length + 1 + 4))] 26 = o1;refine awp_thenQ (AlikeQ H) (fun s' hs' => ?_) ?_
 ·clear hP hτ hx hkl hll htl;obtain ⟨y, L, en, hy, hkl, hL, hsub⟩ := hs';refine ziu hsub ?_;clear hsub;have hll := hy.locks;have hG : ∀ G : List AObj, (H ++ L) ++ G = H ++ (L ++ G) := fun G => List.append_assoc ..;have hmn2 : ∀ G : List AObj, ((H ++ L) ++ G)[0]? = some .main := fun G => zay (hmn L);have hHL : H.length + 7 = (H ++ L).length := by rw [List.length_append, hL]
  rw [hHL];generalize H ++ L = HH at hG hmn2 hHL ⊢
  (repeat apply zaa); refine awp_wkO (id := HH.length) (j := 2) (by simp only [push_cast, seval] <;> rfl) rfl (zaK _ _ _) ?_
  simp only [push_cast, seval];(repeat apply zaa);refine zl5 ?_;simp only [push_cast, seval];refine zl6 ((f57_c (x := y) hy ?_));(try simp only [push_cast, seval]);(repeat apply zaa);refine zl5 ?_;simp only [push_cast, seval];refine zl6 ((f40_k (x := y) (hmn2 _) hy fun g e en2 hal => ?_));(try simp only [push_cast, seval]);have htl := zlJ hy;have htr := zhQ hy;have hmain2 := alS_main (alkS_sym y) (alkS_tr y) y.locks.length;have hnext := alS_next (alkS_sym y) (alkS_tr y);have hat := fun i => alS_at (alkS y) (i := i) (b := y.locks.length);have hgl := alS_len (alkS y) y.locks.length;have hend := fun G => hG G;(repeat apply zaa);refine zl5 ?_;simp only [push_cast, seval, aRows];(repeat apply zaa);refine zae ?_;simp only [push_cast, seval];refine ⟨fun h2 => ?_, fun h2 => ?_⟩
  ·have hD : truthsL y = [] := by
    cases hq : truthsL y with
    | nil => rfl
    | cons a l => rw [hq] at h2; exfalso; simp at h2; omega
   rcases hal with ⟨_, rfl, rfl⟩ | ⟨h3, _⟩
   ·(repeat apply zaa);refine zl5 ?_;simp only [push_cast, seval, beq_self_eq_true];refine zl6 ((f25_c (hmn2 _) ?_));(try simp only [push_cast, seval]);(repeat apply zaa);refine zai ?_;simp only [push_cast, seval];rw [hG];exact endA hH (Wk.refl _) (by simp [zap]) hk
   ·exact absurd hD h3
  ·have hD : truthsL y ≠ [] := fun e => (by rw [e] at h2; simp at h2);rcases hal with ⟨h3, _⟩ | ⟨_, rfl, rfl⟩
   ·exact absurd h3 hD
   ·(repeat apply zaa);refine zah ?_;simp only [push_cast, seval];(repeat apply zaa);refine zl5 ?_;simp only [push_cast, seval, bne_self_eq_false, hgl, decide_false, decide_true];(repeat apply zaa);refine zae ?_;simp only [push_cast, seval];(repeat apply zaa);refine zah ?_;simp only [push_cast, seval];have w1 : ∀ i : Nat, i ≤ 1000 → IntKind.i64.wrap ((i : Int) + 1) = i + 1 := fun i _ => zau _ (by omega);have hmany : ∀ i, (alS (alkS y) i).2 ≤ i := alS_le (alkS y);obtain ⟨orest, hO⟩ := orders_cons y.keys.length (by omega) (by omega);have hob : ∀ k ∈ belowM y.keys.length, 0 ≤ k ∧ k < y.keys.length := fun k hk => mem_below.1 hk;have hobl := zca y.keys.length;have hsome : ∀ (p q k : Nat), smL y (truthsL y) (belowM y.keys.length) p q = true → k < y.keys.length → someW y (truthsL y) k p = someW y (truthsL y) k q := fun p q k h hk => alike_some h hk;have hEe : endE y = 0 := (by unfold endE; exact if_neg hD);have hsm : ∀ p q, smL y (truthsL y) (belowM y.keys.length) p q = (truthsL y).all fun t => !differM y t (belowM y.keys.length) p q := fun _ _ => rfl;have hSq : ∀ i q, q < i → i < y.locks.length → (((truthsL y).all fun t => !differM y t (belowM y.keys.length) i q) = true ↔ valS (alkS y) i = valS (alkS y) q) := fun i q h1 h2 => hmain2.2 i h2 q h1;refine ziu (s' := ⟨[(4, .op HH.length 0), (7, .sl (truthsL y).length ((truthsL y).map aInts) .shut), (8, .sl y.locks.length ((alS (alkS y) y.locks.length).1.map iv) en2)], HH ++ [.cells [iv y.cuts, aKeys y.keys, .sl y.locks.length (y.locks.map aBands) .shut, aTries y.tries] 26]⟩) ⟨fun t' a e' => zh2 (by simp only [push_cast, seval, List.forall_mem_cons, List.not_mem_nil, false_imp_iff, implies_true, List.forall_mem_nil]; simp [zaf, Wk.refl]) e', rfl⟩ ?_;(repeat apply zaa);refine zl5 ?_;simp only [push_cast, seval];(repeat apply zaa);refine zl5 ?_;simp only [push_cast, seval];(repeat apply zaa);refine zag ?_;refine zaB y.locks.length (fun i : Nat => [(10, iv (alS (alkS y) i).2), (11, iv i)]) (fun _ => _) (fun _ => True) (fun _ _ => rfl) (by simp only [push_cast, seval, List.forall_mem_cons, List.not_mem_nil, false_imp_iff, implies_true, List.forall_mem_nil]; simp [zaf, Wk.refl]; exact Wk.refl _) rfl (fun _ _ _ => rfl) trivial (fun hHs hLt i hin hi R hR => ?_);clear hHs hLt;(repeat apply zaa);refine zl5 ?_;simp only [push_cast, seval];(repeat apply zaa);refine zae ?_;simp only [push_cast, seval];refine ⟨fun h => ?_, fun h => ?_⟩
    ·have hil : i < y.locks.length := (by omega);have hv := hat i hil;obtain ⟨hv0, hv1, hv2⟩ := hnext i;have hwi := w1 i (by omega);have hmi := hmany i;have hwm : IntKind.i64.wrap (((alS (alkS y) i).2 : Int) + 1) = ((alS (alkS y) i).2 : Int) + 1 := zau _ (by omega);have hc1 : decide (valS (alkS y) i < 0) = false := decide_eq_false (by omega);have hc2 : decide (valS (alkS y) i > ((alS (alkS y) i).2 : Int)) = false := decide_eq_false (by omega);(repeat apply zaa);refine zah ?_;simp only [push_cast, seval];(repeat apply zaa);refine zag ?_;(repeat apply zaa);refine zl5 ?_;simp only [push_cast, seval, za2 hv, zaz hil, hc1, hc2];(repeat apply zaa);refine zae ?_;simp only [push_cast, seval];(repeat apply zaa);refine zah ?_;simp only [push_cast, seval];refine zaa ?_; refine awp_thenQ (fun s' => s'.Sub ⟨[(10, iv (alS (alkS y) (i + 1)).2), (10, iv (alS (alkS y) i).2), (11, iv i), (11, iv 0), (10, iv 0), (4, .op HH.length 0), (7, .sl (truthsL y).length ((truthsL y).map aInts) .shut), (8, .sl y.locks.length ((alS (alkS y) y.locks.length).1.map iv) en2)], HH ++ [.cells [iv y.cuts, aKeys y.keys, .sl y.locks.length (y.locks.map aBands) .shut, aTries y.tries] 26]⟩) (fun s' hs' => ?_) ?_
     ·refine ziu hs' ?_;(repeat apply zaa);refine zl5 ?_;simp only [push_cast, seval];(repeat apply zaa);refine zag ?_;refine zaB i (fun q : Nat => [(12, iv q)]) (fun _ => _) (fun _ => True) (fun _ _ => rfl) (by simp only [push_cast, seval, List.forall_mem_cons, List.not_mem_nil, false_imp_iff, implies_true, List.forall_mem_nil]; simp [zaf, Wk.refl]) rfl (fun _ _ _ => rfl) trivial (fun hHs hLt q hqn hqo R2 hR2 => ?_);clear hHs hLt;(repeat apply zaa);refine zl5 ?_;simp only [push_cast, seval];(repeat apply zaa);refine zae ?_;simp only [push_cast, seval];refine ⟨fun h2 => ?_, fun h2 => ?_⟩
      ·have hql : q < i := (by omega);have hql2 : q < y.locks.length := (by omega);have hvq := hat q hql2;have hwq := w1 q (by omega);have hS := hSq i q hql hil;have hsmm := hsm i q;have hso := fun k => hsome i q k;rw [hsmm] at hso;(repeat apply zaa);refine zah ?_;simp only [push_cast, seval];(repeat apply zaa);refine zag ?_;(repeat apply zaa);refine zl5 ?_;simp only [push_cast, seval];(repeat apply zaa);refine zl5 ?_;simp only [push_cast, seval];(repeat apply zaa);refine zag ?_;refine zaB (truthsL y).length (fun j : Nat => [(13, bv (((truthsL y).take j).all fun t => !differM y t (belowM y.keys.length) i q)), (14, iv j)]) (fun _ => _) (fun _ => True) (fun _ _ => rfl) (by simp only [push_cast, seval, List.forall_mem_cons, List.not_mem_nil, false_imp_iff, implies_true, List.forall_mem_nil]; simp [zaf, Wk.refl]) rfl (fun _ _ _ => rfl) trivial (fun hHs hLt j hjn hjo R3 hR3 => ?_);clear hHs hLt;(repeat apply zaa);refine zl5 ?_;simp only [push_cast, seval];(repeat apply zaa);refine zae ?_;simp only [push_cast, seval];refine ⟨fun h3 => ?_, fun h3 => ?_⟩
       ·have hjl : j < (truthsL y).length := (by omega);obtain ⟨t, ht⟩ := zaE hjl;obtain ⟨htn, htb⟩ := htr t (zas ht);have hwj := w1 j (by omega);rw [all_take_suc _ ht] at hR3;generalize ((truthsL y).take j).all (fun t => !differM y t (belowM y.keys.length) i q) = b1 at hR3 ⊢;(repeat apply zaa);refine zah ?_;simp only [push_cast, seval];(repeat apply zaa);refine zag ?_;cases hb : b1 with
        | false =>
         (repeat apply zaa);refine zaT F.mixed 18 (by kernel_rfl) ?_;simp only [push_cast, seval, zlB ht, zaz hjl, hb];rw [hb] at hR3;(repeat apply zaa);refine zl5 ?_;simp only [push_cast, seval, hwj];refine hR3 _ ⟨hjl, trivial, ?_⟩;simp only [Bool.false_and];exact (zax (zam rfl rfl) (by simp only [push_cast, seval]; simp [zaf, Wk.refl]))
        | true =>
         (repeat apply zaa);refine zaT F.mixed 18 (by kernel_rfl) ?_;simp only [push_cast, seval, zlB ht, zaz hjl, hb];rw [hb] at hR3;refine qCall (t := ⟨0⟩) (aRows (ordersM y.keys.length)) (zad (by kernel_rfl) (f61_c (by omega) ⟨rfl, rfl⟩)) ?_;(try simp only [push_cast, seval, zlB ht, zaz hjl, hb, aRows, hO, aInts]);refine ⟨by omega, ?_⟩;refine qCall (t := ⟨0⟩) (bv (differM y t (belowM y.keys.length) i q)) (zad (by kernel_rfl) (f60_c (x := y) hy (by omega) htb (by omega) hob hil hql2 ⟨rfl, rfl⟩)) ?_;(try simp only [push_cast, seval]);(repeat apply zaa);refine zl5 ?_;simp only [push_cast, seval, hwj];refine hR3 _ ⟨hjl, trivial, ?_⟩;simp only [Bool.true_and];exact (zax (zam rfl rfl) (by simp only [push_cast, seval]; simp [zaf, Wk.refl]))
       ·have hjx : j = (truthsL y).length := (by omega);subst hjx;clear hR3;rw [List.take_length];(repeat apply zaa);refine zaq ?_;simp only [push_cast, seval];generalize ((truthsL y).all fun t => !differM y t (belowM y.keys.length) i q) = sm at hS hso ⊢;have heq : (sm != (valS (alkS y) i == valS (alkS y) q)) = false := by
         cases sm with
         | true => rw [hS.1 rfl]; simp
         | false =>
          have : ¬ valS (alkS y) i = valS (alkS y) q := fun e => (by have := hS.2 e; cases this);simp [this]
        (repeat apply zaa);refine zaT F.mixed 11 (by kernel_rfl) ?_;simp only [push_cast, seval, za2 hv, zaz hil, za2 hvq, zaz hql2, heq];(repeat apply zaa);refine zae ?_;simp only [push_cast, seval];(repeat apply zaa);refine zah ?_;simp only [push_cast, seval];(repeat apply zaa);refine zl5 ?_;simp only [push_cast, seval];(repeat apply zaa);refine zag ?_;refine zaB y.keys.length (fun k : Nat => [(15, iv k)]) (fun _ => _) (fun _ => True) (fun _ _ => rfl) (by simp only [push_cast, seval, List.forall_mem_cons, List.not_mem_nil, false_imp_iff, implies_true, List.forall_mem_nil]; simp [zaf, Wk.refl]) rfl (fun _ _ _ => rfl) trivial (fun hHs hLt k hkn hko R4 hR4 => ?_);clear hHs hLt;by_cases hgo : k < y.keys.length ∧ sm = true
        ·obtain ⟨hkl2, rfl⟩ := hgo;have hkd : decide ((k : Int) < y.keys.length) = true := decide_eq_true (by omega);have hwk := w1 k (by omega);have hss := hso k rfl hkl2;(repeat apply zaa);refine zl5 ?_;simp only [push_cast, seval, aKeys, hkd];(repeat apply zaa);refine zae ?_;simp only [push_cast, seval];(repeat apply zaa);refine zah ?_;simp only [push_cast, seval];(repeat apply zaa);refine zag ?_;(repeat apply zaa);refine zl5 ?_;simp only [push_cast, seval];refine zl6 ((f32_k (x := y) (hmn2 _) hy hkl2 hil ?_));(try simp only [push_cast, seval]);(repeat apply zaa);refine zl5 ?_;simp only [push_cast, seval];refine zl6 ((f32_k (x := y) (hmn2 _) hy hkl2 hql2 ?_));(try simp only [push_cast, seval]);simp only [if_neg hD, hss];(repeat apply zaa);refine zl5 ?_;simp only [push_cast, seval, hEe, bne_self_eq_false, decide_false, decide_true];(repeat apply zaa);refine zae ?_;simp only [push_cast, seval];(repeat apply zaa);refine zah ?_;simp only [push_cast, seval];(repeat apply zaa);refine zl5 ?_;simp only [push_cast, seval, hwk];refine hR4 _ ⟨hkl2, trivial, (zax (zam rfl rfl) (by simp only [push_cast, seval]; simp [zaf, Wk.refl]))⟩
        ·clear hR4;have hkd : (decide ((k : Int) < y.keys.length) = false) ∨ (decide ((k : Int) < y.keys.length) = true ∧ sm = false) := by
          by_cases h : k < y.keys.length
          ·exact .inr ⟨decide_eq_true (by omega), by cases sm with
            | true => exact absurd ⟨h, rfl⟩ hgo
            | false => rfl⟩
          ·exact .inl (decide_eq_false (by omega))
         rcases hkd with hkd | ⟨hkd, rfl⟩
         ·(repeat apply zaa);refine zl5 ?_;simp only [push_cast, seval, aKeys, hkd];(repeat apply zaa);refine zae ?_;simp only [push_cast, seval];(repeat apply zaa);refine zaq ?_;simp only [push_cast, seval];(repeat apply zaa);refine zl5 ?_;simp only [push_cast, seval, hwq];refine hR2 _ ⟨hql, trivial, (zax (zam rfl rfl) (by simp only [push_cast, seval]; simp [zaf, Wk.refl]))⟩
         ·(repeat apply zaa);refine zl5 ?_;simp only [push_cast, seval, aKeys, hkd];(repeat apply zaa);refine zae ?_;simp only [push_cast, seval];(repeat apply zaa);refine zaq ?_;simp only [push_cast, seval];(repeat apply zaa);refine zl5 ?_;simp only [push_cast, seval, hwq];refine hR2 _ ⟨hql, trivial, (zax (zam rfl rfl) (by simp only [push_cast, seval]; simp [zaf, Wk.refl]))⟩
      ·clear hR2;(repeat apply zaa);refine zaq ?_;simp only [push_cast, seval];(repeat apply zaa);refine zl5 ?_;simp only [push_cast, seval, hwi];refine hR _ ⟨hil, trivial, (zax (zam rfl rfl) (by simp only [push_cast, seval]; simp [zaf, Wk.refl]))⟩
     ·(repeat apply zaa);refine zl5 ?_;simp only [push_cast, seval, za2 hv, zaz hil];(repeat apply zaa);refine zae ?_;simp only [push_cast, seval];refine ⟨fun h3 => ?_, fun h3 => ?_⟩
      ·have h3 : valS (alkS y) i = ((alS (alkS y) i).2 : Int) := (by simpa using h3);rw [if_pos h3] at hv2;(repeat apply zaa);refine zl5 ?_;simp only [push_cast, seval, hwm];rw [hv2];exact ⟨fun t' a e' => sub_look3 (zam rfl rfl) (by simp only [push_cast, seval, List.forall_mem_cons, List.not_mem_nil, false_imp_iff, implies_true, List.forall_mem_nil]; simp [zaf, Wk.refl]) e', rfl⟩
      ·have h3 : ¬ valS (alkS y) i = ((alS (alkS y) i).2 : Int) := (by simpa using h3);rw [if_neg h3] at hv2;(repeat apply zaa);refine zah ?_;simp only [push_cast, seval];rw [hv2];exact ⟨fun t' a e' => sub_look3 (zam rfl rfl) (by simp only [push_cast, seval, List.forall_mem_cons, List.not_mem_nil, false_imp_iff, implies_true, List.forall_mem_nil]; simp [zaf, Wk.refl]) e', rfl⟩
    ·clear hR;(repeat apply zaa);refine zaq ?_;simp only [push_cast, seval];(repeat apply zaa);refine zl5 ?_;simp only [push_cast, seval];refine zl6 ((f25_c (hmn2 _) ?_));(try simp only [push_cast, seval]);(repeat apply zaa);refine zai ?_;simp only [push_cast, seval];rw [hG];exact endA hH (Wk.refl _) (by simp [zap]) hk
 ·by_cases hl0 : x.locks.length = 0
  ·have hg : decide ((x.locks.length : Int) > 0) = false := decide_eq_false (by omega);(repeat apply zaa);refine zl5 ?_;simp only [push_cast, seval, hg];(repeat apply zaa);refine zae ?_;simp only [push_cast, seval];(repeat apply zaa);refine zah ?_;simp only [push_cast, seval];exact ⟨x, [tinO τ, o1, o1, .tail x.keys.length 3 65, .tail x.locks.length 1 29, .tail x.tries.length 3 28, .tail x.keys.length 1 3], .opn (H.length + 4), hx, hkl, rfl, fun t' a e' => zh2 (by simp only [push_cast, seval, List.forall_mem_cons, List.not_mem_nil, false_imp_iff, implies_true, List.forall_mem_nil]; simp [zaf, Wk.refl]) e', by simp⟩
  ·have hg : decide ((x.locks.length : Int) > 0) = true := decide_eq_true (by omega);have hw : IntKind.i64.wrap ((x.locks.length : Int) - 1) = x.locks.length - 1 := zau _ (by omega);(repeat apply zaa);refine zl5 ?_;simp only [push_cast, seval, hg];refine zl6 ((f44_c (tinAt_at H _) hτ (by omega) (by omega) ?_));(try simp only [push_cast, seval]);have hτ2 := hτ.tick;generalize tick τ = τ2 at hτ2 ⊢;(repeat apply zaa);refine zae ?_;simp only [push_cast, seval];refine ⟨fun h => ?_, fun h => ?_⟩
   ·have hv := zaX τ2 ((x.locks.length : Int) - 1);generalize hbx : uptoT τ2 ((x.locks.length : Int) - 1) = bx at hv;obtain ⟨bn, rfl⟩ : ∃ n : Nat, bx = n := ⟨bx.toNat, by omega⟩;have hbn : bn < x.locks.length := (by omega);obtain ⟨lk, hlk⟩ := zaE hbn;obtain ⟨hlkl, hlkb⟩ := hx.lock lk (zas hlk);have hc := hx.cuts;have hml : (x.locks.map aBands).length = x.locks.length := List.length_map ..;have hzs1 : zeroRow (Value.slice none 0 0) 1 = [.sl 0 [] .exact] := rfl;(repeat apply zaa);refine zbE [7, 12, 14] [0, 1, 2, 3, 4, 5, 6, 7, 8, 9, 10, 11, 12, 13, 14] [⟨0, false, [], [([7], [7])]⟩, ⟨1, false, [], [([7], [7])]⟩, ⟨2, false, [], [([7], [7])]⟩, ⟨3, false, [], [([7], [7])]⟩, ⟨4, false, [], []⟩, ⟨5, false, [], []⟩, ⟨6, false, [], []⟩, ⟨7, true, [7], []⟩, ⟨8, false, [7], []⟩, ⟨9, false, [7], []⟩, ⟨10, false, [7], []⟩, ⟨11, false, [7], []⟩, ⟨12, true, [7, 12], []⟩, ⟨13, false, [7, 12], []⟩, ⟨14, true, [7, 12, 14], []⟩] (fun D => H ++ [tinO (bif isDone 7 D then tick τ2 else τ2), o1, o1, .tail x.keys.length 3 65, .tail (bif isDone 12 D then x.locks.length + 1 else x.locks.length) 1 29, .tail x.tries.length 3 28, .tail x.keys.length 1 3, .cells [iv x.cuts, aKeys x.keys, bif isDone 14 D then .sl (x.locks.length + 1) (x.locks.map aBands ++ [aBands lk]) (.opn (H.length + 4)) else .sl x.locks.length (x.locks.map aBands) (.opn (H.length + 4)), aTries x.tries] 26]) F.mixed (by kernel_rfl) (by kernel_rfl) (by first | rfl | simp only [push_cast, seval]) ?_;simp only [push_cast, seval, zfu hlk, zaz hbn, hml, hzs1, zhq, hw, aLocks];refine eCall _ _ (zad (by kernel_rfl) (f29_c (tinAt_at H _) hτ2 (by omega) (by omega) ⟨rfl, rfl⟩)) ?_;(try simp only [push_cast, seval, zfu hlk, zaz hbn, hml, hzs1, zhq, hw, aLocks, hbx]);refine qCall (aBands lk) (zad (by kernel_rfl) (f59_c (xs := lk) (by omega) ⟨rfl, rfl⟩)) ?_;(try simp only [push_cast, seval, zfu hlk, zaz hbn, hml, hzs1, zhq, hw, aLocks, zfd, zho]);refine ⟨by omega, ⟨x.cuts, x.keys, x.locks ++ [lk], x.tries⟩, [tinO (tick τ2), o1, o1, .tail x.keys.length 3 65, .tail (x.locks.length + 1) 1 29, .tail x.tries.length 3 28, .tail x.keys.length 1 3], .opn (H.length + 4), withL_ok hx (zas hlk) hll, hkl, rfl, fun t' a e' => zh2 (by simp only [push_cast, seval, List.forall_mem_cons, List.not_mem_nil, false_imp_iff, implies_true, List.forall_mem_nil]; simp [zaf, Wk.refl]) e', by simp⟩
   ·(repeat apply zaa);refine zah ?_;simp only [push_cast, seval];exact ⟨x, [tinO τ2, o1, o1, .tail x.keys.length 3 65, .tail x.locks.length 1 29, .tail x.tries.length 3 28, .tail x.keys.length 1 3], .opn (H.length + 4), hx, hkl, rfl, fun t' a e' => zh2 (by simp only [push_cast, seval, List.forall_mem_cons, List.not_mem_nil, false_imp_iff, implies_true, List.forall_mem_nil]; simp [zaf, Wk.refl]) e', by simp⟩
end
end Go.Gg
namespace Go.Proofs.YtoaaoiipickclaaGreat
open Go.Conc Go.Proofs Go.Gg
theorem kkName : Tryz.prog.funcNamed Rows.keyAlikeRow.func = some 10 := by kernel_rfl
theorem kkJoined : joinedFacts Tryz.prog 10 Tryz.f10 Rows.keyAlikeSpec Rows.keyAlikeRow = true :=
 zkH (by kernel_rfl) Tz.laidOut (by kernel_rfl) (by kernel_rfl) (by kernel_rfl) (by kernel_rfl) (by kernel_rfl) (by kernel_rfl) (by kernel_rfl) (by kernel_rfl) (by kernel_rfl) (by kernel_rfl) (by kernel_rfl) (by kernel_rfl) (by kernel_rfl) (by kernel_rfl) (by kernel_rfl) (by kernel_rfl) (by kernel_rfl) (by kernel_rfl) (by kernel_rfl) (by kernel_rfl) (by kernel_rfl) (by kernel_rfl) (by kernel_rfl) Tz.mayEnter (zkB (by kernel_rfl)) (make_of' (by kernel_rfl)) (by kernel_rfl) (by kernel_rfl) (by kernel_rfl) (by kernel_rfl) (by kernel_rfl)
theorem kkInst : Tryz.f10.isInstance Tryz.prog Rows.keyAlikeRow.origin Rows.keyAlikeRow.targs := of_decide_eq_true (by kernel_rfl)
theorem kkWrap : Tryz.f10.isWrapper Tryz.prog Rows.keyAlikeRow.wrapper Rows.keyAlikeRow.mainSum := by unfold Func.isWrapper; first | (rw [if_pos (by decide +kernel)]; kernel_rfl) | (rw [if_neg (by decide +kernel)]; exact ⟨rfl, rfl⟩)
theorem keyAlike_lifted (os : Os) (started : os.Started) (H : Type) (enc : TypeId × Value → H) :
  ReturnsInLeavingWide {} Tryz.checked os 10 .any (Rows.keyAlikeSpec.pre6 enc Tryz.prog Tryz.f10 Rows.keyAlikeRow.domain false) (Rows.keyAlikeSpec.post enc Tryz.prog Tryz.f10 false true false false) :=
 zhC (f := 10) (fn := Tryz.f10) (s := Rows.keyAlikeSpec) Tryz.func10 rfl rfl rfl (fun _ _ => rfl) (by kernel_rfl) (fun nums hn => f10_c rfl hn rfl) os started H enc
  (ChangeSpec.witness6 (enc := enc) (C := Tryz.checked) false ⟨#[], #[.slice none 0 0], []⟩ 8 (by kernel_rfl) (by kernel_rfl) (by kernel_rfl) (by kernel_rfl))
theorem keyAlike_holds : Rows.KeyAlikeSaid :=
 OpenClaim.holds_of_wide_leaving 10 Tryz.f10 rfl rfl rfl rfl rfl rfl rfl ⟨rfl, rfl, rfl, rfl, rfl⟩ rfl rfl rfl rfl rfl kkName Tryz.func10 kkJoined kkInst kkWrap
  (fun os started H enc _ => keyAlike_lifted os started H enc)
end Go.Proofs.YtoaaoiipickclaaGreat
