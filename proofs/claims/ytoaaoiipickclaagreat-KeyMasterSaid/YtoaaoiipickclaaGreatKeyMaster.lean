/- The law KeyMaster answers true at every list of numbers, on every schedule. No condition. -/
import Derived.Test.YtoaaoiipickclaaGreatR05
set_option linter.all false
namespace Go.Gg
open Go.Conc Go.Proofs
theorem F.AppOf_50_50 : AppOf Tryz.prog 50 50 = (some (52, (2, (.agg #[(.int .i64 0), (.bool false)])))) := by kernel_rfl
theorem F.f12 : Tryz.prog.funcs[12]? = some Tryz.f12 := by kernel_rfl
theorem F.f20 : Tryz.prog.funcs[20]? = some Tryz.f20 := by kernel_rfl
theorem F.f76 : Tryz.prog.funcs[76]? = some Tryz.f76 := by kernel_rfl
theorem F.f147 : Tryz.prog.funcs[147]? = some Tryz.f147 := by kernel_rfl
attribute [push_cast] F.AppOf_50_50
def subsetsM (n : Nat) : Nat → Nat → List (List Int)
 | 0, _ => [[]]
 | k + 1, first => (List.range' first (n - k - first)).flatMap fun i => (subsetsM n k (i + 1)).map ((i : Int) :: ·)
def choicesM (n : Nat) : List (List Int) := (List.range (n + 1)).flatMap fun k => subsetsM n k 0
def butM (x : Ring) (but : List Int) : Nat → List Try
 | 0 => []
 | i + 1 => butM x but i ++ (match x.tries[i]? with | some r => if but.contains (i : Int) then [] else [r] | none => [])
def withoutR (x : Ring) (but : List Int) : Ring := ⟨x.cuts, x.keys, x.locks, butM x but x.tries.length⟩
def okAll (x : Ring) (row : List Int) (ts : List Try) : Bool := ts.all (triedM x row)
open Go.Conc Go.Proofs
section
variable {lv : Bool} {H : List AObj} {k kp : AV → List AObj → Prop}
end
section
variable {lv : Bool} {H : List AObj} {k kp : AV → List AObj → Prop}
end
open Go.Conc Go.Proofs
def outJ (n kk first j : Nat) : List (List Int) := (List.range' first j).flatMap fun i => (subsetsM n kk (i + 1)).map ((i : Int) :: ·)
theorem zlW {l : List AV} {a b : AV} (h : Wk a b) : Wks (l ++ [a]) (l ++ [b]) := by
 induction l with
 | nil => exact .cons h .nil
 | cons x l ih => exact .cons (Wk.refl _) ih
theorem zlZ (n m k : Nat) (bs : List (List Int)) : Lt n (.sl m (bs.map aInts) (.opn k)) = (k < n) := by
 rw [zdq, eq_iff_iff];refine ⟨fun h => h.1, fun h => ⟨h, fun a ha => ?_⟩⟩;have := zlv n bs;rw [aRows, za3] at this;exact this.mpr trivial a ha
theorem zs1 : zeroRow (Value.slice none 0 0) 1 = [.sl 0 [] .exact] := rfl
theorem zlC {α β : Type} {xs : List α} {i : Nat} {x : α} (f : α → β) (h : xs[i]? = some x) : (xs.take (i + 1)).map f = (xs.take i).map f ++ [f x] := by
 obtain ⟨hj, rfl⟩ := List.getElem?_eq_some_iff.1 h;rw [List.take_succ_eq_append_getElem hj, List.map_append]; rfl
theorem zlX {H : List AObj} (hH : HOk H) (n sz : Nat) (el : TypeId) : HOk (H ++ [.tail n sz el]) := zc6 hH fun z hz m => by rw [List.mem_singleton.1 hz]; trivial
section
variable {lv : Bool}
end
open Go.Conc Go.Proofs
def choicesTo (n j : Nat) : List (List Int) := (List.range j).flatMap fun k => subsetsM n k 0
section
variable {lv : Bool} {H : List AObj} {k kp : AV → List AObj → Prop}
end
open Go.Conc Go.Proofs
def listsM (n : Nat) : Nat → List (List Int)
 | 0 => [[]]
 | k + 1 => (List.range n).flatMap fun i : Nat => (listsM n k).map ((i : Int) :: ·)
def listJ (n kk j : Nat) : List (List Int) := (List.range j).flatMap fun i : Nat => (listsM n kk).map ((i : Int) :: ·)
theorem zlA (n kk j : Nat) : listJ n kk (j + 1) = listJ n kk j ++ (listsM n kk).map ((j : Int) :: ·) := by
 unfold listJ;rw [List.range_succ, List.flatMap_append]; simp
theorem zeh : ∀ n, n ≤ 4 → ∀ k, k ≤ 4 → (listsM n k).length ≤ 256 ∧ ∀ r ∈ listsM n k, r.length = k ∧ ∀ i ∈ r, 0 ≤ i ∧ i < n := by decide +kernel
theorem zlF (n kk : Nat) (h : (listsM n kk).length ≤ 256) : ∀ j, (listJ n kk j).length ≤ 256 * j
 | 0 => by simp [listJ]
 | j + 1 => by
  have h1 := zlF n kk h j;rw [zlA, List.length_append, List.length_map]; omega
section
variable {lv : Bool}
theorem f63_c : ∀ (kk : Nat) {n : Nat} {H : List AObj} {k kp : AV → List AObj → Prop}, n ≤ 4 → kk ≤ 4 → k (aRows (listsM n kk)) H → FnC lv Tryz.prog 63 H [iv n, iv kk] k kp
 | 0, n, H, k, kp, hn, hkk, hk => by
  refine zak (rs := [.tmp 4]) (nt := 38) F.f63 rfl rfl rfl (by simp) fun hH hA => ?_;simp only [argsT, Nat.reduceAdd];(repeat apply zaa);refine zl5 ?_;simp only [push_cast, seval];(repeat apply zaa);refine zl5 ?_;simp only [push_cast, seval, beq_self_eq_true];(repeat apply zaa);refine zae ?_;simp only [push_cast, seval];(repeat apply zaa);refine zl5 ?_;simp only [push_cast, seval, zs1, zhq];(repeat apply zaa);refine zai ?_;simp only [push_cast, seval];exact zaJ (b := aRows [[]]) (H' := H) (G := []) (wk_sl (.cons (zaK _ _ _) .nil)) (by simp) (Nat.le_refl _) hH (by rw [zlv]; trivial) hk
 | kk + 1, n, H, k, kp, hn, hkk, hk => by
  refine zak (rs := [.tmp 4]) (nt := 38) F.f63 rfl rfl rfl (by simp) fun hH hA => ?_;simp only [argsT, Nat.reduceAdd];have hz : (((kk : Int) + 1) == 0) = false := by simp; omega
  have hw3 : IntKind.i64.wrap ((kk : Int) + 1 - 1) = kk := by rw [zau _ (by omega)]; omega
  (repeat apply zaa);refine zl5 ?_;simp only [push_cast, seval];(repeat apply zaa);refine zl5 ?_;simp only [push_cast, seval, hz];(repeat apply zaa);refine zae ?_;simp only [push_cast, seval];(repeat apply zaa);refine zah ?_;simp only [push_cast, seval];(repeat apply zaa);refine zl5 ?_;simp only [push_cast, seval]
  (repeat apply zaa); refine zbV (t := 5) (sz := 1) (el := 30) (by simp only [push_cast, seval] <;> rfl) ?_
  (repeat apply zaa);refine zl5 ?_;simp only [push_cast, seval, hw3];refine zl6 ((f63_c kk hn (by omega) ?_));(try simp only [push_cast, seval, aRows]);have hfa := zeh n hn kk (by omega);have hlen := zlF n kk hfa.1;have hsuc := zlA n kk;have hall : listJ n kk n = listsM n (kk + 1) := rfl;generalize listsM n kk = l at hfa hsuc ⊢;obtain ⟨hl20, hlr⟩ := hfa;(repeat apply zaa);refine zl5 ?_;simp only [push_cast, seval];(repeat apply zaa);refine zag ?_;refine zaB n (fun j : Nat => [(5, .sl (listJ n kk j).length ((listJ n kk j).map aInts) (.opn H.length)), (7, iv j)]) (fun j => H ++ [.tail (listJ n kk j).length 1 30]) (fun i => True) (fun _ _ => rfl) (by simp only [push_cast, seval, List.forall_mem_cons, List.not_mem_nil, false_imp_iff, implies_true, List.forall_mem_nil]; simp [zaf, Wk.refl]; exact Wk.refl _) rfl (fun _ _ _ => by simp) trivial (fun hHs hLt j hjn hj R hR => ?_);clear hHs hLt;(repeat apply zaa);refine zl5 ?_;simp only [push_cast, seval];(repeat apply zaa);refine zae ?_;simp only [push_cast, seval];refine ⟨fun h => ?_, fun h => ?_⟩
  ·have hjl : j < n := (by omega);have hw2 : IntKind.i64.wrap ((j : Int) + 1) = j + 1 := zau _ (by omega);have hsucc := hsuc j;have hll := hlen j;generalize listJ n kk j = o at hsucc hll hR ⊢;(repeat apply zaa);refine zah ?_;simp only [push_cast, seval];(repeat apply zaa);refine zag ?_;(repeat apply zaa);refine zl5 ?_;simp only [push_cast, seval];(repeat apply zaa);refine zag ?_;refine zaB l.length (fun x : Nat => [(5, .sl (o.length + x) ((o ++ (l.take x).map ((j : Int) :: ·)).map aInts) (.opn H.length)), (8, iv x)]) (fun x => H ++ [.tail (o.length + x) 1 30]) (fun i => True) (fun _ _ => rfl) (by simp only [push_cast, seval, List.forall_mem_cons, List.not_mem_nil, false_imp_iff, implies_true, List.forall_mem_nil]; simp [zaf, Wk.refl]) (by simp) (fun _ _ _ => by simp) trivial (fun hHs hLt x hxn hx R2 hR2 => ?_);clear hHs hLt;(repeat apply zaa);refine zl5 ?_;simp only [push_cast, seval];(repeat apply zaa);refine zae ?_;simp only [push_cast, seval];refine ⟨fun h2 => ?_, fun h2 => ?_⟩
   ·have hxl : x < l.length := (by omega);obtain ⟨r, hr⟩ := zaE hxl;have hrl := (hlr r (zas hr)).1;have hw4 : IntKind.i64.wrap ((x : Int) + 1) = x + 1 := zau _ (by omega);have hol : ((o ++ (l.take x).map ((j : Int) :: ·)).map aInts).length = o.length + x := (by simp; omega);have hnx : (o ++ (l.take (x + 1)).map ((j : Int) :: ·)).map aInts = (o ++ (l.take x).map ((j : Int) :: ·)).map aInts ++ [aInts ((j : Int) :: r)] := by
     rw [zlC _ hr, ← List.append_assoc, List.map_append]; rfl
    have hri : (r.map iv).length = r.length := List.length_map ..;(repeat apply zaa);refine zah ?_;simp only [push_cast, seval];(repeat apply zaa);refine zag ?_;(repeat apply zaa);refine zl5 ?_;simp only [push_cast, seval, z1, zs1, zhq, zlB hr, zaz hxl, hol, hri, aInts]
    first | refine ⟨by omega, by simp; omega, by omega, ?_⟩ | refine ⟨by omega, by omega, ?_⟩
    (repeat apply zaa);refine zl5 ?_;simp only [push_cast, seval, hw4];refine hR2 _ ⟨hxl, trivial, ?_⟩;rw [hnx];refine zce [.tail (1 + r.length) 1 3] (zam rfl rfl) ?_ (zlX hH _ _ _) ?_ (by simp [Nat.add_assoc])
    ·(try simp only [push_cast, seval]);exact ⟨⟨_, rfl, have h := zlW (l := (o ++ (l.take x).map ((j : Int) :: ·)).map aInts) (show Wk (.sl (1 + r.length) (iv (j : Int) :: r.map iv) (.opn (H.length + 1))) (aInts ((j : Int) :: r)) by rw [aInts, Nat.add_comm]; exact zaK _ _ _); zeg h.len h.at⟩, _, rfl, Wk.refl _⟩
    ·rw [← hnx];simp only [List.forall_mem_cons, zap, zlZ, iv]; simp
   ·have hxx : x = l.length := (by omega);subst hxx;(repeat apply zaa);refine zaq ?_;simp only [push_cast, seval];(repeat apply zaa);refine zl5 ?_;simp only [push_cast, seval, hw2];refine hR _ ⟨hjl, trivial, ?_⟩;rw [hsucc];simp only [List.take_length, List.length_append, List.length_map];exact (zax (zam rfl rfl) (by simp only [push_cast, seval]; simp [zaf, Wk.refl]))
  ·have hjx : j = n := (by omega);subst hjx;(repeat apply zaa);refine zaq ?_;simp only [push_cast, seval];(repeat apply zaa);refine zl5 ?_;simp only [push_cast, seval];(repeat apply zaa);refine zai ?_;simp only [push_cast, seval];rw [hall];exact endA (b := aRows (listsM j (kk + 1))) hH (zaK _ _ _) (by rw [zlv]; trivial) hk
end
section
variable {lv : Bool} {H : List AObj} {k kp : AV → List AObj → Prop}
end
open Go.Conc Go.Proofs
def wearOk (x : Ring) (t : List Int) : Nat → Bool
 | 0 => true
 | k + 1 => wearOk x t k && (match x.keys[k]?, t[k]? with | some y, some w => decide (y.wear.min ≤ w) && decide (w ≤ y.wear.max) | _, _ => true)
def triesOk (x : Ring) (t : List Int) : Nat → Bool
 | 0 => true
 | i + 1 => triesOk x t i && (match x.tries[i]? with | some r => opensW x.keys t x.locks r.key r.lock == r.opens | none => true)
def fineW (x : Ring) (t : List Int) : Bool := wearOk x t x.keys.length && triesOk x t x.tries.length
def truthsL (x : Ring) : List (List Int) := (listsM 3 x.keys.length).filter (fineW x)
section
variable {lv : Bool} {H : List AObj} {k kp : AV → List AObj → Prop}
end
def rowOk (ks : List Key) (r : List Int) : Bool := (ks.zip r).all fun p => decide (p.1.wear.min ≤ p.2) && decide (p.2 ≤ p.1.wear.max)
def padR (n : Nat) (r : List Int) : List Int := r ++ List.replicate (4 - n) 0
theorem ziC (cuts : Int) (ds : List Int) (ls : List (List Band)) (j : Nat) : ∀ i, (openedM cuts ds ls i).testBit j = (decide (j < i) && (match ls[j]? with | some l => fitsM (ds.take cuts.toNat) l | none => false))
 | 0 => by simp [openedM]
 | i + 1 => by
  have ih := ziC cuts ds ls j i;have hlt := zb5 cuts ds ls i;have hhi : (openedM cuts ds ls i).testBit i = false := Nat.testBit_lt_two_pow hlt;unfold openedM;by_cases hji : j = i
  ·subst hji;cases hl : ls[j]? with
   | none => simp [hhi]
   | some l =>
    simp only;split
    ·rename_i hf; simp [Nat.testBit_or, Nat.testBit_two_pow_self, hf]
    ·rename_i hf; simp [hhi, hf]
  ·have hd : decide (j < i + 1) = decide (j < i) := (by congr 1; simp; omega);rw [hd];cases hl : ls[i]? with
   | none => exact ih
   | some l =>
    simp only;split
    ·rw [Nat.testBit_or, ih, Nat.testBit_two_pow_of_ne (Ne.symm hji), Bool.or_false]
    ·exact ih
open Go.Conc Go.Proofs
def differM (x : Ring) (t keys : List Int) (p q : Nat) : Bool := keys.any fun k => opensW x.keys t x.locks k p != opensW x.keys t x.locks k q
section
variable {lv : Bool} {H : List AObj} {k kp : AV → List AObj → Prop}
end
open Go.Conc Go.Proofs
def pairsL (x : Ring) (t keys : List Int) (n : Nat) : Bool := (List.range n).all fun b => (List.range b).all fun a => differM x t keys b a
def tellL (x : Ring) (keys : List Int) : Bool := (truthsL x).all fun t => pairsL x t keys x.locks.length
def TellIs (x : Ring) (g : List Int) (e : Int) : Prop := (truthsM x [] ≠ [] ∧ tellM x = some g ∧ e = 0) ∨ ((truthsM x [] = [] ∨ tellM x = none) ∧ g = [] ∧ e = 11)
section
variable {H : List AObj} {k kp : AV → List AObj → Prop}
end
open Go.Conc Go.Proofs
def bagL (x : Ring) (us : List Turn) (n : Nat) : Bool := (truthsL x).any fun t => us.all fun u => opensW x.keys t x.locks u.key n == u.opens
def dueL (x : Ring) (us : List Turn) (n : Nat) : List Int := ((List.range n).filter (bagL x us)).map fun i : Nat => (i : Int)
def UsOk (x : Ring) (us : List Turn) : Prop := ∀ u ∈ us, 0 ≤ u.key ∧ u.key ≤ (x.keys.length : Int) - 1
def WhichIs (x : Ring) (us : List Turn) (g : List Int) (e : Int) : Prop := (truthsM x [] ≠ [] ∧ g = whichM x us ∧ e = 0) ∨ (truthsM x [] = [] ∧ g = [] ∧ e = 11)
section
variable {H : List AObj} {k kp : AV → List AObj → Prop}
end
open Go.Conc Go.Proofs
theorem all_take_suc {α : Type} {l : List α} {i : Nat} {a : α} (f : α → Bool) (h : l[i]? = some a) : (l.take (i + 1)).all f = ((l.take i).all f && f a) := by
 obtain ⟨hj, rfl⟩ := List.getElem?_eq_some_iff.1 h;rw [List.take_succ_eq_append_getElem hj, List.all_append]; simp
section
variable {H : List AObj} {k kp : AV → List AObj → Prop}
end
open Go.Conc Go.Proofs
def lastF (x : Ring) (m : Nat) (ds : List Int) : Bool := (List.range (m + 1)).all fun n : Nat => openedM x.cuts (wornM n ds) x.locks x.locks.length == 2 ^ x.locks.length - 1
def masterTo (x : Ring) : Nat → Option (List Int × Nat)
 | 0 => none
 | m + 1 => match firstM x.cuts.toNat (lastF x m) with
  | some d => some (d, m)
  | none => masterTo x m
section
variable {lv : Bool} {H : List AObj} {k kp : AV → List AObj → Prop}
theorem f147_c {a r d : Nat} {x : Ring} {ds : List Int} {m : Nat} (hx : x.Ok) (hds : ds.length = 4) (hdb : ∀ w ∈ ds, 0 ≤ w ∧ w ≤ 3) (hm : m ≤ 2) (ha : H[a]? = some (.cells [iv m] 3)) (hr : H[r]? = some (.cells [.rp (x.l ++ opensL x)] 100)) (hd : H[d]? = some (.cells [uv (2 ^ x.locks.length - 1 : Nat)] 110)) (hk : k (bv (lastF x m ds)) H) : FnC lv Tryz.prog 147 H [.agg (ds.map iv), .op a 0, .op r 0, .op d 0] k kp := by
 refine zak (rs := [.tmp 5]) (nt := 20) F.f147 rfl rfl rfl (by simp) fun hH hA => ?_;simp only [argsT, Nat.reduceAdd];have hdl : (ds.map iv).length = 4 := by simp [hds]
 have htk : List.take 4 (ds.map iv) = ds.map iv := List.take_of_length_le (by omega);have hc := hx.cuts;have hl := hx.locks;have hw : IntKind.i64.wrap ((m : Int) + 1) = m + 1 := zau _ (by omega);(repeat apply zaa);refine zl5 ?_;simp only [push_cast, seval];(repeat apply zaa);refine zl5 ?_;simp only [push_cast, seval, zay ha, hw];(repeat apply zaa);refine zag ?_;refine zaB (m + 1) (fun i : Nat => [(9, iv i)]) (fun _ => _) (fun i => ((List.range i).all fun n : Nat => openedM x.cuts (wornM n ds) x.locks x.locks.length == 2 ^ x.locks.length - 1) = true) (fun _ _ => rfl) (by simp only [push_cast, seval, List.forall_mem_cons, List.not_mem_nil, false_imp_iff, implies_true, List.forall_mem_nil]; simp [zaf, Wk.refl]) rfl (fun _ _ _ => rfl) rfl (fun hHs hLt i hin hi R hR => ?_);(repeat apply zaa);refine zl5 ?_;simp only [push_cast, seval];(repeat apply zaa);refine zae ?_;simp only [push_cast, seval];refine ⟨fun h => ?_, fun h => ?_⟩
 ·have him : i < m + 1 := by omega
  have hwi : IntKind.i64.wrap ((i : Int) + 1) = i + 1 := zau _ (by omega);have hwl : (wornM i ds).length = 4 := by simp [wornM, hds]
  (repeat apply zaa);refine zah ?_;simp only [push_cast, seval];(repeat apply zaa);refine zag ?_;(repeat apply zaa);refine zl5 ?_;simp only [push_cast, seval];(repeat apply zaa);refine zaT F.mixed 6 (by kernel_rfl) ?_;simp only [push_cast, seval, zay hr, zay hd, hdl, htk];refine qCall (.agg ((wornM i ds).map iv)) (zad (by kernel_rfl) (f93_c hds hdb (by omega) ⟨rfl, rfl⟩)) ?_;refine qCall (uv (openedM x.cuts (wornM i ds) x.locks x.locks.length)) (zad (by kernel_rfl) (f139_c hwl (by omega) hl (fun l hl => by have := (hx.lock l hl).1; omega) ⟨rfl, rfl⟩)) ?_;(try simp only [push_cast, seval, zay hr, zay hd, hdl, htk]);(repeat apply zaa);refine zae ?_;simp only [push_cast, seval];refine ⟨fun h2 => ?_, fun h2 => ?_⟩
  ·(repeat apply zaa);refine zl5 ?_;simp only [push_cast, seval];(repeat apply zaa);refine zai ?_;simp only [push_cast, seval];have h3 : lastF x m ds = false := by
    refine Bool.eq_false_iff.2 fun e => ?_;have := (List.all_eq_true.1 e) i (List.mem_range.2 him);rw [beq_iff_eq] at this;rw [this] at h2;simp at h2
   rw [h3] at hk;exact endA hH (Wk.refl _) (by simp [zap]) hk
  ·(repeat apply zaa);refine zah ?_;simp only [push_cast, seval];(repeat apply zaa);refine zl5 ?_;simp only [push_cast, seval, hwi];refine hR _ ⟨him, ?_, (zax (zam rfl rfl) (by simp only [push_cast, seval]; simp [zaf, Wk.refl]))⟩;rw [List.range_succ, List.all_append, hi, Bool.true_and];have h3 : ((openedM x.cuts (wornM i ds) x.locks x.locks.length : Nat) : Int) = ((2 ^ x.locks.length - 1 : Nat) : Int) := (by simpa using h2);have h4 := Int.ofNat_inj.1 h3;simp [h4]
 ·have hie : i = m + 1 := by omega
  subst hie;(repeat apply zaa);refine zaq ?_;simp only [push_cast, seval];(repeat apply zaa);refine zl5 ?_;simp only [push_cast, seval];(repeat apply zaa);refine zai ?_;simp only [push_cast, seval];have h3 : lastF x m ds = true := hi;rw [h3] at hk;exact endA hH (Wk.refl _) (by simp [zap]) hk
theorem so_master {a r d : Nat} {x : Ring} {m : Nat} (hx : x.Ok) (hm : m ≤ 2) (ha : H[a]? = some (.cells [iv m] 3)) (hr : H[r]? = some (.cells [.rp (x.l ++ opensL x)] 100)) (hd : H[d]? = some (.cells [uv (2 ^ x.locks.length - 1 : Nat)] 110)) : DoC lv H (.fn (.func 147) [] [.op a 0, .op r 0, .op d 0]) (lastF x m) := fun L ds k kp h1 h2 h =>
 zad (by kernel_rfl) (f147_c hx h1 h2 hm (zay ha) (zay hr) (zay hd) h)
def masterD (i : Nat) : List AObj := (List.range i).map fun j : Nat => .cells [iv (2 - (j : Int))] 3
def masterO (H : List AObj) (x : Ring) (i : Nat) : List AObj := (H ++ [.cells x.l 26, .cells [.rp (x.l ++ opensL x)] 100, .cells [uv (2 ^ x.locks.length - 1 : Nat)] 110]) ++ masterD i
def masterS (H : List AObj) (x : Ring) (i : Nat) : AS := ⟨[(5, .op (H.length + 1) 0), (7, .op (H.length + 2) 0), (8, .op (H.length + 3 + i) 0)], masterO H x i ++ [.cells [iv (2 - (i : Int))] 3]⟩
theorem masterO_len (H : List AObj) (x : Ring) (i : Nat) : (masterO H x i).length = H.length + 3 + i := by simp [masterO, masterD]; omega
theorem masterO_succ (H : List AObj) (x : Ring) (i : Nat) : masterO H x (i + 1) = masterO H x i ++ [.cells [iv (2 - (i : Int))] 3] := by
 unfold masterO masterD; rw [List.range_succ, List.map_append, List.append_assoc, List.append_assoc]; simp
theorem f76_c {x : Ring} (hnr : NewRingC lv) (hmain : H[0]? = some .main) (hs : x.Small) (h1 : openE x none ≠ 0 → k (.tup [.sl 0 [] .exact, iv 0, iv (openE x none)]) H) (h2 : openE x none = 0 → masterTo x 3 = none → k (.tup [.sl 0 [] .exact, iv 0, iv 11]) H) (h3 : openE x none = 0 → ∀ d m, masterTo x 3 = some (d, m) → k (.tup [aInts d, iv m, iv 0]) H) : FnC lv Tryz.prog 76 H [x.av] k kp := by
 have hmn : ∀ L : List AObj, (H ++ L)[0]? = some .main := fun L => zay hmain;refine zak (rs := [.tmp 2, .tmp 3, .tmp 4]) (nt := 41) F.f76 rfl rfl rfl (by simp) fun hH hA => ?_;simp only [argsT, Nat.reduceAdd, Ring.av];(repeat apply zaa);refine zl5 ?_;simp only [push_cast, seval, Ring.l];(repeat apply zaa);refine zl5 ?_;simp only [push_cast, seval];refine zl6 ((f87_c hnr (hmn _) hs zbA (fun hz => ?_) (fun hz => ?_)))
 ·(try simp only [push_cast, seval]);(repeat apply zaa);refine zl5 ?_;simp only [push_cast, seval];(repeat apply zaa);refine zae ?_;simp only [push_cast, seval];refine ⟨fun h => ?_, fun h => absurd (by simpa using h) hz⟩;(repeat apply zaa);refine zl5 ?_;simp only [push_cast, seval];(repeat apply zaa);refine zai ?_;simp only [push_cast, seval];exact endA hH (Wk.refl _) (by simp [zap, zaD, zbh]) (h1 hz)
 ·(try simp only [push_cast, seval]);(repeat apply zaa);refine zl5 ?_;simp only [push_cast, seval];have hx := zbp hz;have h2 := h2 hz;have h3 := h3 hz;have hl4 := hx.locks;have hlk : x.l ++ opensL x = iv x.cuts :: aKeys x.keys :: aLocks x.locks :: aTries x.tries :: opensL x := rfl;(repeat apply zaa);refine zae ?_;simp only [push_cast, seval];(repeat apply zaa);refine zah ?_;simp only [push_cast, seval];(repeat apply zaa);refine zl5 ?_;simp only [push_cast, seval, hlk, aLocks, ziv, if_nat, mask_u8 hl4];(repeat apply zaa);refine zl5 ?_;simp only [push_cast, seval];(repeat apply zaa);refine zag ?_;refine awp_loop (measure fun i => 4 - i).wf (masterS H x) (fun i => i ≤ 3 ∧ masterTo x 3 = masterTo x (3 - i)) 0 ⟨fun t' a e => zh2 (by unfold masterS; simp only [push_cast, seval, List.forall_mem_cons, List.not_mem_nil, false_imp_iff, implies_true, List.forall_mem_nil]; simp [zaf, Wk.refl]) e, by simp [masterS, masterO, masterD, Ring.l, aLocks]⟩ ⟨by omega, rfl⟩ (fun i _ => by simp only [masterS, List.length_append, masterO_len]; simp) (fun i hok => ?_);obtain ⟨hi3, hmt⟩ := hok;have hsuc := masterO_succ H x i;have hE : ∀ G : List AObj, ∃ G', masterO H x i ++ G = H ++ G' := fun G => ⟨[.cells x.l 26, .cells [.rp (x.l ++ opensL x)] 100, .cells [uv (2 ^ x.locks.length - 1 : Nat)] 110] ++ masterD i ++ G, by simp [masterO]⟩;have hKl := masterO_len H x i;have g1 : (masterO H x i)[H.length + 1]? = some (.cells [.rp (x.l ++ opensL x)] 100) := zay (zbD H _ 1);have g2 : (masterO H x i)[H.length + 2]? = some (.cells [uv (2 ^ x.locks.length - 1 : Nat)] 110) := zay (zbD H _ 2);unfold masterS;generalize masterO H x i = K at hKl g1 g2 hsuc hE ⊢;rw [← hKl];(repeat apply zaa);refine zl5 ?_;simp only [push_cast, seval];(repeat apply zaa);refine zae ?_;simp only [push_cast, seval];refine ⟨fun h => ?_, fun h => ?_⟩
  ·have hi2 : i ≤ 2 := by
    have : (0 : Int) ≤ 2 - i := (by simpa using h);omega
   have hm : (2 : Int) - i = ((2 - i : Nat) : Int) := (by omega);have hm1 : IntKind.i64.wrap (((2 - i : Nat) : Int) - 1) = 2 - ((i + 1 : Nat) : Int) := (by rw [zau _ (by omega)]; omega);have h3i : 3 - i = (2 - i) + 1 := (by omega);have hmt := hmt.trans (show masterTo x (3 - i) = match firstM x.cuts.toNat (lastF x (2 - i)) with
    | some d => some (d, 2 - i)
    | none => masterTo x (2 - i) from by rw [h3i]; rfl)
   rw [hm];(repeat apply zaa);refine zah ?_;simp only [push_cast, seval];(repeat apply zaa);refine zag ?_;(repeat apply zaa);refine zl5 ?_;simp only [push_cast, seval, zay g1, List.mapM_cons, List.mapM_nil, Option.pure_def, Option.bind_eq_bind];refine zl6 ((f137_c hx (so_master (a := K.length) (r := H.length + 1) (d := H.length + 2) (m := 2 - i) hx (by omega) (by simp only [push_cast, seval] <;> rfl) (zay g1) (zay g2)) ?_));(try simp only [push_cast, seval]);(repeat apply zaa);refine zl5 ?_;simp only [push_cast, seval];(repeat apply zaa);refine zae ?_;simp only [push_cast, seval];cases hf : firstM x.cuts.toNat (lastF x (2 - i)) with
   | some d =>
    rw [hf] at hmt;refine ⟨fun h4 => ?_, fun h4 => by simp at h4⟩;(repeat apply zaa);refine zaT F.mixed 3 (by kernel_rfl) ?_;simp only [push_cast, seval];(repeat apply zaa);refine zai ?_;simp only [push_cast, seval];obtain ⟨G, hG⟩ := hE [.cells [iv ((2 - i : Nat) : Int)] 3];simp only [iv] at hG;rw [hG];exact endA hH (Wk.refl _) (by simp [zap, zaD, zbi]) (h3 d (2 - i) hmt)
   | none =>
    rw [hf] at hmt;refine ⟨fun h4 => by simp at h4, fun h4 => ?_⟩;(repeat apply zaa);refine zah ?_;simp only [push_cast, seval];(repeat apply zaa);refine zl5 ?_;simp only [push_cast, seval];(repeat apply zaa);refine zl5 ?_;simp only [push_cast, seval];(repeat apply zaa);refine zl5 ?_;simp only [push_cast, seval, hm1];have h8 : H.length + 3 + (i + 1) = K.length + 1 := (by omega);refine ⟨i + 1, by show 4 - (i + 1) < 4 - i; omega, ⟨by omega, hmt.trans (by rw [show 3 - (i + 1) = 2 - i by omega])⟩, .inl ⟨fun t' a e => zh2 (T' := [(5, .op (H.length + 1) 0), (7, .op (H.length + 2) 0), (8, .op (H.length + 3 + (i + 1)) 0)]) (by rw [h8]; simp only [push_cast, seval, List.forall_mem_cons, List.not_mem_nil, false_imp_iff, implies_true, List.forall_mem_nil]; simp [zaf, Wk.refl]) e, ?_⟩⟩;show _ = masterO H x (i + 1) ++ [.cells [iv (2 - ((i + 1 : Nat) : Int))] 3];rw [hsuc, hm];simp
  ·have hi2 : i = 3 := by
    have : ¬ (0 : Int) ≤ 2 - i := (by simpa using h);omega
   subst hi2;(repeat apply zaa);refine zaq ?_;simp only [push_cast, seval];(repeat apply zaa);refine zl5 ?_;simp only [push_cast, seval];(repeat apply zaa);refine zai ?_;simp only [push_cast, seval];obtain ⟨G, hG⟩ := hE [.cells [iv (-1)] 3];simp only [iv] at hG;rw [hG];exact endA hH (Wk.refl _) (by simp [zap, zaD, zbh]) (h2 hmt)
end
def allW (x : Ring) (t : List Int) (w : Nat) : Bool := x.locks.all fun l => fitsM (wornM w t) l
def lastW (x : Ring) (t : List Int) : Nat → Int
 | 0 => -1
 | w + 1 => if lastW x t w = (w : Int) - 1 ∧ allW x t w = true then w else lastW x t w
theorem lastW_eq (x : Ring) (t : List Int) : lastW x t 3 = if allW x t 0 then (if allW x t 1 then (if allW x t 2 then 2 else 1) else 0) else -1 := by
 simp only [lastW];by_cases h0 : allW x t 0 = true <;> by_cases h1 : allW x t 1 = true <;> by_cases h2 : allW x t 2 = true <;> simp [h0, h1, h2]
theorem lastW_end {x : Ring} {t : List Int} {w : Nat} (hw : w ≤ 3) (h : w = 3 ∨ lastW x t w ≠ (w : Int) - 1) : lastW x t w = lastW x t 3 := by
 rcases h with rfl | h
 ·rfl
 ·have : w = 0 ∨ w = 1 ∨ w = 2 ∨ w = 3 := by omega
  rcases this with rfl | rfl | rfl | rfl <;> revert h <;> simp only [lastW] <;> by_cases h0 : allW x t 0 = true <;> by_cases h1 : allW x t 1 = true <;> by_cases h2 : allW x t 2 = true <;> simp [h0, h1, h2]
theorem openedM_all (cuts : Int) (ds : List Int) (ls : List (List Band)) : (openedM cuts ds ls ls.length == 2 ^ ls.length - 1) = ls.all fun l => fitsM (ds.take cuts.toNat) l := by
 rw [Bool.eq_iff_iff, beq_iff_eq, List.all_eq_true];refine ⟨fun e l hl => ?_, fun h => Nat.eq_of_testBit_eq fun j => ?_⟩
 ·obtain ⟨j, hj⟩ := List.mem_iff_getElem?.1 hl;have hjl := get_lt hj;have := ziC cuts ds ls j ls.length;rw [e, Nat.testBit_two_pow_sub_one, hj] at this;simpa [hjl] using this
 ·rw [ziC, Nat.testBit_two_pow_sub_one];by_cases hjl : j < ls.length
  ·obtain ⟨l, hl⟩ := zaE hjl;rw [hl]; simp [hjl, h l (zas hl)]
  ·simp [hjl]
theorem digs_lists : ∀ c, c ≤ 4 → ((List.range (4 ^ c)).map (digs c)).map (·.take c) = listsM 4 c := by decide +kernel
theorem firstM_lists {c : Nat} (hc : c ≤ 4) (g : List Int → Bool) : firstM c (fun d => g (d.take c)) = (listsM 4 c).find? g := by
 unfold firstM; rw [← digs_lists c hc, List.find?_map (f := fun d : List Int => d.take c)]; rfl
theorem lastF_eq {x : Ring} {m : Nat} (hm : m ≤ 2) (ds : List Int) : lastF x m ds = decide ((m : Int) ≤ lastW x (ds.take x.cuts.toNat) 3) := by
 have h : ∀ n : Nat, (openedM x.cuts (wornM n ds) x.locks x.locks.length == 2 ^ x.locks.length - 1) = allW x (ds.take x.cuts.toNat) n := fun n => by
  rw [openedM_all];unfold allW;congr 1;funext l;unfold wornM;rw [List.map_take]
 unfold lastF;simp only [h];rw [lastW_eq];have : m = 0 ∨ m = 1 ∨ m = 2 := by omega
 rcases this with rfl | rfl | rfl <;> simp only [List.range_succ, List.range_zero, List.nil_append, List.cons_append, List.all_cons, List.all_nil, Bool.and_true] <;> generalize ds.take x.cuts.toNat = t <;> by_cases h0 : allW x t 0 = true <;> by_cases h1 : allW x t 1 = true <;> by_cases h2 : allW x t 2 = true <;> simp [h0, h1, h2]
theorem lastF_first {x : Ring} (hc : x.cuts.toNat ≤ 4) {m : Nat} (hm : m ≤ 2) : firstM x.cuts.toNat (lastF x m) = (listsM 4 x.cuts.toNat).find? fun t => decide ((m : Int) ≤ lastW x t 3) := by
 rw [← firstM_lists hc];congr 1;funext ds;exact lastF_eq hm ds
def bestW (x : Ring) (L : List (List Int)) : Nat → Int × Int
 | 0 => (-1, -1)
 | i + 1 => if (bestW x L i).2 < lastW x (L.getD i []) 3 then ((i : Int), lastW x (L.getD i []) 3) else bestW x L i
theorem lastW_range (x : Ring) (t : List Int) : -1 ≤ lastW x t 3 ∧ lastW x t 3 ≤ 2 := by
 rw [lastW_eq]; by_cases h0 : allW x t 0 = true <;> by_cases h1 : allW x t 1 = true <;> by_cases h2 : allW x t 2 = true <;> simp [h0, h1, h2]
theorem bestW_facts (x : Ring) (L : List (List Int)) : ∀ i, (∀ j < i, lastW x (L.getD j []) 3 ≤ (bestW x L i).2) ∧ (((bestW x L i).1 = -1 ∧ (bestW x L i).2 = -1) ∨ ∃ n : Nat, (bestW x L i).1 = n ∧ n < i ∧ (bestW x L i).2 = lastW x (L.getD n []) 3 ∧ 0 ≤ (bestW x L i).2 ∧ ∀ j < n, lastW x (L.getD j []) 3 < (bestW x L i).2)
 | 0 => ⟨fun j h => absurd h (Nat.not_lt_zero _), .inl ⟨rfl, rfl⟩⟩
 | i + 1 => by
  obtain ⟨h1, h2⟩ := bestW_facts x L i;have hr := lastW_range x (L.getD i []);unfold bestW;by_cases h : (bestW x L i).2 < lastW x (L.getD i []) 3
  ·rw [if_pos h];simp only;have hb : -1 ≤ (bestW x L i).2 := by
    rcases h2 with ⟨_, h3⟩ | ⟨n, _, _, _, h3, _⟩ <;> omega
   refine ⟨fun j hj => ?_, .inr ⟨i, rfl, by omega, rfl, by omega, fun j hj => ?_⟩⟩
   ·by_cases e : j = i
    ·rw [e]; exact Int.le_refl _
    ·have := h1 j (by omega); omega
   ·have := h1 j hj; omega
  ·rw [if_neg h];refine ⟨fun j hj => ?_, h2.imp id fun ⟨n, q1, q2, q3⟩ => ⟨n, q1, by omega, q3⟩⟩;by_cases e : j = i
   ·rw [e]; omega
   ·exact h1 j (by omega)
theorem master_step {x : Ring} (hc : x.cuts.toNat ≤ 4) {m : Nat} (hm : m ≤ 2) (h : ∀ t ∈ listsM 4 x.cuts.toNat, lastW x t 3 < m) : masterTo x (m + 1) = masterTo x m := by
 rw [masterTo, lastF_first hc hm, zdt fun t ht => by have := h t ht; simp; omega]
theorem master_hit {x : Ring} (hc : x.cuts.toNat ≤ 4) {m n : Nat} {t : List Int} (hm : m ≤ 2) (ht : (listsM 4 x.cuts.toNat)[n]? = some t) (h1 : (m : Int) ≤ lastW x t 3) (h2 : ∀ j < n, lastW x ((listsM 4 x.cuts.toNat).getD j []) 3 < m) : masterTo x (m + 1) = some (t, m) := by
 rw [masterTo, lastF_first hc hm, zfN (j := n) (x := t) ht (by simpa using h1) fun y hy => ?_];obtain ⟨j, hj⟩ := List.mem_iff_getElem?.1 hy;rw [List.getElem?_take] at hj;split at hj
 ·rename_i hjn;have := h2 j hjn;rw [List.getD_eq_getElem?_getD, hj, Option.getD_some] at this;simp; omega
 ·cases hj
theorem master_law {x : Ring} (hc : x.cuts.toNat ≤ 4) {b m : Int} (hb : bestW x (listsM 4 x.cuts.toNat) (listsM 4 x.cuts.toNat).length = (b, m)) : (b < 0 → masterTo x 3 = none) ∧ (0 ≤ b → ∃ (n k : Nat) (t : List Int), b = n ∧ m = k ∧ (listsM 4 x.cuts.toNat)[n]? = some t ∧ masterTo x 3 = some (t, k)) := by
 obtain ⟨h1, h2⟩ := bestW_facts x (listsM 4 x.cuts.toNat) (listsM 4 x.cuts.toNat).length;rw [hb] at h1 h2;simp only at h1 h2;have hall : ∀ t ∈ listsM 4 x.cuts.toNat, lastW x t 3 ≤ m := fun t ht => by
  obtain ⟨j, hj⟩ := List.mem_iff_getElem?.1 ht;have := h1 j (get_lt hj);rwa [List.getD_eq_getElem?_getD, hj, Option.getD_some] at this
 refine ⟨fun hn => ?_, fun hn => ?_⟩
 ·rcases h2 with ⟨_, rfl⟩ | ⟨n, rfl, _⟩
  ·rw [master_step hc (by omega) fun t ht => by have := hall t ht; omega, master_step hc (by omega) fun t ht => by have := hall t ht; omega, master_step hc (by omega) fun t ht => by have := hall t ht; omega];rfl
  ·omega
 ·rcases h2 with ⟨rfl, _⟩ | ⟨n, rfl, hnl, hm, hm0, hlt⟩
  ·omega
  ·obtain ⟨t, ht⟩ := zaE hnl;rw [List.getD_eq_getElem?_getD, ht, Option.getD_some] at hm;have hr := lastW_range x t;obtain ⟨k, rfl⟩ : ∃ k : Nat, m = k := ⟨m.toNat, by omega⟩;refine ⟨n, k, t, rfl, rfl, ht, ?_⟩;have hhit := master_hit hc (m := k) (by omega) ht (by omega) hlt;have : k = 0 ∨ k = 1 ∨ k = 2 := (by omega);rcases this with rfl | rfl | rfl
   ·rw [master_step hc (by omega) fun t ht => by have := hall t ht; omega, master_step hc (by omega) fun t ht => by have := hall t ht; omega, hhit]
   ·rw [master_step hc (by omega) fun t ht => by have := hall t ht; omega, hhit]
   ·exact hhit
open Go.Conc Go.Proofs
def MasIs (x : Ring) (d : List Int) (m e : Int) : Prop := (masterTo x 3 = none ∧ d = [] ∧ m = 0 ∧ e = 11) ∨ ∃ n : Nat, masterTo x 3 = some (d, n) ∧ m = n ∧ e = 0
theorem lastW_hit {x : Ring} {t : List Int} {w : Nat} (h : lastW x t w = (w : Int) - 1) (ha : allW x t w = true) : lastW x t (w + 1) = w := by rw [lastW, if_pos ⟨h, ha⟩]
theorem lastW_miss {x : Ring} {t : List Int} {w : Nat} (ha : allW x t w = false) : lastW x t (w + 1) = lastW x t w := by rw [lastW, if_neg (by rw [ha]; simp)]
section
variable {H : List AObj} {k kp : AV → List AObj → Prop}
theorem f76_k {x : Ring} (hmain : H[0]? = some .main) (hx : x.Ok) (h : ∀ d m e en, MasIs x d m e → k (.tup [.sl d.length (d.map iv) en, iv m, iv e]) H) : FnC true Tryz.prog 76 H [x.av] k kp := by
 have hz : openE x none = 0 := zaN.2 ⟨zbH.2 hx, rfl⟩;refine f76_c zaQ hmain hx.small (fun e => absurd hz e) (fun _ hn => ?_) (fun _ d m hm => ?_)
 ·exact h [] 0 11 .exact (.inl ⟨hn, rfl, rfl, rfl⟩)
 ·exact h d m 0 .shut (.inr ⟨m, hm, rfl, rfl⟩)
set_option maxRecDepth 4000 in
set_option maxHeartbeats 1000000 in
theorem f20_c {nums : List Int} (hmain : H[0]? = some .main) (hn : nums.length ≤ 2 ^ 50) (hk : k (bv true) H) : FnC true Tryz.prog 20 H [aInts nums] k kp := by
 have hmn : ∀ L : List AObj, (H ++ L)[0]? = some .main := fun L => zay hmain;refine zak (rs := [.tmp 2]) (nt := 110) F.f20 rfl rfl rfl (by simp) fun hH hA => ?_;simp only [argsT, Nat.reduceAdd];(repeat apply zaa);refine zl5 ?_;simp only [push_cast, seval];(repeat apply zaa);refine zl5 ?_;simp only [push_cast, seval];refine zl6 ((f26_c ?_));(try simp only [push_cast, seval]);refine zl6 ((f49_c (K := 2) (L := 3) (T := 0) (wr := false) (zjT H) (tinOk0 hn _) (by decide) (by decide) (by decide) (by decide) fun x ws τ hP hτ => ?_));(try simp only [push_cast, seval, Ring.av, Ring.l]);have hx := hP.ok (by decide) (by decide) (by decide);have hlk := hx.locks;obtain ⟨hc0, hc4⟩ := hx.cuts;clear hP hτ;(repeat apply zaa);refine zl5 ?_;simp only [push_cast, seval];refine zl6 ((f76_k (x := x) (hmn _) hx fun d ml e en hmi => ?_));(try simp only [push_cast, seval]);obtain ⟨c, hc⟩ : ∃ c : Nat, x.cuts = c := ⟨x.cuts.toNat, by omega⟩;have hcn : x.cuts.toNat = c := by omega
 have hc4 : c ≤ 4 := by omega
 have hlaw := fun b m => master_law (x := x) (b := b) (m := m) (by omega);rw [hcn] at hlaw;obtain ⟨hLl, hLr⟩ := zeh 4 (by decide) c hc4;(repeat apply zaa);refine zl5 ?_;simp only [push_cast, seval, hc];refine zl6 ((f63_c c (n := 4) (by decide) hc4 ?_));generalize listsM 4 c = L at hlaw hLl hLr ⊢;(try simp only [push_cast, seval]);(repeat apply zaa);refine zl5 ?_;simp only [push_cast, seval];(repeat apply zaa);refine zl5 ?_;simp only [push_cast, seval];have w1 : ∀ i : Nat, i ≤ 1000 → IntKind.i64.wrap ((i : Int) + 1) = i + 1 := fun i _ => zau _ (by omega);(repeat apply zaa);refine zag ?_;refine zaB L.length (fun i : Nat => [(9, iv (bestW x L i).1), (10, iv (bestW x L i).2), (11, iv i)]) (fun _ => _) (fun _ => True) (fun _ _ => rfl) (by simp only [push_cast, seval, List.forall_mem_cons, List.not_mem_nil, false_imp_iff, implies_true, List.forall_mem_nil]; simp [zaf, Wk.refl]; exact ⟨Wk.refl _, Wk.refl _⟩) rfl (fun _ _ _ => rfl) trivial (fun hHs hLt i hin hi R hR => ?_);clear hHs hLt;(repeat apply zaa);refine zl5 ?_;simp only [push_cast, seval, aRows];(repeat apply zaa);refine zae ?_;simp only [push_cast, seval];refine ⟨fun h => ?_, fun h => ?_⟩
 ·have hil : i < L.length := by omega
  obtain ⟨t, ht⟩ := zaE hil;obtain ⟨htl, htb⟩ := hLr t (zas ht);have hwi := w1 i (by omega);have hgd : L.getD i [] = t := by rw [List.getD_eq_getElem?_getD, ht]; rfl
  have hb1 : bestW x L (i + 1) = if (bestW x L i).2 < lastW x t 3 then ((i : Int), lastW x t 3) else bestW x L i := by rw [bestW, hgd]
  rw [hb1] at hR;generalize bestW x L i = bm at hR ⊢;obtain ⟨b, m⟩ := bm;simp only at hR ⊢;(repeat apply zaa);refine zah ?_;simp only [push_cast, seval];(repeat apply zaa);refine zag ?_;(repeat apply zaa);refine zl5 ?_;simp only [push_cast, seval];(repeat apply zaa);refine zl5 ?_;simp only [push_cast, seval];(repeat apply zaa);refine zag ?_;refine zaB 3 (fun w : Nat => [(12, iv (lastW x t w)), (13, iv w)]) (fun _ => _) (fun _ => True) (fun _ _ => rfl) (by simp only [push_cast, seval, List.forall_mem_cons, List.not_mem_nil, false_imp_iff, implies_true, List.forall_mem_nil]; simp [zaf, Wk.refl]; exact Wk.refl _) rfl (fun _ _ _ => rfl) trivial (fun hHs hLt w hwn hwo R2 hR2 => ?_);clear hHs hLt;by_cases hw3 : w = 3
  ·subst hw3;clear hR2;(repeat apply zaa);refine zl5 ?_;simp only [push_cast, seval, decide_false];(repeat apply zaa);refine zae ?_;simp only [push_cast, seval];(repeat apply zaa);refine zaq ?_;simp only [push_cast, seval];(repeat apply zaa);refine zl5 ?_;simp only [push_cast, seval];(repeat apply zaa);refine zae ?_;simp only [push_cast, seval];refine ⟨fun h2 => ?_, fun h2 => ?_⟩
   ·(repeat apply zaa);refine zl5 ?_;simp only [push_cast, seval];rw [if_pos (by simpa using h2)] at hR;(repeat apply zaa);refine zl5 ?_;simp only [push_cast, seval, hwi];refine hR _ ⟨hil, trivial, (zax (zam rfl rfl) (by simp only [push_cast, seval]; simp [zaf, Wk.refl]))⟩
   ·(repeat apply zaa);refine zah ?_;simp only [push_cast, seval];rw [if_neg (by simpa using h2)] at hR;(repeat apply zaa);refine zl5 ?_;simp only [push_cast, seval, hwi];refine hR _ ⟨hil, trivial, (zax (zam rfl rfl) (by simp only [push_cast, seval]; simp [zaf, Wk.refl]))⟩
  ·have hwl : w < 3 := (by omega);have hww := w1 w (by omega);have hle : decide ((w : Int) ≤ 2) = true := (by simp; omega);have hwm : IntKind.i64.wrap ((w : Int) - 1) = w - 1 := zau _ (by omega);(repeat apply zaa);refine zl5 ?_;simp only [push_cast, seval, hle, hwm];(repeat apply zaa);refine zae ?_;simp only [push_cast, seval];refine ⟨fun h2 => ?_, fun h2 => ?_⟩
   ·have h3 : lastW x t w = (w : Int) - 1 := (by simpa using h2);(repeat apply zaa);refine zah ?_;simp only [push_cast, seval];(repeat apply zaa);refine zag ?_;(repeat apply zaa);refine zl5 ?_;simp only [push_cast, seval];(repeat apply zaa);refine zl5 ?_;simp only [push_cast, seval];(repeat apply zaa);refine zag ?_;refine zaB x.locks.length (fun l : Nat => [(14, bv ((x.locks.take l).all fun lk => fitsM (wornM w t) lk)), (15, iv l)]) (fun _ => _) (fun _ => True) (fun _ _ => rfl) (by simp only [push_cast, seval, List.forall_mem_cons, List.not_mem_nil, false_imp_iff, implies_true, List.forall_mem_nil]; simp [zaf, Wk.refl]) rfl (fun _ _ _ => rfl) trivial (fun hHs hLt l hln hlo R3 hR3 => ?_);clear hHs hLt;(repeat apply zaa);refine zl5 ?_;simp only [push_cast, seval, aLocks];(repeat apply zaa);refine zae ?_;simp only [push_cast, seval];refine ⟨fun h4 => ?_, fun h4 => ?_⟩
    ·have hll : l < x.locks.length := (by omega);have hwl2 := w1 l (by omega);obtain ⟨lk, hlk2⟩ := zaE hll;have hlkl := (hx.lock lk (zas hlk2)).1;have hwtl : (wornM w t).length = c := (by simp [wornM, htl]);rw [all_take_suc _ hlk2] at hR3;(repeat apply zaa);refine zah ?_;simp only [push_cast, seval];(repeat apply zaa);refine zag ?_;cases hb : ((x.locks.take l).all fun lk => fitsM (wornM w t) lk) with
     | false =>
      (repeat apply zaa);refine zaT F.mixed 15 (by kernel_rfl) ?_;simp only [push_cast, seval, hb, zlB ht, zaz hil, zfu hlk2, zaz hll, aLocks, aRows];rw [hb] at hR3;(repeat apply zaa);refine zl5 ?_;simp only [push_cast, seval, hwl2];refine hR3 _ ⟨hll, trivial, ?_⟩;simp only [Bool.false_and];exact (zax (zam rfl rfl) (by simp only [push_cast, seval]; simp [zaf, Wk.refl]))
     | true =>
      (repeat apply zaa);refine zaT F.mixed 15 (by kernel_rfl) ?_;simp only [push_cast, seval, hb, zlB ht, zaz hil, zfu hlk2, zaz hll, aLocks, aRows];rw [hb] at hR3;refine qCall (aInts (wornM w t)) (zad (by kernel_rfl) (f78_c (fun v hv => by have := htb v hv; omega) (by omega) (by omega) ⟨rfl, rfl⟩)) ?_;refine qCall (bv (fitsM (wornM w t) lk)) (zad (by kernel_rfl) (f64_c (by omega) (by omega) ⟨rfl, rfl⟩)) ?_;(try simp only [push_cast, seval, hb, zlB ht, zaz hil, zfu hlk2, zaz hll, aLocks, aRows]);(repeat apply zaa);refine zl5 ?_;simp only [push_cast, seval, hwl2];refine hR3 _ ⟨hll, trivial, ?_⟩;simp only [Bool.true_and];exact (zax (zam rfl rfl) (by simp only [push_cast, seval]; simp [zaf, Wk.refl]))
    ·have hlx : l = x.locks.length := (by omega);subst hlx;clear hR3;rw [List.take_length];(repeat apply zaa);refine zaq ?_;simp only [push_cast, seval];have ha : (x.locks.all fun lk => fitsM (wornM w t) lk) = allW x t w := rfl;rw [ha];cases hal : allW x t w with
     | true =>
      rw [lastW_hit h3 hal] at hR2;(repeat apply zaa);refine zl5 ?_;simp only [push_cast, seval];(repeat apply zaa);refine zae ?_;simp only [push_cast, seval];(repeat apply zaa);refine zl5 ?_;simp only [push_cast, seval];(repeat apply zaa);refine zl5 ?_;simp only [push_cast, seval, hww];refine hR2 _ ⟨hwl, trivial, (zax (zam rfl rfl) (by simp only [push_cast, seval]; simp [zaf, Wk.refl]))⟩
     | false =>
      rw [lastW_miss hal] at hR2;(repeat apply zaa);refine zl5 ?_;simp only [push_cast, seval];(repeat apply zaa);refine zae ?_;simp only [push_cast, seval];(repeat apply zaa);refine zah ?_;simp only [push_cast, seval];(repeat apply zaa);refine zl5 ?_;simp only [push_cast, seval, hww];refine hR2 _ ⟨hwl, trivial, (zax (zam rfl rfl) (by simp only [push_cast, seval]; simp [zaf, Wk.refl]))⟩
   ·have h3 : lastW x t w ≠ (w : Int) - 1 := (by simpa using h2);have h5 := lastW_end hwn (.inr h3);clear hR2;(repeat apply zaa);refine zaq ?_;simp only [push_cast, seval];rw [h5];(repeat apply zaa);refine zl5 ?_;simp only [push_cast, seval];(repeat apply zaa);refine zae ?_;simp only [push_cast, seval];refine ⟨fun h2 => ?_, fun h2 => ?_⟩
    ·(repeat apply zaa);refine zl5 ?_;simp only [push_cast, seval];rw [if_pos (by simpa using h2)] at hR;(repeat apply zaa);refine zl5 ?_;simp only [push_cast, seval, hwi];refine hR _ ⟨hil, trivial, (zax (zam rfl rfl) (by simp only [push_cast, seval]; simp [zaf, Wk.refl]))⟩
    ·(repeat apply zaa);refine zah ?_;simp only [push_cast, seval];rw [if_neg (by simpa using h2)] at hR;(repeat apply zaa);refine zl5 ?_;simp only [push_cast, seval, hwi];refine hR _ ⟨hil, trivial, (zax (zam rfl rfl) (by simp only [push_cast, seval]; simp [zaf, Wk.refl]))⟩
 ·have hix : i = L.length := by omega
  subst hix;clear hR;(repeat apply zaa);refine zaq ?_;simp only [push_cast, seval];generalize hbm : bestW x L L.length = bm at *;obtain ⟨b, m⟩ := bm;obtain ⟨hl1, hl2⟩ := hlaw b m rfl;simp only at *;(repeat apply zaa);refine zl5 ?_;simp only [push_cast, seval];(repeat apply zaa);refine zae ?_;simp only [push_cast, seval];refine ⟨fun h2 => ?_, fun h2 => ?_⟩
  ·have h2 : b < 0 := (by simpa using h2);have hno := hl1 h2;rcases hmi with ⟨_, rfl, rfl, rfl⟩ | ⟨n, h3, _⟩
   ·(repeat apply zaa);refine zl5 ?_;simp only [push_cast, seval, beq_self_eq_true];refine zl6 ((f25_c (hmn _) ?_));(try simp only [push_cast, seval]);(repeat apply zaa);refine zai ?_;simp only [push_cast, seval];exact endA hH (Wk.refl _) (by simp [zap]) hk
   ·rw [hno] at h3; cases h3
  ·have h2 : ¬ b < 0 := (by simpa using h2);have h2 : 0 ≤ b := (by omega);obtain ⟨n, kk, t, rfl, rfl, ht, hsome⟩ := hl2 h2;rcases hmi with ⟨h3, _⟩ | ⟨n', h3, rfl, rfl⟩
   ·rw [hsome] at h3; cases h3
   ·rw [hsome] at h3;obtain ⟨rfl, rfl⟩ : t = d ∧ kk = n' := (by simpa using h3);have htl := (hLr t (zas ht)).1;(repeat apply zaa);refine zah ?_;simp only [push_cast, seval];(repeat apply zaa);refine zl5 ?_;simp only [push_cast, seval, beq_self_eq_true, zlB ht, zaz (get_lt ht), aRows, aInts];refine zl6 ((f34_same (xs := t) (by omega) ?_));(try simp only [push_cast, seval]);refine zl6 ((f25_c (hmn _) ?_));(try simp only [push_cast, seval]);(repeat apply zaa);refine zai ?_;simp only [push_cast, seval];exact endA hH (Wk.refl _) (by simp [zap]) hk
end
end Go.Gg
namespace Go.Proofs.YtoaaoiipickclaaGreat
open Go.Conc Go.Proofs Go.Gg
theorem kmName : Tryz.prog.funcNamed Rows.keyMasterRow.func = some 20 := by kernel_rfl
theorem kmJoined : joinedFacts Tryz.prog 20 Tryz.f20 Rows.keyMasterSpec Rows.keyMasterRow = true :=
 zkH (by kernel_rfl) Tz.laidOut (by kernel_rfl) (by kernel_rfl) (by kernel_rfl) (by kernel_rfl) (by kernel_rfl) (by kernel_rfl) (by kernel_rfl) (by kernel_rfl) (by kernel_rfl) (by kernel_rfl) (by kernel_rfl) (by kernel_rfl) (by kernel_rfl) (by kernel_rfl) (by kernel_rfl) (by kernel_rfl) (by kernel_rfl) (by kernel_rfl) (by kernel_rfl) (by kernel_rfl) (by kernel_rfl) (by kernel_rfl) (by kernel_rfl) Tz.mayEnter (zkB (by kernel_rfl)) (make_of' (by kernel_rfl)) (by kernel_rfl) (by kernel_rfl) (by kernel_rfl) (by kernel_rfl) (by kernel_rfl)
theorem kmInst : Tryz.f20.isInstance Tryz.prog Rows.keyMasterRow.origin Rows.keyMasterRow.targs := of_decide_eq_true (by kernel_rfl)
theorem kmWrap : Tryz.f20.isWrapper Tryz.prog Rows.keyMasterRow.wrapper Rows.keyMasterRow.mainSum := by unfold Func.isWrapper; first | (rw [if_pos (by decide +kernel)]; kernel_rfl) | (rw [if_neg (by decide +kernel)]; exact ⟨rfl, rfl⟩)
theorem keyMaster_lifted (os : Os) (started : os.Started) (H : Type) (enc : TypeId × Value → H) :
  ReturnsInLeavingWide {} Tryz.checked os 20 .any (Rows.keyMasterSpec.pre6 enc Tryz.prog Tryz.f20 Rows.keyMasterRow.domain false) (Rows.keyMasterSpec.post enc Tryz.prog Tryz.f20 false true false false) :=
 zhC (f := 20) (fn := Tryz.f20) (s := Rows.keyMasterSpec) Tryz.func20 rfl rfl rfl (fun _ _ => rfl) (by kernel_rfl) (fun nums hn => f20_c rfl hn rfl) os started H enc
  (ChangeSpec.witness6 (enc := enc) (C := Tryz.checked) false ⟨#[], #[.slice none 0 0], []⟩ 8 (by kernel_rfl) (by kernel_rfl) (by kernel_rfl) (by kernel_rfl))
theorem keyMaster_holds : Rows.KeyMasterSaid :=
 OpenClaim.holds_of_wide_leaving 20 Tryz.f20 rfl rfl rfl rfl rfl rfl rfl ⟨rfl, rfl, rfl, rfl, rfl⟩ rfl rfl rfl rfl rfl kmName Tryz.func20 kmJoined kmInst kmWrap
  (fun os started H enc _ => keyMaster_lifted os started H enc)
end Go.Proofs.YtoaaoiipickclaaGreat
