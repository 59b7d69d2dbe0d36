/- The law KeyKnown, which has no argument, answers true on every schedule. No condition. -/
import Derived.Test.YtoaaoiipickclaaGreatKeyKnown4
import Derived.Conc.LeavingOf
import Derived.Conc.Holds
import Derived.ProofKit
import Derived.Test.YtoaaoiipickclaaGreatChecked
import Derived.Test.YtoaaoiipickclaaGreatRows
set_option linter.all false
set_option maxRecDepth 4000
namespace Go.Gg
open Go.Conc Go.Proofs
def kL : List AV := [aInts [3, 1], iv 0, iv 1, aInts [2, 2], iv 0, iv 0, aInts [1, 3], iv 0, iv 2]
theorem kL_eq : (exR []).keys.flatMap Key.l = kL := rfl
def kK (a : AV) (lo hi : Int) : List AV := [a, iv lo, iv hi, aInts [2, 2], iv 0, iv 0, aInts [1, 3], iv 0, iv 2]
theorem zr1 : zeroRow (Value.int .i64 0) 1 = [iv 0] := rfl
theorem wks_kK {a : AV} {xs : List Int} {lo hi : Int} (h : Wk a (aInts xs)) : Wks (kK a lo hi) (kK (aInts xs) lo hi) :=
 .cons h (.cons (Wk.refl _) (.cons (Wk.refl _) (.cons (Wk.refl _) (.cons (Wk.refl _) (.cons (Wk.refl _) (.cons (Wk.refl _) (.cons (Wk.refl _) (.cons (Wk.refl _) .nil))))))))
def kR (c : Int) (i : Nat) : List AV := [iv c, .osl i 0 3 3, aLocks (exR []).locks, .sl 0 [] .exact]
theorem zu4 : zeroRow (.agg #[.int .i64 0, .bool false]) 4 = [iv 0, bv false, iv 0, bv false] := rfl
def kys (xs : List Int) (lo hi : Int) : List Key := [⟨xs, ⟨lo, hi⟩⟩, ⟨[2, 2], ⟨0, 0⟩⟩, ⟨[1, 3], ⟨0, 2⟩⟩]
def kRing (c : Int) (xs : List Int) (lo hi : Int) : Ring := ⟨c, kys xs lo hi, (exR []).locks, []⟩
theorem zgv {H : List AObj} {id : Nat} {a : AV} {xs : List Int} {lo hi : Int} (hid : H[id]? = some (.part 9 (kK a lo hi) 65)) (h : Wk a (aInts xs)) : WkH H (.osl id 0 3 3) (aKeys (kys xs lo hi)) := fun E V v hc hd =>
 wk_sl (l' := (kys xs lo hi).flatMap Key.l) (wks_kK h) E v (wkH_own hid (Nat.le_refl _) (m := 9) (Nat.le_refl _) (Nat.le_refl _) E V v hc hd)
theorem ziC {c : Int} {xs : List Int} {lo hi : Int} (h : xs.length < 2 ^ 30) : (kRing c xs lo hi).Small := ⟨by show 3 < 2 ^ 30; decide, by show (exR []).locks.length < 2 ^ 30; decide, by show 0 < 2 ^ 30; decide, fun x hx => by
 rcases List.mem_cons.1 hx with rfl | hx
 ·exact h
 ·rcases List.mem_cons.1 hx with rfl | hx
  ·show 2 < 2 ^ 30; decide
  ·rw [List.mem_singleton.1 hx]; show 2 < 2 ^ 30; decide, (zbq (ts := []) (by decide)).bands⟩
theorem f35_k {lv : Bool} {H : List AObj} {k kp : AV → List AObj → Prop} {c : Int} {xs : List Int} {lo hi n : Int} (h : xs.length < 2 ^ 30) (hn : checkM (kRing c xs lo hi) = n) (hk : k (iv n) H) : FnC lv Tryz.prog 35 H [.agg [iv c, aKeys (kys xs lo hi), aLocks (exR []).locks, .sl 0 [] .shut]] k kp :=
 f35_c (x := kRing c xs lo hi) (ziC h) (by rw [hn]; exact hk)
section
variable {H : List AObj} {k kp : AV → List AObj → Prop}
set_option maxRecDepth 4000 in
set_option maxHeartbeats 1000000 in
theorem f23_c (hmain : H[0]? = some .main) (hk : k (bv true) H) : FnC true Tryz.prog 23 H [] k kp := by
 have hmn : ∀ L : List AObj, (H ++ L)[0]? = some .main := fun L => zay hmain;refine zak (rs := [.tmp 0]) (nt := 431) F.f23 rfl rfl rfl (by simp) fun hH hA => ?_;simp only [argsT, Nat.reduceAdd];(repeat apply zaa);refine zl5 ?_;simp only [push_cast, seval];(repeat apply zaa);refine zl5 ?_;simp only [push_cast, seval];refine zl6 ((f80_o fun z1 => ?_));(try simp only [push_cast, seval, kL_eq, Nat.add_assoc]);refine zl6 ((f80_o fun z2 => ?_));(try simp only [push_cast, seval, kL_eq, Nat.add_assoc]);refine zl6 ((f80_o fun z3 => ?_));(try simp only [push_cast, seval, kL_eq, Nat.add_assoc]);refine zl6 ((f80_o fun z4 => ?_));(try simp only [push_cast, seval, kL_eq, Nat.add_assoc]);(repeat apply zaa);refine zbE [10, 13, 16, 19] [0, 1, 2, 3, 4, 5, 6, 7, 8, 9, 10, 11, 12, 13, 14, 15, 16, 17, 18, 19] [⟨0, false, [], [([10], [10])]⟩, ⟨1, false, [], [([10], [10])]⟩, ⟨2, false, [], [([10], [10]), ([10, 13], [10, 13])]⟩, ⟨3, false, [], [([10], [10]), ([10, 13], [10, 13])]⟩, ⟨4, false, [], [([10], [10]), ([10, 13], [10, 13]), ([10, 13, 16], [10, 13, 16])]⟩, ⟨5, false, [], [([10], [10]), ([10, 13], [10, 13]), ([10, 13, 16], [10, 13, 16])]⟩, ⟨6, false, [], [([10], [10])]⟩, ⟨7, false, [], [([10], [10]), ([10, 13], [10, 13])]⟩, ⟨8, false, [], []⟩, ⟨9, false, [], []⟩, ⟨10, true, [10], []⟩, ⟨11, false, [10], []⟩, ⟨12, false, [10], []⟩, ⟨13, true, [10, 13], []⟩, ⟨14, false, [10, 13], []⟩, ⟨15, false, [10, 13], []⟩, ⟨16, true, [10, 13, 16], []⟩, ⟨17, false, [10, 13, 16], []⟩, ⟨18, false, [10, 13, 16], []⟩, ⟨19, true, [10, 13, 16, 19], []⟩] (fun D => H ++ [z1, .cells kL 65, z2, .cells (bif isDone 13 D then kK (.sl 1 [iv 3] .exact) 0 1 else kL) 65, z3, .cells (bif isDone 16 D then kK (.sl 2 [iv 3, iv 4] .exact) 0 1 else kL) 65, z4, .cells (bif isDone 19 D then kK (aInts [3, 1]) 2 1 else kL) 65, .cells (kR (bif isDone 10 D then 0 else 2) (H.length + 1)) 26, .cells (kR 2 (H.length + 3)) 26, .cells (kR 2 (H.length + 5)) 26, .cells (kR 2 (H.length + 7)) 26]) F.mixed (by kernel_rfl) (by kernel_rfl) (by first | rfl | simp only [push_cast, seval]) ?_;simp only [push_cast, seval, zr2, zr1, zhq, zes, kL, kK, kR, Nat.add_assoc];refine qCall _ (zad (by kernel_rfl) (f81_c ⟨rfl, rfl⟩)) ?_;try simp only [push_cast, seval, Band.av, Band.l, Nat.add_assoc]
 (repeat apply zaa); refine zaX (id := H.length + 1) (by simp only [push_cast, seval] <;> rfl) ?_
 try simp only [push_cast, seval]
 (repeat apply zaa); refine zez (id := H.length + 8) (j := 1) (y := aKeys (kys [3, 1] 0 1)) (by simp only [push_cast, seval] <;> rfl) rfl (zgv (by simp only [push_cast, seval] <;> rfl) (Wk.refl _)) ?_
 try simp only [push_cast, seval]
 (repeat apply zaa); refine zdy (id := H.length + 8) (j := 3) (by simp only [push_cast, seval] <;> rfl) rfl (zaK _ _ _) ?_
 try simp only [push_cast, seval]
 (repeat apply zaa); refine zaX (id := H.length + 3) (by simp only [push_cast, seval] <;> rfl) ?_
 try simp only [push_cast, seval]
 (repeat apply zaa); refine zez (id := H.length + 9) (j := 1) (y := aKeys (kys [3] 0 1)) (by simp only [push_cast, seval] <;> rfl) rfl (zgv (by simp only [push_cast, seval] <;> rfl) (zaK _ _ _)) ?_
 try simp only [push_cast, seval]
 (repeat apply zaa); refine zdy (id := H.length + 9) (j := 3) (by simp only [push_cast, seval] <;> rfl) rfl (zaK _ _ _) ?_
 try simp only [push_cast, seval]
 (repeat apply zaa); refine zaX (id := H.length + 5) (by simp only [push_cast, seval] <;> rfl) ?_
 try simp only [push_cast, seval]
 (repeat apply zaa); refine zez (id := H.length + 10) (j := 1) (y := aKeys (kys [3, 4] 0 1)) (by simp only [push_cast, seval] <;> rfl) rfl (zgv (by simp only [push_cast, seval] <;> rfl) (zaK _ _ _)) ?_
 try simp only [push_cast, seval]
 (repeat apply zaa); refine zdy (id := H.length + 10) (j := 3) (by simp only [push_cast, seval] <;> rfl) rfl (zaK _ _ _) ?_
 try simp only [push_cast, seval]
 (repeat apply zaa); refine zaX (id := H.length + 7) (by simp only [push_cast, seval] <;> rfl) ?_
 try simp only [push_cast, seval]
 (repeat apply zaa); refine zez (id := H.length + 11) (j := 1) (y := aKeys (kys [3, 1] 2 1)) (by simp only [push_cast, seval] <;> rfl) rfl (zgv (by simp only [push_cast, seval] <;> rfl) (Wk.refl _)) ?_
 try simp only [push_cast, seval]
 (repeat apply zaa); refine zdy (id := H.length + 11) (j := 3) (by simp only [push_cast, seval] <;> rfl) rfl (zaK _ _ _) ?_
 (try simp only [push_cast, seval]);(repeat apply zaa);refine zl5 ?_;simp only [push_cast, seval, Int.reduceBEq, Int.reduceBNe, bne_self_eq_false, beq_self_eq_true, List.append_eq, zt3, zd5];refine zl6 ((f25_c (hmn _) ?_));(try simp only [push_cast, seval, Int.reduceBEq, Int.reduceBNe, bne_self_eq_false, beq_self_eq_true, List.append_eq, zt3, zd5]);refine zl6 ((f80_c (ts := []) (by decide) ?_));(try simp only [push_cast, seval, Int.reduceBEq, Int.reduceBNe, bne_self_eq_false, beq_self_eq_true, List.append_eq, zt3, zd5]);refine zl6 ((f35_c (zbq (ts := []) (by decide)) ?_));rw [show checkM (exR []) = 0 by decide +kernel];(try simp only [push_cast, seval, Int.reduceBEq, Int.reduceBNe, bne_self_eq_false, beq_self_eq_true, List.append_eq, zt3, zd5]);refine zl6 ((f35_k (c := 0) (xs := [3, 1]) (lo := 0) (hi := 1) (n := 1) (by decide) (by decide +kernel) ?_));(try simp only [push_cast, seval, Int.reduceBEq, Int.reduceBNe, bne_self_eq_false, beq_self_eq_true, List.append_eq, zt3, zd5]);refine zl6 ((f35_k (c := 2) (xs := [3]) (lo := 0) (hi := 1) (n := 7) (by decide) (by decide +kernel) ?_));(try simp only [push_cast, seval, Int.reduceBEq, Int.reduceBNe, bne_self_eq_false, beq_self_eq_true, List.append_eq, zt3, zd5]);refine zl6 ((f35_k (c := 2) (xs := [3, 4]) (lo := 0) (hi := 1) (n := 1) (by decide) (by decide +kernel) ?_));(try simp only [push_cast, seval, Int.reduceBEq, Int.reduceBNe, bne_self_eq_false, beq_self_eq_true, List.append_eq, zt3, zd5]);refine zl6 ((f35_k (c := 2) (xs := [3, 1]) (lo := 2) (hi := 1) (n := 5) (by decide) (by decide +kernel) ?_));(try simp only [push_cast, seval, Int.reduceBEq, Int.reduceBNe, bne_self_eq_false, beq_self_eq_true, List.append_eq, zt3, zd5]);refine zl6 ((f80_c (ts := [⟨3, 0, false⟩]) (by decide) ?_));(try simp only [push_cast, seval, Int.reduceBEq, Int.reduceBNe, bne_self_eq_false, beq_self_eq_true, List.append_eq, zt3, zd5]);refine zl6 ((f35_c (zbq (ts := [⟨3, 0, false⟩]) (by decide)) ?_));rw [show checkM (exR [⟨3, 0, false⟩]) = 3 by decide +kernel];(try simp only [push_cast, seval, Int.reduceBEq, Int.reduceBNe, bne_self_eq_false, beq_self_eq_true, List.append_eq, zt3, zd5]);(repeat apply zaa);refine zae ?_;simp only [push_cast, seval];(repeat apply zaa);refine zah ?_;simp only [push_cast, seval];(repeat apply zaa);refine zl5 ?_;simp only [push_cast, seval];refine zl6 ((f80_c (ts := []) (by decide) ?_));(try simp only [push_cast, seval]);refine zl6 ((e2_worn (hmn _) ?_));(try simp only [push_cast, seval]);(repeat apply zaa);refine zl5 ?_;simp only [push_cast, seval];refine zl6 ((f80_c (ts := []) (by decide) ?_));(try simp only [push_cast, seval]);refine zl6 ((e3_worn (hmn _) ?_));(try simp only [push_cast, seval]);(repeat apply zaa);refine zl5 ?_;simp only [push_cast, seval];refine zl6 ((f80_c (ts := []) (by decide) ?_));(try simp only [push_cast, seval]);refine zl6 ((e2_opens (hmn _) ?_));(try simp only [push_cast, seval]);(repeat apply zaa);refine zl5 ?_;simp only [push_cast, seval];refine zl6 ((f80_c (ts := []) (by decide) ?_));(try simp only [push_cast, seval]);refine zl6 ((e3_opens (hmn _) ?_));(try simp only [push_cast, seval]);(repeat apply zaa);refine zl5 ?_;simp only [push_cast, seval];refine zl6 ((f82_c ?_));(try simp only [push_cast, seval, Try.av, Try.l, exLast, zt3, zd5]);refine zl6 ((f80_c (ts := [exLast]) (by decide) ?_));(try simp only [push_cast, seval]);refine zl6 ((e4_opens (hmn _) ?_));(try simp only [push_cast, seval]);(repeat apply zaa);refine zl5 ?_;simp only [push_cast, seval];refine zl6 ((f83_c ?_));(try simp only [push_cast, seval, Try.av, Try.l, exNever, zt3, zd5]);refine zl6 ((f80_c (ts := [exNever]) (by decide) ?_));(try simp only [push_cast, seval]);refine zl6 ((e5_opens (hmn _) ?_));(try simp only [push_cast, seval]);(repeat apply zaa);refine zl5 ?_;simp only [push_cast, seval, decide_false, decide_true, gt_iff_lt, Int.lt_irrefl, List.append_eq, beq_self_eq_true, bne_self_eq_false, Int.reduceBEq, Int.reduceBNe, aInts, zr1, zr2, zr3, zhq, zes, zd5];refine zl6 ((f34_same (xs := [2, 0]) (by decide) ?_));(try simp only [push_cast, seval, decide_false, decide_true, gt_iff_lt, Int.lt_irrefl, List.append_eq, beq_self_eq_true, bne_self_eq_false, Int.reduceBEq, Int.reduceBNe, aInts, zr1, zr2, zr3, zhq, zes, zd5]);(repeat apply zaa);refine zae ?_;simp only [push_cast, seval];(repeat apply zaa);refine zah ?_;simp only [push_cast, seval];(repeat apply zaa);refine zl5 ?_;simp only [push_cast, seval];refine zl6 ((f80_c (ts := []) (by decide) ?_));(try simp only [push_cast, seval]);refine zl6 ((e2_count (hmn _) ?_));(try simp only [push_cast, seval]);(repeat apply zaa);refine zl5 ?_;simp only [push_cast, seval];refine zl6 ((f83_c ?_));(try simp only [push_cast, seval, Try.av, Try.l, exNever, zt3, zd5]);refine zl6 ((f80_c (ts := [exNever]) (by decide) ?_));(try simp only [push_cast, seval]);refine zl6 ((e3_count (hmn _) ?_));(try simp only [push_cast, seval]);(repeat apply zaa);refine zl5 ?_;simp only [push_cast, seval];refine zl6 ((f82_c ?_));(try simp only [push_cast, seval, Try.av, Try.l, exLast, zt3, zd5]);refine zl6 ((f80_c (ts := [exLast]) (by decide) ?_));(try simp only [push_cast, seval]);refine zl6 ((e1_wears (hmn _) ?_));(try simp only [push_cast, seval]);(repeat apply zaa);refine zl5 ?_;simp only [push_cast, seval];refine zl6 ((f82_c ?_));(try simp only [push_cast, seval, Try.av, Try.l, exLast, zt3, zd5]);refine zl6 ((f80_c (ts := [exLast]) (by decide) ?_));(try simp only [push_cast, seval]);refine zl6 ((e2_wears (hmn _) ?_));(try simp only [push_cast, seval]);(repeat apply zaa);refine zl5 ?_;simp only [push_cast, seval];refine zl6 ((f80_c (ts := []) (by decide) ?_));(try simp only [push_cast, seval]);refine zl6 ((e2_wrong (hmn _) ?_));(try simp only [push_cast, seval]);(repeat apply zaa);refine zl5 ?_;simp only [push_cast, seval];refine zl6 ((f82_c ?_));(try simp only [push_cast, seval, Try.av, Try.l, exLast, zt3, zd5]);refine zl6 ((f80_c (ts := [exLast]) (by decide) ?_));(try simp only [push_cast, seval]);refine zl6 ((e2_ask (hmn _) ?_));(try simp only [push_cast, seval]);(repeat apply zaa);refine zl5 ?_;simp only [push_cast, seval];refine zl6 ((f80_c (ts := []) (by decide) ?_));(try simp only [push_cast, seval]);refine zl6 ((e2_cover (hmn _) ?_));(try simp only [push_cast, seval]);(repeat apply zaa);refine zl5 ?_;simp only [push_cast, seval, decide_false, decide_true, gt_iff_lt, Int.lt_irrefl, List.append_eq, beq_self_eq_true, bne_self_eq_false, Int.reduceBEq, Int.reduceBNe, aInts, zr1, zr2, zr3, zhq, zes, zd5];refine zl6 ((f34_same (xs := [0, 1]) (by decide) ?_));(try simp only [push_cast, seval, decide_false, decide_true, gt_iff_lt, Int.lt_irrefl, List.append_eq, beq_self_eq_true, bne_self_eq_false, Int.reduceBEq, Int.reduceBNe, aInts, zr1, zr2, zr3, zhq, zes, zd5]);refine zl6 ((f34_same (xs := [0, 1]) (by decide) ?_));(try simp only [push_cast, seval, decide_false, decide_true, gt_iff_lt, Int.lt_irrefl, List.append_eq, beq_self_eq_true, bne_self_eq_false, Int.reduceBEq, Int.reduceBNe, aInts, zr1, zr2, zr3, zhq, zes, zd5]);(repeat apply zaa);refine zae ?_;simp only [push_cast, seval];(repeat apply zaa);refine zah ?_;simp only [push_cast, seval];(repeat apply zaa);refine zl5 ?_;simp only [push_cast, seval];refine zl6 ((f80_c (ts := []) (by decide) ?_));(try simp only [push_cast, seval]);refine zl6 ((e2_alike (hmn _) ?_));(try simp only [push_cast, seval]);(repeat apply zaa);refine zl5 ?_;simp only [push_cast, seval];refine zl6 ((f84_c ?_));(try simp only [push_cast, seval]);refine zl6 ((e2_tell (hmn _) ?_));(try simp only [push_cast, seval]);(repeat apply zaa);refine zl5 ?_;simp only [push_cast, seval, zu2, zu4, zes, zeh];refine zl6 ((f80_c (ts := []) (by decide) ?_));(try simp only [push_cast, seval, zu2, zu4, zes, zeh]);refine zl6 ((zcw (.cons (Wk.refl _) (.cons (zaK _ _ _) .nil)) (e2_which (hmn _) ?_)));(try simp only [push_cast, seval]);(repeat apply zaa);refine zl5 ?_;simp only [push_cast, seval, zu2, zu4, zes, zeh];refine zl6 ((f80_c (ts := []) (by decide) ?_));(try simp only [push_cast, seval, zu2, zu4, zes, zeh]);refine zl6 ((zcw (.cons (Wk.refl _) (.cons (zaK _ _ _) .nil)) (e3_which (hmn _) ?_)));(try simp only [push_cast, seval]);(repeat apply zaa);refine zl5 ?_;simp only [push_cast, seval, zu2, zu4, zes, zeh];refine zl6 ((f80_c (ts := []) (by decide) ?_));(try simp only [push_cast, seval, zu2, zu4, zes, zeh]);refine zl6 ((zcw (.cons (Wk.refl _) (.cons (zaK _ _ _) .nil)) (e4_which (hmn _) ?_)));(try simp only [push_cast, seval]);(repeat apply zaa);refine zl5 ?_;simp only [push_cast, seval, decide_false, decide_true, gt_iff_lt, Int.lt_irrefl, List.append_eq, beq_self_eq_true, bne_self_eq_false, Int.reduceBEq, Int.reduceBNe, aInts, zr1, zr2, zr3, zhq, zes, zd5];refine zl6 ((f34_same (xs := [0, 1, 2]) (by decide) ?_));(try simp only [push_cast, seval, decide_false, decide_true, gt_iff_lt, Int.lt_irrefl, List.append_eq, beq_self_eq_true, bne_self_eq_false, Int.reduceBEq, Int.reduceBNe, aInts, zr1, zr2, zr3, zhq, zes, zd5]);refine zl6 ((f34_same (xs := [2]) (by decide) ?_));(try simp only [push_cast, seval, decide_false, decide_true, gt_iff_lt, Int.lt_irrefl, List.append_eq, beq_self_eq_true, bne_self_eq_false, Int.reduceBEq, Int.reduceBNe, aInts, zr1, zr2, zr3, zhq, zes, zd5]);refine zl6 ((f34_same (xs := [0]) (by decide) ?_));(try simp only [push_cast, seval, decide_false, decide_true, gt_iff_lt, Int.lt_irrefl, List.append_eq, beq_self_eq_true, bne_self_eq_false, Int.reduceBEq, Int.reduceBNe, aInts, zr1, zr2, zr3, zhq, zes, zd5]);(repeat apply zaa);refine zae ?_;simp only [push_cast, seval];(repeat apply zaa);refine zah ?_;simp only [push_cast, seval];(repeat apply zaa);refine zl5 ?_;simp only [push_cast, seval, zr1, zr2, zhq, zes];refine zl6 ((f80_c (ts := []) (by decide) ?_));(try simp only [push_cast, seval, zr1, zr2, zhq, zes]);refine zl6 ((zcw (.cons (Wk.refl _) (.cons (zaK _ _ _) .nil)) (e2_cut (hmn _) ?_)));(try simp only [push_cast, seval]);(repeat apply zaa);refine zl5 ?_;simp only [push_cast, seval, zr1, zr2, zhq, zes];refine zl6 ((f80_c (ts := []) (by decide) ?_));(try simp only [push_cast, seval, zr1, zr2, zhq, zes]);refine zl6 ((zcw (.cons (Wk.refl _) (.cons (zaK _ _ _) .nil)) (e3_cut (hmn _) ?_)));(try simp only [push_cast, seval]);(repeat apply zaa);refine zl5 ?_;simp only [push_cast, seval, zr1, zr2, zhq, zes];refine zl6 ((f80_c (ts := []) (by decide) ?_));(try simp only [push_cast, seval, zr1, zr2, zhq, zes]);refine zl6 ((zcw (.cons (Wk.refl _) (.cons (zaK _ _ _) .nil)) (e4_cut (hmn _) ?_)));(try simp only [push_cast, seval]);(repeat apply zaa);refine zl5 ?_;simp only [push_cast, seval, zr1, zr2, zhq, zes];refine zl6 ((f80_c (ts := []) (by decide) ?_));(try simp only [push_cast, seval, zr1, zr2, zhq, zes]);refine zl6 ((zcw (.cons (Wk.refl _) (.cons (zaK _ _ _) .nil)) (e5_cut (hmn _) ?_)));(try simp only [push_cast, seval]);(repeat apply zaa);refine zl5 ?_;simp only [push_cast, seval];refine zl6 ((f80_c (ts := []) (by decide) ?_));(try simp only [push_cast, seval]);refine zl6 ((zlG (hmn _) ?_));(try simp only [push_cast, seval]);(repeat apply zaa);refine zl5 ?_;simp only [push_cast, seval];refine zl6 ((f85_c ?_));(try simp only [push_cast, seval]);refine zl6 ((zlF (hmn _) ?_));(try simp only [push_cast, seval]);(repeat apply zaa);refine zl5 ?_;simp only [push_cast, seval, zt3, Ring.av, Ring.l, noRing];refine zl6 ((f80_c (ts := []) (by decide) ?_));(try simp only [push_cast, seval]);refine zl6 ((f82_c ?_));(try simp only [push_cast, seval]);refine zl6 ((e1_add (hmn _) ?_));(try simp only [push_cast, seval, zt3, Ring.av, Ring.l, noRing]);(repeat apply zaa);refine zl5 ?_;simp only [push_cast, seval, zt3, Ring.av, Ring.l, noRing];refine zl6 ((f80_c (ts := []) (by decide) ?_));(try simp only [push_cast, seval]);refine zl6 ((f83_c ?_));(try simp only [push_cast, seval]);refine zl6 ((e2_add (hmn _) ?_));(try simp only [push_cast, seval, zt3, Ring.av, Ring.l, noRing]);(repeat apply zaa);refine zl5 ?_;simp only [push_cast, seval, zt3];refine zl6 ((f80_c (ts := []) (by decide) ?_));(try simp only [push_cast, seval, zt3]);refine zl6 ((e3_add (hmn _) ?_));(try simp only [push_cast, seval, zt3, Ring.av, Ring.l, noRing]);(repeat apply zaa);refine zaT F.mixed 58 (by kernel_rfl) ?_;simp only [push_cast, seval, decide_false, decide_true, beq_self_eq_true, List.append_eq, zr2, zt3, zes, zd5, aInts];refine qCall _ (zad (by kernel_rfl) (f34_same (xs := [2, 0]) (by decide) ⟨rfl, rfl⟩)) ?_;(try simp only [push_cast, seval, decide_false, decide_true, beq_self_eq_true, List.append_eq, zr2, zt3, zes, zd5, aInts]);refine qCall _ (zad (by kernel_rfl) (f34_same (xs := [0, 0]) (by decide) ⟨rfl, rfl⟩)) ?_;(try simp only [push_cast, seval, decide_false, decide_true, beq_self_eq_true, List.append_eq, zr2, zt3, zes, zd5, aInts]);refine qCall _ (zad (by kernel_rfl) (f34_same (xs := [2, 1]) (by decide) ⟨rfl, rfl⟩)) ?_;(try simp only [push_cast, seval, decide_false, decide_true, beq_self_eq_true, List.append_eq, zr2, zt3, zes, zd5, aInts]);refine qCall _ (zad (by kernel_rfl) (f82_c ⟨rfl, rfl⟩)) ?_;(try simp only [push_cast, seval, decide_false, decide_true, beq_self_eq_true, List.append_eq, zr2, zt3, zes, zd5, aInts, Try.av, Try.l, exLast]);refine qCall _ (zad (by kernel_rfl) (f80_c (ts := [exLast]) (by decide) ⟨rfl, rfl⟩)) ?_;refine zl6 ((f37_same (x := exR [exLast]) (zbq (by decide)) ?_));(try simp only [push_cast, seval]);(repeat apply zaa);refine zai ?_;simp only [push_cast, seval];exact endV hH hk
end
open Go.Conc Go.Proofs Go.ChangeShapes Go.WideShapes Go.ChangeAt Go.RowKit
def view0 (W : World) : View := ⟨fun b o => W.cell? ⟨b, o, none⟩, fun _ => none, 0, .plain⟩
def env0 (W : World) : Env := ⟨(view0 W).imm, 1, fun _ => 0, fun _ _ => (none, 0), fun _ => 0, fun _ => none, true⟩
theorem sat0 (W : World) : Sat (view0 W) W := ⟨fun _ _ _ h => h, fun _ _ h => by cases h⟩
theorem conc0 (W : World) : Conc (env0 W) (view0 W) [.main] where
 I := rfl
 n := rfl
 obj := fun k x h => by
  match k, h with
  | 0, h => cases h; exact rfl
  | k + 1, h => cases h
 inj := fun i j x y b hi hj h1 h2 => by
  match i, hi with
  | 0, hi => cases hi; cases h1
  | i + 1, hi => cases hi
 group := fun g h => by cases h
 chan := fun c h => by cases h
 top := fun _ => ⟨rfl, rfl⟩
 fr := fun b y h => by cases h
theorem zjf {f : FuncId} {W : World} {args : Array Value} {avs : List AV} {Q : Value → Prop} (hi : Tryz.prog.inits.idxOf? f = none) (hd : Denl (env0 W) avs args) (h : FnC true Tryz.prog f [.main] avs (fun a _ => ∀ E v, Den E a v → Q v) (fun _ _ => False)) :
  ∃ M last o w' t', runNT Tryz.prog (M + 1) (solo (G (Frame.enter Tryz.prog f args .normal) []) W) #[] = (.ended o w', t') ∧ runN Tryz.prog M (solo (G (Frame.enter Tryz.prog f args .normal) []) W) = .next last ∧ step Tryz.prog last = .ended o w' ∧ Conc.Good Tryz.prog (fun v w => Q v ∧ Left W.heap.size W w) last o w' t' :=
 zgE hi (V := view0 W) rfl rfl rfl (sat0 W) (h (env0 W) (view0 W) args (conc0 W) hd) fun o V' r => by
  cases o with
  | ret v =>
   obtain ⟨av, E', H', _, hro, _, hden, _, hk⟩ := r;exact ⟨hro, v, rfl, fun w _ hl => ⟨hk _ _ hden, hl⟩⟩
  | panic ch =>
   obtain ⟨pv, v, E', H', _, _, _, _, _, _, hf⟩ := r;exact hf.elim
theorem Left.below {W w : World} (h : Left W.heap.size W w) : Below W.heap.size W w := ⟨h.os, h.tape, h.out, h.size, h.old⟩
theorem Tz.own : ownKnob Tryz.prog.godebug = none := by kernel_rfl
theorem Tz.laidOut : laidOutB Tryz.prog = true := by kernel_rfl
theorem Tz.u3 : Tryz.prog.underlying 3 = some (.int .i64) := by kernel_rfl
theorem Tz.u4 : Tryz.prog.underlying 4 = some .bool := by kernel_rfl
theorem Tz.c3 : Tryz.prog.cellsOf 3 = 1 := by kernel_rfl
theorem Tz.b3 : Tryz.prog.bytesOf 3 = 8 := by kernel_rfl
def LawInts (f : FuncId) : Prop := ∀ nums : List Int, nums.length ≤ 2 ^ 50 → FnC true Tryz.prog f [.main] [aInts nums] (fun a _ => a = bv true) (fun _ _ => False)
open Go.Proofs
def ioCodes : List Nat := [104,97,114,110,101,115,115,32,99,51,50,57,53,49,56,50,100,99,53,57,97,55,97,98,51,48,51,102,54,57,97,97,100,57,54,56,102,52,99,57,49,98,53,97,48,49,101,51,101,101,55,53,50,49,99,100,54,56,54,49,50,99,48,52,54,49,101,48,97,49,50,98,32,99,117,116,32,97,116,32,103,108,97,100,115,116,111,110,101,47,103,108,97,100,115,116,111,110,101,108,97,119,48,56,46,75,101,121,67,104,101,99,107,115,32,103,108,97,100,115,116,111,110,101,47,103,108,97,100,115,116,111,110,101,108,97,119,48,56,46,75,101,121,67,111,118,101,114,115,32,103,108,97,100,115,116,111,110,101,47,103,108,97,100,115,116,111,110,101,108,97,119,48,56,46,75,101,121,66,97,103,115,32,103,108,97,100,115,116,111,110,101,47,103,108,97,100,115,116,111,110,101,108,97,119,48,56,46,75,101,121,87,111,114,110,32,103,108,97,100,115,116,111,110,101,47,103,108,97,100,115,116,111,110,101,108,97,119,48,56,46,75,101,121,87,114,111,110,103,32,103,108,97,100,115,116,111,110,101,47,103,108,97,100,115,116,111,110,101,108,97,119,48,56,46,75,101,121,65,115,107,32,103,108,97,100,115,116,111,110,101,47,103,108,97,100,115,116,111,110,101,108,97,119,48,56,46,75,101,121,67,111,118,101,114,32,103,108,97,100,115,116,111,110,101,47,103,108,97,100,115,116,111,110,101,108,97,119,48,56,46,75,101,121,65,108,105,107,101,32,103,108,97,100,115,116,111,110,101,47,103,108,97,100,115,116,111,110,101,108,97,119,48,56,46,75,101,121,84,101,108,108,32,103,108,97,100,115,116,111,110,101,47,103,108,97,100,115,116,111,110,101,108,97,119,48,56,46,75,101,121,66,97,103,32,103,108,97,100,115,116,111,110,101,47,103,108,97,100,115,116,111,110,101,108,97,119,48,56,46,75,101,121,67,117,116,32,103,108,97,100,115,116,111,110,101,47,103,108,97,100,115,116,111,110,101,108,97,119,48,56,46,75,101,121,78,117,109,98,101,114,101,100,32,103,108,97,100,115,116,111,110,101,47,103,108,97,100,115,116,111,110,101,108,97,119,48,56,46,75,101,121,67,111,117,110,116,115,32,103,108,97,100,115,116,111,110,101,47,103,108,97,100,115,116,111,110,101,108,97,119,48,56,46,75,101,121,65,108,108,32,103,108,97,100,115,116,111,110,101,47,103,108,97,100,115,116,111,110,101,108,97,119,48,56,46,75,101,121,84,114,117,101,32,103,108,97,100,115,116,111,110,101,47,103,108,97,100,115,116,111,110,101,108,97,119,48,56,46,75,101,121,65,115,107,115,32,103,108,97,100,115,116,111,110,101,47,103,108,97,100,115,116,111,110,101,108,97,119,48,56,46,75,101,121,78,101,119,115,32,103,108,97,100,115,116,111,110,101,47,103,108,97,100,115,116,111,110,101,108,97,119,48,56,46,75,101,121,77,97,115,116,101,114,32,103,108,97,100,115,116,111,110,101,47,103,108,97,100,115,116,111,110,101,108,97,119,48,56,46,75,101,121,77,111,114,101,32,103,108,97,100,115,116,111,110,101,47,103,108,97,100,115,116,111,110,101,108,97,119,48,56,46,75,101,121,84,117,114,110,101,100,32,103,108,97,100,115,116,111,110,101,47,103,108,97,100,115,116,111,110,101,108,97,119,48,56,46,75,101,121,75,110,111,119,110]
set_option maxRecDepth 100000 in
theorem ioL : Tryz.prog.initOrder.toList = ioCodes.map Char.ofNat := by
 have h : Tryz.prog.initOrder = String.ofList (ioCodes.map Char.ofNat) := by kernel_rfl
 rw [h, String.toList_ofList]
def ioWords : List (List Char) := ([[99,117,116],[97,116],[103,108,97,100,115,116,111,110,101,47,103,108,97,100,115,116,111,110,101,108,97,119,48,56,46,75,101,121,67,104,101,99,107,115],[103,108,97,100,115,116,111,110,101,47,103,108,97,100,115,116,111,110,101,108,97,119,48,56,46,75,101,121,67,111,118,101,114,115],[103,108,97,100,115,116,111,110,101,47,103,108,97,100,115,116,111,110,101,108,97,119,48,56,46,75,101,121,66,97,103,115],[103,108,97,100,115,116,111,110,101,47,103,108,97,100,115,116,111,110,101,108,97,119,48,56,46,75,101,121,87,111,114,110],[103,108,97,100,115,116,111,110,101,47,103,108,97,100,115,116,111,110,101,108,97,119,48,56,46,75,101,121,87,114,111,110,103],[103,108,97,100,115,116,111,110,101,47,103,108,97,100,115,116,111,110,101,108,97,119,48,56,46,75,101,121,65,115,107],[103,108,97,100,115,116,111,110,101,47,103,108,97,100,115,116,111,110,101,108,97,119,48,56,46,75,101,121,67,111,118,101,114],[103,108,97,100,115,116,111,110,101,47,103,108,97,100,115,116,111,110,101,108,97,119,48,56,46,75,101,121,65,108,105,107,101],[103,108,97,100,115,116,111,110,101,47,103,108,97,100,115,116,111,110,101,108,97,119,48,56,46,75,101,121,84,101,108,108],[103,108,97,100,115,116,111,110,101,47,103,108,97,100,115,116,111,110,101,108,97,119,48,56,46,75,101,121,66,97,103],[103,108,97,100,115,116,111,110,101,47,103,108,97,100,115,116,111,110,101,108,97,119,48,56,46,75,101,121,67,117,116],[103,108,97,100,115,116,111,110,101,47,103,108,97,100,115,116,111,110,101,108,97,119,48,56,46,75,101,121,78,117,109,98,101,114,101,100],[103,108,97,100,115,116,111,110,101,47,103,108,97,100,115,116,111,110,101,108,97,119,48,56,46,75,101,121,67,111,117,110,116,115],[103,108,97,100,115,116,111,110,101,47,103,108,97,100,115,116,111,110,101,108,97,119,48,56,46,75,101,121,65,108,108],[103,108,97,100,115,116,111,110,101,47,103,108,97,100,115,116,111,110,101,108,97,119,48,56,46,75,101,121,84,114,117,101],[103,108,97,100,115,116,111,110,101,47,103,108,97,100,115,116,111,110,101,108,97,119,48,56,46,75,101,121,65,115,107,115],[103,108,97,100,115,116,111,110,101,47,103,108,97,100,115,116,111,110,101,108,97,119,48,56,46,75,101,121,78,101,119,115],[103,108,97,100,115,116,111,110,101,47,103,108,97,100,115,116,111,110,101,108,97,119,48,56,46,75,101,121,77,97,115,116,101,114],[103,108,97,100,115,116,111,110,101,47,103,108,97,100,115,116,111,110,101,108,97,119,48,56,46,75,101,121,77,111,114,101],[103,108,97,100,115,116,111,110,101,47,103,108,97,100,115,116,111,110,101,108,97,119,48,56,46,75,101,121,84,117,114,110,101,100],[103,108,97,100,115,116,111,110,101,47,103,108,97,100,115,116,111,110,101,108,97,119,48,56,46,75,101,121,75,110,111,119,110]] : List (List Nat)).map fun l => l.map Char.ofNat
set_option maxRecDepth 100000 in
theorem ioW : behindMainWord (wordsSigns Tryz.prog.initOrder.toList) = ioWords := by
 rw [ioL]
 kernel_rfl
section
variable {P : Program} {c : List Char} {rest : List (List Char)}
theorem zhx (h : behindMainWord (wordsSigns P.initOrder.toList) = c :: rest) (hc : c = "cut".toList) (h1 : stripLifts liftWords (c :: rest) = ([], c :: rest)) (h2 : P.laysLater = false) (h3 : P.bearsReflect = false) (h4 : P.doorFits [] = true) : P.mayEnter = true := by
 unfold Program.mayEnter;rw [h];subst hc;simp only [h1, h2, h3, h4, List.head?_cons, beq_self_eq_true, List.contains_nil, Bool.not_false, Bool.false_or, Bool.or_true, Bool.and_self, Bool.true_and]
theorem zgB (h : behindMainWord (wordsSigns P.initOrder.toList) = c :: rest) (hc : c = "cut".toList) (h1 : stripLifts liftWords (c :: rest) = ([], c :: rest)) : P.headLifts = [] := by
 unfold Program.headLifts;rw [h];simp only [h1, ite_self]
theorem lifts_of (h : behindMainWord (wordsSigns P.initOrder.toList) = c :: rest) (hc : c = "cut".toList) (h1 : stripLifts liftWords (c :: rest) = ([], c :: rest)) : P.liftsFinal = false := by
 unfold Program.liftsFinal;rw [zgB h hc h1, h];subst hc;simp only [List.head?_cons, List.contains_nil, Bool.or_false];have : (some "cut".toList == some "carried".toList) = false := by decide +kernel
 rw [this, Bool.false_and]
theorem make_of (h : behindMainWord (wordsSigns P.initOrder.toList) = c :: rest) (hc : c = "cut".toList) : P.make = some .cut := by
 unfold Program.make;rw [h];subst hc;have e1 : ("cut".toList == "gc".toList) = false := by decide +kernel
 have e2 : ("cut".toList == "spec".toList) = false := by decide +kernel
 simp only [e1, e2, Bool.or_self, Bool.false_eq_true, if_false, beq_self_eq_true, Bool.true_or, if_true]
end
def ioHead : List Char := ioWords.headD []
def ioTail : List (List Char) := ioWords.tail
theorem ioW2 : behindMainWord (wordsSigns Tryz.prog.initOrder.toList) = ioHead :: ioTail := ioW.trans (by kernel_rfl)
theorem ioC : ioHead = "cut".toList := by kernel_rfl
theorem ioS : stripLifts liftWords (ioHead :: ioTail) = ([], ioHead :: ioTail) := by kernel_rfl
theorem Tz.mayEnter : Tryz.prog.mayEnter = true := zhx ioW2 ioC ioS (by kernel_rfl) (by kernel_rfl) (by kernel_rfl)
theorem Tz.lifts : Tryz.prog.liftsFinal = false := lifts_of ioW2 ioC ioS
theorem Tz.make : Tryz.prog.make = some .cut := make_of ioW2 ioC
open Go.Proofs
theorem zkH {P : Program} {f : FuncId} {fn : Func} {s : ChangeSpec} {c : OpenClaim}
  (k0 : (c.wf (OpenSpec.ofChange s)) = true)
  (k1 : (laidOutB P) = true)
  (k2 : (mapsRowed P) = true)
  (k3 : (fn.params.all (P.readableRec ·)) = true)
  (k4 : (namedTie P c.named s.vars) = true)
  (k5 : ((c.stops == [])) = true)
  (k6 : ((P.stops == [])) = true)
  (k7 : ((c.knobs == [])) = true)
  (k8 : ((P.stopKnobs == [])) = true)
  (k9 : ((c.inPlace == P.inPlace f)) = true)
  (k10 : ((c.unfollowed == P.unfollowed f)) = true)
  (k11 : ((c.recurses == P.recurses f)) = true)
  (k12 : ((c.named == P.varsNamed f)) = true)
  (k13 : ((c.maps == (fn.params.toList ++ s.plain.varTypes P).any (P.mapsRec ·))) = true)
  (k14 : ((c.ifaces == (fn.params.toList ++ s.plain.varTypes P).any (P.ifacesRec ·))) = true)
  (k15 : ((c.mapsOut == P.mapsAmong fn.resultTypes.toList)) = true)
  (k16 : ((c.loops == (fn.params.toList ++ s.plain.varTypes P).any (P.loopsFrom ·))) = true)
  (k17 : ((c.wideKeys == (fn.params.toList ++ s.plain.varTypes P ++ fn.resultTypes.toList).any (P.wideKeysFrom ·))) = true)
  (k18 : (s.vars.all (P.varReadable ·)) = true)
  (k19 : (fn.resultTypes.all (fun t => P.readableRec t && decide (t < P.types.size))) = true)
  (k20 : ((c.ifacesOut == fn.resultTypes.toList.any (P.ifacesRec ·))) = true)
  (k21 : ((c.loopsOut == fn.resultTypes.toList.any (P.loopsFrom ·))) = true)
  (k22 : ((c.plainKeys == P.plainKeys)) = true)
  (k23 : (c.shortTexts.isNone) = true)
  (k24 : (P.stopsHeard) = true)
  (k25 : (P.mayEnter) = true)
  (k26 : ((c.lifted == P.liftsFinal)) = true)
  (k27 : ((P.make == some c.make)) = true)
  (k28 : c.domain.isEmpty = true) (k28' : c.kinds = [])
  (k29 : ((c.pinned == c.pinnedBy)) = true)
  (k30 : ((c.veiled == (fn.params.toList ++ s.plain.varTypes P ++ fn.resultTypes.toList).any (P.veiledRec ·))) = true)
  (k31 : (c.veiledFits P fn.params.toList (fn.params.toList ++ s.plain.varTypes P ++ fn.resultTypes.toList)) = true) : joinedFacts P f fn s c = true := by
 simp only [joinedFacts, k0, k1, k2, k3, k4, k5, k6, k7, k8, k9, k10, k11, k12, k13, k14, k15, k16, k17, k18, k19, k20, k21, k22, k23, k24, k25, k26, k27, k28, k28', if_true, beq_self_eq_true, k29, k30, k31, Bool.and_self]
theorem zkB {c : OpenClaim} (h : c.lifted = false) : (c.lifted == Tryz.prog.liftsFinal) = true := by rw [Tz.lifts, h]; rfl
theorem make_of' {c : OpenClaim} (h : c.make = .cut) : (Tryz.prog.make == some c.make) = true := by rw [Tz.make, h]; rfl
open Go.Conc Go.Proofs Go.ChangeShapes Go.WideShapes Go.ChangeAt Go.RowKit
set_option maxRecDepth 100000 in
theorem zir {f : FuncId} {fn : Func} {s : ChangeSpec} (hf : Tryz.prog.funcs[f]? = some fn) (hp : fn.params = #[]) (hr : fn.resultTypes = #[4]) (hv : s.vars = []) (hs : ∀ (H : Type), s.fn H [] = { results := [.lit (.bool true)], args := [] }) (hi : Tryz.prog.inits.idxOf? f = none) (hlaw : FnC true Tryz.prog f [.main] [] (fun a _ => a = bv true) (fun _ _ => False))
  (os : Os) (started : os.Started) (H : Type) (enc : TypeId × Value → H)
  (hwit : ∃ (w : World) (tape : Tape) (i : Input), w.os = os ∧ (w.forCall tape i).Shaped Tryz.checked.prog ∧ i.vars = [] ∧ Input.okWide Tryz.checked.prog (w.forCall tape i) .any w.heap.size f i ∧
   s.pre6 enc Tryz.checked.prog fn [] false (w.forCall tape i).memory i.args ∧ ({} : Assume).holds Tryz.checked.prog (lone (Frame.enter Tryz.checked.prog f i.args .normal) [] (w.forCall tape i))) :
  ReturnsInLeavingWide {} Tryz.checked os f .any (s.pre6 enc Tryz.prog fn [] false) (s.post enc Tryz.prog fn false true false false) := by
 refine returnsInLeavingWide_of_change_sized (C := Tryz.checked) Tz.own started hf hwit ?_;intro W base args ds gs before _ hW _ _ _;have hW' := hW;obtain ⟨p, q, hA0, hV, rfl, _, _⟩ := hW;have hA : DataW.TrodAll enc Tryz.prog W 0 (fun _ => true) true fn.params.toList args.toList ds p := hA0;rw [hp] at hA;obtain ⟨rfl, rfl, rfl⟩ := trodAll_none hA;rw [hv] at hV;obtain ⟨rfl, rfl⟩ := trodVars_none hV;obtain ⟨M, last, o, w', t', h1, h2, h3, h4⟩ := zjf (W := W) (Q := fun v => v = .bool true) (args := #[]) (avs := []) hi ⟨rfl, fun i a e => by simp at e⟩ (hlaw.mono (fun a H' e E v hden => by subst e; cases hden; rfl) fun _ _ h => h);refine ⟨M, last, o, w', t', h1, h2, h3, h4.mono fun v ⟨hQ, hL⟩ => ?_⟩;subst hQ;have hb := hL.below;refine ⟨[], [], _, [], [], [], hW', ?_, ?_, by rw [hv]; exact (by rw [show ([] ++ [] : List (DataW H)) = [] from rfl, hs]; rfl), hb.frame _, fun h => by cases h⟩
 ·rw [show ([] ++ [] : List (DataW H)) = [] from rfl, hs, hr];exact trodAll_mk1 (shut_bool Tz.u4 true)
 ·rw [show ([] ++ [] : List (DataW H)) = [] from rfl, hs, hp];exact trodAll_mk0
end Go.Gg
namespace Go.Proofs.YtoaaoiipickclaaGreat
open Go.Conc Go.Proofs Go.Gg
theorem kkName : Tryz.prog.funcNamed Rows.keyKnownRow.func = some 23 := by kernel_rfl
theorem kkJoined : joinedFacts Tryz.prog 23 Tryz.f23 Rows.keyKnownSpec Rows.keyKnownRow = true :=
 zkH (by kernel_rfl) Tz.laidOut (by kernel_rfl) (by kernel_rfl) (by kernel_rfl) (by kernel_rfl) (by kernel_rfl) (by kernel_rfl) (by kernel_rfl) (by kernel_rfl) (by kernel_rfl) (by kernel_rfl) (by kernel_rfl) (by kernel_rfl) (by kernel_rfl) (by kernel_rfl) (by kernel_rfl) (by kernel_rfl) (by kernel_rfl) (by kernel_rfl) (by kernel_rfl) (by kernel_rfl) (by kernel_rfl) (by kernel_rfl) (by kernel_rfl) Tz.mayEnter (zkB (by kernel_rfl)) (make_of' (by kernel_rfl)) (by kernel_rfl) (by kernel_rfl) (by kernel_rfl) (by kernel_rfl) (by kernel_rfl)
theorem kkInst : Tryz.f23.isInstance Tryz.prog Rows.keyKnownRow.origin Rows.keyKnownRow.targs := of_decide_eq_true (by kernel_rfl)
theorem kkWrap : Tryz.f23.isWrapper Tryz.prog Rows.keyKnownRow.wrapper Rows.keyKnownRow.mainSum := by unfold Func.isWrapper; first | (rw [if_pos (by decide +kernel)]; kernel_rfl) | (rw [if_neg (by decide +kernel)]; exact ⟨rfl, rfl⟩)
theorem zfK (os : Os) (started : os.Started) (H : Type) (enc : TypeId × Value → H) :
  ReturnsInLeavingWide {} Tryz.checked os 23 .any (Rows.keyKnownSpec.pre6 enc Tryz.prog Tryz.f23 Rows.keyKnownRow.domain false) (Rows.keyKnownSpec.post enc Tryz.prog Tryz.f23 false true false false) :=
 zir (f := 23) (fn := Tryz.f23) (s := Rows.keyKnownSpec) Tryz.func23 rfl rfl rfl (fun _ => rfl) (by kernel_rfl) (f23_c rfl rfl) os started H enc
  (ChangeSpec.witness6 (enc := enc) (C := Tryz.checked) false ⟨#[], #[], []⟩ 8 (by kernel_rfl) (by kernel_rfl) (by kernel_rfl) (by kernel_rfl))
theorem keyKnown_holds : Rows.KeyKnownSaid :=
 OpenClaim.holds_of_wide_leaving 23 Tryz.f23 rfl rfl rfl rfl rfl rfl rfl ⟨rfl, rfl, rfl, rfl, rfl⟩ rfl rfl rfl rfl rfl kkName Tryz.func23 kkJoined kkInst kkWrap
  (fun os started H enc _ => zfK os started H enc)
end Go.Proofs.YtoaaoiipickclaaGreat
