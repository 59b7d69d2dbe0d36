/- The law KeyAsk answers true at every list of numbers, on every schedule. No condition. -/
import Derived.Test.YtoaaoiipickclaaGreatP05
set_option linter.all false
namespace Go.Gg
open Go.Conc Go.Proofs
def bK : Option (Nat × Nat × Nat) → Int
 | none => -1
 | some t => t.1
def bL : Option (Nat × Nat × Nat) → Int
 | none => -1
 | some t => t.2.1
def bM (n : Nat) : Option (Nat × Nat × Nat) → Int
 | none => n
 | some t => t.2.2
theorem zhQ (n : Nat) (o : Option (Nat × Nat × Nat)) (t : Nat × Nat × Nat) : bestStep n o t = if (t.2.2 : Int) < bM n o then some t else o := by
 unfold bestStep bM
 cases o <;> simp
section
variable {H : List AObj} {k kp : AV → List AObj → Prop}
theorem f8_c {nums : List Int} (hmain : H[0]? = some .main) (hn : nums.length ≤ 2 ^ 50) (hk : k (bv true) H) : FnC true Tryz.prog 8 H [aInts nums] k kp := by
 have hmn : ∀ L : List AObj, (H ++ L)[0]? = some .main := fun L => zay hmain
 refine zak (rs := [.tmp 2]) (nt := 154) F.f8 rfl rfl rfl (by simp) fun hH hA => ?_
 simp only [argsT, Nat.reduceAdd]
 repeat apply zaa
 refine zl5 ?_
 simp only [push_cast, seval, reduceCtorEq]
 repeat apply zaa
 refine zl5 ?_
 simp only [push_cast, seval, reduceCtorEq]
 refine zl6 ((f26_c ?_))
 try simp only [push_cast, seval, reduceCtorEq]
 refine zl6 ((f49_c (K := 3) (L := 3) (T := 3) (wr := true) (zjT H) (tinOk0 hn _) (by decide) (by decide) (by decide) (by decide) fun x ws τ hP hτ => ?_))
 try simp only [push_cast, seval, reduceCtorEq, Ring.av, Ring.l]
 have hx := hP.ok (by decide) (by decide) (by decide)
 have hs := hx.small
 have htr := hP.tries
 have hkl := hP.keys.2
 have hll := hP.locks
 repeat apply zaa
 refine zl5 ?_
 simp only [push_cast, seval, reduceCtorEq]
 refine zl6 ((f53_k (x := x) (hmn _) hs hx ?_))
 try simp only [push_cast, seval, reduceCtorEq]
 repeat apply zaa
 refine zl5 ?_
 simp only [push_cast, seval, reduceCtorEq]
 by_cases h0 : truthsM x [] = []
 ·have hz : (truthsM x []).length = 0 := by rw [h0]; rfl
  refine zl6 ((f55_z (x := x) (hmn _) hs hx h0 ?_))
  try simp only [push_cast, seval, reduceCtorEq, hz]
  repeat apply zaa
  refine zl5 ?_
  simp only [push_cast, seval, reduceCtorEq]
  repeat apply zaa
  refine zae ?_
  simp only [push_cast, seval, reduceCtorEq]
  repeat apply zaa
  refine zah ?_
  simp only [push_cast, seval, reduceCtorEq]
  repeat apply zaa
  refine zl5 ?_
  simp only [push_cast, seval, reduceCtorEq, hz, beq_self_eq_true]
  repeat apply zaa
  refine zae ?_
  simp only [push_cast, seval, reduceCtorEq]
  repeat apply zaa
  refine zl5 ?_
  simp only [push_cast, seval, reduceCtorEq, beq_self_eq_true]
  refine zl6 ((f25_c (hmn _) ?_))
  try simp only [push_cast, seval, reduceCtorEq]
  repeat apply zaa
  refine zai ?_
  simp only [push_cast, seval, reduceCtorEq]
  exact endA hH (Wk.refl _) (by simp [zap]) hk
 ·have hnz : (truthsM x []).length ≠ 0 := fun e => h0 (List.length_eq_zero_iff.1 e)
  refine zl6 ((f55_k (x := x) (hmn _) hs hx h0 fun a b c e hask => ?_))
  try simp only [push_cast, seval, reduceCtorEq]
  have hn81 := zbl hx []
  have hnb : (((truthsM x []).length : Int) == 0) = false := by simp; omega
  repeat apply zaa
  refine zl5 ?_
  simp only [push_cast, seval, reduceCtorEq]
  repeat apply zaa
  refine zae ?_
  simp only [push_cast, seval, reduceCtorEq]
  repeat apply zaa
  refine zah ?_
  simp only [push_cast, seval, reduceCtorEq]
  repeat apply zaa
  refine zl5 ?_
  simp only [push_cast, seval, reduceCtorEq, hnb]
  repeat apply zaa
  refine zae ?_
  simp only [push_cast, seval, reduceCtorEq]
  repeat apply zaa
  refine zah ?_
  simp only [push_cast, seval, reduceCtorEq]
  repeat apply zaa
  refine zl5 ?_
  simp only [push_cast, seval, reduceCtorEq]
  repeat apply zaa
  refine zl5 ?_
  simp only [push_cast, seval, reduceCtorEq]
  generalize hnn : (truthsM x []).length = n at hn81 hnb hnz ⊢
  have hkb : askB x 0 0 = none := rfl
  repeat apply zaa
  refine zag ?_
  refine zaB x.keys.length (fun i : Nat => [(11, iv (bK (askB x i 0))), (12, iv (bL (askB x i 0))), (13, iv (bM n (askB x i 0))), (14, iv i)]) (fun _ => _) (fun i => True) (fun _ _ => rfl) (by simp only [push_cast, seval, reduceCtorEq, List.forall_mem_cons, List.not_mem_nil, false_imp_iff, implies_true, List.forall_mem_nil]; simp [zaf, Wk.refl]; simp [hkb, bK, bL, bM, zaf, Wk.refl]) rfl (fun _ _ _ => rfl) trivial (fun hHs hLt i hin hi R hR => ?_)
  clear hHs hLt
  repeat apply zaa
  refine zl5 ?_
  simp only [push_cast, seval, reduceCtorEq, aKeys]
  repeat apply zaa
  refine zae ?_
  simp only [push_cast, seval, reduceCtorEq]
  refine ⟨fun h => ?_, fun h => ?_⟩
  ·have hil : i < x.keys.length := by omega
   have hw1 : IntKind.i64.wrap ((i : Int) + 1) = i + 1 := zau _ (by omega)
   repeat apply zaa
   refine zah ?_
   simp only [push_cast, seval, reduceCtorEq]
   repeat apply zaa
   refine zag ?_
   repeat apply zaa
   refine zl5 ?_
   simp only [push_cast, seval, reduceCtorEq]
   repeat apply zaa
   refine zag ?_
   refine zaB x.locks.length (fun j : Nat => [(11, iv (bK (askB x i j))), (12, iv (bL (askB x i j))), (13, iv (bM n (askB x i j))), (15, iv j)]) (fun _ => _) (fun j => True) (fun _ _ => rfl) (by simp only [push_cast, seval, reduceCtorEq, List.forall_mem_cons, List.not_mem_nil, false_imp_iff, implies_true, List.forall_mem_nil]; simp [zaf, Wk.refl]) rfl (fun _ _ _ => rfl) trivial (fun hHs hLt j hjn hj R2 hR2 => ?_)
   clear hHs hLt
   repeat apply zaa
   refine zl5 ?_
   simp only [push_cast, seval, reduceCtorEq, aLocks]
   repeat apply zaa
   refine zae ?_
   simp only [push_cast, seval, reduceCtorEq]
   refine ⟨fun h2 => ?_, fun h2 => ?_⟩
   ·have hjl : j < x.locks.length := by omega
    have hw2 : IntKind.i64.wrap ((j : Int) + 1) = j + 1 := zau _ (by omega)
    have hcl : cntM x i j (truthsM x []) ≤ n := by rw [← hnn]; exact cnt_le _ _ _ _
    have hxt : ∀ o, (withT x ⟨i, j, o⟩).Ok := fun o => withT_ok hx (by omega) ⟨⟨by show (0 : Int) ≤ i; omega, by show (i : Int) < _; omega⟩, by show (0 : Int) ≤ j; omega, by show (j : Int) < _; omega⟩
    have hyes := yes_with x i j
    have hno := no_with x i j
    have hte : testM x i j = (i, j, max (cntM x i j (truthsM x [])) (n - cntM x i j (truthsM x []))) := by rw [← hnn]; rfl
    have hstep := zli x i j
    rw [hnn] at hno hstep
    rw [hte, zhQ] at hstep
    generalize cntM x i j (truthsM x []) = cy at hcl hyes hno hte hstep
    obtain ⟨cn, hcn⟩ : ∃ cn, n - cy = cn := ⟨_, rfl⟩
    rw [hcn] at hno hstep
    have hsum : IntKind.i64.wrap ((cy : Int) + cn) = n := by rw [zau _ (by omega)]; omega
    have hmax : (if (cy : Int) < cn then (cn : Int) else cy) = ((max cy cn : Nat) : Int) := by split <;> omega
    repeat apply zaa
    refine zah ?_
    simp only [push_cast, seval, reduceCtorEq]
    repeat apply zaa
    refine zag ?_
    repeat apply zaa
    refine zl5 ?_
    simp only [push_cast, seval, reduceCtorEq]
    refine zl6 ((f56_c (x := x) (t := ⟨i, j, true⟩) (by omega) ?_))
    try simp only [push_cast, seval, reduceCtorEq]
    refine zl6 ((f53_k (x := withT x ⟨i, j, true⟩) (hmn _) (hxt _).small (hxt _) ?_))
    try simp only [push_cast, seval, reduceCtorEq, hyes]
    repeat apply zaa
    refine zl5 ?_
    simp only [push_cast, seval, reduceCtorEq]
    refine zl6 ((f56_c (x := x) (t := ⟨i, j, false⟩) (by omega) ?_))
    try simp only [push_cast, seval, reduceCtorEq]
    refine zl6 ((f53_k (x := withT x ⟨i, j, false⟩) (hmn _) (hxt _).small (hxt _) ?_))
    try simp only [push_cast, seval, reduceCtorEq, hno]
    repeat apply zaa
    refine zl5 ?_
    simp only [push_cast, seval, reduceCtorEq, bne_self_eq_false, hsum]
    repeat apply zaa
    refine zae ?_
    simp only [push_cast, seval, reduceCtorEq]
    repeat apply zaa
    refine zah ?_
    simp only [push_cast, seval, reduceCtorEq]
    repeat apply zaa
    refine zl5 ?_
    simp only [push_cast, seval, reduceCtorEq, hmax]
    repeat apply zaa
    refine zl5 ?_
    simp only [push_cast, seval, reduceCtorEq]
    repeat apply zaa
    refine zae ?_
    simp only [push_cast, seval, reduceCtorEq]
    refine ⟨fun h3 => ?_, fun h3 => ?_⟩
    ·repeat apply zaa
     refine zl5 ?_
     simp only [push_cast, seval, reduceCtorEq]
     repeat apply zaa
     refine zl5 ?_
     simp only [push_cast, seval, reduceCtorEq, hw2]
     refine hR2 _ ⟨hjl, trivial, ?_⟩
     rw [hstep, if_pos h3]
     simp only [bK, bL, bM]
     exact (zax (zam rfl rfl) (by simp only [push_cast, seval, reduceCtorEq]; simp [zaf, Wk.refl]))
    ·repeat apply zaa
     refine zah ?_
     simp only [push_cast, seval, reduceCtorEq]
     repeat apply zaa
     refine zl5 ?_
     simp only [push_cast, seval, reduceCtorEq, hw2]
     refine hR2 _ ⟨hjl, trivial, ?_⟩
     rw [hstep, if_neg h3]
     exact (zax (zam rfl rfl) (by simp only [push_cast, seval, reduceCtorEq]; simp [zaf, Wk.refl]))
   ·have hjx : j = x.locks.length := by omega
    subst hjx
    repeat apply zaa
    refine zaq ?_
    simp only [push_cast, seval, reduceCtorEq]
    repeat apply zaa
    refine zl5 ?_
    simp only [push_cast, seval, reduceCtorEq, hw1]
    refine hR _ ⟨hil, trivial, ?_⟩
    rw [zlj]
    exact (zax (zam rfl rfl) (by simp only [push_cast, seval, reduceCtorEq]; simp [zaf, Wk.refl]))
  ·have hix : i = x.keys.length := by omega
   subst hix
   repeat apply zaa
   refine zaq ?_
   simp only [push_cast, seval, reduceCtorEq]
   rw [askB_all]
   rcases hask with ⟨hr, rfl, rfl, rfl, rfl⟩ | ⟨p, q, r, hr, rfl, rfl, rfl, rfl⟩
   ·rw [hr]
    simp only [bK, bL, bM]
    repeat apply zaa
    refine zl5 ?_
    simp only [push_cast, seval, reduceCtorEq]
    repeat apply zaa
    refine zae ?_
    simp only [push_cast, seval, reduceCtorEq]
    repeat apply zaa
    refine zl5 ?_
    simp only [push_cast, seval, reduceCtorEq, beq_self_eq_true]
    refine zl6 ((f25_c (hmn _) ?_))
    try simp only [push_cast, seval, reduceCtorEq]
    repeat apply zaa
    refine zai ?_
    simp only [push_cast, seval, reduceCtorEq]
    exact endA hH (Wk.refl _) (by simp [zap]) hk
   ·rw [hr]
    simp only [bK, bL, bM]
    repeat apply zaa
    refine zl5 ?_
    simp only [push_cast, seval, reduceCtorEq]
    repeat apply zaa
    refine zae ?_
    simp only [push_cast, seval, reduceCtorEq]
    refine ⟨fun h3 => by omega, fun h3 => ?_⟩
    repeat apply zaa
    refine zah ?_
    simp only [push_cast, seval, reduceCtorEq]
    repeat apply zaa
    refine zl5 ?_
    simp only [push_cast, seval, reduceCtorEq, beq_self_eq_true]
    refine zl6 ((f25_c (hmn _) ?_))
    try simp only [push_cast, seval, reduceCtorEq]
    repeat apply zaa
    refine zai ?_
    simp only [push_cast, seval, reduceCtorEq]
    exact endA hH (Wk.refl _) (by simp [zap]) hk
end
end Go.Gg
namespace Go.Proofs.YtoaaoiipickclaaGreat
open Go.Conc Go.Proofs Go.Gg
theorem kaName : Tryz.prog.funcNamed Rows.keyAskRow.func = some 8 := by kernel_rfl
theorem kaJoined : joinedFacts Tryz.prog 8 Tryz.f8 Rows.keyAskSpec Rows.keyAskRow = true :=
 zkH (by kernel_rfl) Tz.laidOut (by kernel_rfl) (by kernel_rfl) (by kernel_rfl) (by kernel_rfl) (by kernel_rfl) (by kernel_rfl) (by kernel_rfl) (by kernel_rfl) (by kernel_rfl) (by kernel_rfl) (by kernel_rfl) (by kernel_rfl) (by kernel_rfl) (by kernel_rfl) (by kernel_rfl) (by kernel_rfl) (by kernel_rfl) (by kernel_rfl) (by kernel_rfl) (by kernel_rfl) (by kernel_rfl) (by kernel_rfl) (by kernel_rfl) Tz.mayEnter (zkB (by kernel_rfl)) (make_of' (by kernel_rfl)) (by kernel_rfl) (by kernel_rfl) (by kernel_rfl) (by kernel_rfl) (by kernel_rfl)
theorem kaInst : Tryz.f8.isInstance Tryz.prog Rows.keyAskRow.origin Rows.keyAskRow.targs := of_decide_eq_true (by kernel_rfl)
theorem kaWrap : Tryz.f8.isWrapper Tryz.prog Rows.keyAskRow.wrapper Rows.keyAskRow.mainSum := by unfold Func.isWrapper; first | (rw [if_pos (by decide +kernel)]; kernel_rfl) | (rw [if_neg (by decide +kernel)]; exact ⟨rfl, rfl⟩)
theorem zfK (os : Os) (started : os.Started) (H : Type) (enc : TypeId × Value → H) :
  ReturnsInLeavingWide {} Tryz.checked os 8 .any (Rows.keyAskSpec.pre6 enc Tryz.prog Tryz.f8 Rows.keyAskRow.domain false) (Rows.keyAskSpec.post enc Tryz.prog Tryz.f8 false true false false) :=
 zhC (f := 8) (fn := Tryz.f8) (s := Rows.keyAskSpec) Tryz.func8 rfl rfl rfl (fun _ _ => rfl) (by kernel_rfl) (fun nums hn => f8_c rfl hn rfl) os started H enc
  (ChangeSpec.witness6 (enc := enc) (C := Tryz.checked) false ⟨#[], #[.slice none 0 0], []⟩ 8 (by kernel_rfl) (by kernel_rfl) (by kernel_rfl) (by kernel_rfl))
theorem keyAsk_holds : Rows.KeyAskSaid :=
 OpenClaim.holds_of_wide_leaving 8 Tryz.f8 rfl rfl rfl rfl rfl rfl rfl ⟨rfl, rfl, rfl, rfl, rfl⟩ rfl rfl rfl rfl rfl kaName Tryz.func8 kaJoined kaInst kaWrap
  (fun os started H enc _ => zfK os started H enc)
end Go.Proofs.YtoaaoiipickclaaGreat
