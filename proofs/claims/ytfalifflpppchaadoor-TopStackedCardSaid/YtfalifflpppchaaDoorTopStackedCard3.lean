/- A part of the proof. -/
import Derived.Test.YtfalifflpppchaaDoorTopStackedCard2
import Derived.Conc.Beside
import Derived.Conc.CrowdTrace
import Derived.Conc.CrowdComm
set_option linter.all false
set_option maxRecDepth 4000
set_option maxHeartbeats 1000000
namespace Go.Gg
open Go.Conc Go.Proofs
theorem hok_swap {H L : List AObj} {o o' : AObj} (h : HOk (H ++ o :: L)) (ho : ∀ n, OLt n o') : HOk (H ++ o' :: L) := by
 have hl : (H ++ o' :: L).length = (H ++ o :: L).length := by simp
 intro z hz
 rw [hl]
 rcases List.mem_append.1 hz with h' | h'
 ·exact h z (List.mem_append_left _ h')
 ·rcases List.mem_cons.1 h' with rfl | h'
  ·exact ho _
  ·exact h z (List.mem_append_right _ (List.mem_cons_of_mem _ h'))
theorem round_trimE {base Vi Vn T : List (Nat × AV)} {H H' : List AObj} (G : List AObj) (hk : Keeps T (Vi ++ base) Vn) (hv : ∀ p ∈ Vn, ∃ b, look T p.1 = some b /\ Wk b p.2) (hok : HOk H) (hlt : ∀ p ∈ Vn, Lt H.length p.2) (hG : H' = H ++ G) : RoundEnd base Vi Vn H ⟨T, H'⟩ := ⟨hk, hv, G, hG, .inr ⟨hok, hlt⟩⟩
theorem hok_w {H : List AObj} {a b : AObj} {xs ys : List Int} (h : HOk (H ++ [a, b, .cells (xs.map iv) 82])) : HOk (H ++ [a, b, .cells (ys.map iv) 82]) := by
 have := hok_swap (H := H ++ [a, b]) (L := []) (o := .cells (xs.map iv) 82) (o' := .cells (ys.map iv) 82) (by simpa using h) (fun n v hv => by
  obtain ⟨w, _, rfl⟩ := List.mem_map.1 hv
  exact .val _)
 simpa using this
def wsTo (ps : List Par) (n : Nat) : List Int := (List.range 5).map fun j => if j < n then (match ps[j]? with | some p => p.w | none => 0) else 0
theorem wsTo_len (ps : List Par) (n : Nat) : (wsTo ps n).length = 5 := by simp [wsTo]
theorem wsTo_set {ps : List Par} {i : Nat} {p : Par} (h : ps[i]? = some p) (h5 : i < 5) : (wsTo ps i).set i p.w = wsTo ps (i + 1) := by
 refine List.ext_getElem (by simp [wsTo]) fun j h1 h2 => ?_
 rw [List.getElem_set]
 simp only [wsTo, List.getElem_map, List.getElem_range]
 by_cases e : i = j
 ·subst e; simp [h]
 ·rw [if_neg e]
  have : (j < i) = (j < i + 1) := propext ⟨fun h => by omega, fun h => by omega⟩
  simp only [this]
theorem wsTo_get {ps : List Par} {n i : Nat} {p : Par} (h : ps[i]? = some p) (h5 : i < 5) (hn : i < n) : (wsTo ps n)[i]? = some p.w := by
 simp [wsTo, h5, hn, h]
section
variable {lv : Bool} {H : List AObj} {k kp : AV -> List AObj -> Prop}
theorem f29_c {ps : List Par} (hl : ps.length <= 5) (hk : k (.agg ((wsTo ps ps.length).map iv)) H) : FnC lv Tryd.prog 29 H [yardA ps] k kp := by
 refine fnC_intro (rs := [.cell 2 82]) (nt := 22) F.f29 rfl rfl rfl (by simp) fun hH hA => ?_
 simp only [argsT, Nat.reduceAdd, yardA, yardL]
 repeat refine awp_seq ?_
 refine awp_region (by kernel_rfl) ?_
 simp only [push_cast, Int.cast_ofNat_Int, Int.reduceLE, Int.reduceLT, Int.reduceToNat, Int.reduceNeg, Int.reduceSub, iv, bv, Nat.reduceBEq, reduceCtorEq, Nat.reduceAdd, Nat.reduceLeDiff, Nat.reduceSub, Nat.reduceLT, Nat.reduceMul, F.ZeroOf_82]
 repeat refine awp_seq ?_
 refine awp_region (by kernel_rfl) ?_
 simp only [push_cast, Int.cast_ofNat_Int, Int.reduceLE, Int.reduceLT, Int.reduceToNat, Int.reduceNeg, Int.reduceSub, iv, bv, Nat.reduceBEq, reduceCtorEq, Nat.reduceAdd, Nat.reduceLeDiff, Nat.reduceSub, Nat.reduceLT, Nat.reduceMul, F.ZeroOf_82]
 repeat refine awp_seq ?_
 refine awp_region (by kernel_rfl) ?_
 simp only [push_cast, Int.cast_ofNat_Int, Int.reduceLE, Int.reduceLT, Int.reduceToNat, Int.reduceNeg, Int.reduceSub, iv, bv, Nat.reduceBEq, reduceCtorEq, Nat.reduceAdd, Nat.reduceLeDiff, Nat.reduceSub, Nat.reduceLT, Nat.reduceMul, F.FieldOf_53_0, F.FieldOf_30_0, F.Ty_28, F.LenOf_28, aPars]
 have hg2 : ∀ L : List AObj, (H ++ L)[H.length + 2]? = L[2]? := fun L => get_at H L 2
 have hs2 : ∀ (L : List AObj) x, (H ++ L).set (H.length + 2) x = H ++ L.set 2 x := fun L x => by rw [List.set_append_right _ _ (by omega)]; congr 2; omega
 have hg1 : ∀ L : List AObj, (H ++ L)[H.length + 1]? = L[1]? := fun L => get_at H L 1
 have hs1 : ∀ (L : List AObj) x, (H ++ L).set (H.length + 1) x = H ++ L.set 1 x := fun L x => by rw [List.set_append_right _ _ (by omega)]; congr 2; omega
 repeat refine awp_seq ?_
 refine awp_block ?_
 refine awp_for ps.length (fun i : Nat => [(10, iv i)]) (fun i => H ++ [.cells [.sl ps.length (ps.flatMap Par.l) .shut, iv 2] 53, .cells [iv 0, iv 0, iv 0, iv 0, iv 0] 82, .cells ((wsTo ps i).map iv) 82]) (fun i => True) (fun _ _ => rfl) (by simp only [push_cast, Int.cast_ofNat_Int, Int.reduceLE, Int.reduceLT, Int.reduceToNat, Int.reduceNeg, Int.reduceSub, iv, bv, Nat.reduceBEq, reduceCtorEq, Nat.reduceAdd, Nat.reduceLeDiff, Nat.reduceSub, Nat.reduceLT, Nat.reduceMul, List.forall_mem_cons, List.not_mem_nil, false_imp_iff, implies_true, List.forall_mem_nil]; simp [exists_wk, Wk.refl]) rfl (fun _ _ _ => by simp) trivial (fun hHs hLt i hin hi R hR => ?_)
 repeat refine awp_seq ?_
 refine awp_region (by kernel_rfl) ?_
 simp only [push_cast, Int.cast_ofNat_Int, Int.reduceLE, Int.reduceLT, Int.reduceToNat, Int.reduceNeg, Int.reduceSub, iv, bv, Nat.reduceBEq, reduceCtorEq, Nat.reduceAdd, Nat.reduceLeDiff, Nat.reduceSub, Nat.reduceLT, Nat.reduceMul]
 repeat refine awp_seq ?_
 refine awp_condS ?_
 simp only [push_cast, Int.cast_ofNat_Int, Int.reduceLE, Int.reduceLT, Int.reduceToNat, Int.reduceNeg, Int.reduceSub, iv, bv, Nat.reduceBEq, reduceCtorEq, Nat.reduceAdd, Nat.reduceLeDiff, Nat.reduceSub, Nat.reduceLT, Nat.reduceMul]
 refine ⟨fun h => ?_, fun h => ?_⟩
 ·have hlt : i < ps.length := by omega
  obtain ⟨p, hp⟩ := lt_get hlt
  have hi1 : IntKind.i64.wrap ((i : Int) + 1) = ((i + 1 : Nat) : Int) := by rw [i64_in _ (by omega)]; rfl
  have hb5 : (0 <= (i : Int) /\ (i : Int) < 5) = True := by simp; omega
  have hw5 : i < (wsTo ps i).length := by rw [wsTo_len]; omega
  have hg3 : ∀ L : List AObj, (H ++ L)[H.length + 3]? = L[3]? := fun L => get_at H L 3
  repeat refine awp_seq ?_
  refine awp_skip ?_
  simp only [push_cast, Int.cast_ofNat_Int, Int.reduceLE, Int.reduceLT, Int.reduceToNat, Int.reduceNeg, Int.reduceSub, iv, bv, Nat.reduceBEq, reduceCtorEq, Nat.reduceAdd, Nat.reduceLeDiff, Nat.reduceSub, Nat.reduceLT, Nat.reduceMul]
  repeat refine awp_seq ?_
  refine awp_block ?_
  repeat refine awp_seq ?_
  refine awp_region (by kernel_rfl) ?_
  simp only [push_cast, Int.cast_ofNat_Int, Int.reduceLE, Int.reduceLT, Int.reduceToNat, Int.reduceNeg, Int.reduceSub, iv, bv, Nat.reduceBEq, reduceCtorEq, Nat.reduceAdd, Nat.reduceLeDiff, Nat.reduceSub, Nat.reduceLT, Nat.reduceMul, F.IdxOf_28, F.Ty_37, F.ZeroOf_37, sh_pars hp, bnd_nat hlt]
  repeat refine awp_seq ?_
  refine awp_region (by kernel_rfl) ?_
  simp only [push_cast, Int.cast_ofNat_Int, Int.reduceLE, Int.reduceLT, Int.reduceToNat, Int.reduceNeg, Int.reduceSub, iv, bv, Nat.reduceBEq, reduceCtorEq, Nat.reduceAdd, Nat.reduceLeDiff, Nat.reduceSub, Nat.reduceLT, Nat.reduceMul, F.FieldOf_37_0, F.FieldOf_33_0, F.Ty_3, F.IdxOf_82, hb5, hg2, hg3, hs2, set_ints hw5, wsTo_set hp (show i < 5 by omega), List.length_map, wsTo_len]
  refine ⟨by omega, ?_⟩
  repeat refine awp_seq ?_
  refine awp_region (by kernel_rfl) ?_
  simp only [push_cast, Int.cast_ofNat_Int, Int.reduceLE, Int.reduceLT, Int.reduceToNat, Int.reduceNeg, Int.reduceSub, iv, bv, Nat.reduceBEq, reduceCtorEq, Nat.reduceAdd, Nat.reduceLeDiff, Nat.reduceSub, Nat.reduceLT, Nat.reduceMul, hi1]
  refine hR _ ⟨hlt, trivial, ?_⟩
  exact round_trimE [.cells [iv p.w, iv p.w, iv p.b, iv 1] 37] (keeps_rfl rfl rfl) (by simp only [push_cast, Int.cast_ofNat_Int, Int.reduceLE, Int.reduceLT, Int.reduceToNat, Int.reduceNeg, Int.reduceSub, iv, bv, Nat.reduceBEq, reduceCtorEq, Nat.reduceAdd, Nat.reduceLeDiff, Nat.reduceSub, Nat.reduceLT, Nat.reduceMul]; simp [exists_wk, Wk.refl]) (hok_w (xs := [0, 0, 0, 0, 0]) hHs) (by simp [lt_val]) (by simp)
 ·have hi : i = ps.length := by omega
  subst hi
  repeat refine awp_seq ?_
  refine awp_exit ?_
  simp only [push_cast, Int.cast_ofNat_Int, Int.reduceLE, Int.reduceLT, Int.reduceToNat, Int.reduceNeg, Int.reduceSub, iv, bv, Nat.reduceBEq, reduceCtorEq, Nat.reduceAdd, Nat.reduceLeDiff, Nat.reduceSub, Nat.reduceLT, Nat.reduceMul]
  have htk : ((wsTo ps ps.length).map iv).take 5 = (wsTo ps ps.length).map iv := List.take_of_length_le (by simp [wsTo_len])
  have hdr : ((wsTo ps ps.length).map iv).length = 5 := by simp [wsTo_len]
  repeat refine awp_seq ?_
  refine awp_region (by kernel_rfl) ?_
  simp only [push_cast, Int.cast_ofNat_Int, Int.reduceLE, Int.reduceLT, Int.reduceToNat, Int.reduceNeg, Int.reduceSub, iv, bv, Nat.reduceBEq, reduceCtorEq, Nat.reduceAdd, Nat.reduceLeDiff, Nat.reduceSub, Nat.reduceLT, Nat.reduceMul, F.Ty_82, hg1, hg2, hs1, htk, hdr, leaf_ints]
  repeat refine awp_seq ?_
  refine awp_ret ?_
  simp only [push_cast, Int.cast_ofNat_Int, Int.reduceLE, Int.reduceLT, Int.reduceToNat, Int.reduceNeg, Int.reduceSub, iv, bv, Nat.reduceBEq, reduceCtorEq, Nat.reduceAdd, Nat.reduceLeDiff, Nat.reduceSub, Nat.reduceLT, Nat.reduceMul, F.Ty_82, hg1, htk, hdr]
  exact endA hH (Wk.refl _) (by simp only [lt_aggInts]) hk
theorem f30_c {ps : List Par} (hl : ps.length <= 5) (hk : k (.agg ((wsTo ps ps.length).map iv)) H) : FnC lv Tryd.prog 30 H [yardA ps] k kp := by
 refine fnC_intro (rs := [.cell 2 82]) (nt := 22) F.f30 rfl rfl rfl (by simp) fun hH hA => ?_
 simp only [argsT, Nat.reduceAdd, yardA, yardL]
 repeat refine awp_seq ?_
 refine awp_region (by kernel_rfl) ?_
 simp only [push_cast, Int.cast_ofNat_Int, Int.reduceLE, Int.reduceLT, Int.reduceToNat, Int.reduceNeg, Int.reduceSub, iv, bv, Nat.reduceBEq, reduceCtorEq, Nat.reduceAdd, Nat.reduceLeDiff, Nat.reduceSub, Nat.reduceLT, Nat.reduceMul, F.ZeroOf_82]
 repeat refine awp_seq ?_
 refine awp_region (by kernel_rfl) ?_
 simp only [push_cast, Int.cast_ofNat_Int, Int.reduceLE, Int.reduceLT, Int.reduceToNat, Int.reduceNeg, Int.reduceSub, iv, bv, Nat.reduceBEq, reduceCtorEq, Nat.reduceAdd, Nat.reduceLeDiff, Nat.reduceSub, Nat.reduceLT, Nat.reduceMul, F.ZeroOf_82]
 repeat refine awp_seq ?_
 refine awp_region (by kernel_rfl) ?_
 simp only [push_cast, Int.cast_ofNat_Int, Int.reduceLE, Int.reduceLT, Int.reduceToNat, Int.reduceNeg, Int.reduceSub, iv, bv, Nat.reduceBEq, reduceCtorEq, Nat.reduceAdd, Nat.reduceLeDiff, Nat.reduceSub, Nat.reduceLT, Nat.reduceMul, F.FieldOf_53_0, F.FieldOf_30_0, F.Ty_28, F.LenOf_28, aPars]
 have hg2 : ∀ L : List AObj, (H ++ L)[H.length + 2]? = L[2]? := fun L => get_at H L 2
 have hs2 : ∀ (L : List AObj) x, (H ++ L).set (H.length + 2) x = H ++ L.set 2 x := fun L x => by rw [List.set_append_right _ _ (by omega)]; congr 2; omega
 have hg1 : ∀ L : List AObj, (H ++ L)[H.length + 1]? = L[1]? := fun L => get_at H L 1
 have hs1 : ∀ (L : List AObj) x, (H ++ L).set (H.length + 1) x = H ++ L.set 1 x := fun L x => by rw [List.set_append_right _ _ (by omega)]; congr 2; omega
 repeat refine awp_seq ?_
 refine awp_block ?_
 refine awp_for ps.length (fun i : Nat => [(10, iv i)]) (fun i => H ++ [.cells [.sl ps.length (ps.flatMap Par.l) .shut, iv 2] 53, .cells [iv 0, iv 0, iv 0, iv 0, iv 0] 82, .cells ((wsTo ps i).map iv) 82]) (fun i => True) (fun _ _ => rfl) (by simp only [push_cast, Int.cast_ofNat_Int, Int.reduceLE, Int.reduceLT, Int.reduceToNat, Int.reduceNeg, Int.reduceSub, iv, bv, Nat.reduceBEq, reduceCtorEq, Nat.reduceAdd, Nat.reduceLeDiff, Nat.reduceSub, Nat.reduceLT, Nat.reduceMul, List.forall_mem_cons, List.not_mem_nil, false_imp_iff, implies_true, List.forall_mem_nil]; simp [exists_wk, Wk.refl]) rfl (fun _ _ _ => by simp) trivial (fun hHs hLt i hin hi R hR => ?_)
 repeat refine awp_seq ?_
 refine awp_region (by kernel_rfl) ?_
 simp only [push_cast, Int.cast_ofNat_Int, Int.reduceLE, Int.reduceLT, Int.reduceToNat, Int.reduceNeg, Int.reduceSub, iv, bv, Nat.reduceBEq, reduceCtorEq, Nat.reduceAdd, Nat.reduceLeDiff, Nat.reduceSub, Nat.reduceLT, Nat.reduceMul]
 repeat refine awp_seq ?_
 refine awp_condS ?_
 simp only [push_cast, Int.cast_ofNat_Int, Int.reduceLE, Int.reduceLT, Int.reduceToNat, Int.reduceNeg, Int.reduceSub, iv, bv, Nat.reduceBEq, reduceCtorEq, Nat.reduceAdd, Nat.reduceLeDiff, Nat.reduceSub, Nat.reduceLT, Nat.reduceMul]
 refine ⟨fun h => ?_, fun h => ?_⟩
 ·have hlt : i < ps.length := by omega
  obtain ⟨p, hp⟩ := lt_get hlt
  have hi1 : IntKind.i64.wrap ((i : Int) + 1) = ((i + 1 : Nat) : Int) := by rw [i64_in _ (by omega)]; rfl
  have hb5 : (0 <= (i : Int) /\ (i : Int) < 5) = True := by simp; omega
  have hw5 : i < (wsTo ps i).length := by rw [wsTo_len]; omega
  have hg3 : ∀ L : List AObj, (H ++ L)[H.length + 3]? = L[3]? := fun L => get_at H L 3
  repeat refine awp_seq ?_
  refine awp_skip ?_
  simp only [push_cast, Int.cast_ofNat_Int, Int.reduceLE, Int.reduceLT, Int.reduceToNat, Int.reduceNeg, Int.reduceSub, iv, bv, Nat.reduceBEq, reduceCtorEq, Nat.reduceAdd, Nat.reduceLeDiff, Nat.reduceSub, Nat.reduceLT, Nat.reduceMul]
  repeat refine awp_seq ?_
  refine awp_block ?_
  repeat refine awp_seq ?_
  refine awp_region (by kernel_rfl) ?_
  simp only [push_cast, Int.cast_ofNat_Int, Int.reduceLE, Int.reduceLT, Int.reduceToNat, Int.reduceNeg, Int.reduceSub, iv, bv, Nat.reduceBEq, reduceCtorEq, Nat.reduceAdd, Nat.reduceLeDiff, Nat.reduceSub, Nat.reduceLT, Nat.reduceMul, F.IdxOf_28, F.Ty_37, F.ZeroOf_37, sh_pars hp, bnd_nat hlt]
  repeat refine awp_seq ?_
  refine awp_region (by kernel_rfl) ?_
  simp only [push_cast, Int.cast_ofNat_Int, Int.reduceLE, Int.reduceLT, Int.reduceToNat, Int.reduceNeg, Int.reduceSub, iv, bv, Nat.reduceBEq, reduceCtorEq, Nat.reduceAdd, Nat.reduceLeDiff, Nat.reduceSub, Nat.reduceLT, Nat.reduceMul, F.FieldOf_37_0, F.FieldOf_33_1, F.Ty_3, F.IdxOf_82, hb5, hg2, hg3, hs2, set_ints hw5, wsTo_set hp (show i < 5 by omega), List.length_map, wsTo_len]
  refine ⟨by omega, ?_⟩
  repeat refine awp_seq ?_
  refine awp_region (by kernel_rfl) ?_
  simp only [push_cast, Int.cast_ofNat_Int, Int.reduceLE, Int.reduceLT, Int.reduceToNat, Int.reduceNeg, Int.reduceSub, iv, bv, Nat.reduceBEq, reduceCtorEq, Nat.reduceAdd, Nat.reduceLeDiff, Nat.reduceSub, Nat.reduceLT, Nat.reduceMul, hi1]
  refine hR _ ⟨hlt, trivial, ?_⟩
  exact round_trimE [.cells [iv p.w, iv p.w, iv p.b, iv 1] 37] (keeps_rfl rfl rfl) (by simp only [push_cast, Int.cast_ofNat_Int, Int.reduceLE, Int.reduceLT, Int.reduceToNat, Int.reduceNeg, Int.reduceSub, iv, bv, Nat.reduceBEq, reduceCtorEq, Nat.reduceAdd, Nat.reduceLeDiff, Nat.reduceSub, Nat.reduceLT, Nat.reduceMul]; simp [exists_wk, Wk.refl]) (hok_w (xs := [0, 0, 0, 0, 0]) hHs) (by simp [lt_val]) (by simp)
 ·have hi : i = ps.length := by omega
  subst hi
  repeat refine awp_seq ?_
  refine awp_exit ?_
  simp only [push_cast, Int.cast_ofNat_Int, Int.reduceLE, Int.reduceLT, Int.reduceToNat, Int.reduceNeg, Int.reduceSub, iv, bv, Nat.reduceBEq, reduceCtorEq, Nat.reduceAdd, Nat.reduceLeDiff, Nat.reduceSub, Nat.reduceLT, Nat.reduceMul]
  have htk : ((wsTo ps ps.length).map iv).take 5 = (wsTo ps ps.length).map iv := List.take_of_length_le (by simp [wsTo_len])
  have hdr : ((wsTo ps ps.length).map iv).length = 5 := by simp [wsTo_len]
  repeat refine awp_seq ?_
  refine awp_region (by kernel_rfl) ?_
  simp only [push_cast, Int.cast_ofNat_Int, Int.reduceLE, Int.reduceLT, Int.reduceToNat, Int.reduceNeg, Int.reduceSub, iv, bv, Nat.reduceBEq, reduceCtorEq, Nat.reduceAdd, Nat.reduceLeDiff, Nat.reduceSub, Nat.reduceLT, Nat.reduceMul, F.Ty_82, hg1, hg2, hs1, htk, hdr, leaf_ints]
  repeat refine awp_seq ?_
  refine awp_ret ?_
  simp only [push_cast, Int.cast_ofNat_Int, Int.reduceLE, Int.reduceLT, Int.reduceToNat, Int.reduceNeg, Int.reduceSub, iv, bv, Nat.reduceBEq, reduceCtorEq, Nat.reduceAdd, Nat.reduceLeDiff, Nat.reduceSub, Nat.reduceLT, Nat.reduceMul, F.Ty_82, hg1, htk, hdr]
  exact endA hH (Wk.refl _) (by simp only [lt_aggInts]) hk
theorem f55_c {p : Par} {n : Int} (hk : k (.ifc (if p.b < n then 114 else 115) (.agg [])) H) : FnC lv Tryd.prog 55 H [.agg p.l, iv n] k kp := by
 refine fnC_intro (rs := [.tmp 4]) (nt := 13) F.f55 rfl rfl rfl (by simp) fun hH hA => ?_
 simp only [argsT, Nat.reduceAdd, Par.l]
 repeat refine awp_seq ?_
 refine awp_region (by kernel_rfl) ?_
 simp only [push_cast, Int.cast_ofNat_Int, Int.reduceLE, Int.reduceLT, Int.reduceToNat, Int.reduceNeg, Int.reduceSub, iv, bv, Nat.reduceBEq, reduceCtorEq, Nat.reduceAdd, Nat.reduceLeDiff, Nat.reduceSub, Nat.reduceLT, Nat.reduceMul]
 repeat refine awp_seq ?_
 refine awp_region (by kernel_rfl) ?_
 simp only [push_cast, Int.cast_ofNat_Int, Int.reduceLE, Int.reduceLT, Int.reduceToNat, Int.reduceNeg, Int.reduceSub, iv, bv, Nat.reduceBEq, reduceCtorEq, Nat.reduceAdd, Nat.reduceLeDiff, Nat.reduceSub, Nat.reduceLT, Nat.reduceMul, F.FieldOf_37_1, F.Ty_3]
 repeat refine awp_seq ?_
 refine awp_condS ?_
 simp only [push_cast, Int.cast_ofNat_Int, Int.reduceLE, Int.reduceLT, Int.reduceToNat, Int.reduceNeg, Int.reduceSub, iv, bv, Nat.reduceBEq, reduceCtorEq, Nat.reduceAdd, Nat.reduceLeDiff, Nat.reduceSub, Nat.reduceLT, Nat.reduceMul]
 refine ⟨fun h => ?_, fun h => ?_⟩
 ·have hb : p.b < n := by simpa using h
  rw [if_pos hb] at hk
  repeat refine awp_seq ?_
  refine awp_region (by kernel_rfl) ?_
  simp only [push_cast, Int.cast_ofNat_Int, Int.reduceLE, Int.reduceLT, Int.reduceToNat, Int.reduceNeg, Int.reduceSub, iv, bv, Nat.reduceBEq, reduceCtorEq, Nat.reduceAdd, Nat.reduceLeDiff, Nat.reduceSub, Nat.reduceLT, Nat.reduceMul, F.BuildOf_114, F.isIfc_114]
  repeat refine awp_seq ?_
  refine awp_ret ?_
  simp only [push_cast, Int.cast_ofNat_Int, Int.reduceLE, Int.reduceLT, Int.reduceToNat, Int.reduceNeg, Int.reduceSub, iv, bv, Nat.reduceBEq, reduceCtorEq, Nat.reduceAdd, Nat.reduceLeDiff, Nat.reduceSub, Nat.reduceLT, Nat.reduceMul]
  exact endA hH (Wk.refl _) (by simp [lt_ifc, lt_agg]) hk
 ·have hb : ¬ p.b < n := by simpa using h
  rw [if_neg hb] at hk
  repeat refine awp_seq ?_
  refine awp_skip ?_
  simp only [push_cast, Int.cast_ofNat_Int, Int.reduceLE, Int.reduceLT, Int.reduceToNat, Int.reduceNeg, Int.reduceSub, iv, bv, Nat.reduceBEq, reduceCtorEq, Nat.reduceAdd, Nat.reduceLeDiff, Nat.reduceSub, Nat.reduceLT, Nat.reduceMul]
  repeat refine awp_seq ?_
  refine awp_region (by kernel_rfl) ?_
  simp only [push_cast, Int.cast_ofNat_Int, Int.reduceLE, Int.reduceLT, Int.reduceToNat, Int.reduceNeg, Int.reduceSub, iv, bv, Nat.reduceBEq, reduceCtorEq, Nat.reduceAdd, Nat.reduceLeDiff, Nat.reduceSub, Nat.reduceLT, Nat.reduceMul, F.BuildOf_115, F.isIfc_115]
  repeat refine awp_seq ?_
  refine awp_ret ?_
  simp only [push_cast, Int.cast_ofNat_Int, Int.reduceLE, Int.reduceLT, Int.reduceToNat, Int.reduceNeg, Int.reduceSub, iv, bv, Nat.reduceBEq, reduceCtorEq, Nat.reduceAdd, Nat.reduceLeDiff, Nat.reduceSub, Nat.reduceLT, Nat.reduceMul]
  exact endA hH (Wk.refl _) (by simp [lt_ifc, lt_agg]) hk
theorem f54_c {ps : List Par} {x y : Nat} {p : Par} {e : End} (h5 : ps.length <= 5) (hp : ps[y]? = some p) (hok : p.Ok) (hk : k (.osl (H.length + 2) 0 2 2) (H ++ [.cells (yardL ps) 53, .cells ((wsTo ps ps.length).map iv) 82, .cells [iv p.w, iv 0] 3])) : FnC lv Tryd.prog 54 H [yardA ps, .sl 2 [iv x, iv y] e, .agg ((wsTo ps ps.length).map iv)] k kp := by
 refine fnC_intro (rs := [.tmp 6]) (nt := 37) F.f54 rfl rfl rfl (by simp) fun hH hA => ?_
 simp only [argsT, Nat.reduceAdd, yardA, yardL]
 have hyl := get_lt hp
 repeat refine awp_seq ?_
 refine awp_region (by kernel_rfl) ?_
 simp only [push_cast, Int.cast_ofNat_Int, Int.reduceLE, Int.reduceLT, Int.reduceToNat, Int.reduceNeg, Int.reduceSub, iv, bv, Nat.reduceBEq, reduceCtorEq, Nat.reduceAdd, Nat.reduceLeDiff, Nat.reduceSub, Nat.reduceLT, Nat.reduceMul]
 repeat refine awp_seq ?_
 refine awp_region (by kernel_rfl) ?_
 simp only [push_cast, Int.cast_ofNat_Int, Int.reduceLE, Int.reduceLT, Int.reduceToNat, Int.reduceNeg, Int.reduceSub, iv, bv, Nat.reduceBEq, reduceCtorEq, Nat.reduceAdd, Nat.reduceLeDiff, Nat.reduceSub, Nat.reduceLT, Nat.reduceMul, F.LenOf_22, F.MakeOf_22]
 refine ⟨by decide, ?_⟩
 have hw0 : IntKind.i64.wrap 0 = 0 := i64_in _ (by omega)
 have hw0' : IntKind.i64.wrap (2 - 2) = 0 := i64_in _ (by omega)
 repeat refine awp_seq ?_
 refine awp_region (by kernel_rfl) ?_
 simp only [push_cast, Int.cast_ofNat_Int, Int.reduceLE, Int.reduceLT, Int.reduceToNat, Int.reduceNeg, Int.reduceSub, iv, bv, Nat.reduceBEq, reduceCtorEq, Nat.reduceAdd, Nat.reduceLeDiff, Nat.reduceSub, Nat.reduceLT, Nat.reduceMul, F.LenOf_22, hw0, hw0']
 repeat refine awp_seq ?_
 refine awp_block ?_
 refine awp_for 1 (fun i : Nat => [(8, iv (- (i : Int)))]) (fun i => H ++ [.cells [aPars ps, iv 2] 53, .cells ((wsTo ps ps.length).map iv) 82, .cells [iv (if i = 0 then 0 else p.w), iv 0] 3]) (fun i => True) (fun _ _ => rfl) (by simp only [push_cast, Int.cast_ofNat_Int, Int.reduceLE, Int.reduceLT, Int.reduceToNat, Int.reduceNeg, Int.reduceSub, iv, bv, Nat.reduceBEq, reduceCtorEq, Nat.reduceAdd, Nat.reduceLeDiff, Nat.reduceSub, Nat.reduceLT, Nat.reduceMul, List.forall_mem_cons, List.not_mem_nil, false_imp_iff, implies_true, List.forall_mem_nil]; simp [exists_wk, Wk.refl]) rfl (fun _ _ _ => by simp) trivial (fun hHs hLt i hin hi R hR => ?_)
 repeat refine awp_seq ?_
 refine awp_region (by kernel_rfl) ?_
 simp only [push_cast, Int.cast_ofNat_Int, Int.reduceLE, Int.reduceLT, Int.reduceToNat, Int.reduceNeg, Int.reduceSub, iv, bv, Nat.reduceBEq, reduceCtorEq, Nat.reduceAdd, Nat.reduceLeDiff, Nat.reduceSub, Nat.reduceLT, Nat.reduceMul]
 repeat refine awp_seq ?_
 refine awp_condS ?_
 simp only [push_cast, Int.cast_ofNat_Int, Int.reduceLE, Int.reduceLT, Int.reduceToNat, Int.reduceNeg, Int.reduceSub, iv, bv, Nat.reduceBEq, reduceCtorEq, Nat.reduceAdd, Nat.reduceLeDiff, Nat.reduceSub, Nat.reduceLT, Nat.reduceMul]
 refine ⟨fun h => ?_, fun h => ?_⟩
 ·have hi0 : i = 0 := by omega
  subst hi0
  have hg1 : ∀ L : List AObj, (H ++ L)[H.length + 1]? = L[1]? := fun L => get_at H L 1
  have hg2 : ∀ L : List AObj, (H ++ L)[H.length + 2]? = L[2]? := fun L => get_at H L 2
  have hs2 : ∀ (L : List AObj) x, (H ++ L).set (H.length + 2) x = H ++ L.set 2 x := fun L x => by rw [List.set_append_right _ _ (by omega)]; congr 2; omega
  have hb5 : (0 <= (y : Int) /\ (y : Int) < 5) = True := by simp; omega
  have hw1 : IntKind.i64.wrap (0 + 1) = 1 := i64_in _ (by omega)
  have hw1' : IntKind.i64.wrap 1 = 1 := i64_in _ (by omega)
  have hwm : IntKind.i64.wrap (-1) = -1 := i64_in _ (by omega)
  have hdy := drop_ints (wsTo_get (n := ps.length) hp (by omega) hyl)
  have hll : ((wsTo ps ps.length).map iv).length = 5 := by simp [wsTo_len]
  repeat refine awp_seq ?_
  refine awp_skip ?_
  simp only [push_cast, Int.cast_ofNat_Int, Int.reduceLE, Int.reduceLT, Int.reduceToNat, Int.reduceNeg, Int.reduceSub, iv, bv, Nat.reduceBEq, reduceCtorEq, Nat.reduceAdd, Nat.reduceLeDiff, Nat.reduceSub, Nat.reduceLT, Nat.reduceMul]
  repeat refine awp_seq ?_
  refine awp_block ?_
  repeat refine awp_seq ?_
  refine awp_draw F.mixed 16 (by kernel_rfl) ?_
  simp only [push_cast, Int.cast_ofNat_Int, Int.reduceLE, Int.reduceLT, Int.reduceToNat, Int.reduceNeg, Int.reduceSub, iv, bv, Nat.reduceBEq, reduceCtorEq, Nat.reduceAdd, Nat.reduceLeDiff, Nat.reduceSub, Nat.reduceLT, Nat.reduceMul, F.IdxOf_22, F.Ty_3, F.IdxOf_82, F.SliceOf_22, hg1, hg2, hs2, hb5, hw1, hw1', hdy, hll, zr2, p24_2, if_true, Int.neg_zero]
  refine qCall (iv p.w) (callC_func (by kernel_rfl) (f49_c (by omega) (by have := hok.w; omega) (by rw [Int.zero_add]; exact ⟨rfl, rfl⟩))) ?_
  simp only [push_cast, Int.cast_ofNat_Int, Int.reduceLE, Int.reduceLT, Int.reduceToNat, Int.reduceNeg, Int.reduceSub, iv, bv, Nat.reduceBEq, reduceCtorEq, Nat.reduceAdd, Nat.reduceLeDiff, Nat.reduceSub, Nat.reduceLT, Nat.reduceMul, F.IdxOf_22, F.Ty_3, hg2, hs2]
  repeat refine awp_seq ?_
  refine awp_region (by kernel_rfl) ?_
  simp only [push_cast, Int.cast_ofNat_Int, Int.reduceLE, Int.reduceLT, Int.reduceToNat, Int.reduceNeg, Int.reduceSub, iv, bv, Nat.reduceBEq, reduceCtorEq, Nat.reduceAdd, Nat.reduceLeDiff, Nat.reduceSub, Nat.reduceLT, Nat.reduceMul, hwm]
  refine hR _ ⟨by omega, trivial, ?_⟩
  exact (round_keep (keeps_rfl rfl rfl) (by simp only [push_cast, Int.cast_ofNat_Int, Int.reduceLE, Int.reduceLT, Int.reduceToNat, Int.reduceNeg, Int.reduceSub, iv, bv, Nat.reduceBEq, reduceCtorEq, Nat.reduceAdd, Nat.reduceLeDiff, Nat.reduceSub, Nat.reduceLT, Nat.reduceMul]; simp [exists_wk, Wk.refl]))
 ·have hi1 : i = 1 := by omega
  subst hi1
  repeat refine awp_seq ?_
  refine awp_exit ?_
  simp only [push_cast, Int.cast_ofNat_Int, Int.reduceLE, Int.reduceLT, Int.reduceToNat, Int.reduceNeg, Int.reduceSub, iv, bv, Nat.reduceBEq, reduceCtorEq, Nat.reduceAdd, Nat.reduceLeDiff, Nat.reduceSub, Nat.reduceLT, Nat.reduceMul]
  repeat refine awp_seq ?_
  refine awp_region (by kernel_rfl) ?_
  simp only [push_cast, Int.cast_ofNat_Int, Int.reduceLE, Int.reduceLT, Int.reduceToNat, Int.reduceNeg, Int.reduceSub, iv, bv, Nat.reduceBEq, reduceCtorEq, Nat.reduceAdd, Nat.reduceLeDiff, Nat.reduceSub, Nat.reduceLT, Nat.reduceMul]
  repeat refine awp_seq ?_
  refine awp_ret ?_
  simp only [push_cast, Int.cast_ofNat_Int, Int.reduceLE, Int.reduceLT, Int.reduceToNat, Int.reduceNeg, Int.reduceSub, iv, bv, Nat.reduceBEq, reduceCtorEq, Nat.reduceAdd, Nat.reduceLeDiff, Nat.reduceSub, Nat.reduceLT, Nat.reduceMul]
  exact endOf_here hk
theorem f27_c {v : Bool} (hk : k (iv (if v then 1 else 2)) H) : FnC lv Tryd.prog 27 H [bv v, bv v] k kp := by
 refine fnC_intro (rs := [.tmp 4]) (nt := 18) F.f27 rfl rfl rfl (by simp) fun hH hA => ?_
 simp only [argsT, Nat.reduceAdd]
 repeat refine awp_seq ?_
 refine awp_region (by kernel_rfl) ?_
 simp only [push_cast, Int.cast_ofNat_Int, Int.reduceLE, Int.reduceLT, Int.reduceToNat, Int.reduceNeg, Int.reduceSub, iv, bv, Nat.reduceBEq, reduceCtorEq, Nat.reduceAdd, Nat.reduceLeDiff, Nat.reduceSub, Nat.reduceLT, Nat.reduceMul]
 repeat refine awp_seq ?_
 refine awp_region (by kernel_rfl) ?_
 simp only [push_cast, Int.cast_ofNat_Int, Int.reduceLE, Int.reduceLT, Int.reduceToNat, Int.reduceNeg, Int.reduceSub, iv, bv, Nat.reduceBEq, reduceCtorEq, Nat.reduceAdd, Nat.reduceLeDiff, Nat.reduceSub, Nat.reduceLT, Nat.reduceMul]
 repeat refine awp_seq ?_
 refine awp_block ?_
 repeat refine awp_seq ?_
 refine awp_block ?_
 repeat refine awp_seq ?_
 refine awp_block ?_
 repeat refine awp_seq ?_
 refine awp_region (by kernel_rfl) ?_
 simp only [push_cast, Int.cast_ofNat_Int, Int.reduceLE, Int.reduceLT, Int.reduceToNat, Int.reduceNeg, Int.reduceSub, iv, bv, Nat.reduceBEq, reduceCtorEq, Nat.reduceAdd, Nat.reduceLeDiff, Nat.reduceSub, Nat.reduceLT, Nat.reduceMul, bne_self_eq_false]
 repeat refine awp_seq ?_
 refine awp_condS ?_
 simp only [push_cast, Int.cast_ofNat_Int, Int.reduceLE, Int.reduceLT, Int.reduceToNat, Int.reduceNeg, Int.reduceSub, iv, bv, Nat.reduceBEq, reduceCtorEq, Nat.reduceAdd, Nat.reduceLeDiff, Nat.reduceSub, Nat.reduceLT, Nat.reduceMul]
 repeat refine awp_seq ?_
 refine awp_skip ?_
 simp only [push_cast, Int.cast_ofNat_Int, Int.reduceLE, Int.reduceLT, Int.reduceToNat, Int.reduceNeg, Int.reduceSub, iv, bv, Nat.reduceBEq, reduceCtorEq, Nat.reduceAdd, Nat.reduceLeDiff, Nat.reduceSub, Nat.reduceLT, Nat.reduceMul]
 repeat refine awp_seq ?_
 refine awp_region (by kernel_rfl) ?_
 simp only [push_cast, Int.cast_ofNat_Int, Int.reduceLE, Int.reduceLT, Int.reduceToNat, Int.reduceNeg, Int.reduceSub, iv, bv, Nat.reduceBEq, reduceCtorEq, Nat.reduceAdd, Nat.reduceLeDiff, Nat.reduceSub, Nat.reduceLT, Nat.reduceMul]
 cases v with
 | true =>
  repeat refine awp_seq ?_
  refine awp_condS ?_
  simp only [push_cast, Int.cast_ofNat_Int, Int.reduceLE, Int.reduceLT, Int.reduceToNat, Int.reduceNeg, Int.reduceSub, iv, bv, Nat.reduceBEq, reduceCtorEq, Nat.reduceAdd, Nat.reduceLeDiff, Nat.reduceSub, Nat.reduceLT, Nat.reduceMul]
  repeat refine awp_seq ?_
  refine awp_skip ?_
  simp only [push_cast, Int.cast_ofNat_Int, Int.reduceLE, Int.reduceLT, Int.reduceToNat, Int.reduceNeg, Int.reduceSub, iv, bv, Nat.reduceBEq, reduceCtorEq, Nat.reduceAdd, Nat.reduceLeDiff, Nat.reduceSub, Nat.reduceLT, Nat.reduceMul]
  repeat refine awp_seq ?_
  refine awp_exit ?_
  simp only [push_cast, Int.cast_ofNat_Int, Int.reduceLE, Int.reduceLT, Int.reduceToNat, Int.reduceNeg, Int.reduceSub, iv, bv, Nat.reduceBEq, reduceCtorEq, Nat.reduceAdd, Nat.reduceLeDiff, Nat.reduceSub, Nat.reduceLT, Nat.reduceMul]
  repeat refine awp_seq ?_
  refine awp_region (by kernel_rfl) ?_
  simp only [push_cast, Int.cast_ofNat_Int, Int.reduceLE, Int.reduceLT, Int.reduceToNat, Int.reduceNeg, Int.reduceSub, iv, bv, Nat.reduceBEq, reduceCtorEq, Nat.reduceAdd, Nat.reduceLeDiff, Nat.reduceSub, Nat.reduceLT, Nat.reduceMul]
  repeat refine awp_seq ?_
  refine awp_ret ?_
  simp only [push_cast, Int.cast_ofNat_Int, Int.reduceLE, Int.reduceLT, Int.reduceToNat, Int.reduceNeg, Int.reduceSub, iv, bv, Nat.reduceBEq, reduceCtorEq, Nat.reduceAdd, Nat.reduceLeDiff, Nat.reduceSub, Nat.reduceLT, Nat.reduceMul]
  exact endOf_here hk
 | false =>
  repeat refine awp_seq ?_
  refine awp_condS ?_
  simp only [push_cast, Int.cast_ofNat_Int, Int.reduceLE, Int.reduceLT, Int.reduceToNat, Int.reduceNeg, Int.reduceSub, iv, bv, Nat.reduceBEq, reduceCtorEq, Nat.reduceAdd, Nat.reduceLeDiff, Nat.reduceSub, Nat.reduceLT, Nat.reduceMul]
  repeat refine awp_seq ?_
  refine awp_exit ?_
  simp only [push_cast, Int.cast_ofNat_Int, Int.reduceLE, Int.reduceLT, Int.reduceToNat, Int.reduceNeg, Int.reduceSub, iv, bv, Nat.reduceBEq, reduceCtorEq, Nat.reduceAdd, Nat.reduceLeDiff, Nat.reduceSub, Nat.reduceLT, Nat.reduceMul]
  repeat refine awp_seq ?_
  refine awp_region (by kernel_rfl) ?_
  simp only [push_cast, Int.cast_ofNat_Int, Int.reduceLE, Int.reduceLT, Int.reduceToNat, Int.reduceNeg, Int.reduceSub, iv, bv, Nat.reduceBEq, reduceCtorEq, Nat.reduceAdd, Nat.reduceLeDiff, Nat.reduceSub, Nat.reduceLT, Nat.reduceMul, show IntKind.i64.wrap (1 + 1) = 2 from i64_in _ (by omega), show IntKind.i64.wrap 2 = 2 from i64_in _ (by omega)]
  repeat refine awp_seq ?_
  refine awp_exit ?_
  simp only [push_cast, Int.cast_ofNat_Int, Int.reduceLE, Int.reduceLT, Int.reduceToNat, Int.reduceNeg, Int.reduceSub, iv, bv, Nat.reduceBEq, reduceCtorEq, Nat.reduceAdd, Nat.reduceLeDiff, Nat.reduceSub, Nat.reduceLT, Nat.reduceMul]
  repeat refine awp_seq ?_
  refine awp_region (by kernel_rfl) ?_
  simp only [push_cast, Int.cast_ofNat_Int, Int.reduceLE, Int.reduceLT, Int.reduceToNat, Int.reduceNeg, Int.reduceSub, iv, bv, Nat.reduceBEq, reduceCtorEq, Nat.reduceAdd, Nat.reduceLeDiff, Nat.reduceSub, Nat.reduceLT, Nat.reduceMul]
  repeat refine awp_seq ?_
  refine awp_ret ?_
  simp only [push_cast, Int.cast_ofNat_Int, Int.reduceLE, Int.reduceLT, Int.reduceToNat, Int.reduceNeg, Int.reduceSub, iv, bv, Nat.reduceBEq, reduceCtorEq, Nat.reduceAdd, Nat.reduceLeDiff, Nat.reduceSub, Nat.reduceLT, Nat.reduceMul]
  exact endOf_here hk
def fates2 (b w : Int) : List AV := [.ifc (if b < w then 114 else 115) (.agg []), .ifc 115 (.agg [])]
theorem zf1 : zeroRow Value.nilIface 1 = [.val .nilIface] := rfl
theorem f44_c {ps : List Par} {x y : Nat} {p q : Par} {e : End} (h5 : ps.length <= 5) (hq : ps[x]? = some q) (hp : ps[y]? = some p) (hqo : q.Ok) (hok : p.Ok) (hk : k (.sl 2 (fates2 q.b p.w) .shut) H) : FnC lv Tryd.prog 44 H [yardA ps, .sl 2 [iv x, iv y] e, .agg ((wsTo ps ps.length).map iv)] k kp := by
 refine fnC_intro (rs := [.tmp 6]) (nt := 36) F.f44 rfl rfl rfl (by simp) fun hH hA => ?_
 simp only [argsT, Nat.reduceAdd, yardA, yardL]
 have hxl := get_lt hq
 have hyl := get_lt hp
 have hg0 : ∀ L : List AObj, (H ++ L)[H.length]? = L[0]? := fun L => get_at H L 0
 have hg1 : ∀ L : List AObj, (H ++ L)[H.length + 1]? = L[1]? := fun L => get_at H L 1
 have hll : ((wsTo ps ps.length).map iv).length = 5 := by simp [wsTo_len]
 have htk : ((wsTo ps ps.length).map iv).take 5 = (wsTo ps ps.length).map iv := List.take_of_length_le (by simp [wsTo_len])
 repeat refine awp_seq ?_
 refine awp_region (by kernel_rfl) ?_
 simp only [push_cast, Int.cast_ofNat_Int, Int.reduceLE, Int.reduceLT, Int.reduceToNat, Int.reduceNeg, Int.reduceSub, iv, bv, Nat.reduceBEq, reduceCtorEq, Nat.reduceAdd, Nat.reduceLeDiff, Nat.reduceSub, Nat.reduceLT, Nat.reduceMul]
 repeat refine awp_seq ?_
 refine awp_region (by kernel_rfl) ?_
 simp only [push_cast, Int.cast_ofNat_Int, Int.reduceLE, Int.reduceLT, Int.reduceToNat, Int.reduceNeg, Int.reduceSub, iv, bv, Nat.reduceBEq, reduceCtorEq, Nat.reduceAdd, Nat.reduceLeDiff, Nat.reduceSub, Nat.reduceLT, Nat.reduceMul]
 (repeat refine awp_seq ?_); refine awp_tail (t := 7) (sz := 1) (el := 113) (by simp only [push_cast, Int.cast_ofNat_Int, Int.reduceLE, Int.reduceLT, Int.reduceToNat, Int.reduceNeg, Int.reduceSub, iv, bv, Nat.reduceBEq, reduceCtorEq, Nat.reduceAdd, Nat.reduceLeDiff, Nat.reduceSub, Nat.reduceLT, Nat.reduceMul] <;> rfl) ?_
 simp only [push_cast, Int.cast_ofNat_Int, Int.reduceLE, Int.reduceLT, Int.reduceToNat, Int.reduceNeg, Int.reduceSub, iv, bv, Nat.reduceBEq, reduceCtorEq, Nat.reduceAdd, Nat.reduceLeDiff, Nat.reduceSub, Nat.reduceLT, Nat.reduceMul]
 repeat refine awp_seq ?_
 refine awp_region (by kernel_rfl) ?_
 simp only [push_cast, Int.cast_ofNat_Int, Int.reduceLE, Int.reduceLT, Int.reduceToNat, Int.reduceNeg, Int.reduceSub, iv, bv, Nat.reduceBEq, reduceCtorEq, Nat.reduceAdd, Nat.reduceLeDiff, Nat.reduceSub, Nat.reduceLT, Nat.reduceMul, F.Ty_53, F.Ty_82, F.LenOf_22, hg0, hg1, hll, htk]
 refine callG (callC_func (by kernel_rfl) (f54_c (ps := ps) (x := x) (y := y) (p := p) h5 hp hok ?_))
 simp only [push_cast, Int.cast_ofNat_Int, Int.reduceLE, Int.reduceLT, Int.reduceToNat, Int.reduceNeg, Int.reduceSub, iv, bv, Nat.reduceBEq, reduceCtorEq, Nat.reduceAdd, Nat.reduceLeDiff, Nat.reduceSub, Nat.reduceLT, Nat.reduceMul, F.LenOf_22, List.length_append, List.length_cons, List.length_nil, Nat.add_assoc, List.append_assoc, List.cons_append, List.nil_append]
 have hg5 : ∀ L : List AObj, (H ++ L)[H.length + 5]? = L[5]? := fun L => get_at H L 5
 have hxb : (0 <= (x : Int) /\ (x : Int) < ps.length) = True := by simp; omega
 have hyb : (0 <= (y : Int) /\ (y : Int) < ps.length) = True := by simp; omega
 repeat refine awp_seq ?_
 refine awp_block ?_
 refine awp_for 2 (fun i : Nat => [(7, .sl i ((fates2 q.b p.w).take i) (.opn (H.length + 2))), (15, iv i)]) (fun i => H ++ [.cells [aPars ps, iv 2] 53, .cells ((wsTo ps ps.length).map iv) 82, .tail i 1 113, .cells (yardL ps) 53, .cells ((wsTo ps ps.length).map iv) 82, .cells [iv p.w, iv 0] 3]) (fun i => True) (fun _ _ => rfl) (by simp only [push_cast, Int.cast_ofNat_Int, Int.reduceLE, Int.reduceLT, Int.reduceToNat, Int.reduceNeg, Int.reduceSub, iv, bv, Nat.reduceBEq, reduceCtorEq, Nat.reduceAdd, Nat.reduceLeDiff, Nat.reduceSub, Nat.reduceLT, Nat.reduceMul, List.forall_mem_cons, List.not_mem_nil, false_imp_iff, implies_true, List.forall_mem_nil]; simp [exists_wk, Wk.refl]) rfl (fun _ _ _ => by simp) trivial (fun hHs hLt i hin hi R hR => ?_)
 repeat refine awp_seq ?_
 refine awp_region (by kernel_rfl) ?_
 simp only [push_cast, Int.cast_ofNat_Int, Int.reduceLE, Int.reduceLT, Int.reduceToNat, Int.reduceNeg, Int.reduceSub, iv, bv, Nat.reduceBEq, reduceCtorEq, Nat.reduceAdd, Nat.reduceLeDiff, Nat.reduceSub, Nat.reduceLT, Nat.reduceMul]
 repeat refine awp_seq ?_
 refine awp_condS ?_
 simp only [push_cast, Int.cast_ofNat_Int, Int.reduceLE, Int.reduceLT, Int.reduceToNat, Int.reduceNeg, Int.reduceSub, iv, bv, Nat.reduceBEq, reduceCtorEq, Nat.reduceAdd, Nat.reduceLeDiff, Nat.reduceSub, Nat.reduceLT, Nat.reduceMul]
 refine ⟨fun h => ?_, fun h => ?_⟩
 ·have hw01 : IntKind.i64.wrap (0 + 1) = 1 := i64_in _ (by omega)
  have hw1 : IntKind.i64.wrap 1 = 1 := i64_in _ (by omega)
  have hw2 : IntKind.i64.wrap 2 = 2 := i64_in _ (by omega)
  have hw11 : IntKind.i64.wrap (1 + 1) = 2 := i64_in _ (by omega)
  rcases (show i = 0 \/ i = 1 by omega) with rfl | rfl
  ·repeat refine awp_seq ?_
   refine awp_skip ?_
   simp only [push_cast, Int.cast_ofNat_Int, Int.reduceLE, Int.reduceLT, Int.reduceToNat, Int.reduceNeg, Int.reduceSub, iv, bv, Nat.reduceBEq, reduceCtorEq, Nat.reduceAdd, Nat.reduceLeDiff, Nat.reduceSub, Nat.reduceLT, Nat.reduceMul]
   repeat refine awp_seq ?_
   refine awp_block ?_
   repeat refine awp_seq ?_
   refine awp_region (by kernel_rfl) ?_
   simp only [push_cast, Int.cast_ofNat_Int, Int.reduceLE, Int.reduceLT, Int.reduceToNat, Int.reduceNeg, Int.reduceSub, iv, bv, Nat.reduceBEq, reduceCtorEq, Nat.reduceAdd, Nat.reduceLeDiff, Nat.reduceSub, Nat.reduceLT, Nat.reduceMul, F.IdxOf_22, F.Ty_3, hg5]
   repeat refine awp_seq ?_
   refine awp_draw F.mixed 13 (by kernel_rfl) ?_
   simp only [push_cast, Int.cast_ofNat_Int, Int.reduceLE, Int.reduceLT, Int.reduceToNat, Int.reduceNeg, Int.reduceSub, iv, bv, Nat.reduceBEq, reduceCtorEq, Nat.reduceAdd, Nat.reduceLeDiff, Nat.reduceSub, Nat.reduceLT, Nat.reduceMul, F.FieldOf_53_0, F.FieldOf_30_0, F.Ty_28, F.IdxOf_22, F.Ty_3, F.IdxOf_28, F.Ty_37, F.SliceOf_110, F.AppOf_110_110, hg0, aPars, sh_pars hq, hxb, zf1, p24_1]
   refine qCall (.ifc (if q.b < p.w then 114 else 115) (.agg [])) (callC_func (by kernel_rfl) (f55_c (p := q) (n := p.w) ⟨?_, rfl⟩)) ?_
   ·rfl
   simp only [push_cast, Int.cast_ofNat_Int, Int.reduceLE, Int.reduceLT, Int.reduceToNat, Int.reduceNeg, Int.reduceSub, iv, bv, Nat.reduceBEq, reduceCtorEq, Nat.reduceAdd, Nat.reduceLeDiff, Nat.reduceSub, Nat.reduceLT, Nat.reduceMul, F.SliceOf_110, F.AppOf_110_110, zf1, p24_1]
   refine ⟨by decide, ?_⟩
   repeat refine awp_seq ?_
   refine awp_region (by kernel_rfl) ?_
   simp only [push_cast, Int.cast_ofNat_Int, Int.reduceLE, Int.reduceLT, Int.reduceToNat, Int.reduceNeg, Int.reduceSub, iv, bv, Nat.reduceBEq, reduceCtorEq, Nat.reduceAdd, Nat.reduceLeDiff, Nat.reduceSub, Nat.reduceLT, Nat.reduceMul, hw01, hw1]
   refine hR _ ⟨by omega, trivial, ?_⟩
   simp only [fates2, List.take_succ_cons, List.take_zero]
   exact (round_keep (keeps_rfl rfl rfl) (by simp only [push_cast, Int.cast_ofNat_Int, Int.reduceLE, Int.reduceLT, Int.reduceToNat, Int.reduceNeg, Int.reduceSub, iv, bv, Nat.reduceBEq, reduceCtorEq, Nat.reduceAdd, Nat.reduceLeDiff, Nat.reduceSub, Nat.reduceLT, Nat.reduceMul]; simp [exists_wk, Wk.refl]))
  ·repeat refine awp_seq ?_
   refine awp_skip ?_
   simp only [push_cast, Int.cast_ofNat_Int, Int.reduceLE, Int.reduceLT, Int.reduceToNat, Int.reduceNeg, Int.reduceSub, iv, bv, Nat.reduceBEq, reduceCtorEq, Nat.reduceAdd, Nat.reduceLeDiff, Nat.reduceSub, Nat.reduceLT, Nat.reduceMul]
   repeat refine awp_seq ?_
   refine awp_block ?_
   repeat refine awp_seq ?_
   refine awp_region (by kernel_rfl) ?_
   simp only [push_cast, Int.cast_ofNat_Int, Int.reduceLE, Int.reduceLT, Int.reduceToNat, Int.reduceNeg, Int.reduceSub, iv, bv, Nat.reduceBEq, reduceCtorEq, Nat.reduceAdd, Nat.reduceLeDiff, Nat.reduceSub, Nat.reduceLT, Nat.reduceMul, F.IdxOf_22, F.Ty_3, hg5]
   repeat refine awp_seq ?_
   refine awp_draw F.mixed 13 (by kernel_rfl) ?_
   simp only [push_cast, Int.cast_ofNat_Int, Int.reduceLE, Int.reduceLT, Int.reduceToNat, Int.reduceNeg, Int.reduceSub, iv, bv, Nat.reduceBEq, reduceCtorEq, Nat.reduceAdd, Nat.reduceLeDiff, Nat.reduceSub, Nat.reduceLT, Nat.reduceMul, F.FieldOf_53_0, F.FieldOf_30_0, F.Ty_28, F.IdxOf_22, F.Ty_3, F.IdxOf_28, F.Ty_37, F.SliceOf_110, F.AppOf_110_110, hg0, aPars, sh_pars hp, hyb, zf1, p24_1]
   refine qCall (.ifc 115 (.agg [])) (callC_func (by kernel_rfl) (f55_c (p := p) (n := 0) ⟨?_, rfl⟩)) ?_
   ·rw [if_neg (by have := hok.b; omega)]
   simp only [push_cast, Int.cast_ofNat_Int, Int.reduceLE, Int.reduceLT, Int.reduceToNat, Int.reduceNeg, Int.reduceSub, iv, bv, Nat.reduceBEq, reduceCtorEq, Nat.reduceAdd, Nat.reduceLeDiff, Nat.reduceSub, Nat.reduceLT, Nat.reduceMul, F.SliceOf_110, F.AppOf_110_110, zf1, p24_1]
   refine ⟨rfl, by decide, ?_⟩
   repeat refine awp_seq ?_
   refine awp_region (by kernel_rfl) ?_
   simp only [push_cast, Int.cast_ofNat_Int, Int.reduceLE, Int.reduceLT, Int.reduceToNat, Int.reduceNeg, Int.reduceSub, iv, bv, Nat.reduceBEq, reduceCtorEq, Nat.reduceAdd, Nat.reduceLeDiff, Nat.reduceSub, Nat.reduceLT, Nat.reduceMul, hw11, hw2]
   refine hR _ ⟨by omega, trivial, ?_⟩
   simp only [fates2, List.take_succ_cons, List.take_zero]
   exact (round_keep (keeps_rfl rfl rfl) (by simp only [push_cast, Int.cast_ofNat_Int, Int.reduceLE, Int.reduceLT, Int.reduceToNat, Int.reduceNeg, Int.reduceSub, iv, bv, Nat.reduceBEq, reduceCtorEq, Nat.reduceAdd, Nat.reduceLeDiff, Nat.reduceSub, Nat.reduceLT, Nat.reduceMul]; simp [exists_wk, Wk.refl]))
 ·have hi : i = 2 := by omega
  subst hi
  repeat refine awp_seq ?_
  refine awp_exit ?_
  simp only [push_cast, Int.cast_ofNat_Int, Int.reduceLE, Int.reduceLT, Int.reduceToNat, Int.reduceNeg, Int.reduceSub, iv, bv, Nat.reduceBEq, reduceCtorEq, Nat.reduceAdd, Nat.reduceLeDiff, Nat.reduceSub, Nat.reduceLT, Nat.reduceMul]
  repeat refine awp_seq ?_
  refine awp_region (by kernel_rfl) ?_
  simp only [push_cast, Int.cast_ofNat_Int, Int.reduceLE, Int.reduceLT, Int.reduceToNat, Int.reduceNeg, Int.reduceSub, iv, bv, Nat.reduceBEq, reduceCtorEq, Nat.reduceAdd, Nat.reduceLeDiff, Nat.reduceSub, Nat.reduceLT, Nat.reduceMul]
  repeat refine awp_seq ?_
  refine awp_ret ?_
  simp only [push_cast, Int.cast_ofNat_Int, Int.reduceLE, Int.reduceLT, Int.reduceToNat, Int.reduceNeg, Int.reduceSub, iv, bv, Nat.reduceBEq, reduceCtorEq, Nat.reduceAdd, Nat.reduceLeDiff, Nat.reduceSub, Nat.reduceLT, Nat.reduceMul]
  exact endA (b := .sl 2 (fates2 q.b p.w) .shut) hH (wk_shut _ _ _) (by simp [fates2, lt_shut, lt_ifc, lt_agg]) hk
theorem f28_c {ps : List Par} {x y : Nat} {p q : Par} {e : End} (h5 : ps.length <= 5) (hq : ps[x]? = some q) (hp : ps[y]? = some p) (hqo : q.Ok) (hok : p.Ok) (hk : k (bv (decide (p.w <= q.b))) H) : FnC lv Tryd.prog 28 H [yardA ps, .sl 2 [iv x, iv y] e, .agg ((wsTo ps ps.length).map iv)] k kp := by
 refine fnC_intro (rs := [.tmp 6]) (nt := 26) F.f28 rfl rfl rfl (by simp) fun hH hA => ?_
 simp only [argsT, Nat.reduceAdd, yardA, yardL]
 have hg0 : ∀ L : List AObj, (H ++ L)[H.length]? = L[0]? := fun L => get_at H L 0
 have hg1 : ∀ L : List AObj, (H ++ L)[H.length + 1]? = L[1]? := fun L => get_at H L 1
 have hll : ((wsTo ps ps.length).map iv).length = 5 := by simp [wsTo_len]
 have htk : ((wsTo ps ps.length).map iv).take 5 = (wsTo ps ps.length).map iv := List.take_of_length_le (by simp [wsTo_len])
 repeat refine awp_seq ?_
 refine awp_region (by kernel_rfl) ?_
 simp only [push_cast, Int.cast_ofNat_Int, Int.reduceLE, Int.reduceLT, Int.reduceToNat, Int.reduceNeg, Int.reduceSub, iv, bv, Nat.reduceBEq, reduceCtorEq, Nat.reduceAdd, Nat.reduceLeDiff, Nat.reduceSub, Nat.reduceLT, Nat.reduceMul]
 repeat refine awp_seq ?_
 refine awp_region (by kernel_rfl) ?_
 simp only [push_cast, Int.cast_ofNat_Int, Int.reduceLE, Int.reduceLT, Int.reduceToNat, Int.reduceNeg, Int.reduceSub, iv, bv, Nat.reduceBEq, reduceCtorEq, Nat.reduceAdd, Nat.reduceLeDiff, Nat.reduceSub, Nat.reduceLT, Nat.reduceMul, F.Ty_53, F.Ty_82, hg0, hg1, hll, htk]
 rw [htk]
 refine callG (callC_func (by kernel_rfl) (f44_c (ps := ps) (x := x) (y := y) (p := p) (q := q) h5 hq hp hqo hok ?_))
 simp only [push_cast, Int.cast_ofNat_Int, Int.reduceLE, Int.reduceLT, Int.reduceToNat, Int.reduceNeg, Int.reduceSub, iv, bv, Nat.reduceBEq, reduceCtorEq, Nat.reduceAdd, Nat.reduceLeDiff, Nat.reduceSub, Nat.reduceLT, Nat.reduceMul, F.LenOf_110, fates2]
 by_cases hb : q.b < p.w
 ·rw [if_pos hb]
  have hd : decide (p.w <= q.b) = false := by simp; omega
  rw [hd] at hk
  repeat refine awp_seq ?_
  refine awp_block ?_
  refine awp_for 2 (fun i : Nat => [(14, iv i)]) (fun _ => _) (fun i => i = 0) (fun _ _ => rfl) (by simp only [push_cast, Int.cast_ofNat_Int, Int.reduceLE, Int.reduceLT, Int.reduceToNat, Int.reduceNeg, Int.reduceSub, iv, bv, Nat.reduceBEq, reduceCtorEq, Nat.reduceAdd, Nat.reduceLeDiff, Nat.reduceSub, Nat.reduceLT, Nat.reduceMul, List.forall_mem_cons, List.not_mem_nil, false_imp_iff, implies_true, List.forall_mem_nil]; simp [exists_wk, Wk.refl]) rfl (fun _ _ _ => rfl) rfl (fun hHs hLt i hin hi R hR => ?_)
  subst hi
  repeat refine awp_seq ?_
  refine awp_region (by kernel_rfl) ?_
  simp only [push_cast, Int.cast_ofNat_Int, Int.reduceLE, Int.reduceLT, Int.reduceToNat, Int.reduceNeg, Int.reduceSub, iv, bv, Nat.reduceBEq, reduceCtorEq, Nat.reduceAdd, Nat.reduceLeDiff, Nat.reduceSub, Nat.reduceLT, Nat.reduceMul]
  repeat refine awp_seq ?_
  refine awp_condS ?_
  simp only [push_cast, Int.cast_ofNat_Int, Int.reduceLE, Int.reduceLT, Int.reduceToNat, Int.reduceNeg, Int.reduceSub, iv, bv, Nat.reduceBEq, reduceCtorEq, Nat.reduceAdd, Nat.reduceLeDiff, Nat.reduceSub, Nat.reduceLT, Nat.reduceMul]
  repeat refine awp_seq ?_
  refine awp_skip ?_
  simp only [push_cast, Int.cast_ofNat_Int, Int.reduceLE, Int.reduceLT, Int.reduceToNat, Int.reduceNeg, Int.reduceSub, iv, bv, Nat.reduceBEq, reduceCtorEq, Nat.reduceAdd, Nat.reduceLeDiff, Nat.reduceSub, Nat.reduceLT, Nat.reduceMul]
  repeat refine awp_seq ?_
  refine awp_block ?_
  repeat refine awp_seq ?_
  refine awp_region (by kernel_rfl) ?_
  simp only [push_cast, Int.cast_ofNat_Int, Int.reduceLE, Int.reduceLT, Int.reduceToNat, Int.reduceNeg, Int.reduceSub, iv, bv, Nat.reduceBEq, reduceCtorEq, Nat.reduceAdd, Nat.reduceLeDiff, Nat.reduceSub, Nat.reduceLT, Nat.reduceMul, F.IdxOf_110, F.Ty_113]
  repeat refine awp_seq ?_
  refine awp_region (by kernel_rfl) ?_
  simp only [push_cast, Int.cast_ofNat_Int, Int.reduceLE, Int.reduceLT, Int.reduceToNat, Int.reduceNeg, Int.reduceSub, iv, bv, Nat.reduceBEq, reduceCtorEq, Nat.reduceAdd, Nat.reduceLeDiff, Nat.reduceSub, Nat.reduceLT, Nat.reduceMul]
  repeat refine awp_seq ?_
  refine awp_block ?_
  repeat refine awp_seq ?_
  refine awp_region (by kernel_rfl) ?_
  simp only [push_cast, Int.cast_ofNat_Int, Int.reduceLE, Int.reduceLT, Int.reduceToNat, Int.reduceNeg, Int.reduceSub, iv, bv, Nat.reduceBEq, reduceCtorEq, Nat.reduceAdd, Nat.reduceLeDiff, Nat.reduceSub, Nat.reduceLT, Nat.reduceMul, F.isIfc_114, F.ZeroOf_114, if_true]
  repeat refine awp_seq ?_
  refine awp_condS ?_
  simp only [push_cast, Int.cast_ofNat_Int, Int.reduceLE, Int.reduceLT, Int.reduceToNat, Int.reduceNeg, Int.reduceSub, iv, bv, Nat.reduceBEq, reduceCtorEq, Nat.reduceAdd, Nat.reduceLeDiff, Nat.reduceSub, Nat.reduceLT, Nat.reduceMul]
  repeat refine awp_seq ?_
  refine awp_region (by kernel_rfl) ?_
  simp only [push_cast, Int.cast_ofNat_Int, Int.reduceLE, Int.reduceLT, Int.reduceToNat, Int.reduceNeg, Int.reduceSub, iv, bv, Nat.reduceBEq, reduceCtorEq, Nat.reduceAdd, Nat.reduceLeDiff, Nat.reduceSub, Nat.reduceLT, Nat.reduceMul]
  repeat refine awp_seq ?_
  refine awp_ret ?_
  simp only [push_cast, Int.cast_ofNat_Int, Int.reduceLE, Int.reduceLT, Int.reduceToNat, Int.reduceNeg, Int.reduceSub, iv, bv, Nat.reduceBEq, reduceCtorEq, Nat.reduceAdd, Nat.reduceLeDiff, Nat.reduceSub, Nat.reduceLT, Nat.reduceMul]
  exact endA hH (Wk.refl _) (by simp [lt_val]) hk
 ·rw [if_neg hb]
  have hd : decide (p.w <= q.b) = true := by simp; omega
  rw [hd] at hk
  repeat refine awp_seq ?_
  refine awp_block ?_
  refine awp_for 2 (fun i : Nat => [(14, iv i)]) (fun _ => _) (fun _ => True) (fun _ _ => rfl) (by simp only [push_cast, Int.cast_ofNat_Int, Int.reduceLE, Int.reduceLT, Int.reduceToNat, Int.reduceNeg, Int.reduceSub, iv, bv, Nat.reduceBEq, reduceCtorEq, Nat.reduceAdd, Nat.reduceLeDiff, Nat.reduceSub, Nat.reduceLT, Nat.reduceMul, List.forall_mem_cons, List.not_mem_nil, false_imp_iff, implies_true, List.forall_mem_nil]; simp [exists_wk, Wk.refl]) rfl (fun _ _ _ => rfl) trivial (fun hHs hLt i hin hi R hR => ?_)
  repeat refine awp_seq ?_
  refine awp_region (by kernel_rfl) ?_
  simp only [push_cast, Int.cast_ofNat_Int, Int.reduceLE, Int.reduceLT, Int.reduceToNat, Int.reduceNeg, Int.reduceSub, iv, bv, Nat.reduceBEq, reduceCtorEq, Nat.reduceAdd, Nat.reduceLeDiff, Nat.reduceSub, Nat.reduceLT, Nat.reduceMul]
  repeat refine awp_seq ?_
  refine awp_condS ?_
  simp only [push_cast, Int.cast_ofNat_Int, Int.reduceLE, Int.reduceLT, Int.reduceToNat, Int.reduceNeg, Int.reduceSub, iv, bv, Nat.reduceBEq, reduceCtorEq, Nat.reduceAdd, Nat.reduceLeDiff, Nat.reduceSub, Nat.reduceLT, Nat.reduceMul]
  refine ⟨fun h => ?_, fun h => ?_⟩
  ·have hlt : i < 2 := by omega
   have hi1 : IntKind.i64.wrap ((i : Int) + 1) = ((i + 1 : Nat) : Int) := by rw [i64_in _ (by omega)]; rfl
   have hb2 : (0 <= (i : Int) /\ (i : Int) < 2) = True := by simp; omega
   have hsh : ∃ L, AV.shift i (.rp [.ifc 115 (.agg []), .ifc 115 (.agg [])]) = some (.rp (.ifc 115 (.agg []) :: L)) := by
    match i, hlt with
    | 0, _ => exact ⟨_, rfl⟩
    | 1, _ => exact ⟨_, rfl⟩
   obtain ⟨L, hsh⟩ := hsh
   repeat refine awp_seq ?_
   refine awp_skip ?_
   simp only [push_cast, Int.cast_ofNat_Int, Int.reduceLE, Int.reduceLT, Int.reduceToNat, Int.reduceNeg, Int.reduceSub, iv, bv, Nat.reduceBEq, reduceCtorEq, Nat.reduceAdd, Nat.reduceLeDiff, Nat.reduceSub, Nat.reduceLT, Nat.reduceMul]
   repeat refine awp_seq ?_
   refine awp_block ?_
   repeat refine awp_seq ?_
   refine awp_region (by kernel_rfl) ?_
   simp only [push_cast, Int.cast_ofNat_Int, Int.reduceLE, Int.reduceLT, Int.reduceToNat, Int.reduceNeg, Int.reduceSub, iv, bv, Nat.reduceBEq, reduceCtorEq, Nat.reduceAdd, Nat.reduceLeDiff, Nat.reduceSub, Nat.reduceLT, Nat.reduceMul, F.IdxOf_110, F.Ty_113, hb2, hsh]
   repeat refine awp_seq ?_
   refine awp_region (by kernel_rfl) ?_
   simp only [push_cast, Int.cast_ofNat_Int, Int.reduceLE, Int.reduceLT, Int.reduceToNat, Int.reduceNeg, Int.reduceSub, iv, bv, Nat.reduceBEq, reduceCtorEq, Nat.reduceAdd, Nat.reduceLeDiff, Nat.reduceSub, Nat.reduceLT, Nat.reduceMul]
   repeat refine awp_seq ?_
   refine awp_block ?_
   repeat refine awp_seq ?_
   refine awp_region (by kernel_rfl) ?_
   simp only [push_cast, Int.cast_ofNat_Int, Int.reduceLE, Int.reduceLT, Int.reduceToNat, Int.reduceNeg, Int.reduceSub, iv, bv, Nat.reduceBEq, reduceCtorEq, Nat.reduceAdd, Nat.reduceLeDiff, Nat.reduceSub, Nat.reduceLT, Nat.reduceMul, F.isIfc_114, F.ZeroOf_114, of_agg0, show ¬ (115 : Nat) = 114 by decide, if_false]
   repeat refine awp_seq ?_
   refine awp_condS ?_
   simp only [push_cast, Int.cast_ofNat_Int, Int.reduceLE, Int.reduceLT, Int.reduceToNat, Int.reduceNeg, Int.reduceSub, iv, bv, Nat.reduceBEq, reduceCtorEq, Nat.reduceAdd, Nat.reduceLeDiff, Nat.reduceSub, Nat.reduceLT, Nat.reduceMul]
   repeat refine awp_seq ?_
   refine awp_region (by kernel_rfl) ?_
   simp only [push_cast, Int.cast_ofNat_Int, Int.reduceLE, Int.reduceLT, Int.reduceToNat, Int.reduceNeg, Int.reduceSub, iv, bv, Nat.reduceBEq, reduceCtorEq, Nat.reduceAdd, Nat.reduceLeDiff, Nat.reduceSub, Nat.reduceLT, Nat.reduceMul, F.isIfc_115, F.ZeroOf_115, if_true]
   repeat refine awp_seq ?_
   refine awp_condS ?_
   simp only [push_cast, Int.cast_ofNat_Int, Int.reduceLE, Int.reduceLT, Int.reduceToNat, Int.reduceNeg, Int.reduceSub, iv, bv, Nat.reduceBEq, reduceCtorEq, Nat.reduceAdd, Nat.reduceLeDiff, Nat.reduceSub, Nat.reduceLT, Nat.reduceMul]
   repeat refine awp_seq ?_
   refine awp_skip ?_
   simp only [push_cast, Int.cast_ofNat_Int, Int.reduceLE, Int.reduceLT, Int.reduceToNat, Int.reduceNeg, Int.reduceSub, iv, bv, Nat.reduceBEq, reduceCtorEq, Nat.reduceAdd, Nat.reduceLeDiff, Nat.reduceSub, Nat.reduceLT, Nat.reduceMul]
   repeat refine awp_seq ?_
   refine awp_region (by kernel_rfl) ?_
   simp only [push_cast, Int.cast_ofNat_Int, Int.reduceLE, Int.reduceLT, Int.reduceToNat, Int.reduceNeg, Int.reduceSub, iv, bv, Nat.reduceBEq, reduceCtorEq, Nat.reduceAdd, Nat.reduceLeDiff, Nat.reduceSub, Nat.reduceLT, Nat.reduceMul, hi1]
   refine hR _ ⟨hlt, trivial, ?_⟩
   exact (round_keep (keeps_rfl rfl rfl) (by simp only [push_cast, Int.cast_ofNat_Int, Int.reduceLE, Int.reduceLT, Int.reduceToNat, Int.reduceNeg, Int.reduceSub, iv, bv, Nat.reduceBEq, reduceCtorEq, Nat.reduceAdd, Nat.reduceLeDiff, Nat.reduceSub, Nat.reduceLT, Nat.reduceMul]; simp [exists_wk, Wk.refl]))
  ·have hi2 : i = 2 := by omega
   subst hi2
   repeat refine awp_seq ?_
   refine awp_exit ?_
   simp only [push_cast, Int.cast_ofNat_Int, Int.reduceLE, Int.reduceLT, Int.reduceToNat, Int.reduceNeg, Int.reduceSub, iv, bv, Nat.reduceBEq, reduceCtorEq, Nat.reduceAdd, Nat.reduceLeDiff, Nat.reduceSub, Nat.reduceLT, Nat.reduceMul]
   repeat refine awp_seq ?_
   refine awp_region (by kernel_rfl) ?_
   simp only [push_cast, Int.cast_ofNat_Int, Int.reduceLE, Int.reduceLT, Int.reduceToNat, Int.reduceNeg, Int.reduceSub, iv, bv, Nat.reduceBEq, reduceCtorEq, Nat.reduceAdd, Nat.reduceLeDiff, Nat.reduceSub, Nat.reduceLT, Nat.reduceMul]
   repeat refine awp_seq ?_
   refine awp_ret ?_
   simp only [push_cast, Int.cast_ofNat_Int, Int.reduceLE, Int.reduceLT, Int.reduceToNat, Int.reduceNeg, Int.reduceSub, iv, bv, Nat.reduceBEq, reduceCtorEq, Nat.reduceAdd, Nat.reduceLeDiff, Nat.reduceSub, Nat.reduceLT, Nat.reduceMul]
   exact endA hH (Wk.refl _) (by simp [lt_val]) hk
theorem pile_two {ps : List Par} {x y : Nat} {p q : Par} {e : End} (h5 : ps.length <= 5) (hpar : ∀ p ∈ ps, p.Ok) (hq : ps[x]? = some q) (hp : ps[y]? = some p) (hne : x ≠ y) : PileOk ps [(x : Int), (y : Int)] where
 yard := h5
 par := hpar
 many := by simp
 piece := fun z hz => by
  have h1 := get_lt hq
  have h2 := get_lt hp
  simp only [List.mem_cons, List.not_mem_nil, or_false] at hz
  rcases hz with rfl | rfl <;> omega
 once := by simp; omega
theorem f19_c {ps : List Par} {x y : Nat} {p q : Par} {e : End} (h5 : ps.length <= 5) (hpar : ∀ p ∈ ps, p.Ok) (hq : ps[x]? = some q) (hp : ps[y]? = some p) (hne : x ≠ y) (hk : k (bv (decide (p.w <= q.b))) H) : FnC lv Tryd.prog 19 H [yardA ps, .sl 2 [iv x, iv y] e] k kp := by
 have hpo := pile_two (e := e) h5 hpar hq hp hne
 have hqo := hpar q (mem_of_get hq)
 have hok := hpar p (mem_of_get hp)
 have hll : ((wsTo ps ps.length).map iv).length = 5 := by simp [wsTo_len]
 refine fnC_intro (rs := [.tmp 4]) (nt := 16) F.f19 rfl rfl rfl (by simp) fun hH hA => ?_
 simp only [argsT, Nat.reduceAdd, yardA, yardL]
 repeat refine awp_seq ?_
 refine awp_region (by kernel_rfl) ?_
 simp only [push_cast, Int.cast_ofNat_Int, Int.reduceLE, Int.reduceLT, Int.reduceToNat, Int.reduceNeg, Int.reduceSub, iv, bv, Nat.reduceBEq, reduceCtorEq, Nat.reduceAdd, Nat.reduceLeDiff, Nat.reduceSub, Nat.reduceLT, Nat.reduceMul]
 repeat refine awp_seq ?_
 refine awp_draw F.mixed 11 (by kernel_rfl) ?_
 simp only [push_cast, Int.cast_ofNat_Int, Int.reduceLE, Int.reduceLT, Int.reduceToNat, Int.reduceNeg, Int.reduceSub, iv, bv, Nat.reduceBEq, reduceCtorEq, Nat.reduceAdd, Nat.reduceLeDiff, Nat.reduceSub, Nat.reduceLT, Nat.reduceMul, F.Ty_53]
 refine qCall (iv 0) (callC_func (by kernel_rfl) (f33_c (ps := ps) (xs := [(x : Int), (y : Int)]) hpo ⟨rfl, rfl⟩)) ?_
 simp only [push_cast, Int.cast_ofNat_Int, Int.reduceLE, Int.reduceLT, Int.reduceToNat, Int.reduceNeg, Int.reduceSub, iv, bv, Nat.reduceBEq, reduceCtorEq, Nat.reduceAdd, Nat.reduceLeDiff, Nat.reduceSub, Nat.reduceLT, Nat.reduceMul, F.Ty_53, beq_self_eq_true]
 refine qCall _ (callC_func (by kernel_rfl) (f30_c (ps := ps) h5 ⟨rfl, rfl⟩)) ?_
 refine qCall _ (callC_func (by kernel_rfl) (f28_c (ps := ps) (x := x) (y := y) (p := p) (q := q) h5 hq hp hqo hok ⟨rfl, rfl⟩)) ?_
 repeat refine awp_seq ?_
 refine awp_ret ?_
 simp only [push_cast, Int.cast_ofNat_Int, Int.reduceLE, Int.reduceLT, Int.reduceToNat, Int.reduceNeg, Int.reduceSub, iv, bv, Nat.reduceBEq, reduceCtorEq, Nat.reduceAdd, Nat.reduceLeDiff, Nat.reduceSub, Nat.reduceLT, Nat.reduceMul]
 exact endA hH (Wk.refl _) (by simp [lt_val]) hk
theorem f9_c {ps : List Par} {x y : Nat} {p q : Par} {e : End} (h5 : ps.length <= 5) (hpar : ∀ p ∈ ps, p.Ok) (hq : ps[x]? = some q) (hp : ps[y]? = some p) (hne : x ≠ y) (hk : k (.tup [iv (if p.w <= q.b then 1 else 2), iv 0]) H) : FnC lv Tryd.prog 9 H [yardA ps, .sl 2 [iv x, iv y] e] k kp := by
 have hpo := pile_two (e := e) h5 hpar hq hp hne
 have hqo := hpar q (mem_of_get hq)
 have hok := hpar p (mem_of_get hp)
 refine fnC_intro (rs := [.tmp 4, .tmp 5]) (nt := 28) F.f9 rfl rfl rfl (by simp) fun hH hA => ?_
 simp only [argsT, Nat.reduceAdd, yardA, yardL]
 repeat refine awp_seq ?_
 refine awp_region (by kernel_rfl) ?_
 simp only [push_cast, Int.cast_ofNat_Int, Int.reduceLE, Int.reduceLT, Int.reduceToNat, Int.reduceNeg, Int.reduceSub, iv, bv, Nat.reduceBEq, reduceCtorEq, Nat.reduceAdd, Nat.reduceLeDiff, Nat.reduceSub, Nat.reduceLT, Nat.reduceMul]
 repeat refine awp_seq ?_
 refine awp_region (by kernel_rfl) ?_
 simp only [push_cast, Int.cast_ofNat_Int, Int.reduceLE, Int.reduceLT, Int.reduceToNat, Int.reduceNeg, Int.reduceSub, iv, bv, Nat.reduceBEq, reduceCtorEq, Nat.reduceAdd, Nat.reduceLeDiff, Nat.reduceSub, Nat.reduceLT, Nat.reduceMul, F.Ty_30]
 refine callG (callC_func (by kernel_rfl) (f13_c (ps := ps) (xs := [(x : Int), (y : Int)]) hpo ?_))
 simp only [push_cast, Int.cast_ofNat_Int, Int.reduceLE, Int.reduceLT, Int.reduceToNat, Int.reduceNeg, Int.reduceSub, iv, bv, Nat.reduceBEq, reduceCtorEq, Nat.reduceAdd, Nat.reduceLeDiff, Nat.reduceSub, Nat.reduceLT, Nat.reduceMul, F.ZeroOf_53, F.Ty_53, yardA, yardL, show (aPars ps).leaf = true from rfl]
 repeat refine awp_seq ?_
 refine awp_region (by kernel_rfl) ?_
 simp only [push_cast, Int.cast_ofNat_Int, Int.reduceLE, Int.reduceLT, Int.reduceToNat, Int.reduceNeg, Int.reduceSub, iv, bv, Nat.reduceBEq, reduceCtorEq, Nat.reduceAdd, Nat.reduceLeDiff, Nat.reduceSub, Nat.reduceLT, Nat.reduceMul]
 repeat refine awp_seq ?_
 refine awp_condS ?_
 simp only [push_cast, Int.cast_ofNat_Int, Int.reduceLE, Int.reduceLT, Int.reduceToNat, Int.reduceNeg, Int.reduceSub, iv, bv, Nat.reduceBEq, reduceCtorEq, Nat.reduceAdd, Nat.reduceLeDiff, Nat.reduceSub, Nat.reduceLT, Nat.reduceMul]
 repeat refine awp_seq ?_
 refine awp_skip ?_
 simp only [push_cast, Int.cast_ofNat_Int, Int.reduceLE, Int.reduceLT, Int.reduceToNat, Int.reduceNeg, Int.reduceSub, iv, bv, Nat.reduceBEq, reduceCtorEq, Nat.reduceAdd, Nat.reduceLeDiff, Nat.reduceSub, Nat.reduceLT, Nat.reduceMul]
 repeat refine awp_seq ?_
 refine awp_draw F.mixed 11 (by kernel_rfl) ?_
 simp only [push_cast, Int.cast_ofNat_Int, Int.reduceLE, Int.reduceLT, Int.reduceToNat, Int.reduceNeg, Int.reduceSub, iv, bv, Nat.reduceBEq, reduceCtorEq, Nat.reduceAdd, Nat.reduceLeDiff, Nat.reduceSub, Nat.reduceLT, Nat.reduceMul, F.Ty_53]
 refine qCall _ (callC_func (by kernel_rfl) (f29_c (ps := ps) h5 ⟨rfl, rfl⟩)) ?_
 refine qCall _ (callC_func (by kernel_rfl) (f28_c (ps := ps) (x := x) (y := y) (p := p) (q := q) h5 hq hp hqo hok ⟨rfl, rfl⟩)) ?_
 refine qCall _ (callC_func (by kernel_rfl) (f30_c (ps := ps) h5 ⟨rfl, rfl⟩)) ?_
 refine qCall _ (callC_func (by kernel_rfl) (f28_c (ps := ps) (x := x) (y := y) (p := p) (q := q) h5 hq hp hqo hok ⟨rfl, rfl⟩)) ?_
 refine qCall (iv (if p.w <= q.b then 1 else 2)) (callC_func (by kernel_rfl) (f27_c ⟨by simp, rfl⟩)) ?_
 repeat refine awp_seq ?_
 refine awp_ret ?_
 simp only [push_cast, Int.cast_ofNat_Int, Int.reduceLE, Int.reduceLT, Int.reduceToNat, Int.reduceNeg, Int.reduceSub, iv, bv, Nat.reduceBEq, reduceCtorEq, Nat.reduceAdd, Nat.reduceLeDiff, Nat.reduceSub, Nat.reduceLT, Nat.reduceMul]
 exact endA hH (Wk.refl _) (by simp [lt_val, lt_tup]) hk
theorem f15_c {xs : List Int} {p : Int -> Bool} {so : AV} (hl : xs.length <= 5) (hso : ∀ x ∈ xs, ∀ (L : List AObj) (k kp : AV -> List AObj -> Prop), k (bv (p x)) (H ++ L) -> CallC lv Tryd.prog so (H ++ L) [iv x] k kp) (hss : so.sure = true) (hk : k (aInts (xs.filter p)) H) : FnC lv Tryd.prog 15 H [aInts xs, so] k kp := by
 refine fnC_intro (rs := [.tmp 4]) (nt := 23) F.f15 rfl rfl rfl (by simp) fun hH hA => ?_
 simp only [argsT, Nat.reduceAdd, aInts]
 repeat refine awp_seq ?_
 refine awp_region (by kernel_rfl) ?_
 simp only [push_cast, Int.cast_ofNat_Int, Int.reduceLE, Int.reduceLT, Int.reduceToNat, Int.reduceNeg, Int.reduceSub, iv, bv, Nat.reduceBEq, reduceCtorEq, Nat.reduceAdd, Nat.reduceLeDiff, Nat.reduceSub, Nat.reduceLT, Nat.reduceMul]
 repeat refine awp_seq ?_
 refine awp_region (by kernel_rfl) ?_
 simp only [push_cast, Int.cast_ofNat_Int, Int.reduceLE, Int.reduceLT, Int.reduceToNat, Int.reduceNeg, Int.reduceSub, iv, bv, Nat.reduceBEq, reduceCtorEq, Nat.reduceAdd, Nat.reduceLeDiff, Nat.reduceSub, Nat.reduceLT, Nat.reduceMul]
 (repeat refine awp_seq ?_); refine awp_tail (t := 5) (sz := 1) (el := 3) (by simp only [push_cast, Int.cast_ofNat_Int, Int.reduceLE, Int.reduceLT, Int.reduceToNat, Int.reduceNeg, Int.reduceSub, iv, bv, Nat.reduceBEq, reduceCtorEq, Nat.reduceAdd, Nat.reduceLeDiff, Nat.reduceSub, Nat.reduceLT, Nat.reduceMul] <;> rfl) ?_
 simp only [push_cast, Int.cast_ofNat_Int, Int.reduceLE, Int.reduceLT, Int.reduceToNat, Int.reduceNeg, Int.reduceSub, iv, bv, Nat.reduceBEq, reduceCtorEq, Nat.reduceAdd, Nat.reduceLeDiff, Nat.reduceSub, Nat.reduceLT, Nat.reduceMul]
 repeat refine awp_seq ?_
 refine awp_region (by kernel_rfl) ?_
 simp only [push_cast, Int.cast_ofNat_Int, Int.reduceLE, Int.reduceLT, Int.reduceToNat, Int.reduceNeg, Int.reduceSub, iv, bv, Nat.reduceBEq, reduceCtorEq, Nat.reduceAdd, Nat.reduceLeDiff, Nat.reduceSub, Nat.reduceLT, Nat.reduceMul, F.LenOf_22]
 repeat refine awp_seq ?_
 refine awp_block ?_
 refine awp_for xs.length (fun i : Nat => [(5, .sl ((xs.take i).filter p).length (((xs.take i).filter p).map iv) (.opn H.length)), (10, iv i)]) (fun i => H ++ [.tail ((xs.take i).filter p).length 1 3]) (fun i => True) (fun _ _ => rfl) (by simp only [push_cast, Int.cast_ofNat_Int, Int.reduceLE, Int.reduceLT, Int.reduceToNat, Int.reduceNeg, Int.reduceSub, iv, bv, Nat.reduceBEq, reduceCtorEq, Nat.reduceAdd, Nat.reduceLeDiff, Nat.reduceSub, Nat.reduceLT, Nat.reduceMul, List.forall_mem_cons, List.not_mem_nil, false_imp_iff, implies_true, List.forall_mem_nil]; simp [exists_wk, Wk.refl]) rfl (fun _ _ _ => by simp) trivial (fun hHs hLt i hin hi R hR => ?_)
 repeat refine awp_seq ?_
 refine awp_region (by kernel_rfl) ?_
 simp only [push_cast, Int.cast_ofNat_Int, Int.reduceLE, Int.reduceLT, Int.reduceToNat, Int.reduceNeg, Int.reduceSub, iv, bv, Nat.reduceBEq, reduceCtorEq, Nat.reduceAdd, Nat.reduceLeDiff, Nat.reduceSub, Nat.reduceLT, Nat.reduceMul]
 repeat refine awp_seq ?_
 refine awp_condS ?_
 simp only [push_cast, Int.cast_ofNat_Int, Int.reduceLE, Int.reduceLT, Int.reduceToNat, Int.reduceNeg, Int.reduceSub, iv, bv, Nat.reduceBEq, reduceCtorEq, Nat.reduceAdd, Nat.reduceLeDiff, Nat.reduceSub, Nat.reduceLT, Nat.reduceMul]
 refine ⟨fun h => ?_, fun h => ?_⟩
 ·have hlt : i < xs.length := by omega
  obtain ⟨x, hx⟩ := lt_get hlt
  have hi1 : IntKind.i64.wrap ((i : Int) + 1) = ((i + 1 : Nat) : Int) := by rw [i64_in _ (by omega)]; rfl
  have hle : ((xs.take i).filter p).length <= 5 := Nat.le_trans (List.length_filter_le _ _) (by rw [List.length_take]; omega)
  have hsn : (xs.take (i + 1)).filter p = (xs.take i).filter p ++ (if p x = true then [x] else []) := by
   rw [take_snoc hx, List.filter_append]
   by_cases hpx : p x = true <;> simp [hpx]
  repeat refine awp_seq ?_
  refine awp_skip ?_
  simp only [push_cast, Int.cast_ofNat_Int, Int.reduceLE, Int.reduceLT, Int.reduceToNat, Int.reduceNeg, Int.reduceSub, iv, bv, Nat.reduceBEq, reduceCtorEq, Nat.reduceAdd, Nat.reduceLeDiff, Nat.reduceSub, Nat.reduceLT, Nat.reduceMul]
  repeat refine awp_seq ?_
  refine awp_block ?_
  repeat refine awp_seq ?_
  refine awp_region (by kernel_rfl) ?_
  simp only [push_cast, Int.cast_ofNat_Int, Int.reduceLE, Int.reduceLT, Int.reduceToNat, Int.reduceNeg, Int.reduceSub, iv, bv, Nat.reduceBEq, reduceCtorEq, Nat.reduceAdd, Nat.reduceLeDiff, Nat.reduceSub, Nat.reduceLT, Nat.reduceMul, F.IdxOf_22, F.Ty_3, sh_ints hx, bnd_nat hlt]
  repeat refine awp_seq ?_
  refine awp_region (by kernel_rfl) ?_
  simp only [push_cast, Int.cast_ofNat_Int, Int.reduceLE, Int.reduceLT, Int.reduceToNat, Int.reduceNeg, Int.reduceSub, iv, bv, Nat.reduceBEq, reduceCtorEq, Nat.reduceAdd, Nat.reduceLeDiff, Nat.reduceSub, Nat.reduceLT, Nat.reduceMul]
  refine callG (hso x (mem_of_get hx) _ _ _ ?_)
  simp only [push_cast, Int.cast_ofNat_Int, Int.reduceLE, Int.reduceLT, Int.reduceToNat, Int.reduceNeg, Int.reduceSub, iv, bv, Nat.reduceBEq, reduceCtorEq, Nat.reduceAdd, Nat.reduceLeDiff, Nat.reduceSub, Nat.reduceLT, Nat.reduceMul]
  repeat refine awp_seq ?_
  refine awp_condS ?_
  simp only [push_cast, Int.cast_ofNat_Int, Int.reduceLE, Int.reduceLT, Int.reduceToNat, Int.reduceNeg, Int.reduceSub, iv, bv, Nat.reduceBEq, reduceCtorEq, Nat.reduceAdd, Nat.reduceLeDiff, Nat.reduceSub, Nat.reduceLT, Nat.reduceMul]
  refine ⟨fun h2 => ?_, fun h2 => ?_⟩
  ·rw [if_pos h2] at hsn
   have hsl : ((xs.take i).filter p ++ [x]).length = ((xs.take i).filter p).length + 1 := by simp
   repeat refine awp_seq ?_
   refine awp_region (by kernel_rfl) ?_
   simp only [push_cast, Int.cast_ofNat_Int, Int.reduceLE, Int.reduceLT, Int.reduceToNat, Int.reduceNeg, Int.reduceSub, iv, bv, Nat.reduceBEq, reduceCtorEq, Nat.reduceAdd, Nat.reduceLeDiff, Nat.reduceSub, Nat.reduceLT, Nat.reduceMul, F.SliceOf_22, F.AppOf_22_22, z1, p24_1, List.length_map]
   refine ⟨by omega, ?_⟩
   repeat refine awp_seq ?_
   refine awp_region (by kernel_rfl) ?_
   simp only [push_cast, Int.cast_ofNat_Int, Int.reduceLE, Int.reduceLT, Int.reduceToNat, Int.reduceNeg, Int.reduceSub, iv, bv, Nat.reduceBEq, reduceCtorEq, Nat.reduceAdd, Nat.reduceLeDiff, Nat.reduceSub, Nat.reduceLT, Nat.reduceMul, hi1]
   refine hR _ ⟨hlt, trivial, ?_⟩
   rw [hsn, hsl, List.map_append]
   exact (round_keep (keeps_rfl rfl rfl) (by simp only [push_cast, Int.cast_ofNat_Int, Int.reduceLE, Int.reduceLT, Int.reduceToNat, Int.reduceNeg, Int.reduceSub, iv, bv, Nat.reduceBEq, reduceCtorEq, Nat.reduceAdd, Nat.reduceLeDiff, Nat.reduceSub, Nat.reduceLT, Nat.reduceMul]; simp [exists_wk, Wk.refl]))
  ·rw [if_neg (by simp [h2]), List.append_nil] at hsn
   repeat refine awp_seq ?_
   refine awp_skip ?_
   simp only [push_cast, Int.cast_ofNat_Int, Int.reduceLE, Int.reduceLT, Int.reduceToNat, Int.reduceNeg, Int.reduceSub, iv, bv, Nat.reduceBEq, reduceCtorEq, Nat.reduceAdd, Nat.reduceLeDiff, Nat.reduceSub, Nat.reduceLT, Nat.reduceMul]
   repeat refine awp_seq ?_
   refine awp_region (by kernel_rfl) ?_
   simp only [push_cast, Int.cast_ofNat_Int, Int.reduceLE, Int.reduceLT, Int.reduceToNat, Int.reduceNeg, Int.reduceSub, iv, bv, Nat.reduceBEq, reduceCtorEq, Nat.reduceAdd, Nat.reduceLeDiff, Nat.reduceSub, Nat.reduceLT, Nat.reduceMul, hi1]
   refine hR _ ⟨hlt, trivial, ?_⟩
   rw [hsn]
   exact (round_keep (keeps_rfl rfl rfl) (by simp only [push_cast, Int.cast_ofNat_Int, Int.reduceLE, Int.reduceLT, Int.reduceToNat, Int.reduceNeg, Int.reduceSub, iv, bv, Nat.reduceBEq, reduceCtorEq, Nat.reduceAdd, Nat.reduceLeDiff, Nat.reduceSub, Nat.reduceLT, Nat.reduceMul]; simp [exists_wk, Wk.refl]))
 ·have hi : i = xs.length := by omega
  subst hi
  repeat refine awp_seq ?_
  refine awp_exit ?_
  simp only [push_cast, Int.cast_ofNat_Int, Int.reduceLE, Int.reduceLT, Int.reduceToNat, Int.reduceNeg, Int.reduceSub, iv, bv, Nat.reduceBEq, reduceCtorEq, Nat.reduceAdd, Nat.reduceLeDiff, Nat.reduceSub, Nat.reduceLT, Nat.reduceMul]
  repeat refine awp_seq ?_
  refine awp_region (by kernel_rfl) ?_
  simp only [push_cast, Int.cast_ofNat_Int, Int.reduceLE, Int.reduceLT, Int.reduceToNat, Int.reduceNeg, Int.reduceSub, iv, bv, Nat.reduceBEq, reduceCtorEq, Nat.reduceAdd, Nat.reduceLeDiff, Nat.reduceSub, Nat.reduceLT, Nat.reduceMul]
  repeat refine awp_seq ?_
  refine awp_ret ?_
  simp only [push_cast, Int.cast_ofNat_Int, Int.reduceLE, Int.reduceLT, Int.reduceToNat, Int.reduceNeg, Int.reduceSub, iv, bv, Nat.reduceBEq, reduceCtorEq, Nat.reduceAdd, Nat.reduceLeDiff, Nat.reduceSub, Nat.reduceLT, Nat.reduceMul]
  rw [List.take_length]
  exact endA hH (wk_shut _ _ _) (by rw [show AV.sl (xs.filter p).length ((xs.filter p).map iv) .shut = aInts (xs.filter p) from rfl, lt_ints]; trivial) hk
theorem f17_c {ps : List Par} {x n : Nat} {M Y X : Nat} {q p : Par} {e : End} (h5 : ps.length <= 5) (hpar : ∀ p ∈ ps, p.Ok) (hq : ps[x]? = some q) (hp : ps[n]? = some p) (hM : H[M]? = some (.cells [uv (bitsL [(x : Int)])] 56)) (hY : H[Y]? = some (.cells (yardL ps) 53)) (hX : H[X]? = some (.cells [.sl 1 [iv x] e] 22)) (hk : k (bv (decide (n ≠ x) && decide (p.w <= q.b))) H) : FnC lv Tryd.prog 17 H [iv n, .op M 0, .op Y 0, .op X 0] k kp := by
 refine fnC_intro (rs := [.tmp 5]) (nt := 23) F.f17 rfl rfl rfl (by simp) fun hH hA => ?_
 simp only [argsT, Nat.reduceAdd]
 have hgM : ∀ L : List AObj, (H ++ L)[M]? = some (.cells [uv (bitsL [(x : Int)])] 56) := fun L => get_app hM
 have hgY : ∀ L : List AObj, (H ++ L)[Y]? = some (.cells (yardL ps) 53) := fun L => get_app hY
 have hgX : ∀ L : List AObj, (H ++ L)[X]? = some (.cells [.sl 1 [iv x] e] 22) := fun L => get_app hX
 simp only [yardL] at hY hgY
 have hxl := get_lt hq
 have hnl := get_lt hp
 have hbit : (bitsL [(x : Int)]).testBit n = decide (x = n) := by rw [bitsL_bit]; simp
 have hm : bitsL [(x : Int)] < 256 := bitsL_lt fun z hz => by rw [List.mem_singleton.1 hz]; simp; omega
 repeat refine awp_seq ?_
 refine awp_region (by kernel_rfl) ?_
 simp only [push_cast, Int.cast_ofNat_Int, Int.reduceLE, Int.reduceLT, Int.reduceToNat, Int.reduceNeg, Int.reduceSub, iv, bv, Nat.reduceBEq, reduceCtorEq, Nat.reduceAdd, Nat.reduceLeDiff, Nat.reduceSub, Nat.reduceLT, Nat.reduceMul]
 repeat refine awp_seq ?_
 refine awp_draw F.mixed 17 (by kernel_rfl) ?_
 simp only [push_cast, Int.cast_ofNat_Int, Int.reduceLE, Int.reduceLT, Int.reduceToNat, Int.reduceNeg, Int.reduceSub, iv, bv, Nat.reduceBEq, reduceCtorEq, Nat.reduceAdd, Nat.reduceLeDiff, Nat.reduceSub, Nat.reduceLT, Nat.reduceMul, F.Ty_56, F.Ty_53, F.Ty_22, F.LenOf_22, F.IsSliceOf_22, F.IsArrOf_22, F.SliceOf_22, F.AppOf_22_22, hM, hY, hX, hgM, hgY, hgX, z1, p24_1]
 by_cases hxn : x = n
 ·have hb : (bitsL [(x : Int)]).testBit n = true := by rw [hbit]; simp [hxn]
  have hd : (decide (n ≠ x) && decide (p.w <= q.b)) = false := by simp [hxn]
  rw [hd] at hk
  refine qCall (bv true) (callC_func (by kernel_rfl) (f18_c hm (by omega) (by rw [hb]; exact ⟨rfl, rfl⟩))) ?_
  simp only [push_cast, Int.cast_ofNat_Int, Int.reduceLE, Int.reduceLT, Int.reduceToNat, Int.reduceNeg, Int.reduceSub, iv, bv, Nat.reduceBEq, reduceCtorEq, Nat.reduceAdd, Nat.reduceLeDiff, Nat.reduceSub, Nat.reduceLT, Nat.reduceMul]
  repeat refine awp_seq ?_
  refine awp_ret ?_
  simp only [push_cast, Int.cast_ofNat_Int, Int.reduceLE, Int.reduceLT, Int.reduceToNat, Int.reduceNeg, Int.reduceSub, iv, bv, Nat.reduceBEq, reduceCtorEq, Nat.reduceAdd, Nat.reduceLeDiff, Nat.reduceSub, Nat.reduceLT, Nat.reduceMul]
  exact endOf_here hk
 ·have hb : (bitsL [(x : Int)]).testBit n = false := by rw [hbit]; simp [hxn]
  have hd : (decide (n ≠ x) && decide (p.w <= q.b)) = decide (p.w <= q.b) := by rw [decide_eq_true (show n ≠ x from fun h => hxn h.symm), Bool.true_and]
  rw [hd] at hk
  refine qCall (bv false) (callC_func (by kernel_rfl) (f18_c hm (by omega) (by rw [hb]; exact ⟨rfl, rfl⟩))) ?_
  simp only [push_cast, Int.cast_ofNat_Int, Int.reduceLE, Int.reduceLT, Int.reduceToNat, Int.reduceNeg, Int.reduceSub, iv, bv, Nat.reduceBEq, reduceCtorEq, Nat.reduceAdd, Nat.reduceLeDiff, Nat.reduceSub, Nat.reduceLT, Nat.reduceMul, F.Ty_56, F.Ty_53, F.Ty_22, F.LenOf_22, F.IsSliceOf_22, F.IsArrOf_22, F.SliceOf_22, F.AppOf_22_22, hM, hY, hX, z1, p24_1]
  refine ⟨rfl, by decide, ?_⟩
  refine qCall _ (callC_func (by kernel_rfl) (f19_c (ps := ps) (x := x) (y := n) (p := p) (q := q) h5 hpar hq hp hxn ⟨rfl, rfl⟩)) ?_
  repeat refine awp_seq ?_
  refine awp_ret ?_
  simp only [push_cast, Int.cast_ofNat_Int, Int.reduceLE, Int.reduceLT, Int.reduceToNat, Int.reduceNeg, Int.reduceSub, iv, bv, Nat.reduceBEq, reduceCtorEq, Nat.reduceAdd, Nat.reduceLeDiff, Nat.reduceSub, Nat.reduceLT, Nat.reduceMul]
  exact endOf_here hk
def onM (ps : List Par) (x : Nat) (q : Par) : List Int := (belowM ps.length).filter fun n => match ps[n.toNat]? with | some p => decide (n.toNat ≠ x) && decide (p.w <= q.b) | none => false
theorem f6_c {ps : List Par} {x : Nat} {q : Par} {e : End} (h5 : ps.length <= 5) (hpar : ∀ p ∈ ps, p.Ok) (hq : ps[x]? = some q) (hk : k (.tup [aInts (onM ps x q), iv 0]) H) : FnC lv Tryd.prog 6 H [yardA ps, .sl 1 [iv x] e] k kp := by
 have hxl := get_lt hq
 have hpo : PileOk ps [(x : Int)] := ⟨h5, hpar, by simp, fun z hz => by rw [List.mem_singleton.1 hz]; omega, by simp⟩
 refine fnC_intro (rs := [.tmp 4, .tmp 5]) (nt := 24) F.f6 rfl rfl rfl (by simp) fun hH hA => ?_
 simp only [argsT, Nat.reduceAdd, yardA, yardL]
 repeat refine awp_seq ?_
 refine awp_region (by kernel_rfl) ?_
 simp only [push_cast, Int.cast_ofNat_Int, Int.reduceLE, Int.reduceLT, Int.reduceToNat, Int.reduceNeg, Int.reduceSub, iv, bv, Nat.reduceBEq, reduceCtorEq, Nat.reduceAdd, Nat.reduceLeDiff, Nat.reduceSub, Nat.reduceLT, Nat.reduceMul]
 repeat refine awp_seq ?_
 refine awp_region (by kernel_rfl) ?_
 simp only [push_cast, Int.cast_ofNat_Int, Int.reduceLE, Int.reduceLT, Int.reduceToNat, Int.reduceNeg, Int.reduceSub, iv, bv, Nat.reduceBEq, reduceCtorEq, Nat.reduceAdd, Nat.reduceLeDiff, Nat.reduceSub, Nat.reduceLT, Nat.reduceMul, F.Ty_30, F.Ty_22]
 refine callG (callC_func (by kernel_rfl) (f13_c (ps := ps) (xs := [(x : Int)]) hpo ?_))
 simp only [push_cast, Int.cast_ofNat_Int, Int.reduceLE, Int.reduceLT, Int.reduceToNat, Int.reduceNeg, Int.reduceSub, iv, bv, Nat.reduceBEq, reduceCtorEq, Nat.reduceAdd, Nat.reduceLeDiff, Nat.reduceSub, Nat.reduceLT, Nat.reduceMul, F.ZeroOf_53, F.Ty_53, yardA, yardL, show (aPars ps).leaf = true from rfl]
 repeat refine awp_seq ?_
 refine awp_region (by kernel_rfl) ?_
 simp only [push_cast, Int.cast_ofNat_Int, Int.reduceLE, Int.reduceLT, Int.reduceToNat, Int.reduceNeg, Int.reduceSub, iv, bv, Nat.reduceBEq, reduceCtorEq, Nat.reduceAdd, Nat.reduceLeDiff, Nat.reduceSub, Nat.reduceLT, Nat.reduceMul]
 repeat refine awp_seq ?_
 refine awp_condS ?_
 simp only [push_cast, Int.cast_ofNat_Int, Int.reduceLE, Int.reduceLT, Int.reduceToNat, Int.reduceNeg, Int.reduceSub, iv, bv, Nat.reduceBEq, reduceCtorEq, Nat.reduceAdd, Nat.reduceLeDiff, Nat.reduceSub, Nat.reduceLT, Nat.reduceMul]
 repeat refine awp_seq ?_
 refine awp_skip ?_
 simp only [push_cast, Int.cast_ofNat_Int, Int.reduceLE, Int.reduceLT, Int.reduceToNat, Int.reduceNeg, Int.reduceSub, iv, bv, Nat.reduceBEq, reduceCtorEq, Nat.reduceAdd, Nat.reduceLeDiff, Nat.reduceSub, Nat.reduceLT, Nat.reduceMul]
 repeat refine awp_seq ?_
 refine awp_region (by kernel_rfl) ?_
 simp only [push_cast, Int.cast_ofNat_Int, Int.reduceLE, Int.reduceLT, Int.reduceToNat, Int.reduceNeg, Int.reduceSub, iv, bv, Nat.reduceBEq, reduceCtorEq, Nat.reduceAdd, Nat.reduceLeDiff, Nat.reduceSub, Nat.reduceLT, Nat.reduceMul, F.Ty_22]
 refine callG (callC_func (by kernel_rfl) (f14_c (xs := [(x : Int)]) (fun z hz => by rw [List.mem_singleton.1 hz]; omega) (by simp) ?_))
 simp only [push_cast, Int.cast_ofNat_Int, Int.reduceLE, Int.reduceLT, Int.reduceToNat, Int.reduceNeg, Int.reduceSub, iv, bv, Nat.reduceBEq, reduceCtorEq, Nat.reduceAdd, Nat.reduceLeDiff, Nat.reduceSub, Nat.reduceLT, Nat.reduceMul, F.ZeroOf_56, F.Ty_56]
 repeat refine awp_seq ?_
 refine awp_region (by kernel_rfl) ?_
 simp only [push_cast, Int.cast_ofNat_Int, Int.reduceLE, Int.reduceLT, Int.reduceToNat, Int.reduceNeg, Int.reduceSub, iv, bv, Nat.reduceBEq, reduceCtorEq, Nat.reduceAdd, Nat.reduceLeDiff, Nat.reduceSub, Nat.reduceLT, Nat.reduceMul, F.Ty_53]
 refine callG (callC_func (by kernel_rfl) (f16_c (ps := ps) h5 ?_))
 simp only [push_cast, Int.cast_ofNat_Int, Int.reduceLE, Int.reduceLT, Int.reduceToNat, Int.reduceNeg, Int.reduceSub, iv, bv, Nat.reduceBEq, reduceCtorEq, Nat.reduceAdd, Nat.reduceLeDiff, Nat.reduceSub, Nat.reduceLT, Nat.reduceMul, List.mapM_cons, List.mapM_nil, Option.pure_def, Option.bind_eq_bind]
 refine callG (callC_func (by kernel_rfl) (f15_c (xs := belowM ps.length) (p := fun n => match ps[n.toNat]? with | some p => decide (n.toNat ≠ x) && decide (p.w <= q.b) | none => false) (by rw [belowM_len]; exact h5) (fun z hz L k kp hk => ?_) rfl ?_))
 ·obtain ⟨j, hj, rfl⟩ : ∃ j : Nat, j < ps.length /\ (j : Int) = z := by
   unfold belowM at hz
   obtain ⟨j, hj, rfl⟩ := List.mem_map.1 hz
   exact ⟨j, List.mem_range.1 hj, rfl⟩
  obtain ⟨p, hp⟩ := lt_get hj
  simp only [Int.toNat_natCast, hp] at hk
  exact callC_func (by kernel_rfl) (f17_c (ps := ps) (x := x) (n := j) (q := q) (p := p) (e := e) h5 hpar hq hp (get_app (get_at H _ 3)) (get_app (get_at H _ 2)) (get_app (get_at H _ 1)) hk)
 ·simp only [push_cast, Int.cast_ofNat_Int, Int.reduceLE, Int.reduceLT, Int.reduceToNat, Int.reduceNeg, Int.reduceSub, iv, bv, Nat.reduceBEq, reduceCtorEq, Nat.reduceAdd, Nat.reduceLeDiff, Nat.reduceSub, Nat.reduceLT, Nat.reduceMul]
  repeat refine awp_seq ?_
  refine awp_ret ?_
  simp only [push_cast, Int.cast_ofNat_Int, Int.reduceLE, Int.reduceLT, Int.reduceToNat, Int.reduceNeg, Int.reduceSub, iv, bv, Nat.reduceBEq, reduceCtorEq, Nat.reduceAdd, Nat.reduceLeDiff, Nat.reduceSub, Nat.reduceLT, Nat.reduceMul]
  exact endA hH (Wk.refl _) (by simp [lt_tup, lt_val, lt_ints]) hk
theorem f10_c {xs : List Int} {n : Int} {e : End} (hl : xs.length <= 2 ^ 30) (hk : k (iv (match xs.findIdx? (· == n) with | some i => (i : Int) | none => -1)) H) : FnC lv Tryd.prog 10 H [.sl xs.length (xs.map iv) e, iv n] k kp := by
 refine fnC_intro (rs := [.tmp 4]) (nt := 19) F.f10 rfl rfl rfl (by simp) fun hH hA => ?_
 simp only [argsT, Nat.reduceAdd]
 repeat refine awp_seq ?_
 refine awp_region (by kernel_rfl) ?_
 simp only [push_cast, Int.cast_ofNat_Int, Int.reduceLE, Int.reduceLT, Int.reduceToNat, Int.reduceNeg, Int.reduceSub, iv, bv, Nat.reduceBEq, reduceCtorEq, Nat.reduceAdd, Nat.reduceLeDiff, Nat.reduceSub, Nat.reduceLT, Nat.reduceMul]
 repeat refine awp_seq ?_
 refine awp_region (by kernel_rfl) ?_
 simp only [push_cast, Int.cast_ofNat_Int, Int.reduceLE, Int.reduceLT, Int.reduceToNat, Int.reduceNeg, Int.reduceSub, iv, bv, Nat.reduceBEq, reduceCtorEq, Nat.reduceAdd, Nat.reduceLeDiff, Nat.reduceSub, Nat.reduceLT, Nat.reduceMul]
 repeat refine awp_seq ?_
 refine awp_block ?_
 refine awp_for xs.length (fun i : Nat => [(5, iv i)]) (fun _ => H) (fun i => ∀ j, j < i -> ∀ x, xs[j]? = some x -> x ≠ n) (fun _ _ => rfl) (by simp only [push_cast, Int.cast_ofNat_Int, Int.reduceLE, Int.reduceLT, Int.reduceToNat, Int.reduceNeg, Int.reduceSub, iv, bv, Nat.reduceBEq, reduceCtorEq, Nat.reduceAdd, Nat.reduceLeDiff, Nat.reduceSub, Nat.reduceLT, Nat.reduceMul, List.forall_mem_cons, List.not_mem_nil, false_imp_iff, implies_true, List.forall_mem_nil]; simp [exists_wk, Wk.refl]) rfl (fun _ _ _ => rfl) (fun j h => by omega) (fun hHs hLt i hin hi R hR => ?_)
 repeat refine awp_seq ?_
 refine awp_region (by kernel_rfl) ?_
 simp only [push_cast, Int.cast_ofNat_Int, Int.reduceLE, Int.reduceLT, Int.reduceToNat, Int.reduceNeg, Int.reduceSub, iv, bv, Nat.reduceBEq, reduceCtorEq, Nat.reduceAdd, Nat.reduceLeDiff, Nat.reduceSub, Nat.reduceLT, Nat.reduceMul, F.LenOf_22]
 repeat refine awp_seq ?_
 refine awp_condS ?_
 simp only [push_cast, Int.cast_ofNat_Int, Int.reduceLE, Int.reduceLT, Int.reduceToNat, Int.reduceNeg, Int.reduceSub, iv, bv, Nat.reduceBEq, reduceCtorEq, Nat.reduceAdd, Nat.reduceLeDiff, Nat.reduceSub, Nat.reduceLT, Nat.reduceMul]
 refine ⟨fun h => ?_, fun h => ?_⟩
 ·have hlt : i < xs.length := by omega
  obtain ⟨x, hx⟩ := lt_get hlt
  have hi1 : IntKind.i64.wrap ((i : Int) + 1) = ((i + 1 : Nat) : Int) := by rw [i64_in _ (by omega)]; rfl
  repeat refine awp_seq ?_
  refine awp_skip ?_
  simp only [push_cast, Int.cast_ofNat_Int, Int.reduceLE, Int.reduceLT, Int.reduceToNat, Int.reduceNeg, Int.reduceSub, iv, bv, Nat.reduceBEq, reduceCtorEq, Nat.reduceAdd, Nat.reduceLeDiff, Nat.reduceSub, Nat.reduceLT, Nat.reduceMul]
  repeat refine awp_seq ?_
  refine awp_block ?_
  repeat refine awp_seq ?_
  refine awp_region (by kernel_rfl) ?_
  simp only [push_cast, Int.cast_ofNat_Int, Int.reduceLE, Int.reduceLT, Int.reduceToNat, Int.reduceNeg, Int.reduceSub, iv, bv, Nat.reduceBEq, reduceCtorEq, Nat.reduceAdd, Nat.reduceLeDiff, Nat.reduceSub, Nat.reduceLT, Nat.reduceMul, F.IdxOf_22, F.Ty_3, sh_ints hx, bnd_nat hlt]
  repeat refine awp_seq ?_
  refine awp_condS ?_
  simp only [push_cast, Int.cast_ofNat_Int, Int.reduceLE, Int.reduceLT, Int.reduceToNat, Int.reduceNeg, Int.reduceSub, iv, bv, Nat.reduceBEq, reduceCtorEq, Nat.reduceAdd, Nat.reduceLeDiff, Nat.reduceSub, Nat.reduceLT, Nat.reduceMul]
  refine ⟨fun h2 => ?_, fun h2 => ?_⟩
  ·have hxn : x = n := by simpa using h2
   have hf : xs.findIdx? (· == n) = some i := by
    rw [List.findIdx?_eq_some_iff_getElem]
    refine ⟨hlt, ?_, fun j hj => ?_⟩
    ·rw [List.getElem?_eq_getElem hlt] at hx
     rw [Option.some.inj hx]; simp [hxn]
    ·have := hi j hj xs[j] (List.getElem?_eq_getElem (by omega))
     simpa using this
   rw [hf] at hk
   repeat refine awp_seq ?_
   refine awp_region (by kernel_rfl) ?_
   simp only [push_cast, Int.cast_ofNat_Int, Int.reduceLE, Int.reduceLT, Int.reduceToNat, Int.reduceNeg, Int.reduceSub, iv, bv, Nat.reduceBEq, reduceCtorEq, Nat.reduceAdd, Nat.reduceLeDiff, Nat.reduceSub, Nat.reduceLT, Nat.reduceMul]
   repeat refine awp_seq ?_
   refine awp_ret ?_
   simp only [push_cast, Int.cast_ofNat_Int, Int.reduceLE, Int.reduceLT, Int.reduceToNat, Int.reduceNeg, Int.reduceSub, iv, bv, Nat.reduceBEq, reduceCtorEq, Nat.reduceAdd, Nat.reduceLeDiff, Nat.reduceSub, Nat.reduceLT, Nat.reduceMul]
   exact endOf_here hk
  ·have hxn : ¬ x = n := by simpa using h2
   repeat refine awp_seq ?_
   refine awp_skip ?_
   simp only [push_cast, Int.cast_ofNat_Int, Int.reduceLE, Int.reduceLT, Int.reduceToNat, Int.reduceNeg, Int.reduceSub, iv, bv, Nat.reduceBEq, reduceCtorEq, Nat.reduceAdd, Nat.reduceLeDiff, Nat.reduceSub, Nat.reduceLT, Nat.reduceMul]
   repeat refine awp_seq ?_
   refine awp_region (by kernel_rfl) ?_
   simp only [push_cast, Int.cast_ofNat_Int, Int.reduceLE, Int.reduceLT, Int.reduceToNat, Int.reduceNeg, Int.reduceSub, iv, bv, Nat.reduceBEq, reduceCtorEq, Nat.reduceAdd, Nat.reduceLeDiff, Nat.reduceSub, Nat.reduceLT, Nat.reduceMul, hi1]
   refine hR _ ⟨hlt, fun j hj y hy => ?_, ?_⟩
   ·by_cases e : j = i
    ·subst e; rw [hx] at hy; cases hy; exact hxn
    ·exact hi j (by omega) y hy
   ·exact (round_keep (keeps_rfl rfl rfl) (by simp only [push_cast, Int.cast_ofNat_Int, Int.reduceLE, Int.reduceLT, Int.reduceToNat, Int.reduceNeg, Int.reduceSub, iv, bv, Nat.reduceBEq, reduceCtorEq, Nat.reduceAdd, Nat.reduceLeDiff, Nat.reduceSub, Nat.reduceLT, Nat.reduceMul]; simp [exists_wk, Wk.refl]))
 ·have hie : i = xs.length := by omega
  subst hie
  have hf : xs.findIdx? (· == n) = none := by
   rw [List.findIdx?_eq_none_iff]
   intro x hx
   obtain ⟨j, hj, rfl⟩ := List.mem_iff_getElem.1 hx
   have := hi j hj _ (List.getElem?_eq_getElem hj)
   simpa using this
  rw [hf] at hk
  repeat refine awp_seq ?_
  refine awp_exit ?_
  simp only [push_cast, Int.cast_ofNat_Int, Int.reduceLE, Int.reduceLT, Int.reduceToNat, Int.reduceNeg, Int.reduceSub, iv, bv, Nat.reduceBEq, reduceCtorEq, Nat.reduceAdd, Nat.reduceLeDiff, Nat.reduceSub, Nat.reduceLT, Nat.reduceMul]
  repeat refine awp_seq ?_
  refine awp_region (by kernel_rfl) ?_
  simp only [push_cast, Int.cast_ofNat_Int, Int.reduceLE, Int.reduceLT, Int.reduceToNat, Int.reduceNeg, Int.reduceSub, iv, bv, Nat.reduceBEq, reduceCtorEq, Nat.reduceAdd, Nat.reduceLeDiff, Nat.reduceSub, Nat.reduceLT, Nat.reduceMul]
  repeat refine awp_seq ?_
  refine awp_ret ?_
  simp only [push_cast, Int.cast_ofNat_Int, Int.reduceLE, Int.reduceLT, Int.reduceToNat, Int.reduceNeg, Int.reduceSub, iv, bv, Nat.reduceBEq, reduceCtorEq, Nat.reduceAdd, Nat.reduceLeDiff, Nat.reduceSub, Nat.reduceLT, Nat.reduceMul]
  exact endOf_here hk
end
structure TinS where
 nums : List Int
 g : Int
 s : Int
def tinO (τ : TinS) : AObj := .cells [aInts τ.nums, .val (.int .i64 τ.g), .val (.int .u64 τ.s)] 50
def xorU (a b : Int) : Int := IntKind.u64.wrap (BitVec.ofInt IntKind.u64.bits a ^^^ BitVec.ofInt IntKind.u64.bits b).toNat
def word0 (g : Int) : Int := IntKind.u64.wrap (IntKind.u64.wrap (IntKind.u64.wrap g * 15074714826142052245) + 11400714819323198485)
def wordT (τ : TinS) : Int := match τ.nums[τ.g.toNat]? with
 | some x => xorU (word0 τ.g) (IntKind.u64.wrap (IntKind.u64.wrap x * 12620523164723586485))
 | none => word0 τ.g
def mix1 (s w : Int) : Int := IntKind.u64.wrap (IntKind.u64.wrap (s + w) * 13787848793156543929)
def mix2 (s : Int) : Int := xorU s (s.fdiv (2 ^ min 31 IntKind.u64.bits))
def out1 (s : Int) : Int := (xorU s (s.fdiv (2 ^ min 27 IntKind.u64.bits))).fdiv (2 ^ min 9 IntKind.u64.bits)
def tick (τ : TinS) : TinS := ⟨τ.nums, τ.g + 1, mix2 (mix1 τ.s (wordT τ))⟩
def outT (τ : TinS) : Int := out1 (IntKind.u64.wrap ((tick τ).s * 10723151780598845931))
theorem u64_in (n : Int) (h0 : 0 <= n) (h : n < 2 ^ 64) : IntKind.u64.wrap n = n := by
 have h1 : IntKind.u64.bits = 64 := rfl
 have h2 : IntKind.u64.signed = false := rfl
 unfold IntKind.wrap
 rw [h1, h2]
 simp
 omega
theorem u64_range (n : Int) : 0 <= IntKind.u64.wrap n /\ IntKind.u64.wrap n < 2 ^ 64 := by
 have h1 : IntKind.u64.bits = 64 := rfl
 have h2 : IntKind.u64.signed = false := rfl
 unfold IntKind.wrap
 rw [h1, h2]
 simp
 omega
theorem out1_range (s : Int) : 0 <= out1 s /\ out1 s < 2 ^ 55 := by
 unfold out1 xorU
 have h := u64_range (BitVec.ofInt IntKind.u64.bits s ^^^ BitVec.ofInt IntKind.u64.bits (s.fdiv (2 ^ min 27 IntKind.u64.bits))).toNat
 have e : (2 : Int) ^ min 9 IntKind.u64.bits = 512 := by decide
 rw [e, Int.fdiv_eq_ediv_of_nonneg _ (show (0 : Int) <= 512 by decide)]
 omega
def uptoT (τ : TinS) (n : Int) : Int := if n < 1 then 0 else (outT τ).tmod (n + 1)
theorem uptoT_range (τ : TinS) (n : Int) : 0 <= uptoT τ n /\ (uptoT τ n <= n \/ uptoT τ n = 0) := by
 unfold uptoT
 split
 ·omega
 ·have h := (out1_range (IntKind.u64.wrap ((tick τ).s * 10723151780598845931))).1
  have h1 := Int.tmod_nonneg (n + 1) h
  have h2 := Int.tmod_lt_of_pos (outT τ) (show 0 < n + 1 by omega)
  unfold outT at h2 ⊢
  omega
structure TinAt (Gf : TinS -> List AObj) (t N : Nat) : Prop where
 len : ∀ τ, (Gf τ).length = N
 get : ∀ τ, (Gf τ)[t]? = some (tinO τ)
 set : ∀ τ τ', (Gf τ).set t (tinO τ') = Gf τ'
 ok : ∀ m τ τ', (∀ z ∈ Gf τ, OLt m z) -> ∀ z ∈ Gf τ', OLt m z
theorem TinAt.more {Gf : TinS -> List AObj} {t N : Nat} (h : TinAt Gf t N) (L : List AObj) : TinAt (fun τ => Gf τ ++ L) t (N + L.length) where
 len := fun τ => by simp [h.len]
 get := fun τ => get_app (h.get τ)
 set := fun τ τ' => by show (Gf τ ++ L).set t _ = _; rw [List.set_append_left _ _ (get_lt (h.get τ)), h.set]
 ok := fun m τ τ' hk z hz => (List.mem_append.1 hz).elim (fun hz => h.ok m τ τ' (fun v hv => hk v (List.mem_append_left _ hv)) z hz) (fun hz => hk z (List.mem_append_right _ hz))
theorem TinAt.hok {Gf : TinS -> List AObj} {t N : Nat} (h : TinAt Gf t N) {τ : TinS} (hH : HOk (Gf τ)) (τ' : TinS) : HOk (Gf τ') := fun z hz => by
 have := h.ok N τ τ' (fun w hw => by have := hH w hw; rwa [h.len] at this) z hz
 rwa [h.len]
section
variable {Gf : TinS -> List AObj} {t N : Nat} (h : TinAt Gf t N)
include h
theorem TinAt.g0 (τ : TinS) (L : List AObj) : (Gf τ ++ L)[N]? = L[0]? := by have := app_get (Gf τ) L 0; rwa [h.len] at this
theorem TinAt.g1 (τ : TinS) (L : List AObj) : (Gf τ ++ L)[N + 1]? = L[1]? := by have := app_get (Gf τ) L 1; rwa [h.len] at this
theorem TinAt.g2 (τ : TinS) (L : List AObj) : (Gf τ ++ L)[N + 1 + 1]? = L[2]? := by have := app_get (Gf τ) L 2; rwa [h.len] at this
theorem TinAt.g3 (τ : TinS) (L : List AObj) : (Gf τ ++ L)[N + 1 + 1 + 1]? = L[3]? := by have := app_get (Gf τ) L 3; rwa [h.len] at this
theorem TinAt.h2 (τ : TinS) (L : List AObj) : (Gf τ ++ L)[N + 2]? = L[2]? := h.g2 τ L
theorem TinAt.h3 (τ : TinS) (L : List AObj) : (Gf τ ++ L)[N + 3]? = L[3]? := h.g3 τ L
theorem TinAt.s0 (τ : TinS) (L : List AObj) (x : AObj) : (Gf τ ++ L).set N x = Gf τ ++ L.set 0 x := by have := app_set (Gf τ) L 0 x; rwa [h.len] at this
theorem TinAt.s1 (τ : TinS) (L : List AObj) (x : AObj) : (Gf τ ++ L).set (N + 1) x = Gf τ ++ L.set 1 x := by have := app_set (Gf τ) L 1 x; rwa [h.len] at this
theorem TinAt.s2 (τ : TinS) (L : List AObj) (x : AObj) : (Gf τ ++ L).set (N + 1 + 1) x = Gf τ ++ L.set 2 x := by have := app_set (Gf τ) L 2 x; rwa [h.len] at this
theorem TinAt.s3 (τ : TinS) (L : List AObj) (x : AObj) : (Gf τ ++ L).set (N + 1 + 1 + 1) x = Gf τ ++ L.set 3 x := by have := app_set (Gf τ) L 3 x; rwa [h.len] at this
theorem TinAt.t2 (τ : TinS) (L : List AObj) (x : AObj) : (Gf τ ++ L).set (N + 2) x = Gf τ ++ L.set 2 x := h.s2 τ L x
theorem TinAt.t3 (τ : TinS) (L : List AObj) (x : AObj) : (Gf τ ++ L).set (N + 3) x = Gf τ ++ L.set 3 x := h.s3 τ L x
end
theorem olt_tin (m : Nat) (τ : TinS) : OLt m (tinO τ) := by
 intro a ha
 simp only [List.mem_cons, List.not_mem_nil, or_false] at ha
 rcases ha with rfl | rfl | rfl
 ·rw [lt_ints]; trivial
 ·exact .val _
 ·exact .val _
theorem tinAt_new (H : List AObj) : TinAt (fun τ => H ++ [tinO τ]) H.length (H.length + 1) where
 len := fun τ => by simp
 get := fun τ => by simp
 set := fun τ τ' => by simp
 ok := fun m τ τ' hk z hz => by
  rcases List.mem_append.1 hz with hz | hz
  ·exact hk z (List.mem_append_left _ hz)
  ·rw [List.mem_singleton.1 hz]; exact olt_tin _ _
structure TinS.Ok (τ : TinS) (b : Int) : Prop where
 g0 : 0 <= τ.g
 g : τ.g <= b
 len : τ.nums.length <= 2 ^ 50
section
variable {lv : Bool} {H : List AObj} {k kp : AV -> List AObj -> Prop} {Gf : TinS -> List AObj} {t N : Nat} {τ : TinS} {b : Int}
theorem f4_c {nums : List Int} (hk : k (.op H.length 0) (H ++ [tinO ⟨nums, 0, 7640891576956012809⟩])) : FnC lv Tryd.prog 4 H [aInts nums] k kp := by
 refine fnC_intro (rs := [.tmp 2]) (nt := 6) F.f4 rfl rfl rfl (by simp) fun hH hA => ?_
 simp only [argsT, Nat.reduceAdd]
 repeat refine awp_seq ?_
 refine awp_region (by kernel_rfl) ?_
 simp only [push_cast, Int.cast_ofNat_Int, Int.reduceLE, Int.reduceLT, Int.reduceToNat, Int.reduceNeg, Int.reduceSub, iv, bv, Nat.reduceBEq, reduceCtorEq, Nat.reduceAdd, Nat.reduceLeDiff, Nat.reduceSub, Nat.reduceLT, Nat.reduceMul]
 repeat refine awp_seq ?_
 refine awp_region (by kernel_rfl) ?_
 simp only [push_cast, Int.cast_ofNat_Int, Int.reduceLE, Int.reduceLT, Int.reduceToNat, Int.reduceNeg, Int.reduceSub, iv, bv, Nat.reduceBEq, reduceCtorEq, Nat.reduceAdd, Nat.reduceLeDiff, Nat.reduceSub, Nat.reduceLT, Nat.reduceMul, F.BuildOf_50]
 repeat refine awp_seq ?_
 refine awp_ret ?_
 simp only [push_cast, Int.cast_ofNat_Int, Int.reduceLE, Int.reduceLT, Int.reduceToNat, Int.reduceNeg, Int.reduceSub, iv, bv, Nat.reduceBEq, reduceCtorEq, Nat.reduceAdd, Nat.reduceLeDiff, Nat.reduceSub, Nat.reduceLT, Nat.reduceMul]
 exact endOf_here hk
theorem TinS.Ok.tick (h : τ.Ok b) : (tick τ).Ok (b + 1) := ⟨by have := h.g0; show 0 <= τ.g + 1; omega, by have := h.g; show τ.g + 1 <= b + 1; omega, h.len⟩
theorem TinS.Ok.mono {b' : Int} (h : τ.Ok b) (hb : b <= b') : τ.Ok b' := ⟨h.g0, by have := h.g; omega, h.len⟩
theorem f12_c (hT : TinAt Gf t N) (hτ : τ.Ok b) (hb : b < 2 ^ 60) (hk : k (.val (.int .u64 (outT τ))) (Gf (tick τ))) : FnC lv Tryd.prog 12 (Gf τ) [.op t 0] k kp := by
 obtain ⟨nums, g, s⟩ := τ
 obtain ⟨hg0, hgb, hln⟩ := hτ
 simp only at hg0 hgb hln
 refine fnC_intro (rs := [.tmp 2]) (nt := 76) F.f12 rfl rfl rfl (by simp) fun hH hA => ?_
 simp only [argsT, Nat.reduceAdd]
 have hg : ∀ τ, (Gf τ)[t]? = some (.cells [.sl τ.nums.length (τ.nums.map iv) .shut, .val (.int .i64 τ.g), .val (.int .u64 τ.s)] 50) := hT.get
 have hs : ∀ τ (nums' : List Int) g' s', (Gf τ).set t (.cells [.sl nums'.length (nums'.map iv) .shut, .val (.int .i64 g'), .val (.int .u64 s')] 50) = Gf ⟨nums', g', s'⟩ := fun τ nums' g' s' => hT.set τ ⟨nums', g', s'⟩
 obtain ⟨n, rfl⟩ : ∃ n : Nat, g = n := ⟨g.toNat, by omega⟩
 have hw : IntKind.i64.wrap ((n : Int) + 1) = n + 1 := i64_in _ (by omega)
 repeat refine awp_seq ?_
 refine awp_region (by kernel_rfl) ?_
 simp only [push_cast, Int.cast_ofNat_Int, Int.reduceLE, Int.reduceLT, Int.reduceToNat, Int.reduceNeg, Int.reduceSub, iv, bv, Nat.reduceBEq, reduceCtorEq, Nat.reduceAdd, Nat.reduceLeDiff, Nat.reduceSub, Nat.reduceLT, Nat.reduceMul]
 repeat refine awp_seq ?_
 refine awp_region (by kernel_rfl) ?_
 simp only [push_cast, Int.cast_ofNat_Int, Int.reduceLE, Int.reduceLT, Int.reduceToNat, Int.reduceNeg, Int.reduceSub, iv, bv, Nat.reduceBEq, reduceCtorEq, Nat.reduceAdd, Nat.reduceLeDiff, Nat.reduceSub, Nat.reduceLT, Nat.reduceMul, F.FieldOf_50_1, F.Ty_3, F.ConvOf_3_48, hg]
 repeat refine awp_seq ?_
 refine awp_draw F.mixed 9 (by kernel_rfl) ?_
 simp only [push_cast, Int.cast_ofNat_Int, Int.reduceLE, Int.reduceLT, Int.reduceToNat, Int.reduceNeg, Int.reduceSub, iv, bv, Nat.reduceBEq, reduceCtorEq, Nat.reduceAdd, Nat.reduceLeDiff, Nat.reduceSub, Nat.reduceLT, Nat.reduceMul, F.FieldOf_50_1, F.Ty_3, F.FieldOf_50_0, F.Ty_22, F.LenOf_22, hg]
 repeat refine awp_seq ?_
 refine awp_condS ?_
 simp only [push_cast, Int.cast_ofNat_Int, Int.reduceLE, Int.reduceLT, Int.reduceToNat, Int.reduceNeg, Int.reduceSub, iv, bv, Nat.reduceBEq, reduceCtorEq, Nat.reduceAdd, Nat.reduceLeDiff, Nat.reduceSub, Nat.reduceLT, Nat.reduceMul]
 refine ⟨fun h => ?_, fun h => ?_⟩
 ·have hnl : n < nums.length := by simpa using h
  obtain ⟨x, hx⟩ := lt_get hnl
  repeat refine awp_seq ?_
  refine awp_draw F.mixed 13 (by kernel_rfl) ?_
  simp only [push_cast, Int.cast_ofNat_Int, Int.reduceLE, Int.reduceLT, Int.reduceToNat, Int.reduceNeg, Int.reduceSub, iv, bv, Nat.reduceBEq, reduceCtorEq, Nat.reduceAdd, Nat.reduceLeDiff, Nat.reduceSub, Nat.reduceLT, Nat.reduceMul, F.FieldOf_50_0, F.Ty_22, F.FieldOf_50_1, F.Ty_3, F.IdxOf_22, F.ConvOf_3_48, hg, sh_ints hx, bnd_nat hnl, abin_mul, abin_xor]
  repeat refine awp_seq ?_
  refine awp_region (by kernel_rfl) ?_
  simp only [push_cast, Int.cast_ofNat_Int, Int.reduceLE, Int.reduceLT, Int.reduceToNat, Int.reduceNeg, Int.reduceSub, iv, bv, Nat.reduceBEq, reduceCtorEq, Nat.reduceAdd, Nat.reduceLeDiff, Nat.reduceSub, Nat.reduceLT, Nat.reduceMul, F.FieldOf_50_1, F.Ty_3, hg, hw, hs]
  repeat refine awp_seq ?_
  refine awp_region (by kernel_rfl) ?_
  simp only [push_cast, Int.cast_ofNat_Int, Int.reduceLE, Int.reduceLT, Int.reduceToNat, Int.reduceNeg, Int.reduceSub, iv, bv, Nat.reduceBEq, reduceCtorEq, Nat.reduceAdd, Nat.reduceLeDiff, Nat.reduceSub, Nat.reduceLT, Nat.reduceMul, F.FieldOf_50_2, F.Ty_48, hg, hs, abin_mul]
  repeat refine awp_seq ?_
  refine awp_draw F.mixed 11 (by kernel_rfl) ?_
  simp only [push_cast, Int.cast_ofNat_Int, Int.reduceLE, Int.reduceLT, Int.reduceToNat, Int.reduceNeg, Int.reduceSub, iv, bv, Nat.reduceBEq, reduceCtorEq, Nat.reduceAdd, Nat.reduceLeDiff, Nat.reduceSub, Nat.reduceLT, Nat.reduceMul, F.FieldOf_50_2, F.Ty_48, hg, hs, abin_shr, abin_xor]
  repeat refine awp_seq ?_
  refine awp_region (by kernel_rfl) ?_
  simp only [push_cast, Int.cast_ofNat_Int, Int.reduceLE, Int.reduceLT, Int.reduceToNat, Int.reduceNeg, Int.reduceSub, iv, bv, Nat.reduceBEq, reduceCtorEq, Nat.reduceAdd, Nat.reduceLeDiff, Nat.reduceSub, Nat.reduceLT, Nat.reduceMul, F.FieldOf_50_2, F.Ty_48, hg, abin_mul]
  repeat refine awp_seq ?_
  refine awp_region (by kernel_rfl) ?_
  simp only [push_cast, Int.cast_ofNat_Int, Int.reduceLE, Int.reduceLT, Int.reduceToNat, Int.reduceNeg, Int.reduceSub, iv, bv, Nat.reduceBEq, reduceCtorEq, Nat.reduceAdd, Nat.reduceLeDiff, Nat.reduceSub, Nat.reduceLT, Nat.reduceMul, abin_shr, abin_xor]
  repeat refine awp_seq ?_
  refine awp_ret ?_
  simp only [push_cast, Int.cast_ofNat_Int, Int.reduceLE, Int.reduceLT, Int.reduceToNat, Int.reduceNeg, Int.reduceSub, iv, bv, Nat.reduceBEq, reduceCtorEq, Nat.reduceAdd, Nat.reduceLeDiff, Nat.reduceSub, Nat.reduceLT, Nat.reduceMul]
  refine endOf_here ?_
  unfold outT tick wordT at hk
  simp only [Int.toNat_natCast, hx] at hk
  exact hk
 ·have hnl : ¬ n < nums.length := by simpa using h
  have hx : nums[n]? = none := by rw [List.getElem?_eq_none]; omega
  repeat refine awp_seq ?_
  refine awp_skip ?_
  simp only [push_cast, Int.cast_ofNat_Int, Int.reduceLE, Int.reduceLT, Int.reduceToNat, Int.reduceNeg, Int.reduceSub, iv, bv, Nat.reduceBEq, reduceCtorEq, Nat.reduceAdd, Nat.reduceLeDiff, Nat.reduceSub, Nat.reduceLT, Nat.reduceMul]
  repeat refine awp_seq ?_
  refine awp_region (by kernel_rfl) ?_
  simp only [push_cast, Int.cast_ofNat_Int, Int.reduceLE, Int.reduceLT, Int.reduceToNat, Int.reduceNeg, Int.reduceSub, iv, bv, Nat.reduceBEq, reduceCtorEq, Nat.reduceAdd, Nat.reduceLeDiff, Nat.reduceSub, Nat.reduceLT, Nat.reduceMul, F.FieldOf_50_1, F.Ty_3, hg, hw, hs]
  repeat refine awp_seq ?_
  refine awp_region (by kernel_rfl) ?_
  simp only [push_cast, Int.cast_ofNat_Int, Int.reduceLE, Int.reduceLT, Int.reduceToNat, Int.reduceNeg, Int.reduceSub, iv, bv, Nat.reduceBEq, reduceCtorEq, Nat.reduceAdd, Nat.reduceLeDiff, Nat.reduceSub, Nat.reduceLT, Nat.reduceMul, F.FieldOf_50_2, F.Ty_48, hg, hs, abin_mul]
  repeat refine awp_seq ?_
  refine awp_draw F.mixed 11 (by kernel_rfl) ?_
  simp only [push_cast, Int.cast_ofNat_Int, Int.reduceLE, Int.reduceLT, Int.reduceToNat, Int.reduceNeg, Int.reduceSub, iv, bv, Nat.reduceBEq, reduceCtorEq, Nat.reduceAdd, Nat.reduceLeDiff, Nat.reduceSub, Nat.reduceLT, Nat.reduceMul, F.FieldOf_50_2, F.Ty_48, hg, hs, abin_shr, abin_xor]
  repeat refine awp_seq ?_
  refine awp_region (by kernel_rfl) ?_
  simp only [push_cast, Int.cast_ofNat_Int, Int.reduceLE, Int.reduceLT, Int.reduceToNat, Int.reduceNeg, Int.reduceSub, iv, bv, Nat.reduceBEq, reduceCtorEq, Nat.reduceAdd, Nat.reduceLeDiff, Nat.reduceSub, Nat.reduceLT, Nat.reduceMul, F.FieldOf_50_2, F.Ty_48, hg, abin_mul]
  repeat refine awp_seq ?_
  refine awp_region (by kernel_rfl) ?_
  simp only [push_cast, Int.cast_ofNat_Int, Int.reduceLE, Int.reduceLT, Int.reduceToNat, Int.reduceNeg, Int.reduceSub, iv, bv, Nat.reduceBEq, reduceCtorEq, Nat.reduceAdd, Nat.reduceLeDiff, Nat.reduceSub, Nat.reduceLT, Nat.reduceMul, abin_shr, abin_xor]
  repeat refine awp_seq ?_
  refine awp_ret ?_
  simp only [push_cast, Int.cast_ofNat_Int, Int.reduceLE, Int.reduceLT, Int.reduceToNat, Int.reduceNeg, Int.reduceSub, iv, bv, Nat.reduceBEq, reduceCtorEq, Nat.reduceAdd, Nat.reduceLeDiff, Nat.reduceSub, Nat.reduceLT, Nat.reduceMul]
  refine endOf_here ?_
  unfold outT tick wordT at hk
  simp only [Int.toNat_natCast, hx] at hk
  exact hk
theorem f5_c {n : Int} (hT : TinAt Gf t N) (hτ : τ.Ok b) (hb : b < 2 ^ 60) (hn : n < 2 ^ 60) (hk : k (iv (uptoT τ n)) (Gf (tick τ))) : FnC lv Tryd.prog 5 (Gf τ) [.op t 0, iv n] k kp := by
 refine fnC_intro (rs := [.tmp 4]) (nt := 16) F.f5 rfl rfl rfl (by simp) fun hH hA => ?_
 simp only [argsT, Nat.reduceAdd]
 repeat refine awp_seq ?_
 refine awp_region (by kernel_rfl) ?_
 simp only [push_cast, Int.cast_ofNat_Int, Int.reduceLE, Int.reduceLT, Int.reduceToNat, Int.reduceNeg, Int.reduceSub, iv, bv, Nat.reduceBEq, reduceCtorEq, Nat.reduceAdd, Nat.reduceLeDiff, Nat.reduceSub, Nat.reduceLT, Nat.reduceMul]
 repeat refine awp_seq ?_
 refine awp_region (by kernel_rfl) ?_
 simp only [push_cast, Int.cast_ofNat_Int, Int.reduceLE, Int.reduceLT, Int.reduceToNat, Int.reduceNeg, Int.reduceSub, iv, bv, Nat.reduceBEq, reduceCtorEq, Nat.reduceAdd, Nat.reduceLeDiff, Nat.reduceSub, Nat.reduceLT, Nat.reduceMul]
 refine callG (callC_func (by kernel_rfl) (f12_c hT hτ hb ?_))
 simp only [push_cast, Int.cast_ofNat_Int, Int.reduceLE, Int.reduceLT, Int.reduceToNat, Int.reduceNeg, Int.reduceSub, iv, bv, Nat.reduceBEq, reduceCtorEq, Nat.reduceAdd, Nat.reduceLeDiff, Nat.reduceSub, Nat.reduceLT, Nat.reduceMul]
 repeat refine awp_seq ?_
 refine awp_region (by kernel_rfl) ?_
 simp only [push_cast, Int.cast_ofNat_Int, Int.reduceLE, Int.reduceLT, Int.reduceToNat, Int.reduceNeg, Int.reduceSub, iv, bv, Nat.reduceBEq, reduceCtorEq, Nat.reduceAdd, Nat.reduceLeDiff, Nat.reduceSub, Nat.reduceLT, Nat.reduceMul]
 repeat refine awp_seq ?_
 refine awp_condS ?_
 simp only [push_cast, Int.cast_ofNat_Int, Int.reduceLE, Int.reduceLT, Int.reduceToNat, Int.reduceNeg, Int.reduceSub, iv, bv, Nat.reduceBEq, reduceCtorEq, Nat.reduceAdd, Nat.reduceLeDiff, Nat.reduceSub, Nat.reduceLT, Nat.reduceMul]
 refine ⟨fun h => ?_, fun h => ?_⟩
 ·have h : n < 1 := by simpa using h
  repeat refine awp_seq ?_
  refine awp_region (by kernel_rfl) ?_
  simp only [push_cast, Int.cast_ofNat_Int, Int.reduceLE, Int.reduceLT, Int.reduceToNat, Int.reduceNeg, Int.reduceSub, iv, bv, Nat.reduceBEq, reduceCtorEq, Nat.reduceAdd, Nat.reduceLeDiff, Nat.reduceSub, Nat.reduceLT, Nat.reduceMul]
  repeat refine awp_seq ?_
  refine awp_ret ?_
  simp only [push_cast, Int.cast_ofNat_Int, Int.reduceLE, Int.reduceLT, Int.reduceToNat, Int.reduceNeg, Int.reduceSub, iv, bv, Nat.reduceBEq, reduceCtorEq, Nat.reduceAdd, Nat.reduceLeDiff, Nat.reduceSub, Nat.reduceLT, Nat.reduceMul]
  rw [uptoT, if_pos h] at hk
  exact endOf_here hk
 ·have h : ¬ n < 1 := by simpa using h
  have ho := out1_range (IntKind.u64.wrap ((tick τ).s * 10723151780598845931))
  have hw1 : IntKind.u64.wrap n = n := u64_in n (by omega) (by omega)
  have hw2 : IntKind.u64.wrap (n + 1) = n + 1 := u64_in _ (by omega) (by omega)
  have hn0 : n + 1 ≠ 0 := by omega
  have hr := uptoT_range τ n
  rw [uptoT, if_neg h] at hk hr
  have hw3 : IntKind.i64.wrap ((outT τ).tmod (n + 1)) = (outT τ).tmod (n + 1) := i64_in _ (by omega)
  repeat refine awp_seq ?_
  refine awp_skip ?_
  simp only [push_cast, Int.cast_ofNat_Int, Int.reduceLE, Int.reduceLT, Int.reduceToNat, Int.reduceNeg, Int.reduceSub, iv, bv, Nat.reduceBEq, reduceCtorEq, Nat.reduceAdd, Nat.reduceLeDiff, Nat.reduceSub, Nat.reduceLT, Nat.reduceMul]
  repeat refine awp_seq ?_
  refine awp_region (by kernel_rfl) ?_
  simp only [push_cast, Int.cast_ofNat_Int, Int.reduceLE, Int.reduceLT, Int.reduceToNat, Int.reduceNeg, Int.reduceSub, iv, bv, Nat.reduceBEq, reduceCtorEq, Nat.reduceAdd, Nat.reduceLeDiff, Nat.reduceSub, Nat.reduceLT, Nat.reduceMul, F.ConvOf_3_48, F.ConvOf_48_3, abin_rem, hw1, hw2, hw3, hn0, if_false]
  repeat refine awp_seq ?_
  refine awp_ret ?_
  simp only [push_cast, Int.cast_ofNat_Int, Int.reduceLE, Int.reduceLT, Int.reduceToNat, Int.reduceNeg, Int.reduceSub, iv, bv, Nat.reduceBEq, reduceCtorEq, Nat.reduceAdd, Nat.reduceLeDiff, Nat.reduceSub, Nat.reduceLT, Nat.reduceMul]
  exact endOf_here hk
end
theorem take_eq_succ {xs ys : List Int} {i : Nat} {x y : Int} (hx : xs[i]? = some x) (hy : ys[i]? = some y) (h : xs.take i = ys.take i) (e : x = y) : xs.take (i + 1) = ys.take (i + 1) := by
 obtain ⟨hj, rfl⟩ := List.getElem?_eq_some_iff.1 hx
 obtain ⟨hk, rfl⟩ := List.getElem?_eq_some_iff.1 hy
 rw [List.take_succ_eq_append_getElem hj, List.take_succ_eq_append_getElem hk, h, e]
section
variable {lv : Bool} {H : List AObj} {k kp : AV -> List AObj -> Prop}
theorem f31_c {xs ys : List Int} {e e' : End} (hx : xs.length < 2 ^ 60) (hk : k (bv (decide (xs = ys))) H) : FnC lv Tryd.prog 31 H [.sl xs.length (xs.map iv) e, .sl ys.length (ys.map iv) e'] k kp := by
 refine fnC_intro (rs := [.tmp 4]) (nt := 26) F.f31 rfl rfl rfl (by simp) fun hH hA => ?_
 simp only [argsT, Nat.reduceAdd]
 repeat refine awp_seq ?_
 refine awp_region (by kernel_rfl) ?_
 simp only [push_cast, Int.cast_ofNat_Int, Int.reduceLE, Int.reduceLT, Int.reduceToNat, Int.reduceNeg, Int.reduceSub, iv, bv, Nat.reduceBEq, reduceCtorEq, Nat.reduceAdd, Nat.reduceLeDiff, Nat.reduceSub, Nat.reduceLT, Nat.reduceMul]
 repeat refine awp_seq ?_
 refine awp_region (by kernel_rfl) ?_
 simp only [push_cast, Int.cast_ofNat_Int, Int.reduceLE, Int.reduceLT, Int.reduceToNat, Int.reduceNeg, Int.reduceSub, iv, bv, Nat.reduceBEq, reduceCtorEq, Nat.reduceAdd, Nat.reduceLeDiff, Nat.reduceSub, Nat.reduceLT, Nat.reduceMul, F.LenOf_22]
 repeat refine awp_seq ?_
 refine awp_condS ?_
 simp only [push_cast, Int.cast_ofNat_Int, Int.reduceLE, Int.reduceLT, Int.reduceToNat, Int.reduceNeg, Int.reduceSub, iv, bv, Nat.reduceBEq, reduceCtorEq, Nat.reduceAdd, Nat.reduceLeDiff, Nat.reduceSub, Nat.reduceLT, Nat.reduceMul]
 refine ⟨fun h => ?_, fun h => ?_⟩
 ·have h : xs ≠ ys := fun e => by subst e; simp at h
  repeat refine awp_seq ?_
  refine awp_region (by kernel_rfl) ?_
  simp only [push_cast, Int.cast_ofNat_Int, Int.reduceLE, Int.reduceLT, Int.reduceToNat, Int.reduceNeg, Int.reduceSub, iv, bv, Nat.reduceBEq, reduceCtorEq, Nat.reduceAdd, Nat.reduceLeDiff, Nat.reduceSub, Nat.reduceLT, Nat.reduceMul]
  repeat refine awp_seq ?_
  refine awp_ret ?_
  simp only [push_cast, Int.cast_ofNat_Int, Int.reduceLE, Int.reduceLT, Int.reduceToNat, Int.reduceNeg, Int.reduceSub, iv, bv, Nat.reduceBEq, reduceCtorEq, Nat.reduceAdd, Nat.reduceLeDiff, Nat.reduceSub, Nat.reduceLT, Nat.reduceMul]
  rw [decide_eq_false h] at hk
  exact endOf_here hk
 ·have h : xs.length = ys.length := by
   have h : (xs.length : Int) = ys.length := by simpa using h
   omega
  repeat refine awp_seq ?_
  refine awp_skip ?_
  simp only [push_cast, Int.cast_ofNat_Int, Int.reduceLE, Int.reduceLT, Int.reduceToNat, Int.reduceNeg, Int.reduceSub, iv, bv, Nat.reduceBEq, reduceCtorEq, Nat.reduceAdd, Nat.reduceLeDiff, Nat.reduceSub, Nat.reduceLT, Nat.reduceMul]
  repeat refine awp_seq ?_
  refine awp_region (by kernel_rfl) ?_
  simp only [push_cast, Int.cast_ofNat_Int, Int.reduceLE, Int.reduceLT, Int.reduceToNat, Int.reduceNeg, Int.reduceSub, iv, bv, Nat.reduceBEq, reduceCtorEq, Nat.reduceAdd, Nat.reduceLeDiff, Nat.reduceSub, Nat.reduceLT, Nat.reduceMul]
  repeat refine awp_seq ?_
  refine awp_block ?_
  refine awp_for xs.length (fun i : Nat => [(5, iv i)]) (fun _ => _) (fun i => xs.take i = ys.take i) (fun _ _ => rfl) (by simp only [push_cast, Int.cast_ofNat_Int, Int.reduceLE, Int.reduceLT, Int.reduceToNat, Int.reduceNeg, Int.reduceSub, iv, bv, Nat.reduceBEq, reduceCtorEq, Nat.reduceAdd, Nat.reduceLeDiff, Nat.reduceSub, Nat.reduceLT, Nat.reduceMul, List.forall_mem_cons, List.not_mem_nil, false_imp_iff, implies_true, List.forall_mem_nil]; simp [exists_wk, Wk.refl]) rfl (fun _ _ _ => rfl) (by simp) (fun hHs hLt i hin hi R hR => ?_)
  repeat refine awp_seq ?_
  refine awp_region (by kernel_rfl) ?_
  simp only [push_cast, Int.cast_ofNat_Int, Int.reduceLE, Int.reduceLT, Int.reduceToNat, Int.reduceNeg, Int.reduceSub, iv, bv, Nat.reduceBEq, reduceCtorEq, Nat.reduceAdd, Nat.reduceLeDiff, Nat.reduceSub, Nat.reduceLT, Nat.reduceMul, F.LenOf_22]
  repeat refine awp_seq ?_
  refine awp_condS ?_
  simp only [push_cast, Int.cast_ofNat_Int, Int.reduceLE, Int.reduceLT, Int.reduceToNat, Int.reduceNeg, Int.reduceSub, iv, bv, Nat.reduceBEq, reduceCtorEq, Nat.reduceAdd, Nat.reduceLeDiff, Nat.reduceSub, Nat.reduceLT, Nat.reduceMul]
  refine ⟨fun h2 => ?_, fun h2 => ?_⟩
  ·have hlt : i < xs.length := by omega
   obtain ⟨x, hx1⟩ := lt_get hlt
   obtain ⟨y, hy1⟩ := lt_get (xs := ys) (i := i) (by omega)
   repeat refine awp_seq ?_
   refine awp_skip ?_
   simp only [push_cast, Int.cast_ofNat_Int, Int.reduceLE, Int.reduceLT, Int.reduceToNat, Int.reduceNeg, Int.reduceSub, iv, bv, Nat.reduceBEq, reduceCtorEq, Nat.reduceAdd, Nat.reduceLeDiff, Nat.reduceSub, Nat.reduceLT, Nat.reduceMul]
   repeat refine awp_seq ?_
   refine awp_block ?_
   repeat refine awp_seq ?_
   refine awp_draw F.mixed 8 (by kernel_rfl) ?_
   simp only [push_cast, Int.cast_ofNat_Int, Int.reduceLE, Int.reduceLT, Int.reduceToNat, Int.reduceNeg, Int.reduceSub, iv, bv, Nat.reduceBEq, reduceCtorEq, Nat.reduceAdd, Nat.reduceLeDiff, Nat.reduceSub, Nat.reduceLT, Nat.reduceMul, F.IdxOf_22, F.Ty_3, sh_ints hx1, sh_ints hy1, bnd_nat hlt, bnd_nat (get_lt hy1)]
   repeat refine awp_seq ?_
   refine awp_condS ?_
   simp only [push_cast, Int.cast_ofNat_Int, Int.reduceLE, Int.reduceLT, Int.reduceToNat, Int.reduceNeg, Int.reduceSub, iv, bv, Nat.reduceBEq, reduceCtorEq, Nat.reduceAdd, Nat.reduceLeDiff, Nat.reduceSub, Nat.reduceLT, Nat.reduceMul]
   refine ⟨fun h3 => ?_, fun h3 => ?_⟩
   ·have h3 : xs ≠ ys := fun e => by subst e; rw [hx1] at hy1; cases hy1; simp at h3
    repeat refine awp_seq ?_
    refine awp_region (by kernel_rfl) ?_
    simp only [push_cast, Int.cast_ofNat_Int, Int.reduceLE, Int.reduceLT, Int.reduceToNat, Int.reduceNeg, Int.reduceSub, iv, bv, Nat.reduceBEq, reduceCtorEq, Nat.reduceAdd, Nat.reduceLeDiff, Nat.reduceSub, Nat.reduceLT, Nat.reduceMul]
    repeat refine awp_seq ?_
    refine awp_ret ?_
    simp only [push_cast, Int.cast_ofNat_Int, Int.reduceLE, Int.reduceLT, Int.reduceToNat, Int.reduceNeg, Int.reduceSub, iv, bv, Nat.reduceBEq, reduceCtorEq, Nat.reduceAdd, Nat.reduceLeDiff, Nat.reduceSub, Nat.reduceLT, Nat.reduceMul]
    rw [decide_eq_false h3] at hk
    exact endOf_here hk
   ·have h3 : x = y := by simpa using h3
    repeat refine awp_seq ?_
    refine awp_skip ?_
    simp only [push_cast, Int.cast_ofNat_Int, Int.reduceLE, Int.reduceLT, Int.reduceToNat, Int.reduceNeg, Int.reduceSub, iv, bv, Nat.reduceBEq, reduceCtorEq, Nat.reduceAdd, Nat.reduceLeDiff, Nat.reduceSub, Nat.reduceLT, Nat.reduceMul]
    repeat refine awp_seq ?_
    refine awp_region (by kernel_rfl) ?_
    simp only [push_cast, Int.cast_ofNat_Int, Int.reduceLE, Int.reduceLT, Int.reduceToNat, Int.reduceNeg, Int.reduceSub, iv, bv, Nat.reduceBEq, reduceCtorEq, Nat.reduceAdd, Nat.reduceLeDiff, Nat.reduceSub, Nat.reduceLT, Nat.reduceMul]
    refine hR _ ⟨hlt, take_eq_succ hx1 hy1 hi h3, ?_⟩
    rw [i64_in _ (by omega)]
    exact (round_keep (keeps_rfl rfl rfl) (by simp only [push_cast, Int.cast_ofNat_Int, Int.reduceLE, Int.reduceLT, Int.reduceToNat, Int.reduceNeg, Int.reduceSub, iv, bv, Nat.reduceBEq, reduceCtorEq, Nat.reduceAdd, Nat.reduceLeDiff, Nat.reduceSub, Nat.reduceLT, Nat.reduceMul]; simp [exists_wk, Wk.refl]))
  ·have hix : i = xs.length := by omega
   repeat refine awp_seq ?_
   refine awp_exit ?_
   simp only [push_cast, Int.cast_ofNat_Int, Int.reduceLE, Int.reduceLT, Int.reduceToNat, Int.reduceNeg, Int.reduceSub, iv, bv, Nat.reduceBEq, reduceCtorEq, Nat.reduceAdd, Nat.reduceLeDiff, Nat.reduceSub, Nat.reduceLT, Nat.reduceMul]
   repeat refine awp_seq ?_
   refine awp_region (by kernel_rfl) ?_
   simp only [push_cast, Int.cast_ofNat_Int, Int.reduceLE, Int.reduceLT, Int.reduceToNat, Int.reduceNeg, Int.reduceSub, iv, bv, Nat.reduceBEq, reduceCtorEq, Nat.reduceAdd, Nat.reduceLeDiff, Nat.reduceSub, Nat.reduceLT, Nat.reduceMul]
   repeat refine awp_seq ?_
   refine awp_ret ?_
   simp only [push_cast, Int.cast_ofNat_Int, Int.reduceLE, Int.reduceLT, Int.reduceToNat, Int.reduceNeg, Int.reduceSub, iv, bv, Nat.reduceBEq, reduceCtorEq, Nat.reduceAdd, Nat.reduceLeDiff, Nat.reduceSub, Nat.reduceLT, Nat.reduceMul]
   have h3 : xs = ys := by
    rw [hix, List.take_length] at hi
    rw [hi, h, List.take_length]
   rw [decide_eq_true h3] at hk
   exact endOf_here hk
theorem zr1 : zeroRow (Value.int .i64 0) 1 = [iv 0] := rfl
theorem zg2 : zeroRow (.agg #[.int .i64 0, .int .i64 0, .int .i64 0]) 6 = [iv 0, iv 0, iv 0, iv 0, iv 0, iv 0] := rfl
theorem p24_6 : (6 <= 2 ^ 24) = True := by simp
theorem p24_8 : (8 <= 2 ^ 24) = True := by simp
theorem zp2 : zeroRow (.agg #[.int .i64 0, .int .i64 0, .int .i64 0, .int .i64 0]) 8 = [iv 0, iv 0, iv 0, iv 0, iv 0, iv 0, iv 0, iv 0] := rfl
theorem f11_c (hk : k (bv true) H) : FnC lv Tryd.prog 11 H [] k kp := by
 refine fnC_intro (rs := [.tmp 0]) (nt := 46) F.f11 rfl rfl rfl (by simp) fun hH hA => ?_
 simp only [argsT, Nat.reduceAdd]
 repeat refine awp_seq ?_
 refine awp_region (by kernel_rfl) ?_
 simp only [push_cast, Int.cast_ofNat_Int, Int.reduceLE, Int.reduceLT, Int.reduceToNat, Int.reduceNeg, Int.reduceSub, iv, bv, Nat.reduceBEq, reduceCtorEq, Nat.reduceAdd, Nat.reduceLeDiff, Nat.reduceSub, Nat.reduceLT, Nat.reduceMul]
 repeat refine awp_seq ?_
 refine awp_region (by kernel_rfl) ?_
 simp only [push_cast, Int.cast_ofNat_Int, Int.reduceLE, Int.reduceLT, Int.reduceToNat, Int.reduceNeg, Int.reduceSub, iv, bv, Nat.reduceBEq, reduceCtorEq, Nat.reduceAdd, Nat.reduceLeDiff, Nat.reduceSub, Nat.reduceLT, Nat.reduceMul, F.BuildOf_33, F.ZeroOf_33, F.Ty_33]
 repeat refine awp_seq ?_
 refine awp_region (by kernel_rfl) ?_
 simp only [push_cast, Int.cast_ofNat_Int, Int.reduceLE, Int.reduceLT, Int.reduceToNat, Int.reduceNeg, Int.reduceSub, iv, bv, Nat.reduceBEq, reduceCtorEq, Nat.reduceAdd, Nat.reduceLeDiff, Nat.reduceSub, Nat.reduceLT, Nat.reduceMul, F.SliceOf_22, F.SliceOf_25, F.BuildOf_35, F.Ty_33, F.BuildOf_27, F.ZeroOf_27, F.Ty_27, zr1, zr2, zg2, p24_1, p24_2, p24_6]
 repeat refine awp_seq ?_
 refine awp_region (by kernel_rfl) ?_
 simp only [push_cast, Int.cast_ofNat_Int, Int.reduceLE, Int.reduceLT, Int.reduceToNat, Int.reduceNeg, Int.reduceSub, iv, bv, Nat.reduceBEq, reduceCtorEq, Nat.reduceAdd, Nat.reduceLeDiff, Nat.reduceSub, Nat.reduceLT, Nat.reduceMul, F.Ty_27]
 refine callG (callC_func (by kernel_rfl) ?_); refine fnC_wk (l' := [shelfA 2 [0, 1] 2, iv ((0 : Nat) : Int), iv ((1 : Nat) : Int)]) (.cons (wk_agg (.cons (wk_shut _ _ _) (.cons (wk_shut _ _ _) (.cons (wk_shut _ _ _) .nil)))) (.cons (Wk.refl _) (.cons (Wk.refl _) .nil))) (f7_c (n := 2) (hs := [0, 1]) (m := 2) (i := 0) (j := 1) (a := 0) (b := 1) ⟨by omega, by simp, fun h hh => by simp at hh; omega, by simp, by omega⟩ rfl rfl (by omega) (by omega) ?_)
 rw [if_neg (by omega)]
 simp only [push_cast, Int.cast_ofNat_Int, Int.reduceLE, Int.reduceLT, Int.reduceToNat, Int.reduceNeg, Int.reduceSub, iv, bv, Nat.reduceBEq, reduceCtorEq, Nat.reduceAdd, Nat.reduceLeDiff, Nat.reduceSub, Nat.reduceLT, Nat.reduceMul]
 repeat refine awp_seq ?_
 refine awp_region (by kernel_rfl) ?_
 simp only [push_cast, Int.cast_ofNat_Int, Int.reduceLE, Int.reduceLT, Int.reduceToNat, Int.reduceNeg, Int.reduceSub, iv, bv, Nat.reduceBEq, reduceCtorEq, Nat.reduceAdd, Nat.reduceLeDiff, Nat.reduceSub, Nat.reduceLT, Nat.reduceMul, F.Ty_33, F.BuildOf_37, F.SliceOf_28, F.BuildOf_30, F.SliceOf_22, zp2, zr1, p24_1, p24_8]
 refine callG (callC_func (by kernel_rfl) ?_); refine fnC_wk (l' := [yardA [⟨1,1⟩,⟨1,0⟩], .sl 1 [iv ((0 : Nat) : Int)] .exact]) (.cons (wk_agg (.cons (wk_shut _ _ _) (.cons (Wk.refl _) .nil))) (.cons (Wk.refl _) .nil)) (f6_c (ps := [⟨1,1⟩,⟨1,0⟩]) (x := 0) (q := ⟨1,1⟩) (by simp) (fun p hp => ?_) rfl ?_)
 ·rcases List.mem_cons.1 hp with rfl | hp
  ·exact ⟨by decide, by decide⟩
  ·rw [List.mem_singleton.1 hp]; exact ⟨by decide, by decide⟩
 rw [show onM [⟨1,1⟩,⟨1,0⟩] 0 ⟨1,1⟩ = [1] from by decide]
 simp only [push_cast, Int.cast_ofNat_Int, Int.reduceLE, Int.reduceLT, Int.reduceToNat, Int.reduceNeg, Int.reduceSub, iv, bv, Nat.reduceBEq, reduceCtorEq, Nat.reduceAdd, Nat.reduceLeDiff, Nat.reduceSub, Nat.reduceLT, Nat.reduceMul]
 repeat refine awp_seq ?_
 refine awp_region (by kernel_rfl) ?_
 simp only [push_cast, Int.cast_ofNat_Int, Int.reduceLE, Int.reduceLT, Int.reduceToNat, Int.reduceNeg, Int.reduceSub, iv, bv, Nat.reduceBEq, reduceCtorEq, Nat.reduceAdd, Nat.reduceLeDiff, Nat.reduceSub, Nat.reduceLT, Nat.reduceMul, beq_self_eq_true, F.SliceOf_22, zr1, p24_1]
 refine callG (callC_func (by kernel_rfl) ?_); refine f31_c (xs := [1]) (ys := [1]) (by decide) ?_
 rw [decide_eq_true rfl]
 simp only [push_cast, Int.cast_ofNat_Int, Int.reduceLE, Int.reduceLT, Int.reduceToNat, Int.reduceNeg, Int.reduceSub, iv, bv, Nat.reduceBEq, reduceCtorEq, Nat.reduceAdd, Nat.reduceLeDiff, Nat.reduceSub, Nat.reduceLT, Nat.reduceMul, beq_self_eq_true]
 repeat refine awp_seq ?_
 refine awp_ret ?_
 simp only [push_cast, Int.cast_ofNat_Int, Int.reduceLE, Int.reduceLT, Int.reduceToNat, Int.reduceNeg, Int.reduceSub, iv, bv, Nat.reduceBEq, reduceCtorEq, Nat.reduceAdd, Nat.reduceLeDiff, Nat.reduceSub, Nat.reduceLT, Nat.reduceMul]
 exact endA hH (Wk.refl _) (by simp [lt_val]) hk
end
section
variable {lv : Bool} {P : Program} {r : Option Nat} {o : Oper} {s : AS} {next : AS -> Prop} {bad : AV -> AS -> Prop}
end
section
variable {Gf : TinS -> List AObj} {t N : Nat} (h : TinAt Gf t N)
include h
theorem TinAt.hi (i : Nat) (τ : TinS) (L : List AObj) : (Gf τ ++ L)[N + i]? = L[i]? := by have := app_get (Gf τ) L i; rwa [h.len] at this
theorem TinAt.ti (i : Nat) (τ : TinS) (L : List AObj) (x : AObj) : (Gf τ ++ L).set (N + i) x = Gf τ ++ L.set i x := by have := app_set (Gf τ) L i x; rwa [h.len] at this
theorem TinAt.h4 (τ : TinS) (L : List AObj) : (Gf τ ++ L)[N + 4]? = L[4]? := h.hi 4 τ L
theorem TinAt.h5 (τ : TinS) (L : List AObj) : (Gf τ ++ L)[N + 5]? = L[5]? := h.hi 5 τ L
theorem TinAt.h6 (τ : TinS) (L : List AObj) : (Gf τ ++ L)[N + 6]? = L[6]? := h.hi 6 τ L
theorem TinAt.h7 (τ : TinS) (L : List AObj) : (Gf τ ++ L)[N + 7]? = L[7]? := h.hi 7 τ L
theorem TinAt.h8 (τ : TinS) (L : List AObj) : (Gf τ ++ L)[N + 8]? = L[8]? := h.hi 8 τ L
theorem TinAt.t4 (τ : TinS) (L : List AObj) (x : AObj) : (Gf τ ++ L).set (N + 4) x = Gf τ ++ L.set 4 x := h.ti 4 τ L x
theorem TinAt.t5 (τ : TinS) (L : List AObj) (x : AObj) : (Gf τ ++ L).set (N + 5) x = Gf τ ++ L.set 5 x := h.ti 5 τ L x
theorem TinAt.t6 (τ : TinS) (L : List AObj) (x : AObj) : (Gf τ ++ L).set (N + 6) x = Gf τ ++ L.set 6 x := h.ti 6 τ L x
theorem TinAt.t7 (τ : TinS) (L : List AObj) (x : AObj) : (Gf τ ++ L).set (N + 7) x = Gf τ ++ L.set 7 x := h.ti 7 τ L x
theorem TinAt.t8 (τ : TinS) (L : List AObj) (x : AObj) : (Gf τ ++ L).set (N + 8) x = Gf τ ++ L.set 8 x := h.ti 8 τ L x
end
theorem bags_len (hs : List Int) : (hs.flatMap bagL).length = hs.length * 3 := by
 induction hs with
 | nil => rfl
 | cons b bs ih => rw [List.flatMap_cons, List.length_append, ih]; simp [bagL]; omega
def parOf (h : Int) : Par := ⟨h + 1, h + 1⟩
def psOf (hs : List Int) : List Par := hs.map parOf
theorem psOf_len (hs : List Int) : (psOf hs).length = hs.length := List.length_map ..
theorem pars_len (ps : List Par) : (ps.flatMap Par.l).length = ps.length * 4 := by
 induction ps with
 | nil => rfl
 | cons b bs ih => rw [List.flatMap_cons, List.length_append, ih]; simp [Par.l]; omega
def zs (n : Nat) : List Int := List.replicate n 0
theorem zs_len (n : Nat) : ((zs n).map iv).length = n := by simp [zs]
theorem zs_succ (n : Nat) : (zs (n + 1)).map iv = (zs n).map iv ++ [iv 0] := by simp [zs, List.replicate_succ']
def stL (N : Nat) (hs : List Int) : List AObj :=
 [.cells [aInts [9], .sl hs.length (hs.flatMap bagL) (.opn (N + 2)), .sl hs.length ((zs hs.length).map iv) (.opn (N + 3))] 27, .cells [.sl hs.length ((psOf hs).flatMap Par.l) (.opn (N + 4)), iv 2] 30, .tail hs.length 3 35, .tail hs.length 1 3, .tail hs.length 4 37]
def stK (hs : List Int) : List AObj :=
 [.cells (shelfL 9 hs hs.length) 27, .cells (yardL (psOf hs)) 30, .tail hs.length 3 35, .tail hs.length 1 3, .tail hs.length 4 37]
theorem stL_snoc (N : Nat) (hs : List Int) (v : Int) : stL N (hs ++ [v]) = [.cells [aInts [9], .sl (hs.length + 1) (hs.flatMap bagL ++ [iv 1, iv v, iv v]) (.opn (N + 2)), .sl (hs.length + 1) ((zs hs.length).map iv ++ [iv 0]) (.opn (N + 3))] 27, .cells [.sl (hs.length + 1) ((psOf hs).flatMap Par.l ++ [iv (v + 1), iv (v + 1), iv (v + 1), iv 1]) (.opn (N + 4)), iv 2] 30, .tail (hs.length + 1) 3 35, .tail (hs.length + 1) 1 3, .tail (hs.length + 1) 4 37] := by
 simp [stL, zs_succ, psOf, bagL, parOf, Par.l]
theorem tinOk0 {nums : List Int} (h : nums.length <= 2 ^ 50) (s : Int) : (⟨nums, 0, s⟩ : TinS).Ok 0 := ⟨Int.le_refl _, Int.le_refl _, h⟩
theorem zp1 : zeroRow (.agg #[.int .i64 0, .int .i64 0, .int .i64 0, .int .i64 0]) 4 = [iv 0, iv 0, iv 0, iv 0] := rfl
theorem zb1 : zeroRow (.agg #[.int .i64 0, .int .i64 0, .int .i64 0]) 3 = [iv 0, iv 0, iv 0] := rfl
theorem on_yes {ps : List Par} {x n : Nat} {q p : Par} (hne : n ≠ x) (hp : ps[n]? = some p) (h : p.w <= q.b) : ∃ i : Nat, (onM ps x q).findIdx? (· == (n : Int)) = some i := by
 cases hf : (onM ps x q).findIdx? (· == (n : Int)) with
 | some i => exact ⟨i, rfl⟩
 | none =>
  rw [List.findIdx?_eq_none_iff] at hf
  have hm : (n : Int) ∈ onM ps x q := by
   unfold onM
   rw [List.mem_filter]
   refine ⟨List.mem_map.2 ⟨n, List.mem_range.2 (get_lt hp), rfl⟩, ?_⟩
   simp only [Int.toNat_natCast, hp, Bool.and_eq_true, decide_eq_true_eq]
   exact ⟨hne, h⟩
  have := hf _ hm
  simp at this
theorem on_no {ps : List Par} {x n : Nat} {q p : Par} (hp : ps[n]? = some p) (h : ¬ p.w <= q.b) : (onM ps x q).findIdx? (· == (n : Int)) = none := by
 rw [List.findIdx?_eq_none_iff]
 intro y hy
 unfold onM at hy
 obtain ⟨hy1, hy2⟩ := List.mem_filter.1 hy
 by_cases e : y = (n : Int)
 ·subst e
  simp only [Int.toNat_natCast, hp, Bool.and_eq_true, decide_eq_true_eq] at hy2
  exact absurd hy2.2 h
 ·simpa using e
theorem onM_len (ps : List Par) (x : Nat) (q : Par) : (onM ps x q).length <= ps.length := by
 unfold onM
 exact Nat.le_trans (List.length_filter_le _ _) (by rw [belowM_len]; exact Nat.le_refl _)
theorem hok_and {H L : List AObj} (h : HOk H) (hL : ∀ z ∈ L, ∀ n, OLt n z) : HOk (H ++ L) := fun z hz => by
 rcases List.mem_append.1 hz with hz | hz
 ·exact (h z hz).mono (by simp)
 ·exact hL z hz _
theorem stK_ok (hs : List Int) : ∀ z ∈ stK hs, ∀ n, OLt n z := fun z hz n => by
 simp only [stK, List.mem_cons, List.not_mem_nil, or_false] at hz
 rcases hz with rfl | rfl | rfl | rfl | rfl
 ·intro a ha
  simp only [shelfL, List.mem_cons, List.not_mem_nil, or_false] at ha
  rcases ha with rfl | rfl | rfl
  ·rw [lt_ints]; trivial
  ·rw [lt_bags]; trivial
  ·rw [lt_ints]; trivial
 ·intro a ha
  simp only [yardL, List.mem_cons, List.not_mem_nil, or_false] at ha
  rcases ha with rfl | rfl
  ·rw [lt_pars]; trivial
  ·exact .val _
 all_goals trivial
section
variable {lv : Bool} {k kp : AV -> List AObj -> Prop} {H : List AObj}
theorem f3_c {nums : List Int} (hn : nums.length <= 2 ^ 50) (hk : k (bv true) H) : FnC lv Tryd.prog 3 H [aInts nums] k kp := by
 refine fnC_intro (rs := [.tmp 2]) (nt := 154) F.f3 rfl rfl rfl (by simp) fun hH hA => ?_
 simp only [argsT, Nat.reduceAdd]
 repeat refine awp_seq ?_
 refine awp_region (by kernel_rfl) ?_
 simp only [push_cast, Int.cast_ofNat_Int, Int.reduceLE, Int.reduceLT, Int.reduceToNat, Int.reduceNeg, Int.reduceSub, iv, bv, Nat.reduceBEq, reduceCtorEq, Nat.reduceAdd, Nat.reduceLeDiff, Nat.reduceSub, Nat.reduceLT, Nat.reduceMul]
 repeat refine awp_seq ?_
 refine awp_region (by kernel_rfl) ?_
 simp only [push_cast, Int.cast_ofNat_Int, Int.reduceLE, Int.reduceLT, Int.reduceToNat, Int.reduceNeg, Int.reduceSub, iv, bv, Nat.reduceBEq, reduceCtorEq, Nat.reduceAdd, Nat.reduceLeDiff, Nat.reduceSub, Nat.reduceLT, Nat.reduceMul]
 refine callG (callC_func (by kernel_rfl) (f4_c ?_))
 simp only [push_cast, Int.cast_ofNat_Int, Int.reduceLE, Int.reduceLT, Int.reduceToNat, Int.reduceNeg, Int.reduceSub, iv, bv, Nat.reduceBEq, reduceCtorEq, Nat.reduceAdd, Nat.reduceLeDiff, Nat.reduceSub, Nat.reduceLT, Nat.reduceMul]
 have hT := tinAt_new H
 have hto := tinOk0 hn 7640891576956012809
 obtain ⟨Gf, hGf⟩ : ∃ Gf : TinS -> List AObj, Gf = fun τ => H ++ [tinO τ] := ⟨_, rfl⟩
 have eG : H ++ [tinO ⟨nums, 0, 7640891576956012809⟩] = Gf ⟨nums, 0, 7640891576956012809⟩ := by rw [hGf]
 have hHg : ∀ τ, HOk (Gf τ) := fun τ => by rw [hGf]; exact hok_and hH fun z hz n => by rw [List.mem_singleton.1 hz]; exact olt_tin _ _
 rw [eG]
 rw [<- hGf] at hT
 obtain ⟨N, hN⟩ : ∃ N, N = H.length + 1 := ⟨_, rfl⟩
 rw [<- hN] at hT
 generalize (⟨nums, 0, 7640891576956012809⟩ : TinS) = τ at hto ⊢
 clear eG
 repeat refine awp_seq ?_
 refine awp_region (by kernel_rfl) ?_
 simp only [push_cast, Int.cast_ofNat_Int, Int.reduceLE, Int.reduceLT, Int.reduceToNat, Int.reduceNeg, Int.reduceSub, iv, bv, Nat.reduceBEq, reduceCtorEq, Nat.reduceAdd, Nat.reduceLeDiff, Nat.reduceSub, Nat.reduceLT, Nat.reduceMul, F.SliceOf_22, F.BuildOf_27, F.ZeroOf_27, F.Ty_27, zr1, p24_1, hT.len, hT.g0, hT.g1, hT.h2, hT.h3, hT.h4, hT.h5, hT.h6, hT.h7, hT.h8, hT.s0, hT.s1, hT.t2, hT.t3, hT.t4, hT.t5, hT.t6, hT.t7, hT.t8]
 repeat refine awp_seq ?_
 refine awp_region (by kernel_rfl) ?_
 simp only [push_cast, Int.cast_ofNat_Int, Int.reduceLE, Int.reduceLT, Int.reduceToNat, Int.reduceNeg, Int.reduceSub, iv, bv, Nat.reduceBEq, reduceCtorEq, Nat.reduceAdd, Nat.reduceLeDiff, Nat.reduceSub, Nat.reduceLT, Nat.reduceMul, F.BuildOf_30, F.ZeroOf_30, F.Ty_30, hT.len, hT.g0, hT.g1, hT.h2, hT.h3, hT.h4, hT.h5, hT.h6, hT.h7, hT.h8, hT.s0, hT.s1, hT.t2, hT.t3, hT.t4, hT.t5, hT.t6, hT.t7, hT.t8]
 (repeat refine awp_seq ?_); refine awp_wkO (id := N) (j := 0) (by simp only [push_cast, Int.cast_ofNat_Int, Int.reduceLE, Int.reduceLT, Int.reduceToNat, Int.reduceNeg, Int.reduceSub, iv, bv, Nat.reduceBEq, reduceCtorEq, Nat.reduceAdd, Nat.reduceLeDiff, Nat.reduceSub, Nat.reduceLT, Nat.reduceMul, hT.len, hT.g0, hT.g1, hT.h2, hT.h3, hT.h4, hT.h5, hT.h6, hT.h7, hT.h8, hT.s0, hT.s1, hT.t2, hT.t3, hT.t4, hT.t5, hT.t6, hT.t7, hT.t8] <;> rfl) rfl (wk_shut _ _ _) ?_
 simp only [push_cast, Int.cast_ofNat_Int, Int.reduceLE, Int.reduceLT, Int.reduceToNat, Int.reduceNeg, Int.reduceSub, iv, bv, Nat.reduceBEq, reduceCtorEq, Nat.reduceAdd, Nat.reduceLeDiff, Nat.reduceSub, Nat.reduceLT, Nat.reduceMul, hT.len, hT.g0, hT.g1, hT.h2, hT.h3, hT.h4, hT.h5, hT.h6, hT.h7, hT.h8, hT.s0, hT.s1, hT.t2, hT.t3, hT.t4, hT.t5, hT.t6, hT.t7, hT.t8]
 (repeat refine awp_seq ?_); refine awp_tailO (id := N) (j := 1) (sz := 3) (el' := 35) (by simp only [push_cast, Int.cast_ofNat_Int, Int.reduceLE, Int.reduceLT, Int.reduceToNat, Int.reduceNeg, Int.reduceSub, iv, bv, Nat.reduceBEq, reduceCtorEq, Nat.reduceAdd, Nat.reduceLeDiff, Nat.reduceSub, Nat.reduceLT, Nat.reduceMul, hT.len, hT.g0, hT.g1, hT.h2, hT.h3, hT.h4, hT.h5, hT.h6, hT.h7, hT.h8, hT.s0, hT.s1, hT.t2, hT.t3, hT.t4, hT.t5, hT.t6, hT.t7, hT.t8] <;> rfl) rfl ?_
 simp only [push_cast, Int.cast_ofNat_Int, Int.reduceLE, Int.reduceLT, Int.reduceToNat, Int.reduceNeg, Int.reduceSub, iv, bv, Nat.reduceBEq, reduceCtorEq, Nat.reduceAdd, Nat.reduceLeDiff, Nat.reduceSub, Nat.reduceLT, Nat.reduceMul, hT.len, hT.g0, hT.g1, hT.h2, hT.h3, hT.h4, hT.h5, hT.h6, hT.h7, hT.h8, hT.s0, hT.s1, hT.t2, hT.t3, hT.t4, hT.t5, hT.t6, hT.t7, hT.t8]
 (repeat refine awp_seq ?_); refine awp_tailO (id := N) (j := 2) (sz := 1) (el' := 3) (by simp only [push_cast, Int.cast_ofNat_Int, Int.reduceLE, Int.reduceLT, Int.reduceToNat, Int.reduceNeg, Int.reduceSub, iv, bv, Nat.reduceBEq, reduceCtorEq, Nat.reduceAdd, Nat.reduceLeDiff, Nat.reduceSub, Nat.reduceLT, Nat.reduceMul, hT.len, hT.g0, hT.g1, hT.h2, hT.h3, hT.h4, hT.h5, hT.h6, hT.h7, hT.h8, hT.s0, hT.s1, hT.t2, hT.t3, hT.t4, hT.t5, hT.t6, hT.t7, hT.t8] <;> rfl) rfl ?_
 simp only [push_cast, Int.cast_ofNat_Int, Int.reduceLE, Int.reduceLT, Int.reduceToNat, Int.reduceNeg, Int.reduceSub, iv, bv, Nat.reduceBEq, reduceCtorEq, Nat.reduceAdd, Nat.reduceLeDiff, Nat.reduceSub, Nat.reduceLT, Nat.reduceMul, hT.len, hT.g0, hT.g1, hT.h2, hT.h3, hT.h4, hT.h5, hT.h6, hT.h7, hT.h8, hT.s0, hT.s1, hT.t2, hT.t3, hT.t4, hT.t5, hT.t6, hT.t7, hT.t8]
 (repeat refine awp_seq ?_); refine awp_tailO (id := N + 1) (j := 0) (sz := 4) (el' := 37) (by simp only [push_cast, Int.cast_ofNat_Int, Int.reduceLE, Int.reduceLT, Int.reduceToNat, Int.reduceNeg, Int.reduceSub, iv, bv, Nat.reduceBEq, reduceCtorEq, Nat.reduceAdd, Nat.reduceLeDiff, Nat.reduceSub, Nat.reduceLT, Nat.reduceMul, hT.len, hT.g0, hT.g1, hT.h2, hT.h3, hT.h4, hT.h5, hT.h6, hT.h7, hT.h8, hT.s0, hT.s1, hT.t2, hT.t3, hT.t4, hT.t5, hT.t6, hT.t7, hT.t8] <;> rfl) rfl ?_
 simp only [push_cast, Int.cast_ofNat_Int, Int.reduceLE, Int.reduceLT, Int.reduceToNat, Int.reduceNeg, Int.reduceSub, iv, bv, Nat.reduceBEq, reduceCtorEq, Nat.reduceAdd, Nat.reduceLeDiff, Nat.reduceSub, Nat.reduceLT, Nat.reduceMul, hT.len, hT.g0, hT.g1, hT.h2, hT.h3, hT.h4, hT.h5, hT.h6, hT.h7, hT.h8, hT.s0, hT.s1, hT.t2, hT.t3, hT.t4, hT.t5, hT.t6, hT.t7, hT.t8]
 repeat refine awp_seq ?_
 refine awp_region (by kernel_rfl) ?_
 simp only [push_cast, Int.cast_ofNat_Int, Int.reduceLE, Int.reduceLT, Int.reduceToNat, Int.reduceNeg, Int.reduceSub, iv, bv, Nat.reduceBEq, reduceCtorEq, Nat.reduceAdd, Nat.reduceLeDiff, Nat.reduceSub, Nat.reduceLT, Nat.reduceMul, hT.len, hT.g0, hT.g1, hT.h2, hT.h3, hT.h4, hT.h5, hT.h6, hT.h7, hT.h8, hT.s0, hT.s1, hT.t2, hT.t3, hT.t4, hT.t5, hT.t6, hT.t7, hT.t8]
 refine callG (callC_func (by kernel_rfl) (f5_c (hT.more _) hto (by omega) (by omega) ?_))
 simp only [push_cast, Int.cast_ofNat_Int, Int.reduceLE, Int.reduceLT, Int.reduceToNat, Int.reduceNeg, Int.reduceSub, iv, bv, Nat.reduceBEq, reduceCtorEq, Nat.reduceAdd, Nat.reduceLeDiff, Nat.reduceSub, Nat.reduceLT, Nat.reduceMul, hT.len, hT.g0, hT.g1, hT.h2, hT.h3, hT.h4, hT.h5, hT.h6, hT.h7, hT.h8, hT.s0, hT.s1, hT.t2, hT.t3, hT.t4, hT.t5, hT.t6, hT.t7, hT.t8]
 have ht := uptoT_range τ 5
 generalize uptoT τ 5 = tot at ht ⊢
 obtain ⟨tot, rfl⟩ : ∃ n : Nat, tot = n := ⟨tot.toNat, by omega⟩
 have ht5 : tot <= 5 := by omega
 clear ht
 have hto := hto.tick
 generalize tick τ = τ at hto ⊢
 repeat refine awp_seq ?_
 refine awp_block ?_
 refine awp_loopG (measure fun m : List Int × TinS => tot - m.1.length).wf (fun m => [(6, iv ((tot : Int) - m.1.length))]) (fun m => Gf m.2 ++ stL N m.1) (fun m => (∀ h ∈ m.1, 0 <= h /\ h <= 6) /\ m.1.length <= tot /\ m.2.Ok (2 + 10 * m.1.length)) ([], τ) (fun _ _ => rfl) (by simp only [push_cast, Int.cast_ofNat_Int, Int.reduceLE, Int.reduceLT, Int.reduceToNat, Int.reduceNeg, Int.reduceSub, iv, bv, Nat.reduceBEq, reduceCtorEq, Nat.reduceAdd, Nat.reduceLeDiff, Nat.reduceSub, Nat.reduceLT, Nat.reduceMul, List.forall_mem_cons, List.not_mem_nil, false_imp_iff, implies_true, List.forall_mem_nil]; simp [exists_wk, Wk.refl]) (by simp [stL, zs, psOf, aInts]) (fun _ _ => by simp [hT.len, stL]) ⟨by simp, by simp, hto.mono (by simp)⟩ (fun hHs hLt m hok R hR => ?_)
 clear hHs hLt hto
 obtain ⟨hs, τ'⟩ := m
 obtain ⟨hkp, hkt, hto⟩ := hok
 simp only at hkp hkt hto
 repeat refine awp_seq ?_
 refine awp_region (by kernel_rfl) ?_
 simp only [push_cast, Int.cast_ofNat_Int, Int.reduceLE, Int.reduceLT, Int.reduceToNat, Int.reduceNeg, Int.reduceSub, iv, bv, Nat.reduceBEq, reduceCtorEq, Nat.reduceAdd, Nat.reduceLeDiff, Nat.reduceSub, Nat.reduceLT, Nat.reduceMul, stL, hT.len, hT.g0, hT.g1, hT.h2, hT.h3, hT.h4, hT.h5, hT.h6, hT.h7, hT.h8, hT.s0, hT.s1, hT.t2, hT.t3, hT.t4, hT.t5, hT.t6, hT.t7, hT.t8]
 repeat refine awp_seq ?_
 refine awp_condS ?_
 simp only [push_cast, Int.cast_ofNat_Int, Int.reduceLE, Int.reduceLT, Int.reduceToNat, Int.reduceNeg, Int.reduceSub, iv, bv, Nat.reduceBEq, reduceCtorEq, Nat.reduceAdd, Nat.reduceLeDiff, Nat.reduceSub, Nat.reduceLT, Nat.reduceMul]
 refine ⟨fun h => ?_, fun h => ?_⟩
 ·have hlt : hs.length < tot := by omega
  have hzl := zs_len hs.length
  have hbl := bags_len hs
  have hpl := pars_len (psOf hs)
  rw [psOf_len] at hpl
  repeat refine awp_seq ?_
  refine awp_skip ?_
  simp only [push_cast, Int.cast_ofNat_Int, Int.reduceLE, Int.reduceLT, Int.reduceToNat, Int.reduceNeg, Int.reduceSub, iv, bv, Nat.reduceBEq, reduceCtorEq, Nat.reduceAdd, Nat.reduceLeDiff, Nat.reduceSub, Nat.reduceLT, Nat.reduceMul]
  repeat refine awp_seq ?_
  refine awp_block ?_
  repeat refine awp_seq ?_
  refine awp_region (by kernel_rfl) ?_
  simp only [push_cast, Int.cast_ofNat_Int, Int.reduceLE, Int.reduceLT, Int.reduceToNat, Int.reduceNeg, Int.reduceSub, iv, bv, Nat.reduceBEq, reduceCtorEq, Nat.reduceAdd, Nat.reduceLeDiff, Nat.reduceSub, Nat.reduceLT, Nat.reduceMul, hT.len, hT.g0, hT.g1, hT.h2, hT.h3, hT.h4, hT.h5, hT.h6, hT.h7, hT.h8, hT.s0, hT.s1, hT.t2, hT.t3, hT.t4, hT.t5, hT.t6, hT.t7, hT.t8]
  refine callG (callC_func (by kernel_rfl) (f5_c (hT.more _) hto (by omega) (by omega) ?_))
  simp only [push_cast, Int.cast_ofNat_Int, Int.reduceLE, Int.reduceLT, Int.reduceToNat, Int.reduceNeg, Int.reduceSub, iv, bv, Nat.reduceBEq, reduceCtorEq, Nat.reduceAdd, Nat.reduceLeDiff, Nat.reduceSub, Nat.reduceLT, Nat.reduceMul, hT.len, hT.g0, hT.g1, hT.h2, hT.h3, hT.h4, hT.h5, hT.h6, hT.h7, hT.h8, hT.s0, hT.s1, hT.t2, hT.t3, hT.t4, hT.t5, hT.t6, hT.t7, hT.t8]
  have hv := uptoT_range τ' 6
  generalize uptoT τ' 6 = v at hv ⊢
  have hv6 : v <= 6 := by omega
  have hto := hto.tick
  generalize tick τ' = τ1 at hto ⊢
  have hw : IntKind.i64.wrap (v + 1) = v + 1 := i64_in _ (by omega)
  have hw2 : IntKind.i64.wrap ((tot : Int) - hs.length - 1) = tot - (hs.length + 1) := by rw [i64_in _ (by omega)]; omega
  repeat refine awp_seq ?_
  refine awp_drawB [7, 11, 13, 15] [0, 1, 2, 3, 4, 5, 6, 7, 8, 9, 10, 11, 12, 13, 14, 15] [⟨0, false, [], []⟩, ⟨1, false, [], []⟩, ⟨2, false, [], []⟩, ⟨3, false, [], []⟩, ⟨4, false, [], []⟩, ⟨5, false, [], []⟩, ⟨6, false, [], []⟩, ⟨7, true, [7], []⟩, ⟨8, false, [7], [([], [])]⟩, ⟨9, false, [7], [([], [])]⟩, ⟨10, false, [7], [([], [])]⟩, ⟨11, true, [7, 11], []⟩, ⟨12, false, [7, 11], [([7], [7])]⟩, ⟨13, true, [7, 11, 13], []⟩, ⟨14, false, [7, 11, 13], []⟩, ⟨15, true, [7, 11, 13, 15], []⟩] (fun D => Gf τ1 ++ [.cells [aInts [9], bif isDone 13 D then .sl (hs.length + 1) (hs.flatMap bagL ++ [iv 1, iv v, iv v]) (.opn (N + 2)) else .sl hs.length (hs.flatMap bagL) (.opn (N + 2)), bif isDone 15 D then .sl (hs.length + 1) ((zs hs.length).map iv ++ [iv 0]) (.opn (N + 3)) else .sl hs.length ((zs hs.length).map iv) (.opn (N + 3))] 27, .cells [.sl hs.length ((psOf hs).flatMap Par.l) (.opn (N + 4)), iv 2] 30, .tail (bif isDone 7 D then hs.length + 1 else hs.length) 3 35, .tail (bif isDone 11 D then hs.length + 1 else hs.length) 1 3, .tail hs.length 4 37]) F.mixed (by kernel_rfl) (by kernel_rfl) (by first | rfl | simp only [push_cast, Int.cast_ofNat_Int, Int.reduceLE, Int.reduceLT, Int.reduceToNat, Int.reduceNeg, Int.reduceSub, iv, bv, Nat.reduceBEq, reduceCtorEq, Nat.reduceAdd, Nat.reduceLeDiff, Nat.reduceSub, Nat.reduceLT, Nat.reduceMul]) ?_
  simp only [push_cast, Int.cast_ofNat_Int, Int.reduceLE, Int.reduceLT, Int.reduceToNat, Int.reduceNeg, Int.reduceSub, iv, bv, Nat.reduceBEq, reduceCtorEq, Nat.reduceAdd, Nat.reduceLeDiff, Nat.reduceSub, Nat.reduceLT, Nat.reduceMul, F.FieldOf_27_1, F.Ty_25, F.BuildOf_33, F.BuildOf_35, F.SliceOf_25, F.AppOf_25_25, F.FieldOf_27_2, F.Ty_22, F.SliceOf_22, F.AppOf_22_22, zr1, zb1, p24_1, p24_3, hzl, hbl, hT.len, hT.g0, hT.g1, hT.h2, hT.h3, hT.h4, hT.h5, hT.h6, hT.h7, hT.h8, hT.s0, hT.s1, hT.t2, hT.t3, hT.t4, hT.t5, hT.t6, hT.t7, hT.t8]
  refine ⟨by omega, by omega, ?_⟩
  repeat refine awp_seq ?_
  refine awp_region (by kernel_rfl) ?_
  simp only [push_cast, Int.cast_ofNat_Int, Int.reduceLE, Int.reduceLT, Int.reduceToNat, Int.reduceNeg, Int.reduceSub, iv, bv, Nat.reduceBEq, reduceCtorEq, Nat.reduceAdd, Nat.reduceLeDiff, Nat.reduceSub, Nat.reduceLT, Nat.reduceMul, F.FieldOf_30_0, F.Ty_28, F.BuildOf_33, F.BuildOf_37, F.SliceOf_28, F.AppOf_28_28, zp1, p24_1, p24_4, hpl, hw, hT.len, hT.g0, hT.g1, hT.h2, hT.h3, hT.h4, hT.h5, hT.h6, hT.h7, hT.h8, hT.s0, hT.s1, hT.t2, hT.t3, hT.t4, hT.t5, hT.t6, hT.t7, hT.t8]
  refine ⟨by omega, ?_⟩
  repeat refine awp_seq ?_
  refine awp_region (by kernel_rfl) ?_
  simp only [push_cast, Int.cast_ofNat_Int, Int.reduceLE, Int.reduceLT, Int.reduceToNat, Int.reduceNeg, Int.reduceSub, iv, bv, Nat.reduceBEq, reduceCtorEq, Nat.reduceAdd, Nat.reduceLeDiff, Nat.reduceSub, Nat.reduceLT, Nat.reduceMul, hw2]
  refine hR _ ⟨(hs ++ [v], τ1), by show tot - (hs ++ [_]).length < tot - hs.length; simp; omega, ⟨fun h hh => ?_, by simp; omega, hto.mono (by simp; omega)⟩, ?_⟩
  ·rcases List.mem_append.1 hh with hh | hh
   ·exact hkp h hh
   ·rw [List.mem_singleton.1 hh]; exact ⟨hv.1, hv6⟩
  ·simp only [stL_snoc, List.length_append, List.length_cons, List.length_nil, Nat.zero_add]
   exact (round_keep (keeps_rfl rfl rfl) (by simp only [push_cast, Int.cast_ofNat_Int, Int.reduceLE, Int.reduceLT, Int.reduceToNat, Int.reduceNeg, Int.reduceSub, iv, bv, Nat.reduceBEq, reduceCtorEq, Nat.reduceAdd, Nat.reduceLeDiff, Nat.reduceSub, Nat.reduceLT, Nat.reduceMul]; simp [exists_wk, Wk.refl]))
 ·have hn5 : hs.length <= 5 := by omega
  have hsw := psOf_len hs
  repeat refine awp_seq ?_
  refine awp_exit ?_
  simp only [push_cast, Int.cast_ofNat_Int, Int.reduceLE, Int.reduceLT, Int.reduceToNat, Int.reduceNeg, Int.reduceSub, iv, bv, Nat.reduceBEq, reduceCtorEq, Nat.reduceAdd, Nat.reduceLeDiff, Nat.reduceSub, Nat.reduceLT, Nat.reduceMul]
  (repeat refine awp_seq ?_); refine awp_wkO (id := N) (j := 1) (by simp only [push_cast, Int.cast_ofNat_Int, Int.reduceLE, Int.reduceLT, Int.reduceToNat, Int.reduceNeg, Int.reduceSub, iv, bv, Nat.reduceBEq, reduceCtorEq, Nat.reduceAdd, Nat.reduceLeDiff, Nat.reduceSub, Nat.reduceLT, Nat.reduceMul, hT.len, hT.g0, hT.g1, hT.h2, hT.h3, hT.h4, hT.h5, hT.h6, hT.h7, hT.h8, hT.s0, hT.s1, hT.t2, hT.t3, hT.t4, hT.t5, hT.t6, hT.t7, hT.t8] <;> rfl) rfl (wk_shut _ _ _) ?_
  simp only [push_cast, Int.cast_ofNat_Int, Int.reduceLE, Int.reduceLT, Int.reduceToNat, Int.reduceNeg, Int.reduceSub, iv, bv, Nat.reduceBEq, reduceCtorEq, Nat.reduceAdd, Nat.reduceLeDiff, Nat.reduceSub, Nat.reduceLT, Nat.reduceMul, hT.len, hT.g0, hT.g1, hT.h2, hT.h3, hT.h4, hT.h5, hT.h6, hT.h7, hT.h8, hT.s0, hT.s1, hT.t2, hT.t3, hT.t4, hT.t5, hT.t6, hT.t7, hT.t8]
  (repeat refine awp_seq ?_); refine awp_wkO (id := N) (j := 2) (by simp only [push_cast, Int.cast_ofNat_Int, Int.reduceLE, Int.reduceLT, Int.reduceToNat, Int.reduceNeg, Int.reduceSub, iv, bv, Nat.reduceBEq, reduceCtorEq, Nat.reduceAdd, Nat.reduceLeDiff, Nat.reduceSub, Nat.reduceLT, Nat.reduceMul, hT.len, hT.g0, hT.g1, hT.h2, hT.h3, hT.h4, hT.h5, hT.h6, hT.h7, hT.h8, hT.s0, hT.s1, hT.t2, hT.t3, hT.t4, hT.t5, hT.t6, hT.t7, hT.t8] <;> rfl) rfl (wk_shut _ _ _) ?_
  simp only [push_cast, Int.cast_ofNat_Int, Int.reduceLE, Int.reduceLT, Int.reduceToNat, Int.reduceNeg, Int.reduceSub, iv, bv, Nat.reduceBEq, reduceCtorEq, Nat.reduceAdd, Nat.reduceLeDiff, Nat.reduceSub, Nat.reduceLT, Nat.reduceMul, hT.len, hT.g0, hT.g1, hT.h2, hT.h3, hT.h4, hT.h5, hT.h6, hT.h7, hT.h8, hT.s0, hT.s1, hT.t2, hT.t3, hT.t4, hT.t5, hT.t6, hT.t7, hT.t8]
  (repeat refine awp_seq ?_); refine awp_wkO (id := N + 1) (j := 0) (by simp only [push_cast, Int.cast_ofNat_Int, Int.reduceLE, Int.reduceLT, Int.reduceToNat, Int.reduceNeg, Int.reduceSub, iv, bv, Nat.reduceBEq, reduceCtorEq, Nat.reduceAdd, Nat.reduceLeDiff, Nat.reduceSub, Nat.reduceLT, Nat.reduceMul, hT.len, hT.g0, hT.g1, hT.h2, hT.h3, hT.h4, hT.h5, hT.h6, hT.h7, hT.h8, hT.s0, hT.s1, hT.t2, hT.t3, hT.t4, hT.t5, hT.t6, hT.t7, hT.t8] <;> rfl) rfl (wk_shut _ _ _) ?_
  simp only [push_cast, Int.cast_ofNat_Int, Int.reduceLE, Int.reduceLT, Int.reduceToNat, Int.reduceNeg, Int.reduceSub, iv, bv, Nat.reduceBEq, reduceCtorEq, Nat.reduceAdd, Nat.reduceLeDiff, Nat.reduceSub, Nat.reduceLT, Nat.reduceMul, hT.len, hT.g0, hT.g1, hT.h2, hT.h3, hT.h4, hT.h5, hT.h6, hT.h7, hT.h8, hT.s0, hT.s1, hT.t2, hT.t3, hT.t4, hT.t5, hT.t6, hT.t7, hT.t8]
  have hst : ShOk 9 hs hs.length := ⟨by decide, hn5, hkp, Nat.le_refl _, by omega⟩
  have hpar : ∀ p ∈ psOf hs, p.Ok := fun p hp => by
   obtain ⟨h, hh, rfl⟩ := List.mem_map.1 hp
   have := hkp h hh
   exact ⟨by show 1 <= h + 1 /\ h + 1 <= 12; omega, by show 0 <= h + 1 /\ h + 1 <= 30; omega⟩
  repeat refine awp_seq ?_
  refine awp_region (by kernel_rfl) ?_
  simp only [push_cast, Int.cast_ofNat_Int, Int.reduceLE, Int.reduceLT, Int.reduceToNat, Int.reduceNeg, Int.reduceSub, iv, bv, Nat.reduceBEq, reduceCtorEq, Nat.reduceAdd, Nat.reduceLeDiff, Nat.reduceSub, Nat.reduceLT, Nat.reduceMul]
  repeat refine awp_seq ?_
  refine awp_block ?_
  refine awp_loopG (measure fun m : Nat => hs.length - m).wf (fun m => [(8, iv m)]) (fun m => Gf τ' ++ stK hs) (fun m => m <= hs.length) 0 (fun _ _ => rfl) (by simp only [push_cast, Int.cast_ofNat_Int, Int.reduceLE, Int.reduceLT, Int.reduceToNat, Int.reduceNeg, Int.reduceSub, iv, bv, Nat.reduceBEq, reduceCtorEq, Nat.reduceAdd, Nat.reduceLeDiff, Nat.reduceSub, Nat.reduceLT, Nat.reduceMul, List.forall_mem_cons, List.not_mem_nil, false_imp_iff, implies_true, List.forall_mem_nil]; simp [exists_wk, Wk.refl]) (by simp [stK, shelfL, yardL, aBags, aPars, psOf, aInts, zs]) (fun _ _ => by simp [hT.len, stK]) (Nat.zero_le _) (fun hHs hLt i hok R hR => ?_)
  clear hHs hLt
  repeat refine awp_seq ?_
  refine awp_region (by kernel_rfl) ?_
  simp only [push_cast, Int.cast_ofNat_Int, Int.reduceLE, Int.reduceLT, Int.reduceToNat, Int.reduceNeg, Int.reduceSub, iv, bv, Nat.reduceBEq, reduceCtorEq, Nat.reduceAdd, Nat.reduceLeDiff, Nat.reduceSub, Nat.reduceLT, Nat.reduceMul, stK, shelfL, F.FieldOf_27_1, F.Ty_25, F.LenOf_25, aBags, hT.len, hT.g0, hT.g1, hT.h2, hT.h3, hT.h4, hT.h5, hT.h6, hT.h7, hT.h8, hT.s0, hT.s1, hT.t2, hT.t3, hT.t4, hT.t5, hT.t6, hT.t7, hT.t8]
  repeat refine awp_seq ?_
  refine awp_condS ?_
  simp only [push_cast, Int.cast_ofNat_Int, Int.reduceLE, Int.reduceLT, Int.reduceToNat, Int.reduceNeg, Int.reduceSub, iv, bv, Nat.reduceBEq, reduceCtorEq, Nat.reduceAdd, Nat.reduceLeDiff, Nat.reduceSub, Nat.reduceLT, Nat.reduceMul]
  refine ⟨fun h => ?_, fun h => ?_⟩
  ·have hil : i < hs.length := by omega
   obtain ⟨a, ha⟩ := lt_get hil
   have hi1 : IntKind.i64.wrap ((i : Int) + 1) = ((i + 1 : Nat) : Int) := by rw [i64_in _ (by omega)]; rfl
   have hpa : (psOf hs)[i]? = some (parOf a) := by simp [psOf, ha]
   repeat refine awp_seq ?_
   refine awp_skip ?_
   simp only [push_cast, Int.cast_ofNat_Int, Int.reduceLE, Int.reduceLT, Int.reduceToNat, Int.reduceNeg, Int.reduceSub, iv, bv, Nat.reduceBEq, reduceCtorEq, Nat.reduceAdd, Nat.reduceLeDiff, Nat.reduceSub, Nat.reduceLT, Nat.reduceMul]
   repeat refine awp_seq ?_
   refine awp_block ?_
   repeat refine awp_seq ?_
   refine awp_region (by kernel_rfl) ?_
   simp only [push_cast, Int.cast_ofNat_Int, Int.reduceLE, Int.reduceLT, Int.reduceToNat, Int.reduceNeg, Int.reduceSub, iv, bv, Nat.reduceBEq, reduceCtorEq, Nat.reduceAdd, Nat.reduceLeDiff, Nat.reduceSub, Nat.reduceLT, Nat.reduceMul, F.Ty_30, F.SliceOf_22, yardL, zr1, p24_1, hT.len, hT.g0, hT.g1, hT.h2, hT.h3, hT.h4, hT.h5, hT.h6, hT.h7, hT.h8, hT.s0, hT.s1, hT.t2, hT.t3, hT.t4, hT.t5, hT.t6, hT.t7, hT.t8]
   refine callG (callC_func (by kernel_rfl) (f6_c (ps := psOf hs) (x := i) (q := parOf a) (by rw [psOf_len]; exact hn5) hpar hpa ?_))
   simp only [push_cast, Int.cast_ofNat_Int, Int.reduceLE, Int.reduceLT, Int.reduceToNat, Int.reduceNeg, Int.reduceSub, iv, bv, Nat.reduceBEq, reduceCtorEq, Nat.reduceAdd, Nat.reduceLeDiff, Nat.reduceSub, Nat.reduceLT, Nat.reduceMul]
   repeat refine awp_seq ?_
   refine awp_region (by kernel_rfl) ?_
   simp only [push_cast, Int.cast_ofNat_Int, Int.reduceLE, Int.reduceLT, Int.reduceToNat, Int.reduceNeg, Int.reduceSub, iv, bv, Nat.reduceBEq, reduceCtorEq, Nat.reduceAdd, Nat.reduceLeDiff, Nat.reduceSub, Nat.reduceLT, Nat.reduceMul]
   repeat refine awp_seq ?_
   refine awp_condS ?_
   simp only [push_cast, Int.cast_ofNat_Int, Int.reduceLE, Int.reduceLT, Int.reduceToNat, Int.reduceNeg, Int.reduceSub, iv, bv, Nat.reduceBEq, reduceCtorEq, Nat.reduceAdd, Nat.reduceLeDiff, Nat.reduceSub, Nat.reduceLT, Nat.reduceMul]
   repeat refine awp_seq ?_
   refine awp_skip ?_
   simp only [push_cast, Int.cast_ofNat_Int, Int.reduceLE, Int.reduceLT, Int.reduceToNat, Int.reduceNeg, Int.reduceSub, iv, bv, Nat.reduceBEq, reduceCtorEq, Nat.reduceAdd, Nat.reduceLeDiff, Nat.reduceSub, Nat.reduceLT, Nat.reduceMul]
   repeat refine awp_seq ?_
   refine awp_region (by kernel_rfl) ?_
   simp only [push_cast, Int.cast_ofNat_Int, Int.reduceLE, Int.reduceLT, Int.reduceToNat, Int.reduceNeg, Int.reduceSub, iv, bv, Nat.reduceBEq, reduceCtorEq, Nat.reduceAdd, Nat.reduceLeDiff, Nat.reduceSub, Nat.reduceLT, Nat.reduceMul, hi1]
   repeat refine awp_seq ?_
   refine awp_block ?_
   refine awp_loopG (measure fun m : Nat => hs.length - m).wf (fun m => [(11, iv m)]) (fun m => Gf τ' ++ stK hs) (fun m => i < m /\ m <= hs.length) (i + 1) (fun _ _ => rfl) (by simp only [push_cast, Int.cast_ofNat_Int, Int.reduceLE, Int.reduceLT, Int.reduceToNat, Int.reduceNeg, Int.reduceSub, iv, bv, Nat.reduceBEq, reduceCtorEq, Nat.reduceAdd, Nat.reduceLeDiff, Nat.reduceSub, Nat.reduceLT, Nat.reduceMul, List.forall_mem_cons, List.not_mem_nil, false_imp_iff, implies_true, List.forall_mem_nil]; simp [exists_wk, Wk.refl]) (by simp [stK, shelfL, yardL, aBags, aPars, aInts]) (fun _ _ => by simp [hT.len, stK]) ⟨by omega, by omega⟩ (fun hHs hLt j hok2 R2 hR2 => ?_)
   clear hHs hLt
   obtain ⟨hij, hjn⟩ := hok2
   repeat refine awp_seq ?_
   refine awp_region (by kernel_rfl) ?_
   simp only [push_cast, Int.cast_ofNat_Int, Int.reduceLE, Int.reduceLT, Int.reduceToNat, Int.reduceNeg, Int.reduceSub, iv, bv, Nat.reduceBEq, reduceCtorEq, Nat.reduceAdd, Nat.reduceLeDiff, Nat.reduceSub, Nat.reduceLT, Nat.reduceMul, stK, shelfL, F.FieldOf_27_1, F.Ty_25, F.LenOf_25, aBags, hT.len, hT.g0, hT.g1, hT.h2, hT.h3, hT.h4, hT.h5, hT.h6, hT.h7, hT.h8, hT.s0, hT.s1, hT.t2, hT.t3, hT.t4, hT.t5, hT.t6, hT.t7, hT.t8]
   repeat refine awp_seq ?_
   refine awp_condS ?_
   simp only [push_cast, Int.cast_ofNat_Int, Int.reduceLE, Int.reduceLT, Int.reduceToNat, Int.reduceNeg, Int.reduceSub, iv, bv, Nat.reduceBEq, reduceCtorEq, Nat.reduceAdd, Nat.reduceLeDiff, Nat.reduceSub, Nat.reduceLT, Nat.reduceMul]
   refine ⟨fun h2 => ?_, fun h2 => ?_⟩
   ·have hjl : j < hs.length := by omega
    obtain ⟨b, hb⟩ := lt_get hjl
    have hj1 : IntKind.i64.wrap ((j : Int) + 1) = ((j + 1 : Nat) : Int) := by rw [i64_in _ (by omega)]; rfl
    have hpb : (psOf hs)[j]? = some (parOf b) := by simp [psOf, hb]
    have ha6 := hkp a (mem_of_get ha)
    have hb6 := hkp b (mem_of_get hb)
    repeat refine awp_seq ?_
    refine awp_skip ?_
    simp only [push_cast, Int.cast_ofNat_Int, Int.reduceLE, Int.reduceLT, Int.reduceToNat, Int.reduceNeg, Int.reduceSub, iv, bv, Nat.reduceBEq, reduceCtorEq, Nat.reduceAdd, Nat.reduceLeDiff, Nat.reduceSub, Nat.reduceLT, Nat.reduceMul]
    repeat refine awp_seq ?_
    refine awp_block ?_
    repeat refine awp_seq ?_
    refine awp_region (by kernel_rfl) ?_
    simp only [push_cast, Int.cast_ofNat_Int, Int.reduceLE, Int.reduceLT, Int.reduceToNat, Int.reduceNeg, Int.reduceSub, iv, bv, Nat.reduceBEq, reduceCtorEq, Nat.reduceAdd, Nat.reduceLeDiff, Nat.reduceSub, Nat.reduceLT, Nat.reduceMul, F.Ty_27, hT.len, hT.g0, hT.g1, hT.h2, hT.h3, hT.h4, hT.h5, hT.h6, hT.h7, hT.h8, hT.s0, hT.s1, hT.t2, hT.t3, hT.t4, hT.t5, hT.t6, hT.t7, hT.t8]
    refine callG (callC_func (by kernel_rfl) (f7_c (n := 9) (hs := hs) (m := hs.length) (i := i) (j := j) (a := a) (b := b) hst ha hb hij hjl ?_))
    simp only [push_cast, Int.cast_ofNat_Int, Int.reduceLE, Int.reduceLT, Int.reduceToNat, Int.reduceNeg, Int.reduceSub, iv, bv, Nat.reduceBEq, reduceCtorEq, Nat.reduceAdd, Nat.reduceLeDiff, Nat.reduceSub, Nat.reduceLT, Nat.reduceMul]
    repeat refine awp_seq ?_
    refine awp_drawB [15, 16] [0, 1, 2, 3, 4, 5, 6, 7, 8, 9, 10, 11, 12, 13, 14, 15, 16] [⟨0, false, [], [([15], [15])]⟩, ⟨1, false, [], [([15], [15])]⟩, ⟨2, false, [], [([15], [15])]⟩, ⟨3, false, [], [([15], [15])]⟩, ⟨4, false, [], [([15], [15])]⟩, ⟨5, false, [], [([15], [15])]⟩, ⟨6, false, [], [([15], [15])]⟩, ⟨7, false, [], [([15], [15])]⟩, ⟨8, false, [], [([15], [15])]⟩, ⟨9, false, [], [([15], [15])]⟩, ⟨10, false, [], [([15], [15])]⟩, ⟨11, false, [], [([15], [15])]⟩, ⟨12, false, [], [([15], [15])]⟩, ⟨13, false, [], [([15], [15])]⟩, ⟨14, false, [], [([15], [15])]⟩, ⟨15, true, [15], []⟩, ⟨16, true, [15, 16], []⟩] (fun D => bif isDone 16 D then Gf τ' ++ (stK hs ++ [.cells [aInts [9], .sl 2 [iv 1, iv a, iv a, iv 1, iv b, iv b] .exact, .sl 2 [iv 0, iv 0] .exact] 27]) else bif isDone 15 D then Gf τ' ++ (stK hs ++ [.cells [.sl 0 [] .exact, .sl 0 [] .exact, .sl 0 [] .exact] 27]) else Gf τ' ++ stK hs) F.mixed (by kernel_rfl) (by kernel_rfl) (by first | rfl | simp only [push_cast, Int.cast_ofNat_Int, Int.reduceLE, Int.reduceLT, Int.reduceToNat, Int.reduceNeg, Int.reduceSub, iv, bv, Nat.reduceBEq, reduceCtorEq, Nat.reduceAdd, Nat.reduceLeDiff, Nat.reduceSub, Nat.reduceLT, Nat.reduceMul]) ?_
    simp only [push_cast, Int.cast_ofNat_Int, Int.reduceLE, Int.reduceLT, Int.reduceToNat, Int.reduceNeg, Int.reduceSub, iv, bv, Nat.reduceBEq, reduceCtorEq, Nat.reduceAdd, Nat.reduceLeDiff, Nat.reduceSub, Nat.reduceLT, Nat.reduceMul, F.FieldOf_27_0, F.Ty_22, F.FieldOf_27_1, F.Ty_25, F.IdxOf_25, F.Ty_35, F.SliceOf_25, F.SliceOf_22, F.BuildOf_27, F.ZeroOf_27, F.Ty_27, stK, shelfL, aBags, yardL, sh_bags ha, sh_bags hb, bnd_nat hil, bnd_nat hjl, zr2, zg2, p24_2, p24_6, parts_ints, hT.len, hT.g0, hT.g1, hT.h2, hT.h3, hT.h4, hT.h5, hT.h6, hT.h7, hT.h8, hT.s0, hT.s1, hT.t2, hT.t3, hT.t4, hT.t5, hT.t6, hT.t7, hT.t8]
    repeat refine awp_seq ?_
    refine awp_region (by kernel_rfl) ?_
    simp only [push_cast, Int.cast_ofNat_Int, Int.reduceLE, Int.reduceLT, Int.reduceToNat, Int.reduceNeg, Int.reduceSub, iv, bv, Nat.reduceBEq, reduceCtorEq, Nat.reduceAdd, Nat.reduceLeDiff, Nat.reduceSub, Nat.reduceLT, Nat.reduceMul, F.Ty_27, hT.len, hT.g0, hT.g1, hT.h2, hT.h3, hT.h4, hT.h5, hT.h6, hT.h7, hT.h8, hT.s0, hT.s1, hT.t2, hT.t3, hT.t4, hT.t5, hT.t6, hT.t7, hT.t8]
    refine callG (callC_func (by kernel_rfl) ?_); refine fnC_wk (l' := [shelfA 9 [a, b] 2]) (.cons (wk_agg (.cons (Wk.refl _) (.cons (wk_shut _ _ _) (.cons (wk_shut _ _ _) .nil)))) .nil) (f8_c ha6 hb6 ?_)
    simp only [push_cast, Int.cast_ofNat_Int, Int.reduceLE, Int.reduceLT, Int.reduceToNat, Int.reduceNeg, Int.reduceSub, iv, bv, Nat.reduceBEq, reduceCtorEq, Nat.reduceAdd, Nat.reduceLeDiff, Nat.reduceSub, Nat.reduceLT, Nat.reduceMul]
    repeat refine awp_seq ?_
    refine awp_region (by kernel_rfl) ?_
    simp only [push_cast, Int.cast_ofNat_Int, Int.reduceLE, Int.reduceLT, Int.reduceToNat, Int.reduceNeg, Int.reduceSub, iv, bv, Nat.reduceBEq, reduceCtorEq, Nat.reduceAdd, Nat.reduceLeDiff, Nat.reduceSub, Nat.reduceLT, Nat.reduceMul, F.Ty_30, F.SliceOf_22, zr2, p24_2, hT.len, hT.g0, hT.g1, hT.h2, hT.h3, hT.h4, hT.h5, hT.h6, hT.h7, hT.h8, hT.s0, hT.s1, hT.t2, hT.t3, hT.t4, hT.t5, hT.t6, hT.t7, hT.t8]
    refine callG (callC_func (by kernel_rfl) (f9_c (ps := psOf hs) (x := i) (y := j) (p := parOf b) (q := parOf a) (by rw [psOf_len]; exact hn5) hpar hpa hpb (by omega) ?_))
    have hpq : ((parOf b).w <= (parOf a).b) = (b <= a) := by show (b + 1 <= a + 1) = _; simp
    have hol : (onM (psOf hs) i (parOf a)).length <= 2 ^ 30 := by have := onM_len (psOf hs) i (parOf a); rw [psOf_len] at this; omega
    by_cases hab : b <= a
    ·have hna : ¬ a < b := by omega
     obtain ⟨x, hx⟩ := on_yes (q := parOf a) (show j ≠ i by omega) hpb (by rw [hpq]; exact hab)
     have hge : decide ((x : Int) >= 0) = true := decide_eq_true (by omega)
     simp only [push_cast, Int.cast_ofNat_Int, Int.reduceLE, Int.reduceLT, Int.reduceToNat, Int.reduceNeg, Int.reduceSub, iv, bv, Nat.reduceBEq, reduceCtorEq, Nat.reduceAdd, Nat.reduceLeDiff, Nat.reduceSub, Nat.reduceLT, Nat.reduceMul, hpq, hab, hna, if_true, if_false]
     repeat refine awp_seq ?_
     refine awp_region (by kernel_rfl) ?_
     simp only [push_cast, Int.cast_ofNat_Int, Int.reduceLE, Int.reduceLT, Int.reduceToNat, Int.reduceNeg, Int.reduceSub, iv, bv, Nat.reduceBEq, reduceCtorEq, Nat.reduceAdd, Nat.reduceLeDiff, Nat.reduceSub, Nat.reduceLT, Nat.reduceMul, beq_self_eq_true, bne_self_eq_false]
     refine callG (callC_func (by kernel_rfl) ?_); refine f10_c (xs := onM (psOf hs) i (parOf a)) (n := j) hol ?_
     rw [hx]
     simp only [push_cast, Int.cast_ofNat_Int, Int.reduceLE, Int.reduceLT, Int.reduceToNat, Int.reduceNeg, Int.reduceSub, iv, bv, Nat.reduceBEq, reduceCtorEq, Nat.reduceAdd, Nat.reduceLeDiff, Nat.reduceSub, Nat.reduceLT, Nat.reduceMul, beq_self_eq_true, bne_self_eq_false, aInts, hge, F.LenOf_22, List.length_cons, List.length_nil]
     repeat refine awp_seq ?_
     refine awp_condS ?_
     simp only [push_cast, Int.cast_ofNat_Int, Int.reduceLE, Int.reduceLT, Int.reduceToNat, Int.reduceNeg, Int.reduceSub, iv, bv, Nat.reduceBEq, reduceCtorEq, Nat.reduceAdd, Nat.reduceLeDiff, Nat.reduceSub, Nat.reduceLT, Nat.reduceMul]
     repeat refine awp_seq ?_
     refine awp_skip ?_
     simp only [push_cast, Int.cast_ofNat_Int, Int.reduceLE, Int.reduceLT, Int.reduceToNat, Int.reduceNeg, Int.reduceSub, iv, bv, Nat.reduceBEq, reduceCtorEq, Nat.reduceAdd, Nat.reduceLeDiff, Nat.reduceSub, Nat.reduceLT, Nat.reduceMul]
     repeat refine awp_seq ?_
     refine awp_region (by kernel_rfl) ?_
     simp only [push_cast, Int.cast_ofNat_Int, Int.reduceLE, Int.reduceLT, Int.reduceToNat, Int.reduceNeg, Int.reduceSub, iv, bv, Nat.reduceBEq, reduceCtorEq, Nat.reduceAdd, Nat.reduceLeDiff, Nat.reduceSub, Nat.reduceLT, Nat.reduceMul, hj1]
     refine hR2 _ ⟨j + 1, by show hs.length - (j + 1) < hs.length - j; omega, ⟨by show i < j + 1; omega, by show j + 1 <= hs.length; omega⟩, ?_⟩
     refine round_trimE [.cells [aInts [9], .sl 2 [iv 1, iv a, iv a, iv 1, iv b, iv b] .exact, .sl 2 [iv 0, iv 0] .exact] 27] (keeps_rfl rfl rfl) (by simp only [push_cast, Int.cast_ofNat_Int, Int.reduceLE, Int.reduceLT, Int.reduceToNat, Int.reduceNeg, Int.reduceSub, iv, bv, Nat.reduceBEq, reduceCtorEq, Nat.reduceAdd, Nat.reduceLeDiff, Nat.reduceSub, Nat.reduceLT, Nat.reduceMul]; simp [exists_wk, Wk.refl]) (hok_and (hHg _) (stK_ok hs)) (by simp [lt_val]) (by simp [stK, shelfL, yardL, aBags, aInts])
    ·have hna : a < b := by omega
     have hx := on_no (x := i) (q := parOf a) hpb (by rw [hpq]; exact hab)
     have hge : decide ((-1 : Int) >= 0) = false := rfl
     have h12 : ((1 : Int) == 2) = false := rfl
     have h01 : ((0 : Int) == 1) = false := rfl
     have h21 : ((2 : Int) == 1) = false := rfl
     simp only [push_cast, Int.cast_ofNat_Int, Int.reduceLE, Int.reduceLT, Int.reduceToNat, Int.reduceNeg, Int.reduceSub, iv, bv, Nat.reduceBEq, reduceCtorEq, Nat.reduceAdd, Nat.reduceLeDiff, Nat.reduceSub, Nat.reduceLT, Nat.reduceMul, hpq, hab, hna, if_true, if_false]
     repeat refine awp_seq ?_
     refine awp_region (by kernel_rfl) ?_
     simp only [push_cast, Int.cast_ofNat_Int, Int.reduceLE, Int.reduceLT, Int.reduceToNat, Int.reduceNeg, Int.reduceSub, iv, bv, Nat.reduceBEq, reduceCtorEq, Nat.reduceAdd, Nat.reduceLeDiff, Nat.reduceSub, Nat.reduceLT, Nat.reduceMul, beq_self_eq_true, bne_self_eq_false]
     refine callG (callC_func (by kernel_rfl) ?_); refine f10_c (xs := onM (psOf hs) i (parOf a)) (n := j) hol ?_
     rw [hx]
     simp only [push_cast, Int.cast_ofNat_Int, Int.reduceLE, Int.reduceLT, Int.reduceToNat, Int.reduceNeg, Int.reduceSub, iv, bv, Nat.reduceBEq, reduceCtorEq, Nat.reduceAdd, Nat.reduceLeDiff, Nat.reduceSub, Nat.reduceLT, Nat.reduceMul, beq_self_eq_true, bne_self_eq_false, aInts, hge, h12, h01, h21, F.LenOf_22, List.length_cons, List.length_nil]
     repeat refine awp_seq ?_
     refine awp_condS ?_
     simp only [push_cast, Int.cast_ofNat_Int, Int.reduceLE, Int.reduceLT, Int.reduceToNat, Int.reduceNeg, Int.reduceSub, iv, bv, Nat.reduceBEq, reduceCtorEq, Nat.reduceAdd, Nat.reduceLeDiff, Nat.reduceSub, Nat.reduceLT, Nat.reduceMul]
     repeat refine awp_seq ?_
     refine awp_skip ?_
     simp only [push_cast, Int.cast_ofNat_Int, Int.reduceLE, Int.reduceLT, Int.reduceToNat, Int.reduceNeg, Int.reduceSub, iv, bv, Nat.reduceBEq, reduceCtorEq, Nat.reduceAdd, Nat.reduceLeDiff, Nat.reduceSub, Nat.reduceLT, Nat.reduceMul]
     repeat refine awp_seq ?_
     refine awp_region (by kernel_rfl) ?_
     simp only [push_cast, Int.cast_ofNat_Int, Int.reduceLE, Int.reduceLT, Int.reduceToNat, Int.reduceNeg, Int.reduceSub, iv, bv, Nat.reduceBEq, reduceCtorEq, Nat.reduceAdd, Nat.reduceLeDiff, Nat.reduceSub, Nat.reduceLT, Nat.reduceMul, hj1]
     refine hR2 _ ⟨j + 1, by show hs.length - (j + 1) < hs.length - j; omega, ⟨by show i < j + 1; omega, by show j + 1 <= hs.length; omega⟩, ?_⟩
     refine round_trimE [.cells [aInts [9], .sl 2 [iv 1, iv a, iv a, iv 1, iv b, iv b] .exact, .sl 2 [iv 0, iv 0] .exact] 27] (keeps_rfl rfl rfl) (by simp only [push_cast, Int.cast_ofNat_Int, Int.reduceLE, Int.reduceLT, Int.reduceToNat, Int.reduceNeg, Int.reduceSub, iv, bv, Nat.reduceBEq, reduceCtorEq, Nat.reduceAdd, Nat.reduceLeDiff, Nat.reduceSub, Nat.reduceLT, Nat.reduceMul]; simp [exists_wk, Wk.refl]) (hok_and (hHg _) (stK_ok hs)) (by simp [lt_val]) (by simp [stK, shelfL, yardL, aBags, aInts])
   ·have hje : j = hs.length := by omega
    repeat refine awp_seq ?_
    refine awp_exit ?_
    simp only [push_cast, Int.cast_ofNat_Int, Int.reduceLE, Int.reduceLT, Int.reduceToNat, Int.reduceNeg, Int.reduceSub, iv, bv, Nat.reduceBEq, reduceCtorEq, Nat.reduceAdd, Nat.reduceLeDiff, Nat.reduceSub, Nat.reduceLT, Nat.reduceMul]
    repeat refine awp_seq ?_
    refine awp_region (by kernel_rfl) ?_
    simp only [push_cast, Int.cast_ofNat_Int, Int.reduceLE, Int.reduceLT, Int.reduceToNat, Int.reduceNeg, Int.reduceSub, iv, bv, Nat.reduceBEq, reduceCtorEq, Nat.reduceAdd, Nat.reduceLeDiff, Nat.reduceSub, Nat.reduceLT, Nat.reduceMul, hi1]
    refine hR _ ⟨i + 1, by show hs.length - (i + 1) < hs.length - i; omega, by show i + 1 <= hs.length; omega, ?_⟩
    exact (round_keep (keeps_rfl rfl rfl) (by simp only [push_cast, Int.cast_ofNat_Int, Int.reduceLE, Int.reduceLT, Int.reduceToNat, Int.reduceNeg, Int.reduceSub, iv, bv, Nat.reduceBEq, reduceCtorEq, Nat.reduceAdd, Nat.reduceLeDiff, Nat.reduceSub, Nat.reduceLT, Nat.reduceMul]; simp [exists_wk, Wk.refl]))
  ·repeat refine awp_seq ?_
   refine awp_exit ?_
   simp only [push_cast, Int.cast_ofNat_Int, Int.reduceLE, Int.reduceLT, Int.reduceToNat, Int.reduceNeg, Int.reduceSub, iv, bv, Nat.reduceBEq, reduceCtorEq, Nat.reduceAdd, Nat.reduceLeDiff, Nat.reduceSub, Nat.reduceLT, Nat.reduceMul]
   repeat refine awp_seq ?_
   refine awp_region (by kernel_rfl) ?_
   simp only [push_cast, Int.cast_ofNat_Int, Int.reduceLE, Int.reduceLT, Int.reduceToNat, Int.reduceNeg, Int.reduceSub, iv, bv, Nat.reduceBEq, reduceCtorEq, Nat.reduceAdd, Nat.reduceLeDiff, Nat.reduceSub, Nat.reduceLT, Nat.reduceMul]
   refine callG (callC_func (by kernel_rfl) ?_); refine f11_c ?_
   simp only [push_cast, Int.cast_ofNat_Int, Int.reduceLE, Int.reduceLT, Int.reduceToNat, Int.reduceNeg, Int.reduceSub, iv, bv, Nat.reduceBEq, reduceCtorEq, Nat.reduceAdd, Nat.reduceLeDiff, Nat.reduceSub, Nat.reduceLT, Nat.reduceMul]
   repeat refine awp_seq ?_
   refine awp_ret ?_
   simp only [push_cast, Int.cast_ofNat_Int, Int.reduceLE, Int.reduceLT, Int.reduceToNat, Int.reduceNeg, Int.reduceSub, iv, bv, Nat.reduceBEq, reduceCtorEq, Nat.reduceAdd, Nat.reduceLeDiff, Nat.reduceSub, Nat.reduceLT, Nat.reduceMul]
   rw [hGf, List.append_assoc]
   exact endA hH (Wk.refl _) (by simp [lt_val, bv]) hk
end
inductive Ht where
 | z
 | s (f : World -> Ht)
inductive HtLt : Ht -> Ht -> Prop where
 | mk (f : World -> Ht) (w : World) : HtLt (f w) (.s f)
theorem htLt_wf : WellFounded HtLt := by
 refine ⟨fun h => ?_⟩
 induction h with
 | z => exact ⟨_, fun y hy => by cases hy⟩
 | s f ih => exact ⟨_, fun y hy => by cases hy with | mk _ w => exact ih w⟩
inductive WkJ (P : Program) : Ht -> View -> Goroutine -> Prop where
 | step {f : World -> Ht} {V V₁ : View} {g : Goroutine} (G' : World -> Goroutine) (W' : World -> World) (E' : World -> Array Event) (V' : World -> View) (hs : g.status = .running) (hg : Ghost V V₁)
   (h1 : ∀ w, Sat V₁ w -> stepG P false g w = .go (G' w) (W' w) (E' w)) (h2 : ∀ w, Sat V₁ w -> StepOk V₁ w (V' w) (W' w) (E' w)) (h3 : ∀ w, Sat V₁ w -> WkJ P (f w) (V' w) (G' w)) : WkJ P (.s f) V g
 | send {h : Ht} {V V₁ : View} {g : Goroutine} (c Wg : Nat) (sp : Spec) (S : List Spec) (v z : Value) (B : Nat -> Bool) (hs : g.status = .running) (hg : Ghost V V₁) (hr : V₁.role = .work c Wg (sp :: S)) (hd : V₁.deaf = 0) (ho : g.offers = none)
   (h1 : ∀ w, Sat V₁ w -> stepG P false g w = .comm g #[scase c v z] true .send w #[]) (h2 : sp v V₁.imm (fun b => if B b then V₁.own b else none))
   (h3 : WkJ P h { V₁ with own := fun b => if B b then none else V₁.own b, role := .work c Wg S } (Conc.served g undef)) : WkJ P (.s fun _ => h) V g
 | done {V V₁ : View} {g : Goroutine} (c Wg : Nat) (hg : Ghost V V₁) (hr : V₁.role = .work c Wg []) (hd : V₁.deaf = 0) (h1 : Finishes P Wg g) : WkJ P (.s fun _ => .z) V g
 | slip {h : Ht} {V V₁ : View} {g g' : Goroutine} (c Wg : Nat) (hs : g.status = .running) (hg : Ghost V V₁) (hr : V₁.role = .work c Wg []) (h1 : ∀ w st, Sat V₁ w -> WgAt P Wg w st 0 -> stepG P false g w = .go g' w #[]) (h3 : WkJ P h V₁ g') : WkJ P (.s fun _ => h) V g
theorem WkJ.running {P : Program} {h : Ht} {V : View} {g : Goroutine} (k : WkJ P h V g) : g.status = .running := by
 cases k with
 | step _ _ _ _ hs => exact hs
 | send _ _ _ _ _ _ _ hs => exact hs
 | done _ _ _ _ _ h1 => exact h1.1
 | slip _ _ hs => exact hs
open Classical in
structure Rank where
 a : Nat
 h : Ht
 n : Nat
def RankLt : Rank -> Rank -> Prop := fun x y => x.a < y.a \/ (x.a = y.a /\ (HtLt x.h y.h \/ (x.h = y.h /\ x.n < y.n)))
theorem rankLt_wf : WellFounded RankLt := by
 refine ⟨fun ⟨a, h, n⟩ => ?_⟩
 induction a using Nat.strongRecOn generalizing h n with
 | _ a iha =>
  induction h using htLt_wf.induction generalizing n with
  | _ h ihh =>
   induction n using Nat.strongRecOn with
   | _ n ihn =>
    refine ⟨_, fun ⟨a', h', n'⟩ hlt => ?_⟩
    rcases hlt with x | ⟨rfl, x | ⟨rfl, x⟩⟩
    ·exact iha a' x h' n'
    ·exact ihh h' x n'
    ·exact ihn n' x
def SomeLt (N : Nat) (f' f : Nat -> Rank) : Prop := ∃ i, i < N /\ RankLt (f' i) (f i) /\ ∀ j, j ≠ i -> f' j = f j
theorem someLt_wf (N : Nat) : WellFounded (SomeLt N) := by
 refine ⟨?_⟩
 induction N with
 | zero => intro f; exact ⟨_, fun f' ⟨i, hi, _⟩ => by omega⟩
 | succ N ih =>
  have key : ∀ x : Rank, ∀ f, f N = x -> Acc (SomeLt (N + 1)) f := by
   intro x
   induction x using rankLt_wf.induction with
   | _ x ihx =>
    intro f hf
    have inner : ∀ f, Acc (SomeLt N) f -> f N = x -> Acc (SomeLt (N + 1)) f := by
     intro f ha
     induction ha with
     | intro f _ ihf =>
      intro hf
      refine ⟨_, fun f' ⟨i, hi, hlt, ho⟩ => ?_⟩
      by_cases hiN : i = N
      ·subst hiN; exact ihx (f' i) (hf ▸ hlt) f' rfl
      ·exact ihf f' ⟨i, by omega, hlt, ho⟩ ((ho N (Ne.symm hiN)).trans hf)
    exact inner f (ih f) hf
  exact fun f => key (f N) f rfl
def MuLt (N : Nat) (x y : (Nat -> Rank) × Nat) : Prop := SomeLt N x.1 y.1 \/ (x.1 = y.1 /\ x.2 < y.2)
theorem muLt_wf (N : Nat) : WellFounded (MuLt N) := by
 refine ⟨fun ⟨f, n⟩ => ?_⟩
 induction f using (someLt_wf N).induction generalizing n with
 | _ f ihf =>
  induction n using Nat.strongRecOn with
  | _ n ihn =>
   refine ⟨_, fun ⟨f', n'⟩ hlt => ?_⟩
   rcases hlt with x | ⟨x, y⟩
   ·exact ihf f' x n'
   ·have x' : f' = f := x
    subst x'; exact ihn n' y
open Go.ConcN
structure TI (t : Trace) (B N : Nat) (rd wr : Nat -> Loc -> Prop) (Sh : Loc -> Prop) (act : Nat -> Prop) (ic : Nat) : Prop where
 nr : ∀ said, ¬ Race said t
 low : ∀ op ∈ t, op.act.low B
 gs : ∀ op ∈ t, op.g < N
 norel : ∀ op ∈ t, ∀ a, op.act ≠ .mark (.release a)
 kr : ∀ i, i < N -> ∀ l, rd i l -> PermW t i l
 kw : ∀ i, i < N -> ∀ l, wr i l -> Perm t i l
 sp : ∀ idx a, touchAt t idx = some a -> Sh a.loc -> (a.kind = .plain -> ∀ i, act i -> Knows t i idx) /\ (a.kind = .said -> Knows t ic idx)
def Fit (B : Nat) (rd wr : Nat -> Loc -> Prop) (Sh : Loc -> Prop) (act : Nat -> Prop) (ic i : Nat) (x : Touch) : Prop :=
 (Sh x.loc /\ x.kind = .atomic /\ act i) \/ (Sh x.loc /\ x.kind = .said /\ i = ic /\ act i) \/ (¬ Sh x.loc /\ (wr i x.loc \/ (rd i x.loc /\ x.write = false) \/ ¬ x.loc.low B))
theorem low_touch {B : Nat} {m : MemAct} (h : m.low B) {x : Touch} (hx : m.touch? = some x) : x.loc.low B := by
 cases m with
 | access e => simp only [MemAct.touch?, Option.some.injEq] at hx; subst hx; exact h
 | mark m => cases m <;> simp [MemAct.touch?] at hx <;> (subst hx; exact h)
 | _ => simp [MemAct.touch?] at hx
theorem touchAt_low {t : Trace} {B : Nat} (h : ∀ op ∈ t, op.act.low B) {idx : Nat} {a : Touch} (ha : touchAt t idx = some a) : a.loc.low B := by
 obtain ⟨x, hx, hxa⟩ := touch_of ha
 exact low_touch (h x (mem_of_getElem? hx)) hxa
theorem touchAt_app {t u : Trace} {idx : Nat} {a : Touch} (h : touchAt (t ++ u) idx = some a) : touchAt t idx = some a \/ (t.size <= idx /\ ∃ op ∈ u, (t ++ u)[idx]? = some op /\ op.act.touch? = some a) := by
 obtain ⟨x, hx, hxa⟩ := touch_of h
 rcases getElem?_append_cases hx with ⟨_, hx'⟩ | ⟨hi, hu⟩
 ·exact .inl (by rw [touchAt_of hx']; exact hxa)
 ·exact .inr ⟨hi, x, hu, hx, hxa⟩
theorem TI.app {t : Trace} {B N B' : Nat} {rd wr rd' wr' : Nat -> Loc -> Prop} {Sh : Loc -> Prop} {act : Nat -> Prop} {ic : Nat} (h : TI t B N rd wr Sh act ic) {u : Trace} {i : Nat} (hi : i < N) (hu : ∀ op ∈ u, op.g = i)
  (hf : ∀ op ∈ u, ∀ x, op.act.touch? = some x -> Fit B rd wr Sh act ic i x) (hl : ∀ op ∈ u, op.act.low B') (hB : B <= B') (hn : ∀ op ∈ u, ∀ a, op.act ≠ .mark (.release a))
  (hrd : ∀ j l, j ≠ i -> rd' j l -> rd j l) (hwr : ∀ j l, j ≠ i -> wr' j l -> wr j l) (hri : ∀ l, rd' i l -> l.low B -> rd i l \/ wr i l) (hwi : ∀ l, wr' i l -> l.low B -> wr i l)
  (ex : ∀ l j, j ≠ i -> (wr i l -> ¬ rd j l /\ ¬ wr j l) /\ (rd i l -> ¬ wr j l)) (shx : ∀ l j, Sh l -> ¬ rd j l /\ ¬ wr j l) (lowj : ∀ j l, rd j l \/ wr j l -> l.low B) :
  TI (t ++ u) B' N rd' wr' Sh act ic where
 nr said := by
  refine noRace_append (h.nr said) hu fun idx a ha op hop b hb hc => ?_
  have hc' := hc
  obtain ⟨hl1, _, hl3, hl4⟩ := hc
  rcases hf op hop b hb with ⟨h1, h2, h3⟩ | ⟨h1, h2, h3, h4⟩ | ⟨_, h2 | ⟨h2, h3⟩ | h2⟩
  ·rw [h2] at hl4
   rcases hl4 with x | x | ⟨_, _, x⟩
   ·exact (h.sp idx a ha (hl1 ▸ h1)).1 x i h3
   ·cases x
   ·cases x
  ·rw [h2] at hl4
   rcases hl4 with x | x | ⟨_, x, _⟩
   ·exact (h.sp idx a ha (hl1 ▸ h1)).1 x i h4
   ·cases x
   ·rw [h3]; exact (h.sp idx a ha (hl1 ▸ h1)).2 x
  ·exact h.kw i hi _ h2 idx a ha hl1
  ·exact h.kr i hi _ h2 idx a ha hl1 (by rw [h3] at hl3; simpa using hl3)
  ·exact absurd (hl1 ▸ touchAt_low h.low ha) h2
 low op hop := (Array.mem_append.1 hop).elim (fun x => MemAct.low_mono hB (h.low op x)) (hl op)
 gs op hop := (Array.mem_append.1 hop).elim (h.gs op) (fun x => by rw [hu op x]; exact hi)
 norel op hop := (Array.mem_append.1 hop).elim (h.norel op) (hn op)
 kr j hj l hrl := by
  by_cases hji : j = i
  ·subst hji
   intro idx a ha hal hw
   rcases touchAt_app ha with ha' | ⟨_, op, hop, hidx, hx⟩
   ·have hlow : l.low B := hal ▸ touchAt_low h.low ha'
    rcases hri l hrl hlow with x | x
    ·exact (h.kr j hj l x idx a ha' hal hw).app u
    ·exact (h.kw j hj l x idx a ha' hal).app u
   ·have := knows_own hidx; rwa [hu op hop] at this
  ·have hrj := hrd j l hji hrl
   refine (h.kr j hj l hrj).app fun op hop b hb hbl hw => ?_
   exfalso
   rcases hf op hop b hb with ⟨h1, _⟩ | ⟨h1, _⟩ | ⟨_, h2 | ⟨_, h3⟩ | h2⟩
   ·exact (shx l j (hbl ▸ h1)).1 hrj
   ·exact (shx l j (hbl ▸ h1)).1 hrj
   ·exact ((ex l j hji).1 (hbl ▸ h2)).1 hrj
   ·rw [h3] at hw; cases hw
   ·exact h2 (hbl ▸ lowj j l (.inl hrj))
 kw j hj l hwl := by
  by_cases hji : j = i
  ·subst hji
   intro idx a ha hal
   rcases touchAt_app ha with ha' | ⟨_, op, hop, hidx, hx⟩
   ·exact (h.kw j hj l (hwi l hwl (hal ▸ touchAt_low h.low ha')) idx a ha' hal).app u
   ·have := knows_own hidx; rwa [hu op hop] at this
  ·have hwj := hwr j l hji hwl
   refine (h.kw j hj l hwj).app fun op hop b hb hbl => ?_
   exfalso
   rcases hf op hop b hb with ⟨h1, _⟩ | ⟨h1, _⟩ | ⟨_, h2 | ⟨h2, _⟩ | h2⟩
   ·exact (shx l j (hbl ▸ h1)).2 hwj
   ·exact (shx l j (hbl ▸ h1)).2 hwj
   ·exact ((ex l j hji).1 (hbl ▸ h2)).2 hwj
   ·exact (ex l j hji).2 (hbl ▸ h2) hwj
   ·exact h2 (hbl ▸ lowj j l (.inr hwj))
 sp idx a ha hsh := by
  rcases touchAt_app ha with ha' | ⟨_, op, hop, hidx, hx⟩
  ·exact ⟨fun hp j hj => ((h.sp idx a ha' hsh).1 hp j hj).app u, fun hp => ((h.sp idx a ha' hsh).2 hp).app u⟩
  ·rcases hf op hop a hx with ⟨_, h2, _⟩ | ⟨_, h2, h3, _⟩ | ⟨h1, _⟩
   ·exact ⟨fun hp => absurd (h2.symm.trans hp) (by simp), fun hp => absurd (h2.symm.trans hp) (by simp)⟩
   ·refine ⟨fun hp => absurd (h2.symm.trans hp) (by simp), fun _ => ?_⟩
    have := knows_own hidx; rw [hu op hop, h3] at this; exact this
   ·exact absurd hsh h1
theorem TI.weaken {t : Trace} {B N B' : Nat} {rd wr rd' wr' : Nat -> Loc -> Prop} {Sh Sh' : Loc -> Prop} {act act' : Nat -> Prop} {ic ic' : Nat} (h : TI t B N rd wr Sh act ic) (hB : B <= B')
  (hrd : ∀ i l, i < N -> rd' i l -> rd i l \/ wr i l) (hwr : ∀ i l, i < N -> wr' i l -> wr i l)
  (hsp : ∀ idx a, touchAt t idx = some a -> Sh' a.loc -> (a.kind = .plain -> ∀ i, act' i -> Knows t i idx) /\ (a.kind = .said -> Knows t ic' idx)) : TI t B' N rd' wr' Sh' act' ic' :=
 ⟨h.nr, fun op hop => MemAct.low_mono hB (h.low op hop), h.gs, h.norel, fun i hi l x => (hrd i l hi x).elim (h.kr i hi l) (fun y => PermW.of (h.kw i hi l y)), fun i hi l x => h.kw i hi l (hwr i l hi x), hsp⟩
theorem noRace_mute {t u : Trace} (h : ∀ said, ¬ Race said t) (hn : ∀ op ∈ u, op.act.touch? = none) : ∀ said, ¬ Race said (t ++ u) := by
 intro said
 rintro ⟨i, j, hij, ⟨a, b, ha, hb, hc⟩, n1, n2⟩
 have old : ∀ {k : Nat} {x : Touch}, ((t ++ u).act? k).bind (·.touch?) = some x -> k < t.size /\ (t.act? k).bind (·.touch?) = some x := by
  intro k x hx
  obtain ⟨y, hy, hyx⟩ := touch_of hx
  rcases getElem?_append_cases hy with ⟨hk, hy'⟩ | ⟨_, hyu⟩
  ·exact ⟨hk, by simp [Trace.act?, hy', hyx]⟩
  ·rw [hn y hyu] at hyx; cases hyx
 exact h said ⟨i, j, hij, ⟨a, b, (old ha).2, (old hb).2, hc⟩, fun e => n1 (hb_app u e), fun e => n2 (hb_app u e)⟩
theorem touchAt_mute {t u : Trace} (hn : ∀ op ∈ u, op.act.touch? = none) {idx : Nat} {a : Touch} (h : touchAt (t ++ u) idx = some a) : touchAt t idx = some a := by
 rcases touchAt_app h with h | ⟨_, op, hop, _, hx⟩
 ·exact h
 ·rw [hn op hop] at hx; cases hx
theorem TI.mute {t : Trace} {B N N' : Nat} {rd wr rd' wr' : Nat -> Loc -> Prop} {Sh : Loc -> Prop} {act act' : Nat -> Prop} {ic ic' : Nat} (h : TI t B N rd wr Sh act ic) {u : Trace} (hn : ∀ op ∈ u, op.act.touch? = none) (hl : ∀ op ∈ u, op.act.low B) (hg : ∀ op ∈ u, op.g < N') (hN : N <= N')
  (hnr : ∀ op ∈ u, ∀ a, op.act ≠ .mark (.release a))
  (kr : ∀ i, i < N' -> ∀ l, rd' i l -> ∀ idx a, touchAt t idx = some a -> a.loc = l -> a.write = true -> Knows (t ++ u) i idx) (kw : ∀ i, i < N' -> ∀ l, wr' i l -> ∀ idx a, touchAt t idx = some a -> a.loc = l -> Knows (t ++ u) i idx)
  (sp : ∀ idx a, touchAt t idx = some a -> Sh a.loc -> (a.kind = .plain -> ∀ i, act' i -> Knows (t ++ u) i idx) /\ (a.kind = .said -> Knows (t ++ u) ic' idx)) : TI (t ++ u) B N' rd' wr' Sh act' ic' :=
 ⟨noRace_mute h.nr hn, fun op hop => (Array.mem_append.1 hop).elim (h.low op) (hl op), fun op hop => (Array.mem_append.1 hop).elim (fun x => Nat.lt_of_lt_of_le (h.gs op x) hN) (hg op), fun op hop => (Array.mem_append.1 hop).elim (h.norel op) (hnr op),
  fun i hi l x idx a ha => kr i hi l x idx a (touchAt_mute hn ha), fun i hi l x idx a ha => kw i hi l x idx a (touchAt_mute hn ha), fun idx a ha => sp idx a (touchAt_mute hn ha)⟩
theorem get_new {t u : Trace} {k : Nat} {x : MemOp} (h : u[k]? = some x) : (t ++ u)[t.size + k]? = some x := by
 rw [Array.getElem?_append_right (by omega)]; simpa using h
theorem heard_new {t u : Trace} {k g : Nat} {x : MemOp} (h : u[k]? = some x) (hx : x.g = g) (hd : (t ++ u).deaf g (t.size + k) = 0) : (t ++ u).heard (t.size + k) := ⟨g, by simp [Trace.g?, get_new h, hx], hd⟩
def still (m : MemAct) : Prop := m ≠ .mark .disable /\ m ≠ .mark .enable
theorem deafStep_still {g d : Nat} {y : MemOp} (h : still y.act) : deafStep g d y = d := by
 unfold deafStep
 obtain ⟨_, _, _, act⟩ := y
 cases act with
 | mark m => cases m <;> first | rfl | exact absurd rfl h.1 | exact absurd rfl h.2
 | _ => rfl
theorem deaf_still {t u : Trace} {g : Nat} (hs : ∀ op ∈ u, still op.act) : ∀ {k : Nat}, k <= u.size -> (t ++ u).deaf g (t.size + k) = Deaf t g := by
 intro k
 induction k with
 | zero => intro _; exact deaf_old (Nat.le_refl _)
 | succ k ih =>
  intro hk
  have hlt : k < u.size := by omega
  have hy : u[k]? = some u[k] := Array.getElem?_eq_getElem hlt
  have e := deaf_succ (g := g) (get_new (t := t) hy)
  rw [show t.size + (k + 1) = t.size + k + 1 from rfl, e, ih (by omega), deafStep_still (hs _ (Array.getElem_mem hlt))]
theorem Deaf_still {t u : Trace} {g : Nat} (hs : ∀ op ∈ u, still op.act) : Deaf (t ++ u) g = Deaf t g := by
 have := deaf_still (t := t) (g := g) hs (Nat.le_refl u.size)
 unfold Deaf
 rw [Array.size_append]
 exact this
theorem meet_knows {t u : Trace} {k c s : Nat} {x0 x1 x2 x3 : MemOp} (hu : u = #[x0, x1, x2, x3]) (h0 : x0.g = k /\ x0.act = .send c s) (h1 : still x1.act) (h2 : still x2.act) (h3 : x3.g = 0 /\ x3.act = .recvDone c s) (dk : Deaf t k = 0) (d0 : Deaf t 0 = 0) {idx : Nat} (h : Knows t k idx) : Knows (t ++ u) 0 idx := by
 have hs : ∀ op ∈ u, still op.act := by
  subst hu
  intro op hop
  simp only [List.mem_toArray, List.mem_cons, List.not_mem_nil, or_false] at hop
  rcases hop with rfl | rfl | rfl | rfl
  ·rw [h0.2]; exact ⟨by simp, by simp⟩
  ·exact h1
  ·exact h2
  ·rw [h3.2]; exact ⟨by simp, by simp⟩
 have e0 : u[0]? = some x0 := by subst hu; rfl
 have e3 : u[3]? = some x3 := by subst hu; rfl
 have hsz : u.size = 4 := by subst hu; rfl
 have g0 := get_new (t := t) e0
 have g3 := get_new (t := t) e3
 have hh0 : (t ++ u).heard (t.size + 0) := heard_new e0 h0.1 (by rw [deaf_still hs (by omega)]; exact dk)
 have hh3 : (t ++ u).heard (t.size + 3) := heard_new e3 h3.1 (by rw [deaf_still hs (by omega)]; exact d0)
 have hb : HappensBefore (t ++ u) idx (t.size + 0) := h.hb_new (by omega) g0 h0.1
 exact ⟨_, x3, g3, h3.1, .inr (hb.trans (.single (.inr ⟨.handOver (c := c) (k := s) (by rw [act?_of g0, h0.2]) (by rw [act?_of g3, h3.2]), hh0, hh3⟩)))⟩
theorem acquire_knows {t : Trace} {a : Addr} {r q i : Nat} {y : MemOp} (hr : t.act? r = some (.mark (.releaseMerge a))) (hh : t.heard r) (hn : ∀ op ∈ t, ∀ a, op.act ≠ .mark (.release a)) (hy : y.g = q /\ y.act = .mark (.acquire a)) (hd : Deaf t q = 0) (hb : Before t i r) : Knows (t ++ #[y]) q i := by
 have e : (#[y] : Trace)[0]? = some y := rfl
 have g := get_new (t := t) e
 have hrl := lt_of_act? hr
 have hst : ∀ op ∈ (#[y] : Trace), still op.act := by
  intro op hop
  simp only [List.mem_toArray, List.mem_cons, List.not_mem_nil, or_false] at hop
  subst hop
  rw [hy.2]; exact ⟨by simp, by simp⟩
 have hhy : (t ++ #[y]).heard (t.size + 0) := heard_new e hy.1 (by rw [deaf_still hst (by simp)]; exact hd)
 refine ⟨_, y, g, hy.1, .inr ((hb.app #[y]).hb (.single (.inr ⟨.marked (a := a) (by omega) (.inr (by rw [act?_old hrl]; exact hr)) (by rw [act?_of g, hy.2]) (fun k hk1 hk2 e' => ?_), (heard_old hrl).2 hh, hhy⟩)))⟩
 obtain ⟨op, ho, hoa⟩ := Option.map_eq_some_iff.1 e'
 rcases getElem?_append_cases ho with ⟨_, ho'⟩ | ⟨hk, _⟩
 ·exact hn op (mem_of_getElem? ho') a hoa
 ·omega
theorem closed_knows {t : Trace} {c p q i : Nat} {y : MemOp} (hp : t.act? p = some (.close c)) (hh : t.heard p) (hy : y.g = q /\ y.act = .recvClosed c) (hd : Deaf t q = 0) (hb : Before t i p) : Knows (t ++ #[y]) q i := by
 have e : (#[y] : Trace)[0]? = some y := rfl
 have g := get_new (t := t) e
 have hpl := lt_of_act? hp
 have hst : ∀ op ∈ (#[y] : Trace), still op.act := by
  intro op hop
  simp only [List.mem_toArray, List.mem_cons, List.not_mem_nil, or_false] at hop
  subst hop
  rw [hy.2]; exact ⟨by simp, by simp⟩
 have hhy : (t ++ #[y]).heard (t.size + 0) := heard_new e hy.1 (by rw [deaf_still hst (by simp)]; exact hd)
 exact ⟨_, y, g, hy.1, .inr ((hb.app #[y]).hb (.single (.inr ⟨.closed (c := c) (by rw [act?_old hpl]; exact hp) (by rw [act?_of g, hy.2]), (heard_old hpl).2 hh, hhy⟩)))⟩
def Disj (U V : View) : Prop := ∀ b, U.own b ≠ none -> V.own b = none /\ ∀ o, V.imm b o ≠ none -> U.imm b o ≠ none
def RdV (V : View) : Loc -> Prop
 | .cell a => V.own a.block ≠ none \/ V.imm a.block a.off ≠ none
 | .obj r => V.own r ≠ none
 | _ => False
def WrV (V : View) : Loc -> Prop
 | .cell a => V.own a.block ≠ none /\ V.imm a.block a.off = none
 | .obj r => V.own r ≠ none
 | _ => False
theorem WrV.rd {V : View} : ∀ {l : Loc}, WrV V l -> RdV V l
 | .cell _, h => .inl h.1
 | .obj _, h => h
theorem StepOk.others {V V' U : View} {w w' : World} {es : Array Event} (s : StepOk V w V' w' es) (hV : Sat V w) (h : Sat U w) (d : Disj V U) : Sat U w' := by
 refine ⟨fun b o v e => ?_, fun b x e => ?_⟩
 ·have hc := h.imm b o v e
  have hb := h.imm_lt e
  cases ho : V.own b with
  | none =>
   have := s.frame b hb ho
   simp only [World.cell?, this] at hc ⊢
   exact hc
  | some x =>
   have hp := (d b (by rw [ho]; simp)).2 o (by rw [e]; simp)
   cases hi : V.imm b o with
   | none => exact absurd hi hp
   | some v' =>
    have e1 := hV.imm b o v' hi
    rw [hc] at e1
    cases e1
    exact s.sat.imm b o v (s.imm b o v hi)
 ·have hb := h.lt e
  have ho : V.own b = none := by
   cases ho : V.own b with
   | none => rfl
   | some y => rw [(d b (by rw [ho]; simp)).1] at e; cases e
  rw [s.frame b hb ho]
  exact h.own b x e
theorem StepOk.disj {V V' U : View} {w w' : World} {es : Array Event} (s : StepOk V w V' w' es) (h : Sat U w) (d : Disj V U) (d' : Disj U V) : Disj V' U /\ Disj U V' := by
 have key : ∀ b, V'.own b ≠ none -> V.own b ≠ none \/ w.heap.size <= b := by
  intro b hb
  by_cases hlt : b < w.heap.size
  ·exact .inl fun e => hb (s.own b hlt e)
  ·exact .inr (by omega)
 refine ⟨fun b hb => ?_, fun b hb => ?_⟩
 ·rcases key b hb with x | x
  ·refine ⟨(d b x).1, fun o ho => ?_⟩
   have := (d b x).2 o ho
   cases e : V.imm b o with
   | none => exact absurd e this
   | some v => rw [s.imm b o v e]; simp
  ·have := h.fresh x
   exact ⟨this.1, fun o ho => absurd (this.2 o) ho⟩
 ·have hlt : b < w.heap.size := by
   cases e : U.own b with
   | none => exact absurd e hb
   | some x => exact h.lt e
  refine ⟨?_, fun o ho => ?_⟩
  ·exact s.own b hlt (d' b hb).1
  ·cases e : V'.imm b o with
   | none => exact absurd e ho
   | some v =>
    rcases s.immNew b o v e with x | x | x
    ·exact (d' b hb).2 o (by rw [x]; simp)
    ·exact absurd (d' b hb).1 x
    ·omega
theorem Ghost.disj {V V' U : View} (g : Ghost V V') (d : Disj V U) (d' : Disj U V) : Disj V' U /\ Disj U V' := by
 refine ⟨fun b hb => ?_, fun b hb => ⟨g.own b (d' b hb).1, fun o ho => ?_⟩⟩
 ·have x : V.own b ≠ none := fun e => hb (g.own b e)
  refine ⟨(d b x).1, fun o ho => ?_⟩
  cases e : V.imm b o with
  | none => exact absurd e ((d b x).2 o ho)
  | some v => rw [g.imm b o v e]; simp
 ·cases e : V'.imm b o with
  | none => exact absurd e ho
  | some v =>
   rcases g.immNew b o v e with x | x
   ·exact (d' b hb).2 o (by rw [x]; simp)
   ·exact absurd (d' b hb).1 x
theorem Ghost.rd {V V' : View} (g : Ghost V V') : ∀ {l : Loc}, RdV V' l -> RdV V l
 | .cell a, h => by
  rcases h with h | h
  ·exact .inl fun e => h (g.own _ e)
  ·cases e : V'.imm a.block a.off with
   | none => exact absurd e h
   | some v => exact (g.immNew _ _ _ e).elim (fun x => .inr (by rw [x]; simp)) .inl
 | .obj _, h => fun e => h (g.own _ e)
theorem Ghost.wr {V V' : View} (g : Ghost V V') : ∀ {l : Loc}, WrV V' l -> WrV V l
 | .cell a, h => ⟨fun e => h.1 (g.own _ e), by
  cases e : V.imm a.block a.off with
  | none => rfl
  | some v => exact absurd (g.imm _ _ _ e) (by rw [h.2]; simp)⟩
 | .obj _, h => fun e => h (g.own _ e)
theorem RdV.low {V : View} {w : World} (h : Sat V w) : ∀ {l : Loc}, RdV V l -> l.low w.heap.size
 | .cell a, x => by
  rcases x with x | x
  ·cases e : V.own a.block with
   | none => exact absurd e x
   | some y => exact h.lt e
  ·cases e : V.imm a.block a.off with
   | none => exact absurd e x
   | some y => exact h.imm_lt e
 | .obj r, x => by
  cases e : V.own r with
  | none => exact absurd e x
  | some y => exact h.lt e
theorem StepOk.rd {V V' : View} {w w' : World} {es : Array Event} (s : StepOk V w V' w' es) : ∀ {l : Loc}, RdV V' l -> l.low w.heap.size -> RdV V l
 | .cell a, h, hl => by
  have hl' : a.block < w.heap.size := hl
  rcases h with h | h
  ·exact .inl fun e => h (s.own _ hl' e)
  ·cases e : V'.imm a.block a.off with
   | none => exact absurd e h
   | some v =>
    rcases s.immNew _ _ _ e with x | x | x
    ·exact .inr (by rw [x]; simp)
    ·exact .inl x
    ·omega
 | .obj r, h, hl => fun e => h (s.own _ hl e)
theorem StepOk.wr {V V' : View} {w w' : World} {es : Array Event} (s : StepOk V w V' w' es) : ∀ {l : Loc}, WrV V' l -> l.low w.heap.size -> WrV V l
 | .cell a, h, hl => ⟨fun e => h.1 (s.own _ hl e), by
  cases e : V.imm a.block a.off with
  | none => rfl
  | some v => exact absurd (s.imm _ _ _ e) (by rw [h.2]; simp)⟩
 | .obj r, h, hl => fun e => h (s.own _ hl e)
theorem disj_perm {U V : View} (d : Disj U V) (d' : Disj V U) (l : Loc) : (WrV U l -> ¬ RdV V l /\ ¬ WrV V l) /\ (RdV U l -> ¬ WrV V l) := by
 cases l with
 | cell a =>
  refine ⟨fun h => ?_, fun h => ?_⟩
  ·have := d _ h.1
   refine ⟨fun x => ?_, fun x => x.1 this.1⟩
   rcases x with x | x
   ·exact x this.1
   ·exact this.2 _ x h.2
  ·intro x
   have := d' _ x.1
   rcases h with h | h
   ·exact h this.1
   ·exact this.2 _ h x.2
 | obj r => exact ⟨fun h => ⟨fun x => x (d r h).1, fun x => x (d r h).1⟩, fun h x => h (d' r x).1⟩
 | _ => exact ⟨fun h => h.elim, fun h => h.elim⟩
def ShP (c Wg : Nat) : Loc -> Prop
 | .cell a => a.block = Wg
 | .obj r => r = c
 | _ => False
structure Core (VV : Nat -> View) (N : Nat) (w : World) (t : Trace) (Sh : Loc -> Prop) (act : Nat -> Prop) (ic n0 : Nat) (W0 : World) : Prop where
 sat : ∀ i, i < N -> Sat (VV i) w
 dis : ∀ i j, i < N -> j < N -> i ≠ j -> Disj (VV i) (VV j)
 ti : TI t w.heap.size N (fun i l => i < N /\ RdV (VV i) l /\ ¬ Sh l) (fun i l => i < N /\ WrV (VV i) l /\ ¬ Sh l) Sh act ic
 tape : w.tape = W0.tape
 os : w.os = W0.os
 out : w.output = W0.output
 old : ∀ b, b < n0 -> w.heap[b]? = W0.heap[b]?
 oldOwn : ∀ i, i < N -> ∀ b, b < n0 -> (VV i).own b = none
 n0 : n0 <= w.heap.size
def upd {α : Type} (f : Nat -> α) (i : Nat) (x : α) : Nat -> α := fun j => if j = i then x else f j
theorem upd_at {α : Type} (f : Nat -> α) (i : Nat) (x : α) : upd f i x i = x := by simp [upd]
theorem upd_not {α : Type} (f : Nat -> α) {i j : Nat} (x : α) (h : j ≠ i) : upd f i x j = f j := by simp [upd, h]
section
variable {VV : Nat -> View} {N : Nat} {w w' : World} {t : Trace} {Sh : Loc -> Prop} {act : Nat -> Prop} {ic n0 i : Nat} {W0 : World}
theorem Core.draw (h : Core VV N w t Sh act ic n0 W0) (d : Nat) : Core VV N (w.at d) t Sh act ic n0 W0 :=
 ⟨fun i hi => ⟨(h.sat i hi).imm, (h.sat i hi).own⟩, h.dis, h.ti, h.tape, h.os, h.out, h.old, h.oldOwn, h.n0⟩
theorem evOk_fit {V : View} {B : Nat} {e : Event} (he : EvOk V B e) {x : Touch} (hx : (MemAct.ofEvent e).touch? = some x) : (WrV V x.loc \/ (RdV V x.loc /\ x.write = false) \/ ¬ x.loc.low B) /\
  (∀ c, V.role.chan = some c -> x.loc ≠ .obj c) /\ (∀ Wg a, V.role.group = some Wg -> x.loc = .cell a -> a.block = Wg -> x.kind ≠ .plain) := by
 obtain ⟨l, wr, s⟩ := e
 cases l with
 | cell a =>
  simp only [ofEvent_cell0, MemAct.touch?, Option.some.injEq] at hx
  subst hx
  cases wr with
  | false =>
   refine ⟨?_, fun c _ => by simp, fun Wg a' hr ha hb => ?_⟩
   ·rcases he.1 with h | h | h
    ·exact .inr (.inr (by show ¬ a.block < B; omega))
    ·exact .inr (.inl ⟨.inl h, rfl⟩)
    ·exact .inr (.inl ⟨.inr h, rfl⟩)
   ·cases ha
    rcases he.2 with h | h
    ·subst h; simp
    ·subst hb; exact absurd hr h
  | true =>
   refine ⟨?_, fun c _ => by simp, fun Wg a' hr ha hb => ?_⟩
   ·rcases he.1 with h | h
    ·exact .inr (.inr (by show ¬ a.block < B; omega))
    ·exact .inl h
   ·cases ha
    rcases he.2 with h | h
    ·subst h; simp
    ·subst hb; exact absurd hr h
 | obj r =>
  obtain ⟨⟨rfl, h2⟩, h3⟩ := he
  have e1 : MemAct.ofEvent ⟨.obj r, wr, false⟩ = .access ⟨.obj r, wr, false⟩ := by cases wr <;> rfl
  rw [e1] at hx
  simp only [MemAct.touch?, Option.some.injEq] at hx
  subst hx
  refine ⟨?_, fun c hc e => ?_, fun Wg a _ ha => by cases ha⟩
  ·rcases h2 with h | h
   ·exact .inr (.inr (by show ¬ r < B; omega))
   ·exact .inl h
  ·cases e; exact h3 hc
 | mark m =>
  have e1 : MemAct.ofEvent ⟨.mark m, wr, s⟩ = .mark m := by cases wr <;> cases s <;> rfl
  rw [e1] at hx
  cases m <;> simp only [MemAct.touch?, Option.some.injEq, reduceCtorEq] at hx
  all_goals
   subst hx
   refine ⟨?_, fun c _ => by simp, fun Wg a' _ _ _ => by simp⟩
   have he' : MayWrite V B _ := he
   rcases he' with h | h
   ·exact .inr (.inr (by simp only [Loc.low]; omega))
   ·exact .inl h
 | _ => exact he.elim
theorem Core.excl (h : Core VV N w t Sh act ic n0 W0) (l : Loc) {i j : Nat} (hi : i < N) (hj : j ≠ i) :
  ((i < N /\ WrV (VV i) l /\ ¬ Sh l) -> ¬ (j < N /\ RdV (VV j) l /\ ¬ Sh l) /\ ¬ (j < N /\ WrV (VV j) l /\ ¬ Sh l)) /\ ((i < N /\ RdV (VV i) l /\ ¬ Sh l) -> ¬ (j < N /\ WrV (VV j) l /\ ¬ Sh l)) := by
 by_cases hjN : j < N
 ·have := disj_perm (h.dis i j hi hjN (Ne.symm hj)) (h.dis j i hjN hi hj) l
  exact ⟨fun ⟨_, x, _⟩ => ⟨fun ⟨_, y, _⟩ => (this.1 x).1 y, fun ⟨_, y, _⟩ => (this.1 x).2 y⟩, fun ⟨_, x, _⟩ ⟨_, y, _⟩ => this.2 x y⟩
 ·exact ⟨fun _ => ⟨fun ⟨y, _⟩ => hjN y, fun ⟨y, _⟩ => hjN y⟩, fun _ ⟨y, _⟩ => hjN y⟩
theorem Core.step (h : Core VV N w t Sh act ic n0 W0) (hi : i < N) {V' : View} {es : Array Event} (s : StepOk (VV i) w V' w' es)
  (hsh : ∀ e ∈ es, ∀ x, (MemAct.ofEvent e).touch? = some x -> Sh x.loc -> (x.kind = .atomic /\ act i) \/ (x.kind = .said /\ i = ic /\ act i)) (fn : FuncId) (pos : String) :
  Core (upd VV i V') N w' (t ++ MemOp.ofEvents i fn pos es) Sh act ic n0 W0 where
 sat j hj := by
  by_cases hji : j = i
  ·subst hji; rw [upd_at]; exact s.sat
  ·rw [upd_not _ _ hji]; exact s.others (h.sat i hi) (h.sat j hj) (h.dis i j hi hj (Ne.symm hji))
 dis a b ha hb hab := by
  by_cases hai : a = i
  ·subst hai
   have hba : b ≠ a := Ne.symm hab
   rw [upd_at, upd_not _ _ hba]
   exact (s.disj (h.sat b hb) (h.dis a b ha hb hab) (h.dis b a hb ha hba)).1
  ·by_cases hbi : b = i
   ·subst hbi
    rw [upd_at, upd_not _ _ hai]
    exact (s.disj (h.sat a ha) (h.dis b a hb ha (Ne.symm hab)) (h.dis a b ha hb hab)).2
   ·rw [upd_not _ _ hai, upd_not _ _ hbi]; exact h.dis a b ha hb hab
 ti := by
  refine h.ti.app hi (fun op hop => by obtain ⟨e, _, rfl⟩ := Conc.mem_ofEvents hop; rfl) (fun op hop x hx => ?_) (fun op hop => by obtain ⟨e, he, rfl⟩ := Conc.mem_ofEvents hop; exact s.low e he) s.size (fun op hop a => ?_)
   (fun j l hj ⟨x, y⟩ => by rw [upd_not _ _ hj] at y; exact ⟨x, y⟩) (fun j l hj ⟨x, y⟩ => by rw [upd_not _ _ hj] at y; exact ⟨x, y⟩)
   (fun l ⟨x, y, z⟩ hl => by rw [upd_at] at y; exact .inl ⟨x, s.rd y hl, z⟩) (fun l ⟨x, y, z⟩ hl => by rw [upd_at] at y; exact ⟨x, s.wr y hl, z⟩)
   (fun l j hj => h.excl l hi hj) (fun l j hs => ⟨fun x => x.2.2 hs, fun x => x.2.2 hs⟩) (fun j l x => x.elim (fun y => RdV.low (h.sat j y.1) y.2.1) (fun y => RdV.low (h.sat j y.1) y.2.1.rd))
  ·obtain ⟨e, he, rfl⟩ := Conc.mem_ofEvents hop
   by_cases hs : Sh x.loc
   ·rcases hsh e he x hx hs with ⟨a, b⟩ | ⟨a, b, c⟩
    ·exact .inl ⟨hs, a, b⟩
    ·exact .inr (.inl ⟨hs, a, b, c⟩)
   ·refine .inr (.inr ⟨hs, ?_⟩)
    rcases (evOk_fit (s.evs e he) hx).1 with x' | ⟨x', y⟩ | x'
    ·exact .inl ⟨hi, x', hs⟩
    ·exact .inr (.inl ⟨⟨hi, x', hs⟩, y⟩)
    ·exact .inr (.inr x')
  ·obtain ⟨e, he, rfl⟩ := Conc.mem_ofEvents hop
   intro e'
   have hk := s.evs e he
   obtain ⟨l, wr, sy⟩ := e
   cases l with
   | mark m =>
    have e1 : MemAct.ofEvent ⟨.mark m, wr, sy⟩ = .mark m := by cases wr <;> cases sy <;> rfl
    simp only [e1, MemAct.mark.injEq] at e'
    subst e'
    exact hk
   | cell a' => simp [ofEvent_cell0] at e'
   | obj r => cases wr <;> cases sy <;> simp [MemAct.ofEvent] at e'
   | _ => exact hk
 tape := s.tape.trans h.tape
 os := s.os.trans h.os
 out := s.output.trans h.out
 old b hb := (s.frame b (Nat.lt_of_lt_of_le hb h.n0) (h.oldOwn i hi b hb)).trans (h.old b hb)
 oldOwn j hj b hb := by
  by_cases hji : j = i
  ·subst hji; rw [upd_at]; exact s.own b (Nat.lt_of_lt_of_le hb h.n0) (h.oldOwn j hj b hb)
  ·rw [upd_not _ _ hji]; exact h.oldOwn j hj b hb
 n0 := Nat.le_trans h.n0 s.size
theorem Core.ghost (h : Core VV N w t Sh act ic n0 W0) (hi : i < N) {V' : View} (g : Ghost (VV i) V') : Core (upd VV i V') N w t Sh act ic n0 W0 where
 sat j hj := by
  by_cases hji : j = i
  ·subst hji; rw [upd_at]; exact g.sat _ (h.sat j hj)
  ·rw [upd_not _ _ hji]; exact h.sat j hj
 dis a b ha hb hab := by
  by_cases hai : a = i
  ·subst hai
   have hba : b ≠ a := Ne.symm hab
   rw [upd_at, upd_not _ _ hba]
   exact (g.disj (h.dis a b ha hb hab) (h.dis b a hb ha hba)).1
  ·by_cases hbi : b = i
   ·subst hbi
    rw [upd_at, upd_not _ _ hai]
    exact (g.disj (h.dis b a hb ha (Ne.symm hab)) (h.dis a b ha hb hab)).2
   ·rw [upd_not _ _ hai, upd_not _ _ hbi]; exact h.dis a b ha hb hab
 ti := h.ti.weaken (Nat.le_refl _) (fun j l _ ⟨x, y, z⟩ => by
   by_cases hji : j = i
   ·subst hji; rw [upd_at] at y; exact .inl ⟨x, g.rd y, z⟩
   ·rw [upd_not _ _ hji] at y; exact .inl ⟨x, y, z⟩) (fun j l _ ⟨x, y, z⟩ => by
   by_cases hji : j = i
   ·subst hji; rw [upd_at] at y; exact ⟨x, g.wr y, z⟩
   ·rw [upd_not _ _ hji] at y; exact ⟨x, y, z⟩) h.ti.sp
 tape := h.tape
 os := h.os
 out := h.out
 old := h.old
 oldOwn j hj b hb := by
  by_cases hji : j = i
  ·subst hji; rw [upd_at]; exact g.own b (h.oldOwn j hj b hb)
  ·rw [upd_not _ _ hji]; exact h.oldOwn j hj b hb
 n0 := h.n0
def Less (V' V : View) : Prop := (∀ b, V'.own b = none \/ V'.own b = V.own b) /\ (∀ b o, V'.imm b o = none \/ V'.imm b o = V.imm b o) /\ (∀ b, V'.own b ≠ none -> ∀ o, V'.imm b o = V.imm b o)
theorem Less.sat {V V' : View} (l : Less V' V) {w : World} (h : Sat V w) : Sat V' w :=
 ⟨fun b o v e => h.imm b o v (by rcases l.2.1 b o with x | x <;> rw [x] at e; cases e; exact e), fun b x e => h.own b x (by rcases l.1 b with y | y <;> rw [y] at e; cases e; exact e)⟩
theorem Less.rd {V V' : View} (k : Less V' V) : ∀ {l : Loc}, RdV V' l -> RdV V l
 | .cell a, h => h.imp (fun x y => by rcases k.1 a.block with z | z; exact x z; exact x (z.trans y)) (fun x y => by rcases k.2.1 a.block a.off with z | z; exact x z; exact x (z.trans y))
 | .obj r, h => fun y => by rcases k.1 r with z | z; exact h z; exact h (z.trans y)
theorem Less.wr {V V' : View} (k : Less V' V) : ∀ {l : Loc}, WrV V' l -> WrV V l
 | .cell a, h => ⟨fun y => by rcases k.1 a.block with z | z; exact h.1 z; exact h.1 (z.trans y), by rw [<- k.2.2 _ h.1]; exact h.2⟩
 | .obj r, h => fun y => by rcases k.1 r with z | z; exact h z; exact h (z.trans y)
theorem Less.disj {V V' U : View} (k : Less V' V) (d : Disj V U) (d' : Disj U V) : Disj V' U /\ Disj U V' := by
 refine ⟨fun b hb => ?_, fun b hb => ⟨?_, fun o ho => ?_⟩⟩
 ·have x : V.own b ≠ none := fun y => by rcases k.1 b with z | z; exact hb z; exact hb (z.trans y)
  exact ⟨(d b x).1, fun o ho => by rw [k.2.2 b hb]; exact (d b x).2 o ho⟩
 ·rcases k.1 b with z | z; exact z; exact z.trans (d' b hb).1
 ·exact (d' b hb).2 o fun y => by rcases k.2.1 b o with z | z; exact ho z; exact ho (z.trans y)
theorem Core.less (h : Core VV N w t Sh act ic n0 W0) (hi : i < N) {V' : View} (k : Less V' (VV i)) : Core (upd VV i V') N w t Sh act ic n0 W0 where
 sat j hj := by
  by_cases hji : j = i
  ·subst hji; rw [upd_at]; exact k.sat (h.sat j hj)
  ·rw [upd_not _ _ hji]; exact h.sat j hj
 dis a b ha hb hab := by
  by_cases hai : a = i
  ·subst hai
   have hba : b ≠ a := Ne.symm hab
   rw [upd_at, upd_not _ _ hba]
   exact (k.disj (h.dis a b ha hb hab) (h.dis b a hb ha hba)).1
  ·by_cases hbi : b = i
   ·subst hbi
    rw [upd_at, upd_not _ _ hai]
    exact (k.disj (h.dis b a hb ha (Ne.symm hab)) (h.dis a b ha hb hab)).2
   ·rw [upd_not _ _ hai, upd_not _ _ hbi]; exact h.dis a b ha hb hab
 ti := h.ti.weaken (Nat.le_refl _) (fun j l _ ⟨x, y, z⟩ => by
   by_cases hji : j = i
   ·subst hji; rw [upd_at] at y; exact .inl ⟨x, k.rd y, z⟩
   ·rw [upd_not _ _ hji] at y; exact .inl ⟨x, y, z⟩) (fun j l _ ⟨x, y, z⟩ => by
   by_cases hji : j = i
   ·subst hji; rw [upd_at] at y; exact ⟨x, k.wr y, z⟩
   ·rw [upd_not _ _ hji] at y; exact ⟨x, y, z⟩) h.ti.sp
 tape := h.tape
 os := h.os
 out := h.out
 old := h.old
 oldOwn j hj b hb := by
  by_cases hji : j = i
  ·subst hji; rw [upd_at]; rcases k.1 b with z | z; exact z; exact z.trans (h.oldOwn j hj b hb)
  ·rw [upd_not _ _ hji]; exact h.oldOwn j hj b hb
 n0 := h.n0
theorem Core.shared (h : Core VV N w t Sh act ic n0 W0) (hi : i < N) {es : Array Event} (hev : ∀ e ∈ es, ∀ x, (MemAct.ofEvent e).touch? = some x -> Fit w.heap.size (fun i l => i < N /\ RdV (VV i) l /\ ¬ Sh l) (fun i l => i < N /\ WrV (VV i) l /\ ¬ Sh l) Sh act ic i x)
  (hlow : ∀ e ∈ es, (MemAct.ofEvent e).low w.heap.size) (hnr : ∀ e ∈ es, ∀ a, MemAct.ofEvent e ≠ .mark (.release a)) (SB : Nat -> Prop) (hsb : ∀ b, SB b -> n0 <= b /\ ∀ j, j < N -> (VV j).own b = none /\ ∀ o, (VV j).imm b o = none)
  (hsz : w'.heap.size = w.heap.size) (hfr : ∀ b, ¬ SB b -> w'.heap[b]? = w.heap[b]?) (ht : w'.tape = w.tape) (ho : w'.os = w.os) (hu : w'.output = w.output) (fn : FuncId) (pos : String) :
  Core VV N w' (t ++ MemOp.ofEvents i fn pos es) Sh act ic n0 W0 where
 sat j hj := by
  have hs := h.sat j hj
  refine ⟨fun b o v e => ?_, fun b x e => ?_⟩
  ·have hb : ¬ SB b := fun x => by rw [((hsb b x).2 j hj).2 o] at e; cases e
   have := hs.imm b o v e
   simp only [World.cell?, hfr b hb]
   exact this
  ·have hb : ¬ SB b := fun y => by rw [((hsb b y).2 j hj).1] at e; cases e
   rw [hfr b hb]; exact hs.own b x e
 dis := h.dis
 ti := by
  rw [hsz]
  refine h.ti.app hi (fun op hop => by obtain ⟨e, _, rfl⟩ := Conc.mem_ofEvents hop; rfl) (fun op hop x hx => by obtain ⟨e, he, rfl⟩ := Conc.mem_ofEvents hop; exact hev e he x hx) (fun op hop => by obtain ⟨e, he, rfl⟩ := Conc.mem_ofEvents hop; exact hlow e he) (Nat.le_refl _) (fun op hop a => by obtain ⟨e, he, rfl⟩ := Conc.mem_ofEvents hop; exact hnr e he a)
   (fun j l _ x => x) (fun j l _ x => x) (fun l x _ => .inl x) (fun l x _ => x) (fun l j hj => h.excl l hi hj) (fun l j hs => ⟨fun x => x.2.2 hs, fun x => x.2.2 hs⟩) (fun j l x => x.elim (fun y => RdV.low (h.sat j y.1) y.2.1) (fun y => RdV.low (h.sat j y.1) y.2.1.rd))
 tape := ht.trans h.tape
 os := ho.trans h.os
 out := hu.trans h.out
 old b hb := (hfr b (fun x => by have := (hsb b x).1; omega)).trans (h.old b hb)
 oldOwn := h.oldOwn
 n0 := by rw [hsz]; exact h.n0
theorem Core.quiet (h : Core VV N w t Sh act ic n0 W0) (hi : i < N) {es : Array Event} (hes : ∀ e ∈ es, (MemAct.ofEvent e).touch? = none /\ (MemAct.ofEvent e).low w.heap.size /\ ∀ a, MemAct.ofEvent e ≠ .mark (.release a)) (fn : FuncId) (pos : String) :
  Core VV N w (t ++ MemOp.ofEvents i fn pos es) Sh act ic n0 W0 :=
 h.shared hi (fun e he x hx => by rw [(hes e he).1] at hx; cases hx) (fun e he => (hes e he).2.1) (fun e he => (hes e he).2.2) (fun _ => False) (fun b x => x.elim) rfl (fun _ _ => rfl) rfl rfl rfl fn pos
theorem Core.role (h : Core VV N w t Sh act ic n0 W0) (hi : i < N) {V' : View} (h1 : V'.imm = (VV i).imm) (h2 : V'.own = (VV i).own) : Core (upd VV i V') N w t Sh act ic n0 W0 :=
 h.less hi ⟨fun b => .inr (by rw [h2]), fun b o => .inr (by rw [h1]), fun b _ o => by rw [h1]⟩
end
inductive GS where
 | gone (q : Nat)
 | work (j : Nat) (h : Ht) (V : View)
 | park (j : Nat) (h : Ht) (V V' : View) (g0 : Goroutine) (v z : Value)
 | add (n : Nat)
 | load (n : Nat)
 | store (n : Nat)
 | sem (n : Nat)
 | head (k n : Nat)
 | cas (v n : Nat)
 | said (n : Nat)
 | csem (n : Nat)
 | last (n : Nat)
 | acq (n : Nat)
 | look (n : Nat)
 | close (n : Nat)
def noView : View := { imm := fun _ _ => none, own := fun _ => none, deaf := 0, role := .plain }
def GS.view (Im : Imm) : GS -> View
 | .work _ _ V => V
 | .park _ _ V _ _ _ _ => V
 | .head .. | .cas .. | .said _ | .csem _ | .last _ | .acq _ | .look _ => { noView with imm := Im }
 | _ => noView
def GS.cnt : GS -> Nat
 | .work .. | .park .. | .add _ => 1
 | _ => 0
def GS.late : GS -> Nat
 | .load _ | .store _ | .sem _ => 1
 | _ => 0
def GS.idx : GS -> Option Nat
 | .work j _ _ => some j
 | .park j _ _ _ _ _ _ => some j
 | _ => none
def GS.shape : GS -> GS
 | .gone _ => .gone 0
 | .work j _ _ => .work j .z noView
 | .park j _ _ _ _ _ _ => .work j .z noView
 | .add _ => .add 0
 | .load _ => .load 0
 | .store _ => .store 0
 | .sem _ => .sem 0
 | .head k _ => .head k 0
 | .cas v _ => .cas v 0
 | .said _ => .said 0
 | .csem _ => .csem 0
 | .last _ => .last 0
 | .acq _ => .acq 0
 | .look _ => .look 0
 | .close _ => .close 0
theorem GS.cnt_shape : ∀ K : GS, K.shape.cnt = K.cnt := by intro K; cases K <;> rfl
theorem GS.late_shape : ∀ K : GS, K.shape.late = K.late := by intro K; cases K <;> rfl
theorem GS.idx_shape : ∀ K : GS, K.shape.idx = K.idx := by intro K; cases K <;> rfl
def GS.closer : GS -> Bool
 | .head .. | .cas .. | .said _ | .csem _ | .last _ | .acq _ | .look _ | .close _ => true
 | _ => false
theorem GS.closer_shape : ∀ K : GS, K.shape.closer = K.closer := by intro K; cases K <;> rfl
def GS.rank : GS -> Rank
 | .gone q => ⟨0, .z, q⟩
 | .work _ h V => ⟨11 + 2 * (match V.role with | .work _ _ S => S.length | _ => 0), h, 0⟩
 | .park _ h V _ _ _ _ => ⟨10 + 2 * (match V.role with | .work _ _ S => S.length | _ => 0), h, 0⟩
 | .add n => ⟨8, .z, n⟩
 | .load n => ⟨7, .z, n⟩
 | .store n => ⟨6, .z, n⟩
 | .sem n => ⟨5, .z, n⟩
 | .head k n => ⟨100 + 3 * k, .z, n⟩
 | .cas v n => ⟨102 + 3 * v, .z, n⟩
 | .said n => ⟨60, .z, n⟩
 | .csem n => ⟨50, .z, n⟩
 | .last n => ⟨40, .z, n⟩
 | .acq n => ⟨30, .z, n⟩
 | .look n => ⟨20, .z, n⟩
 | .close n => ⟨15, .z, n⟩
section
variable (P : Program) (c Wg : Nat) (Im : Imm) (Ss : List (List Spec))
def CCas (v d : Nat) (g : Goroutine) : Prop := d = 1 /\ g.status = .running /\
 (∃ g', (∀ w, WgAt P Wg w ((v : Int) * KK) 0 -> stepG P false g w = .go g' (w.setCell (stateAt Wg) (.int .u64 ((v : Int) * KK + 1))) #[eRd (stateAt Wg), eWr (stateAt Wg)]) /\ ∃ n, SlideW P Wg (CSaid P Im c Wg) n 1 g') /\
 (∀ u : Nat, u < v -> ∃ g', (∀ w, WgAt P Wg w ((u : Int) * KK) 0 -> stepG P false g w = .go g' w #[eRd (stateAt Wg)]) /\ ∃ n, Slide P (CHead P Im c Wg v) n 1 g')
theorem CHead.succ {k d : Nat} {g : Goroutine} (h : CHead P Im c Wg (k + 1) d g) : d = 1 /\ g.status = .running /\ ∀ v : Nat, v <= k -> v <= 4 -> ∃ g', (∀ w, WgAt P Wg w ((v : Int) * KK) 0 -> stepG P false g w = .go g' w #[eRd (stateAt Wg)]) /\
  (v = 0 -> ∃ n, SlideW P Wg (CAcq P Im c Wg) n 1 g') /\ (v ≠ 0 -> ∃ n, Slide P (CCas P c Wg Im v) n 1 g') := by
 rw [CHead] at h
 exact h
theorem CHead.zero {d : Nat} {g : Goroutine} (h : CHead P Im c Wg 0 d g) : False := by
 rw [CHead] at h
 exact h
def GS.is : GS -> Nat -> Goroutine -> Prop
 | .gone q, d, g => QuitsD P q d g
 | .work j h V, d, g => d = V.deaf /\ WkJ P h V g /\ ∃ S, Ss[j]? = some S /\ V.role = .work c Wg S
 | .park j h V V' g0 v z, d, g => d = 0 /\ V.deaf = 0 /\ g = parked g0 #[scase c v z] .send /\ WkJ P h V' (Conc.served g0 undef) /\ ∃ sp S, ∃ B : Nat -> Bool, Ss[j]? = some (sp :: S) /\ V.role = .work c Wg (sp :: S) /\
   sp v V.imm (fun b => if B b then V.own b else none) /\ V' = { V with own := fun b => if B b then none else V.own b, role := .work c Wg S }
 | .add n, d, g => Slide P (DAdd P Wg) n d g
 | .load n, d, g => Slide P (DLoad P Wg) n d g
 | .store n, d, g => Slide P (DStore P Wg) n d g
 | .sem n, d, g => Slide P (DSem P Wg) n d g
 | .head k n, d, g => Slide P (CHead P Im c Wg k) n d g
 | .cas v n, d, g => Slide P (CCas P c Wg Im v) n d g
 | .said n, d, g => SlideW P Wg (CSaid P Im c Wg) n d g
 | .csem n, d, g => Slide P (CSem P Im c Wg) n d g \/ (n = 0 /\ ∃ g1, g = { g1 with status := .blocked } /\ CSem P Im c Wg d g1)
 | .last n, d, g => Slide P (CLast P Im c Wg) n d g
 | .acq n, d, g => SlideW P Wg (CAcq P Im c Wg) n d g
 | .look n, d, g => Slide P (CLook P Im c) n d g
 | .close n, d, g => Slide P (CClose P c) n d g
end
theorem Slide.running {P : Program} {Stop : Nat -> Goroutine -> Prop} (hs : ∀ d g, Stop d g -> g.status = .running) : ∀ {n d : Nat} {g : Goroutine}, Slide P Stop n d g -> g.status = .running
 | 0, _, _, h => hs _ _ h
 | _ + 1, _, _, h => h.elim (hs _ _) (fun x => x.1)
theorem SlideW.running {P : Program} {Wg : Nat} {Stop : Nat -> Goroutine -> Prop} (hs : ∀ d g, Stop d g -> g.status = .running) : ∀ {n d : Nat} {g : Goroutine}, SlideW P Wg Stop n d g -> g.status = .running
 | 0, _, _, h => hs _ _ h
 | _ + 1, _, _, h => h.elim (hs _ _) (fun x => x.1)
theorem headRun {P : Program} {Im : Imm} {c Wg : Nat} : ∀ {k d : Nat} {g : Goroutine}, CHead P Im c Wg k d g -> g.status = .running
 | 0, _, _, h => (CHead.zero P c Wg Im h).elim
 | _ + 1, _, _, h => (CHead.succ P c Wg Im h).2.1
theorem GS.runs {P : Program} {c Wg : Nat} {Im : Imm} {Ss : List (List Spec)} {K : GS} {d : Nat} {g : Goroutine} (h : K.is P c Wg Im Ss d g) :
  g.status = .running \/ g.status = .finished /\ (∃ q, K = .gone q) \/ (∃ j h V V' g0 v z, K = .park j h V V' g0 v z) \/ ((∃ n, K = .csem n) /\ g.status = .blocked /\ g.offers = none) := by
 cases K with
 | gone q => exact (QuitsD.status h).elim .inl (fun x => .inr (.inl ⟨x, q, rfl⟩))
 | work j h' V => exact .inl h.2.1.running
 | park j h' V V' g0 v z => exact .inr (.inr (.inl ⟨j, h', V, V', g0, v, z, rfl⟩))
 | add n => exact .inl (Slide.running (fun d g x => x.2.1) h)
 | load n => exact .inl (Slide.running (fun d g x => x.2.1) h)
 | store n => exact .inl (Slide.running (fun d g x => x.2.1) h)
 | sem n => exact .inl (Slide.running (fun d g x => x.2.1) h)
 | head k n => exact .inl (Slide.running (fun d g x => headRun x) h)
 | cas v n => exact .inl (Slide.running (fun d g x => x.2.1) h)
 | said n => exact .inl (SlideW.running (fun d g x => x.2.1) h)
 | csem n =>
  rcases h with h | ⟨_, g1, rfl, h⟩
  ·exact .inl (Slide.running (fun d g x => x.2.1) h)
  ·exact .inr (.inr (.inr ⟨⟨n, rfl⟩, rfl, h.2.2.1⟩))
 | last n => exact .inl (Slide.running (fun d g x => x.2.1) h)
 | acq n => exact .inl (SlideW.running (fun d g x => x.2.1) h)
 | look n => exact .inl (Slide.running (fun d g x => x.2.1) h)
 | close n => exact .inl (Slide.running (fun d g x => x.2.1) h)
structure Rel (Wg : Nat) (t : Trace) (i r : Nat) : Prop where
 act : t.act? r = some (.mark (.releaseMerge (stateAt Wg)))
 g : t.g? r = some i
 heard : t.heard r
theorem Rel.app {Wg : Nat} {t u : Trace} {i r : Nat} (h : Rel Wg t i r) : Rel Wg (t ++ u) i r :=
 have hr := lt_of_act? h.act
 ⟨by rw [act?_old hr]; exact h.act, by rw [g?_old hr]; exact h.g, (heard_old hr).2 h.heard⟩
inductive Stage where
 | early
 | got
 | shut (p : Nat)
 deriving DecidableEq
def HeldBy (Wg : Nat) (t : Trace) (K : Nat -> GS) (ic : Nat) : Stage -> Nat -> Prop
 | .early, idx => ∃ i, t.g? idx = some i /\ 0 < i /\ (((K i).idx.isSome = true) \/ (i = ic) \/ ∃ r, Rel Wg t i r /\ idx <= r)
 | .got, idx => Knows t ic idx
 | .shut p, idx => Before t idx p
def Rest (Wg : Nat) (t : Trace) (K : Nat -> GS) (ic : Nat) (st : Option Stage) : Prop :=
 ∀ idx a, touchAt t idx = some a -> a.loc.isMemory = true -> Knows t 0 idx \/ (a.kind = .atomic /\ ¬ t.heard idx) \/ ∃ s, st = some s /\ HeldBy Wg t K ic s idx
def Mode (P : Program) (c Wg N : Nat) (w : World) (gs : Array Goroutine) (t : Trace) (K : Nat -> GS) (ic : Nat) (s : Stage) : Prop :=
 let cn : Nat := sumTo N fun i => (K i).cnt
 let la : Nat := sumTo N fun i => (K i).late
 let opn := ∃ n, w.heap[c]? = some (.chan 0 #[] false n n false)
 (opn /\ s = .early /\ la = 0 /\ cn <= 4 /\ WgAt P Wg w ((cn : Int) * KK) 0 /\ ((∃ k, (K ic).shape = .head k 0 /\ cn < k) \/ (∃ v, (K ic).shape = .cas v 0 /\ cn <= v /\ 0 < v))) \/
 (opn /\ s = .early /\ la = 0 /\ 1 <= cn /\ cn <= 4 /\ WgAt P Wg w ((cn : Int) * KK + 1) 0 /\ ((K ic).shape = .said 0 \/ (K ic).shape = .csem 0)) \/
 (opn /\ s = .early /\ la = 1 /\ cn = 0 /\ ((K ic).shape = .said 0 \/ (K ic).shape = .csem 0) /\ (∀ i, i < N -> ((K i).shape = .load 0 \/ (K i).shape = .store 0) -> WgAt P Wg w 1 0) /\ (∀ i, i < N -> (K i).shape = .sem 0 -> WgAt P Wg w 0 0)) \/
 (opn /\ s = .early /\ la = 0 /\ cn = 0 /\ WgAt P Wg w 0 1 /\ (∀ g, gs[ic]? = some g -> g.status = .running) /\ ((K ic).shape = .said 0 \/ (K ic).shape = .csem 0)) \/
 (opn /\ s = .early /\ la = 0 /\ cn = 0 /\ WgAt P Wg w 0 0 /\ ((K ic).shape = .last 0 \/ (K ic).shape = .acq 0)) \/
 (opn /\ s = .got /\ la = 0 /\ cn = 0 /\ ((K ic).shape = .look 0 \/ (K ic).shape = .close 0)) \/
 ((∃ p n, s = .shut p /\ t.act? p = some (.close c) /\ t.heard p /\ w.heap[c]? = some (.chan 0 #[] true n n false)) /\ la = 0 /\ cn = 0 /\ (K ic).shape = .gone 0)
def MainAt (gs : Array Goroutine) (g : Goroutine) : Prop := ∃ g0, gs[0]? = some g0 /\ g0.status = .running /\ g0.frame = g.frame /\ g0.callers = g.callers /\ g0.dying = g.dying
def MainParked (gs : Array Goroutine) (g : Goroutine) (c : Nat) : Prop := ∃ g0 z, gs[0]? = some (parked g0 #[rcase c z] (.recv true)) /\ g0.frame = g.frame /\ g0.callers = g.callers /\ g0.dying = g.dying
structure Phase where
 c : Nat
 Wg : Nat
 Ss : List (List Spec)
 recv : Bool
def VVof (V : View) (Im : Imm) (K : Nat -> GS) : Nat -> View := fun i => if i = 0 then V else (K i).view Im
structure Inv (P : Program) (n0 : Nat) (W0 : World) (V : View) (gs : Array Goroutine) (w : World) (t : Trace) (K : Nat -> GS) (Im : Imm) (ic : Nat) (ph : Option Phase) (st : Option Stage) : Prop where
 pos : 0 < gs.size
 k0 : K 0 = .gone 0
 d0 : Deaf t 0 = V.deaf
 «is» : ∀ i g, 0 < i -> gs[i]? = some g -> match ph with
  | some p => (K i).is P p.c p.Wg Im p.Ss (Deaf t i) g
  | none => ∃ q, K i = .gone q /\ QuitsD P q (Deaf t i) g
 core : Core (VVof V Im K) gs.size w t (match ph with | some p => ShP p.c p.Wg | none => fun _ => False)
  (fun i => match ph with | some p => if p.recv then 0 < i /\ i < gs.size /\ ((K i).idx.isSome = true \/ i = ic \/ (K i).cnt = 1 \/ (K i).late = 1) else i = 0 \/ (i < gs.size /\ (K i).idx.isSome = true) | none => False) ic n0 W0
 rest : Rest (match ph with | some p => p.Wg | none => 0) t K ic st
 phase : match ph with
  | none => st = none
  | some p => n0 <= p.c /\ n0 <= p.Wg /\ p.c ≠ p.Wg /\ p.c < w.heap.size /\ p.Wg < w.heap.size /\ p.Ss.length <= 4 /\
   (∀ i, 0 < i -> ((K i).view Im).own p.c = none /\ (∀ o, ((K i).view Im).imm p.c o = none) /\ ((K i).view Im).own p.Wg = none /\ (∀ o, ((K i).view Im).imm p.Wg o = none) /\ ((K i).closer = true -> i = ic)) /\
   (∀ i i' j, 0 < i -> i < gs.size -> 0 < i' -> i' < gs.size -> (K i).idx = some j -> (K i').idx = some j -> i = i') /\
   (∀ j S, p.Ss[j]? = some S -> S ≠ [] -> ∃ i, 0 < i /\ i < gs.size /\ (K i).idx = some j) /\
   (if p.recv then (V.own p.c = none /\ (∀ o, V.imm p.c o = none) /\ V.own p.Wg = none /\ (∀ o, V.imm p.Wg o = none)) /\ 0 < ic /\ ic < gs.size /\ (∃ s, st = some s /\ Mode P p.c p.Wg gs.size w gs t K ic s)
    else V.own p.c = some (.chan 0 #[] false 0 0 false) /\ ic = 0 /\ st = some .early /\ (∀ i, 0 < i -> i < gs.size -> (K i).idx.isSome = true \/ ∃ q, K i = .gone q) /\ (∀ S ∈ p.Ss, S ≠ []) /\ (sumTo gs.size fun i => (K i).cnt) = p.Ss.length)
theorem sum_upd (K : Nat -> GS) (k : GS) (φ : GS -> Nat) {i N : Nat} (hi : i < N) : sumTo N (fun a => φ (upd K i k a)) + φ (K i) = sumTo N (fun a => φ (K a)) + φ k := sumTo_upd K k φ hi
theorem sum_same (K : Nat -> GS) (k : GS) (φ : GS -> Nat) {i N : Nat} (h : φ k = φ (K i)) : sumTo N (fun a => φ (upd K i k a)) = sumTo N (fun a => φ (K a)) :=
 sumTo_congr fun a _ => by by_cases ha : a = i; subst ha; rw [upd_at, h]; rw [upd_not _ _ ha]
theorem Core.act_mono {VV : Nat -> View} {N : Nat} {w : World} {t : Trace} {Sh : Loc -> Prop} {act act' : Nat -> Prop} {ic n0 : Nat} {W0 : World} (h : Core VV N w t Sh act ic n0 W0) (ha : ∀ i, act' i -> act i) : Core VV N w t Sh act' ic n0 W0 :=
 ⟨h.sat, h.dis, h.ti.weaken (Nat.le_refl _) (fun _ _ _ x => .inl x) (fun _ _ _ x => x) (fun idx a x y => ⟨fun hp i hi => (h.ti.sp idx a x y).1 hp i (ha i hi), (h.ti.sp idx a x y).2⟩), h.tape, h.os, h.out, h.old, h.oldOwn, h.n0⟩
theorem Core.congr {VV VV' : Nat -> View} {N : Nat} {w : World} {t : Trace} {Sh : Loc -> Prop} {act : Nat -> Prop} {ic n0 : Nat} {W0 : World} (h : Core VV N w t Sh act ic n0 W0) (e : ∀ i, i < N -> VV' i = VV i) : Core VV' N w t Sh act ic n0 W0 :=
 ⟨fun i hi => by rw [e i hi]; exact h.sat i hi, fun i j hi hj hij => by rw [e i hi, e j hj]; exact h.dis i j hi hj hij,
  h.ti.weaken (Nat.le_refl _) (fun i l hi ⟨x, y, z⟩ => .inl ⟨x, by rw [<- e i hi]; exact y, z⟩) (fun i l hi ⟨x, y, z⟩ => ⟨x, by rw [<- e i hi]; exact y, z⟩) h.ti.sp, h.tape, h.os, h.out, h.old, fun i hi b hb => by rw [e i hi]; exact h.oldOwn i hi b hb, h.n0⟩
theorem vv_upd (V : View) (Im : Imm) (K : Nat -> GS) {i : Nat} (hi : 0 < i) (k : GS) : VVof V Im (upd K i k) = upd (VVof V Im K) i (k.view Im) := by
 funext j
 by_cases hj : j = i
 ·subst hj; rw [upd_at]; simp [VVof, upd_at]; omega
 ·rw [upd_not _ _ hj]; simp [VVof, upd_not _ _ hj]
theorem is_woken {P : Program} {c Wg : Nat} {Im : Imm} {Ss : List (List Spec)} {k : GS} {d : Nat} {x g g' : Goroutine} {w' : World} (ho : (∃ n, w'.heap[c]? = some (.chan 0 #[] false n n false)) \/ k.idx = none) (h : k.is P c Wg Im Ss d x) :
  k.is P c Wg Im Ss d (woken P g g' w' x) := by
 rcases GS.runs h with hr | ⟨hf, q, rfl⟩ | ⟨j, h', V, V', g0, v, z, rfl⟩ | ⟨⟨n, rfl⟩, hb, hof⟩
 ·rw [woken_run hr]; exact h
 ·rw [woken_quitsD h]; exact h
 ·rcases ho with ⟨n, ho⟩ | ho
  ·obtain ⟨h1, h2, rfl, h4⟩ := h
   rw [woken_send_open _ _ ho]
   exact ⟨h1, h2, rfl, h4⟩
  ·cases ho
 ·rcases h with h | ⟨hn, g1, rfl, h⟩
  ·rw [Slide.running (fun d g x => x.2.1) h] at hb; cases hb
  ·unfold woken
   split
   ·subst hn
    refine .inl ?_
    have e : ({ g1 with status := GoStatus.blocked } : Goroutine).again w' = g1 := by
     obtain ⟨f, cs, s, dy, o⟩ := g1
     have h2 := h.2.1
     have h3 := h.2.2.1
     simp only at h2 h3
     subst h2 h3
     rfl
    rw [e]; exact h
   ·exact .inr ⟨hn, g1, rfl, h⟩
theorem main_woken {P : Program} {gs : Array Goroutine} {g : Goroutine} {w' : World} {i : Nat} {gi gi' : Goroutine} (hi : 0 < i) (h : MainAt gs g) : MainAt ((gs.map (woken P gi gi' w')).setIfInBounds i gi') g := by
 obtain ⟨g0, h0, h1, h2⟩ := h
 exact ⟨g0, by rw [Array.getElem?_setIfInBounds_ne (by omega), Array.getElem?_map, h0]; simp [woken_run h1], h1, h2⟩
theorem park_woken {P : Program} {gs : Array Goroutine} {g : Goroutine} {w' : World} {i c : Nat} {gi gi' : Goroutine} (hi : 0 < i) (h : MainParked gs g c) (ho : ∃ n, w'.heap[c]? = some (.chan 0 #[] false n n false)) : MainParked ((gs.map (woken P gi gi' w')).setIfInBounds i gi') g c := by
 obtain ⟨g0, z, h0, h2⟩ := h
 obtain ⟨n, ho⟩ := ho
 exact ⟨g0, z, by rw [Array.getElem?_setIfInBounds_ne (by omega), Array.getElem?_map, h0]; simp [woken_recv_open _ _ ho], h2⟩
theorem park_closed {P : Program} {gs : Array Goroutine} {g : Goroutine} {w' : World} {i c : Nat} {gi gi' : Goroutine} (hi : 0 < i) (h : MainParked gs g c) (hw : mayWake P gi = true) (hs : gi'.status = .running \/ gi'.status = .finished) (ho : ∃ n, w'.heap[c]? = some (.chan 0 #[] true n n false)) :
  MainAt ((gs.map (woken P gi gi' w')).setIfInBounds i gi') g := by
 obtain ⟨g0, z, h0, h2⟩ := h
 obtain ⟨n, ho⟩ := ho
 refine ⟨{ parked g0 #[rcase c z] (.recv true) with status := .running }, ?_, rfl, h2⟩
 rw [Array.getElem?_setIfInBounds_ne (by omega), Array.getElem?_map, h0]
 have : woken P gi gi' w' (parked g0 #[rcase c z] (.recv true)) = { parked g0 #[rcase c z] (.recv true) with status := .running } := by
  unfold woken
  have hc : (mayWake P gi && gi'.status != .blocked && gi'.status != .waiting) = true := by rcases hs with hs | hs <;> simp [hw, hs]
  rw [if_pos hc, again_recv_closed ho]
 simp [this]
def Opn (w : World) (c : Nat) : Prop := ∃ n, w.heap[c]? = some (.chan 0 #[] false n n false)
def MainOk (gs gs' : Array Goroutine) (w w' : World) (g : Goroutine) (c : Nat) : Prop := (MainAt gs g -> MainAt gs' g) /\ (MainParked gs g c -> Opn w c -> MainAt gs' g \/ (MainParked gs' g c /\ Opn w' c))
def Calm (gs : Array Goroutine) : Prop := ∀ i x, 0 < i -> gs[i]? = some x -> x.status = .blocked -> x.offers = none
def flag (gs : Array Goroutine) (ic : Nat) : Nat := if (gs[ic]?).any (·.status == .running) then 1 else 0
def actOf (p : Phase) (N ic : Nat) (K : Nat -> GS) (i : Nat) : Prop := if p.recv then 0 < i /\ i < N /\ ((K i).idx.isSome = true \/ i = ic \/ (K i).cnt = 1 \/ (K i).late = 1) else i = 0 \/ (i < N /\ (K i).idx.isSome = true)
section
variable {P : Program} {n0 : Nat} {W0 : World} {V : View} {gs : Array Goroutine} {w : World} {t : Trace} {K : Nat -> GS} {Im : Imm} {ic : Nat} {ph : Option Phase} {st : Option Stage}
structure Went (P : Program) (n0 : Nat) (W0 : World) (V : View) (gs : Array Goroutine) (w : World) (sl : Option (Nat × Nat)) (t : Trace) (K : Nat -> GS) (Im : Imm) (ic : Nat) (ph : Option Phase) (st : Option Stage) (i : Nat) : Prop where
 intro ::
 went : ∃ gs' w' ops K' st', runT P (crowd gs w sl) i = (.next (crowd gs' w' sl), ops) /\ gs'.size = gs.size /\ Inv P n0 W0 V gs' w' (t ++ ops) K' Im ic ph st' /\ (∀ g c, (∀ p, ph = some p -> p.c = c) -> MainOk gs gs' w w' g c) /\ (∀ g c, MainParked gs g c -> Calm gs -> Calm gs') /\
  MuLt gs.size ((fun j => (K' j).rank), flag gs' ic) ((fun j => (K j).rank), flag gs ic)
theorem getElem?_next {gi gi' : Goroutine} {w' : World} {i j : Nat} {x : Goroutine} (hlt : i < gs.size) (h : ((gs.map (woken P gi gi' w')).setIfInBounds i gi')[j]? = some x) : (j = i /\ x = gi') \/ (j ≠ i /\ ∃ y, gs[j]? = some y /\ x = woken P gi gi' w' y) := by
 by_cases hji : j = i
 ·subst hji
  rw [Array.getElem?_setIfInBounds_self_of_lt (by simpa using hlt)] at h
  exact .inl ⟨rfl, (Option.some.inj h).symm⟩
 ·rw [Array.getElem?_setIfInBounds_ne (Ne.symm hji), Array.getElem?_map] at h
  obtain ⟨y, hy, rfl⟩ := Option.map_eq_some_iff.1 h
  exact .inr ⟨hji, y, hy, rfl⟩
theorem Rest.app {Wg : Nat} {t u : Trace} {K K' : Nat -> GS} {ic : Nat} {s s' : Stage} (h : Rest Wg t K ic (some s)) (hold : ∀ idx a, touchAt t idx = some a -> HeldBy Wg t K ic s idx -> Knows (t ++ u) 0 idx \/ HeldBy Wg (t ++ u) K' ic s' idx)
  (hnew : ∀ idx a, t.size <= idx -> (∃ op ∈ u, (t ++ u)[idx]? = some op /\ op.act.touch? = some a) -> a.loc.isMemory = true -> Knows (t ++ u) 0 idx \/ (a.kind = .atomic /\ ¬ (t ++ u).heard idx) \/ HeldBy Wg (t ++ u) K' ic s' idx) : Rest Wg (t ++ u) K' ic (some s') := by
 intro idx a ha hm
 rcases touchAt_app ha with ha' | ⟨hi, hx⟩
 ·obtain ⟨op, hop, _⟩ := touch_of ha'
  rcases h idx a ha' hm with x | ⟨x, y⟩ | ⟨s1, hs1, x⟩
  ·exact .inl (x.app u)
  ·exact .inr (.inl ⟨x, fun z => y ((heard_old (lt_size_of_getElem? hop)).1 z)⟩)
  ·cases hs1
   exact (hold idx a ha' x).imp id fun y => .inr ⟨s', rfl, y⟩
 ·exact (hnew idx a hi hx hm).imp id (fun y => y.imp id fun z => ⟨s', rfl, z⟩)
theorem HeldBy.app {Wg : Nat} {t u : Trace} {K K' : Nat -> GS} {ic idx : Nat} {s : Stage} (hidx : idx < t.size) (h : HeldBy Wg t K ic s idx) (hK : ∀ i, t.g? idx = some i -> 0 < i -> (K i).idx.isSome = true -> (K' i).idx.isSome = true \/ ∃ r, Rel Wg (t ++ u) i r /\ idx <= r) : HeldBy Wg (t ++ u) K' ic s idx := by
 cases s with
 | early =>
  obtain ⟨i, hg, h0, hx⟩ := h
  refine ⟨i, by rw [g?_old hidx]; exact hg, h0, ?_⟩
  rcases hx with x | x | ⟨r, x, y⟩
  ·exact (hK i hg h0 x).imp id .inr
  ·exact .inr (.inl x)
  ·exact .inr (.inr ⟨r, x.app, y⟩)
 | got => exact Knows.app u h
 | shut p => exact Before.app u h
end
def shOf (ph : Option Phase) : Loc -> Prop := match ph with | some p => ShP p.c p.Wg | none => fun _ => False
def actPh (ph : Option Phase) (N ic : Nat) (K : Nat -> GS) : Nat -> Prop := fun i => match ph with | some p => actOf p N ic K i | none => False
def wgOf (ph : Option Phase) : Nat := match ph with | some p => p.Wg | none => 0
section
variable {P : Program} {n0 : Nat} {W0 : World} {V : View} {gs : Array Goroutine} {w w' : World} {sl : Option (Nat × Nat)} {t : Trace} {K : Nat -> GS} {Im : Imm} {ic : Nat} {ph : Option Phase} {st st' : Option Stage}
def PhaseOk (P : Program) (n0 : Nat) (V : View) (gs : Array Goroutine) (w : World) (t : Trace) (K : Nat -> GS) (Im : Imm) (ic : Nat) (ph : Option Phase) (st : Option Stage) : Prop := match ph with
  | none => st = none
  | some p => n0 <= p.c /\ n0 <= p.Wg /\ p.c ≠ p.Wg /\ p.c < w.heap.size /\ p.Wg < w.heap.size /\ p.Ss.length <= 4 /\
   (∀ i, 0 < i -> ((K i).view Im).own p.c = none /\ (∀ o, ((K i).view Im).imm p.c o = none) /\ ((K i).view Im).own p.Wg = none /\ (∀ o, ((K i).view Im).imm p.Wg o = none) /\ ((K i).closer = true -> i = ic)) /\
   (∀ i i' j, 0 < i -> i < gs.size -> 0 < i' -> i' < gs.size -> (K i).idx = some j -> (K i').idx = some j -> i = i') /\
   (∀ j S, p.Ss[j]? = some S -> S ≠ [] -> ∃ i, 0 < i /\ i < gs.size /\ (K i).idx = some j) /\
   (if p.recv then (V.own p.c = none /\ (∀ o, V.imm p.c o = none) /\ V.own p.Wg = none /\ (∀ o, V.imm p.Wg o = none)) /\ 0 < ic /\ ic < gs.size /\ (∃ s, st = some s /\ Mode P p.c p.Wg gs.size w gs t K ic s)
    else V.own p.c = some (.chan 0 #[] false 0 0 false) /\ ic = 0 /\ st = some .early /\ (∀ i, 0 < i -> i < gs.size -> (K i).idx.isSome = true \/ ∃ q, K i = .gone q) /\ (∀ S ∈ p.Ss, S ≠ []) /\ (sumTo gs.size fun i => (K i).cnt) = p.Ss.length)
def IsPh (P : Program) (Im : Imm) (ph : Option Phase) (k : GS) (d : Nat) (g : Goroutine) : Prop := match ph with
  | some p => k.is P p.c p.Wg Im p.Ss d g
  | none => ∃ q, k = .gone q /\ QuitsD P q d g
theorem Inv.mk' (pos : 0 < gs.size) (k0 : K 0 = .gone 0) (d0 : Deaf t 0 = V.deaf) (his : ∀ i g, 0 < i -> gs[i]? = some g -> IsPh P Im ph (K i) (Deaf t i) g)
  (hc : Core (VVof V Im K) gs.size w t (shOf ph) (actPh ph gs.size ic K) ic n0 W0) (hr : Rest (wgOf ph) t K ic st) (hp : PhaseOk P n0 V gs w t K Im ic ph st) : Inv P n0 W0 V gs w t K Im ic ph st := by
 cases ph with
 | none => exact ⟨pos, k0, d0, his, hc, hr, hp⟩
 | some p => exact ⟨pos, k0, d0, his, hc, hr, hp⟩
theorem Inv.out (h : Inv P n0 W0 V gs w t K Im ic ph st) : (∀ i g, 0 < i -> gs[i]? = some g -> IsPh P Im ph (K i) (Deaf t i) g) /\ Core (VVof V Im K) gs.size w t (shOf ph) (actPh ph gs.size ic K) ic n0 W0 /\ Rest (wgOf ph) t K ic st /\ PhaseOk P n0 V gs w t K Im ic ph st := by
 cases ph with
 | none => exact ⟨h.is, h.core, h.rest, h.phase⟩
 | some p => exact ⟨h.is, h.core, h.rest, h.phase⟩
theorem calm_again {y : Goroutine} (hy : y.status = .blocked -> y.offers = none) : (y.again w').status = .blocked -> (y.again w').offers = none := by
 obtain ⟨f, cs, s, d, o⟩ := y
 unfold Goroutine.again
 cases s <;> cases o <;> simp_all
theorem calm_woken {g g' y : Goroutine} (hy : y.status = .blocked -> y.offers = none) (hb : (woken P g g' w' y).status = .blocked) : (woken P g g' w' y).offers = none := by
 unfold woken at hb ⊢
 split
 ·rename_i hh; rw [if_pos hh] at hb; exact calm_again hy hb
 ·rename_i hh; rw [if_neg hh] at hb; exact hy hb
theorem Inv.nextMu (h : Inv P n0 W0 V gs w t K Im ic ph st) {i : Nat} {gi gi' : Goroutine} {es : Array Event} {k' : GS} (hi : 0 < i) (hgi : gs[i]? = some gi) (hst : stepG P false gi w = .go gi' w' es)
  (hk : IsPh P Im ph k' (deafBehind (Deaf t i) es) gi') (hcalm : gi'.status = .blocked -> gi'.offers = none) (hopen : ∀ p, ph = some p -> (∃ n, w'.heap[p.c]? = some (.chan 0 #[] false n n false)) \/ (∀ j, 0 < j -> j < gs.size -> j ≠ i -> (K j).idx = none))
  (hcore : Core (VVof V Im (upd K i k')) gs.size w' (t ++ MemOp.ofEvents i gi.frame.fn gi.frame.place es) (shOf ph) (actPh ph gs.size ic (upd K i k')) ic n0 W0)
  (hrest : Rest (wgOf ph) (t ++ MemOp.ofEvents i gi.frame.fn gi.frame.place es) (upd K i k') ic st')
  (hphase : PhaseOk P n0 V ((gs.map (woken P gi gi' w')).setIfInBounds i gi') w' (t ++ MemOp.ofEvents i gi.frame.fn gi.frame.place es) (upd K i k') Im ic ph st')
  (hmu : MuLt gs.size ((fun j => (upd K i k' j).rank), flag ((gs.map (woken P gi gi' w')).setIfInBounds i gi') ic) ((fun j => (K j).rank), flag gs ic))
  (hmain : ∀ g c, (∀ p, ph = some p -> p.c = c) -> MainOk gs ((gs.map (woken P gi gi' w')).setIfInBounds i gi') w w' g c) : Went P n0 W0 V gs w sl t K Im ic ph st i := by
 have hlt : i < gs.size := (Array.getElem?_eq_some_iff.1 hgi).1
 have hi0 : (i == 0) = false := by simp; omega
 have hsz : ((gs.map (woken P gi gi' w')).setIfInBounds i gi').size = gs.size := by simp
 have hso : ∀ op ∈ MemOp.ofEvents i gi.frame.fn gi.frame.place es, op.g = i := fun op hop => by obtain ⟨e, _, rfl⟩ := Conc.mem_ofEvents hop; rfl
 refine ⟨_, w', _, upd K i k', st', runT_crowd_go (P := P) (sl := sl) hgi (by rw [hi0]; exact hst), hsz, ?_, hmain, ?_, hmu⟩
 rotate_left
 ·intro g c _ hc j x hj hx hb
  rcases getElem?_next hlt hx with ⟨_, rfl⟩ | ⟨_, y, hy, rfl⟩
  ·exact hcalm hb
  ·exact calm_woken (hc j y hj hy) hb
 refine Inv.mk' (by rw [hsz]; exact h.pos) (by rw [upd_not _ _ (by omega)]; exact h.k0) ?_ (fun j x hj hx => ?_) (by rw [hsz]; exact hcore) hrest hphase
 ·rw [Deaf_other t (g := 0) (g' := i) (by omega) _ hso]; exact h.d0
 ·rcases getElem?_next hlt hx with ⟨rfl, rfl⟩ | ⟨hji, y, hy, rfl⟩
  ·rw [upd_at, Deaf_own]; exact hk
  ·rw [upd_not _ _ hji, Deaf_other t (g := j) (g' := i) (Ne.symm hji) _ hso]
   have hyk := h.out.1 j y hj hy
   have hjlt : j < gs.size := (Array.getElem?_eq_some_iff.1 hy).1
   cases ph with
   | none =>
    obtain ⟨q, hq, hy'⟩ := hyk
    exact ⟨q, hq, by rw [woken_quitsD hy']; exact hy'⟩
   | some p =>
    refine is_woken ?_ hyk
    rcases hopen p rfl with x | x
    ·exact .inl x
    ·exact .inr (x j hj hjlt hji)
theorem Inv.next (h : Inv P n0 W0 V gs w t K Im ic ph st) {i : Nat} {gi gi' : Goroutine} {es : Array Event} {k' : GS} (hi : 0 < i) (hgi : gs[i]? = some gi) (hst : stepG P false gi w = .go gi' w' es)
  (hk : IsPh P Im ph k' (deafBehind (Deaf t i) es) gi') (hcalm : gi'.status = .blocked -> gi'.offers = none) (hopen : ∀ p, ph = some p -> (∃ n, w'.heap[p.c]? = some (.chan 0 #[] false n n false)) \/ (∀ j, 0 < j -> j < gs.size -> j ≠ i -> (K j).idx = none))
  (hcore : Core (VVof V Im (upd K i k')) gs.size w' (t ++ MemOp.ofEvents i gi.frame.fn gi.frame.place es) (shOf ph) (actPh ph gs.size ic (upd K i k')) ic n0 W0)
  (hrest : Rest (wgOf ph) (t ++ MemOp.ofEvents i gi.frame.fn gi.frame.place es) (upd K i k') ic st')
  (hphase : PhaseOk P n0 V ((gs.map (woken P gi gi' w')).setIfInBounds i gi') w' (t ++ MemOp.ofEvents i gi.frame.fn gi.frame.place es) (upd K i k') Im ic ph st')
  (hrank : RankLt k'.rank (K i).rank)
  (hmain : ∀ g c, (∀ p, ph = some p -> p.c = c) -> MainOk gs ((gs.map (woken P gi gi' w')).setIfInBounds i gi') w w' g c) : Went P n0 W0 V gs w sl t K Im ic ph st i :=
 h.nextMu hi hgi hst hk hcalm hopen hcore hrest hphase (.inl ⟨i, (Array.getElem?_eq_some_iff.1 hgi).1, by simpa only [upd_at] using hrank, fun j hj => by show (upd K i k' j).rank = (K j).rank; rw [upd_not _ _ hj]⟩) hmain
theorem mute_facts {B : Nat} {e : Event} (h : e.mute = true) : (MemAct.ofEvent e).touch? = none /\ (MemAct.ofEvent e).low B /\ ∀ a, MemAct.ofEvent e ≠ .mark (.release a) := by
 refine ⟨touch_mute h, low_mute h B, fun a => ?_⟩
 obtain ⟨l, wr, sy⟩ := e
 cases l with
 | mark m => cases m <;> cases wr <;> cases sy <;> simp_all [MemAct.ofEvent, Event.mute]
 | _ => simp [Event.mute] at h
theorem Mode.keep {c Wg N : Nat} {gs' : Array Goroutine} {u : Trace} {K' : Nat -> GS} {s : Stage} (h : Mode P c Wg N w gs t K ic s) (hs : ∀ j, (K' j).shape = (K j).shape) (hc : w'.heap[c]? = w.heap[c]?) (hW : w'.heap[Wg]? = w.heap[Wg]?)
  (hr : (∀ g, gs[ic]? = some g -> g.status = .running) -> ∀ g, gs'[ic]? = some g -> g.status = .running) : Mode P c Wg N w' gs' (t ++ u) K' ic s := by
 have e1 : sumTo N (fun i => (K' i).cnt) = sumTo N fun i => (K i).cnt := sumTo_congr fun i _ => by rw [<- GS.cnt_shape, hs i, GS.cnt_shape]
 have e2 : sumTo N (fun i => (K' i).late) = sumTo N fun i => (K i).late := sumTo_congr fun i _ => by rw [<- GS.late_shape, hs i, GS.late_shape]
 have e3 : ∀ st sm, WgAt P Wg w' st sm = WgAt P Wg w st sm := fun st sm => by unfold WgAt; rw [hW]
 unfold Mode at h ⊢
 simp only [e1, e2, e3, hs, hc]
 rcases h with h | h | h | h | h | h | h
 ·exact .inl h
 ·exact .inr (.inl h)
 ·exact .inr (.inr (.inl h))
 ·exact .inr (.inr (.inr (.inl ⟨h.1, h.2.1, h.2.2.1, h.2.2.2.1, h.2.2.2.2.1, hr h.2.2.2.2.2.1, h.2.2.2.2.2.2⟩)))
 ·exact .inr (.inr (.inr (.inr (.inl h))))
 ·exact .inr (.inr (.inr (.inr (.inr (.inl h)))))
 ·obtain ⟨⟨p, n, a, b, c', d⟩, e⟩ := h
  exact .inr (.inr (.inr (.inr (.inr (.inr ⟨⟨p, n, a, by rw [act?_old (lt_of_act? b)]; exact b, (heard_old (lt_of_act? b)).2 c', d⟩, e⟩)))))
theorem running_next {i : Nat} {gi gi' : Goroutine} (hlt : i < gs.size) (hg : gi'.status = .running) (h : ∀ g, gs[ic]? = some g -> g.status = .running) : ∀ g, ((gs.map (woken P gi gi' w')).setIfInBounds i gi')[ic]? = some g -> g.status = .running := by
 intro g hg'
 rcases getElem?_next hlt hg' with ⟨_, rfl⟩ | ⟨_, y, hy, rfl⟩
 ·exact hg
 ·rw [woken_run (h y hy)]; exact h y hy
theorem GS.idx_none {k : GS} (h : k.cnt = 0) : k.idx = none := by
 cases k <;> first | rfl | (simp [GS.cnt] at h)
theorem Inv.opens (h : Inv P n0 W0 V gs w t K Im ic ph st) {p : Phase} (hp : ph = some p) : (∃ n, w.heap[p.c]? = some (.chan 0 #[] false n n false)) \/ ((∀ j, 0 < j -> j < gs.size -> (K j).idx = none) /\ (∃ n, w.heap[p.c]? = some (.chan 0 #[] true n n false)) /\ p.recv = true) := by
 subst hp
 obtain ⟨_, hc, _, hph⟩ := h.out
 obtain ⟨_, _, _, _, _, _, _, _, _, hx⟩ := hph
 by_cases hr : p.recv = true
 ·rw [if_pos hr] at hx
  obtain ⟨_, _, _, s, _, hm⟩ := hx
  rcases hm with h | h | h | h | h | h | h
  ·exact .inl h.1
  ·exact .inl h.1
  ·exact .inl h.1
  ·exact .inl h.1
  ·exact .inl h.1
  ·exact .inl h.1
  ·obtain ⟨⟨_, n, _, _, _, hn⟩, _, hcn, _⟩ := h
   refine .inr ⟨fun j hj hjs => ?_, ⟨n, hn⟩, hr⟩
   have hle : (K j).cnt <= sumTo gs.size fun i => (K i).cnt := le_sumTo (f := fun i => (K i).cnt) hjs
   exact GS.idx_none (by omega)
 ·rw [if_neg hr] at hx
  have := (hc.sat 0 h.pos).own p.c _ (by simp only [VVof, if_true]; exact hx.1)
  exact .inl ⟨0, this⟩
theorem Inv.slip (h : Inv P n0 W0 V gs w t K Im ic ph st) {i : Nat} {gi gi' : Goroutine} {es : Array Event} {k' : GS} (hi : 0 < i) (hgi : gs[i]? = some gi) (hst : stepG P false gi w = .go gi' w es) (hmu : ∀ e ∈ es, e.mute = true)
  (hk : IsPh P Im ph k' (deafBehind (Deaf t i) es) gi') (hcalm : gi'.status = .blocked -> gi'.offers = none) (hsh : k'.shape = (K i).shape) (hview : k'.view Im = (K i).view Im) (hrun : (K i).shape = .csem 0 \/ (K i).shape = .said 0 -> gi'.status = .running) (hrank : RankLt k'.rank (K i).rank) : Went P n0 W0 V gs w sl t K Im ic ph st i := by
 have hlt : i < gs.size := (Array.getElem?_eq_some_iff.1 hgi).1
 obtain ⟨_, hc, hr, hp⟩ := h.out
 have hidx : ∀ j, ((upd K i k') j).idx = (K j).idx := fun j => by
  by_cases hj : j = i
  ·subst hj; rw [upd_at, <- GS.idx_shape, hsh, GS.idx_shape]
  ·rw [upd_not _ _ hj]
 have hshape : ∀ j, ((upd K i k') j).shape = (K j).shape := fun j => by
  by_cases hj : j = i
  ·subst hj; rw [upd_at, hsh]
  ·rw [upd_not _ _ hj]
 have hviews : ∀ j, ((upd K i k') j).view Im = (K j).view Im := fun j => by
  by_cases hj : j = i
  ·subst hj; rw [upd_at, hview]
  ·rw [upd_not _ _ hj]
 have hcnt : ∀ j, ((upd K i k') j).cnt = (K j).cnt := fun j => by rw [<- GS.cnt_shape, hshape, GS.cnt_shape]
 have hlate : ∀ j, ((upd K i k') j).late = (K j).late := fun j => by rw [<- GS.late_shape, hshape, GS.late_shape]
 refine h.next (st' := st) hi hgi hst hk hcalm (fun p hp' => (h.opens hp').imp id fun x j a b _ => x.1 j a b) ?_ ?_ ?_ hrank ?_
 ·refine ((hc.quiet hlt (fun e he => mute_facts (hmu e he)) gi.frame.fn gi.frame.place).congr fun j hj => ?_).act_mono fun j hj => ?_
  ·simp only [VVof, hviews]
  ·cases ph with
   | none => exact hj
   | some p => simpa only [actPh, actOf, hidx, hcnt, hlate] using hj
 ·cases st with
  | none =>
   intro idx a ha hm
   have ha' := touchAt_mute (fun op hop => by obtain ⟨e, he, rfl⟩ := Conc.mem_ofEvents hop; exact touch_mute (hmu e he)) ha
   obtain ⟨op, hop, _⟩ := touch_of ha'
   rcases hr idx a ha' hm with x | ⟨x, y⟩ | ⟨_, z, _⟩
   ·exact .inl (x.app _)
   ·exact .inr (.inl ⟨x, fun z => y ((heard_old (lt_size_of_getElem? hop)).1 z)⟩)
   ·cases z
  | some s =>
   refine hr.app (fun idx a ha hx => .inr (hx.app (by obtain ⟨op, hop, _⟩ := touch_of ha; exact lt_size_of_getElem? hop) fun j _ _ hj => .inl (by rw [hidx]; exact hj))) (fun idx a _ ⟨op, hop, _, hx⟩ _ => ?_)
   obtain ⟨e, he, rfl⟩ := Conc.mem_ofEvents hop
   rw [touch_mute (hmu e he)] at hx
   cases hx
 ·cases ph with
  | none => exact hp
  | some p =>
   obtain ⟨a1, a2, a3, a4, a5, a6, a7, a8, a9, a10⟩ := hp
   refine ⟨a1, a2, a3, a4, a5, a6, fun j hj => by rw [hviews, <- GS.closer_shape, hshape, GS.closer_shape]; exact a7 j hj, fun j j' m b1 b2 b3 b4 b5 b6 => a8 j j' m b1 (by simpa using b2) b3 (by simpa using b4) (by rw [<- hidx]; exact b5) (by rw [<- hidx]; exact b6), fun j S b1 b2 => ?_, ?_⟩
   ·obtain ⟨m, c1, c2, c3⟩ := a9 j S b1 b2
    exact ⟨m, c1, by simpa using c2, by rw [hidx]; exact c3⟩
   ·split
    ·rename_i hrv
     rw [if_pos hrv] at a10
     obtain ⟨c1, c2, c3, s, c4, c5⟩ := a10
     refine ⟨c1, c2, by simpa using c3, s, c4, ?_⟩
     have hsz : ((gs.map (woken P gi gi' w)).setIfInBounds i gi').size = gs.size := by simp
     rw [hsz]
     by_cases hic : i = ic /\ gi'.status ≠ .running
     ·
      obtain ⟨rfl, hnr⟩ := hic
      unfold Mode at c5 ⊢
      have e1 : sumTo gs.size (fun j => ((upd K i k') j).cnt) = sumTo gs.size fun j => (K j).cnt := sumTo_congr fun j _ => hcnt j
      have e2 : sumTo gs.size (fun j => ((upd K i k') j).late) = sumTo gs.size fun j => (K j).late := sumTo_congr fun j _ => hlate j
      simp only [e1, e2, hshape]
      rcases c5 with h | h | h | h | h | h | h
      ·exact .inl h
      ·exact .inr (.inl h)
      ·exact .inr (.inr (.inl h))
      ·exact absurd (hrun h.2.2.2.2.2.2.symm) hnr
      ·exact .inr (.inr (.inr (.inr (.inl h))))
      ·exact .inr (.inr (.inr (.inr (.inr (.inl h)))))
      ·obtain ⟨⟨p, n, a, b, c', d⟩, e⟩ := h
       exact .inr (.inr (.inr (.inr (.inr (.inr ⟨⟨p, n, a, by rw [act?_old (lt_of_act? b)]; exact b, (heard_old (lt_of_act? b)).2 c', d⟩, e⟩)))))
     ·refine c5.keep hshape rfl rfl fun hrr g hg => ?_
      rcases getElem?_next hlt hg with ⟨rfl, rfl⟩ | ⟨_, y, hy, rfl⟩
      ·exact Classical.byContradiction fun x => hic ⟨rfl, x⟩
      ·rw [woken_run (hrr y hy)]; exact hrr y hy
    ·rename_i hrv
     rw [if_neg hrv] at a10
     refine ⟨a10.1, a10.2.1, a10.2.2.1, fun j b1 b2 => ?_, a10.2.2.2.2.1, ?_⟩
     rotate_left
     ·rw [show ((gs.map (woken P gi gi' w)).setIfInBounds i gi').size = gs.size by simp, sumTo_congr fun j _ => hcnt j]; exact a10.2.2.2.2.2
     rcases a10.2.2.2.1 j b1 (by simpa using b2) with x | ⟨q, x⟩
     ·exact .inl (by rw [hidx]; exact x)
     ·by_cases hj : j = i
      ·subst hj
       rw [upd_at]
       rw [x] at hsh
       cases k' <;> simp [GS.shape] at hsh
       exact .inr ⟨_, rfl⟩
      ·rw [upd_not _ _ hj]; exact .inr ⟨q, x⟩
 ·intro g c _
  exact ⟨main_woken hi, fun hpk ho => .inr ⟨park_woken hi hpk ho, ho⟩⟩
end
section
variable {P : Program} {n0 : Nat} {W0 : World} {V : View} {gs : Array Goroutine} {w w' : World} {sl : Option (Nat × Nat)} {t : Trace} {K : Nat -> GS} {Im : Imm} {ic : Nat} {p : Phase} {st st' : Option Stage}
def Blind (p : Phase) (U : View) : Prop := U.own p.c = none /\ (∀ o, U.imm p.c o = none) /\ U.own p.Wg = none /\ (∀ o, U.imm p.Wg o = none)
theorem Blind.step {U U' : View} {es : Array Event} (b : Blind p U) (s : StepOk U w U' w' es) (hc : p.c < w.heap.size) (hW : p.Wg < w.heap.size) : Blind p U' := by
 have key : ∀ b, b < w.heap.size -> U.own b = none -> (∀ o, U.imm b o = none) -> U'.own b = none /\ ∀ o, U'.imm b o = none := by
  intro b hb ho hi
  refine ⟨s.own b hb ho, fun o => ?_⟩
  cases e : U'.imm b o with
  | none => rfl
  | some v =>
   rcases s.immNew b o v e with x | x | x
   ·rw [hi o] at x; cases x
   ·exact absurd ho x
   ·omega
 have k1 := key p.c hc b.1 b.2.1
 have k2 := key p.Wg hW b.2.2.1 b.2.2.2
 exact ⟨k1.1, k1.2, k2.1, k2.2⟩
theorem Blind.not_sh {U : View} (b : Blind p U) {l : Loc} (h : RdV U l) : ¬ ShP p.c p.Wg l := by
 intro hs
 cases l with
 | cell a =>
  have e : a.block = p.Wg := hs
  rcases h with h | h
  ·exact h (by rw [e]; exact b.2.2.1)
  ·exact h (by rw [e]; exact b.2.2.2 _)
 | obj r => have e : r = p.c := hs; exact h (by rw [e]; exact b.1)
 | _ => exact hs
theorem Blind.ghost {U U' : View} (b : Blind p U) (g : Ghost U U') : Blind p U' := by
 have key : ∀ b, U.own b = none -> (∀ o, U.imm b o = none) -> U'.own b = none /\ ∀ o, U'.imm b o = none := by
  intro b ho hi
  refine ⟨g.own b ho, fun o => ?_⟩
  cases e : U'.imm b o with
  | none => rfl
  | some v =>
   rcases g.immNew b o v e with x | x
   ·rw [hi o] at x; cases x
   ·exact absurd ho x
 have k1 := key p.c b.1 b.2.1
 have k2 := key p.Wg b.2.2.1 b.2.2.2
 exact ⟨k1.1, k1.2, k2.1, k2.2⟩
theorem blind_noView : Blind p noView := ⟨rfl, fun _ => rfl, rfl, fun _ => rfl⟩
theorem Inv.blind (h : Inv P n0 W0 V gs w t K Im ic (some p) st) {i : Nat} (hi : 0 < i) : Blind p ((K i).view Im) := let x := h.phase.2.2.2.2.2.2.1 i hi; ⟨x.1, x.2.1, x.2.2.1, x.2.2.2.1⟩
theorem Inv.theCloser (h : Inv P n0 W0 V gs w t K Im ic (some p) st) {i : Nat} (hi : 0 < i) (hc : (K i).closer = true) : i = ic := (h.phase.2.2.2.2.2.2.1 i hi).2.2.2.2 hc
theorem Inv.low (h : Inv P n0 W0 V gs w t K Im ic (some p) st) : p.c < w.heap.size /\ p.Wg < w.heap.size := ⟨h.phase.2.2.2.1, h.phase.2.2.2.2.1⟩
theorem sh_low (hc : p.c < w.heap.size) (hW : p.Wg < w.heap.size) {l : Loc} (h : ShP p.c p.Wg l) : l.low w.heap.size := by
 cases l with
 | cell a => show a.block < _; rw [show a.block = p.Wg from h]; exact hW
 | obj r => show r < _; rw [show r = p.c from h]; exact hc
 | _ => exact h.elim
theorem Inv.countedW (h : Inv P n0 W0 V gs w t K Im ic (some p) st) (hr : p.recv = true) {i : Nat} (hlt : i < gs.size) (hk : (K i).cnt = 1) : ∃ s, WgAt P p.Wg w s 0 := by
 obtain ⟨_, _, _, _, _, _, _, _, _, hx⟩ := h.phase
 rw [if_pos hr] at hx
 obtain ⟨_, _, _, s, hs, hm⟩ := hx
 have hle : (K i).cnt <= sumTo gs.size fun i => (K i).cnt := le_sumTo (f := fun i => (K i).cnt) hlt
 rcases hm with h | h | h | h | h | h | h
 ·exact ⟨_, h.2.2.2.2.1⟩
 ·exact ⟨_, h.2.2.2.2.2.1⟩
 ·have := h.2.2.2.1; omega
 ·have := h.2.2.2.1; omega
 ·have := h.2.2.2.1; omega
 ·have := h.2.2.2.1; omega
 ·have := h.2.2.1; omega
theorem Inv.acqW (h : Inv P n0 W0 V gs w t K Im ic (some p) st) (hr : p.recv = true) {n : Nat} (hk : K ic = .acq n \/ K ic = .said n) : ∃ x y, WgAt P p.Wg w x y := by
 obtain ⟨_, _, _, _, _, _, _, _, _, hx⟩ := h.phase
 rw [if_pos hr] at hx
 obtain ⟨_, _, _, s, hs, hm⟩ := hx
 unfold Mode at hm
 rcases hm with h | h | h | h | h | h | h
 ·exact ⟨_, _, h.2.2.2.2.1⟩
 ·exact ⟨_, _, h.2.2.2.2.2.1⟩
 ·have key : ∀ N, 0 < (sumTo N fun i => (K i).late) -> ∃ i, i < N /\ (K i).late ≠ 0 := by
   intro N
   induction N with
   | zero => intro h; exact absurd h (by simp [sumTo])
   | succ N ih =>
    intro h
    by_cases h0 : (K N).late = 0
    ·simp only [sumTo, h0] at h
     obtain ⟨i, hi, hl⟩ := ih (by omega)
     exact ⟨i, by omega, hl⟩
    ·exact ⟨N, by omega, h0⟩
  have := key gs.size (by have := h.2.2.1; omega)
  obtain ⟨i, hi, hl⟩ := this
  cases hKi : K i <;> rw [hKi] at hl <;> first
   | exact ⟨_, _, h.2.2.2.2.2.1 i hi (by rw [hKi]; exact .inl rfl)⟩
   | exact ⟨_, _, h.2.2.2.2.2.1 i hi (by rw [hKi]; exact .inr rfl)⟩
   | exact ⟨_, _, h.2.2.2.2.2.2 i hi (by rw [hKi]; rfl)⟩
   | exact absurd rfl hl
 ·exact ⟨_, _, h.2.2.2.2.1⟩
 ·exact ⟨_, _, h.2.2.2.2.1⟩
 ·exfalso
  rcases hk with hk | hk <;> rw [hk] at h <;> rcases h.2.2.2.2 with h | h <;> cases h
 ·exfalso
  rcases hk with hk | hk <;> rw [hk] at h <;> cases h.2.2.2
theorem Inv.counted (h : Inv P n0 W0 V gs w t K Im ic (some p) st) {i : Nat} (_hi : 0 < i) (hlt : i < gs.size) (hk : (K i).cnt = 1) : (∃ n, w.heap[p.c]? = some (.chan 0 #[] false n n false)) /\ st = some .early := by
 have hph := h.phase
 obtain ⟨_, _, _, _, _, _, _, _, _, hx⟩ := hph
 by_cases hr : p.recv = true
 ·rw [if_pos hr] at hx
  obtain ⟨_, _, _, s, hs, hm⟩ := hx
  have hle : (K i).cnt <= sumTo gs.size fun i => (K i).cnt := le_sumTo (f := fun i => (K i).cnt) hlt
  rcases hm with h | h | h | h | h | h | h
  ·exact ⟨h.1, by rw [hs, h.2.1]⟩
  ·exact ⟨h.1, by rw [hs, h.2.1]⟩
  ·exact ⟨h.1, by rw [hs, h.2.1]⟩
  ·exact ⟨h.1, by rw [hs, h.2.1]⟩
  ·exact ⟨h.1, by rw [hs, h.2.1]⟩
  ·have := h.2.2.2.1; omega
  ·have := h.2.2.1; omega
 ·rw [if_neg hr] at hx
  have := (h.core.sat 0 h.pos).own p.c _ (by simp only [VVof, if_true]; exact hx.1)
  exact ⟨⟨0, this⟩, hx.2.2.1⟩
theorem Inv.phase_upd (h : Inv P n0 W0 V gs w t K Im ic (some p) st) {i : Nat} {k' : GS} {gs' : Array Goroutine} {t' : Trace} (hsz : gs'.size = gs.size) (hhs : w.heap.size <= w'.heap.size) (hb : Blind p (k'.view Im)) (hclo : k'.closer = true -> i = ic)
  (hidx : k'.idx = (K i).idx \/ (k'.idx = none /\ ∀ j, (K i).idx = some j -> p.Ss[j]? = some []))
  (hfin : if p.recv then ∃ s, st' = some s /\ Mode P p.c p.Wg gs.size w' gs' t' (upd K i k') ic s
    else st' = some .early /\ k'.idx.isSome = true /\ k'.cnt = (K i).cnt) : PhaseOk P n0 V gs' w' t' (upd K i k') Im ic (some p) st' := by
 obtain ⟨a1, a2, a3, a4, a5, a6, a7, a8, a9, a10⟩ := h.phase
 have hix : ∀ j m, ((upd K i k') j).idx = some m -> (K j).idx = some m := by
  intro j m hj
  by_cases hji : j = i
  ·subst hji
   rw [upd_at] at hj
   rcases hidx with x | ⟨x, _⟩
   ·rw [<- x]; exact hj
   ·rw [x] at hj; cases hj
  ·rw [upd_not _ _ hji] at hj; exact hj
 refine ⟨a1, a2, a3, Nat.lt_of_lt_of_le a4 hhs, Nat.lt_of_lt_of_le a5 hhs, a6, fun j hj => ?_, fun j j' m b1 b2 b3 b4 b5 b6 => a8 j j' m b1 (hsz ▸ b2) b3 (hsz ▸ b4) (hix _ _ b5) (hix _ _ b6), fun j S b1 b2 => ?_, ?_⟩
 ·by_cases hji : j = i
  ·subst hji; rw [upd_at]; exact ⟨hb.1, hb.2.1, hb.2.2.1, hb.2.2.2, hclo⟩
  ·rw [upd_not _ _ hji]; exact a7 j hj
 ·obtain ⟨m, c1, c2, c3⟩ := a9 j S b1 b2
  refine ⟨m, c1, by rw [hsz]; exact c2, ?_⟩
  by_cases hmi : m = i
  ·subst hmi
   rw [upd_at]
   rcases hidx with x | ⟨_, x⟩
   ·rw [x]; exact c3
   ·have := x j c3
    rw [this] at b1; cases b1; exact absurd rfl b2
  ·rw [upd_not _ _ hmi]; exact c3
 ·split
  ·rename_i hrv
   rw [if_pos hrv] at a10 hfin
   obtain ⟨c1, c2, c3, _⟩ := a10
   exact ⟨c1, c2, by rw [hsz]; exact c3, by rw [hsz]; exact hfin⟩
  ·rename_i hrv
   rw [if_neg hrv] at a10 hfin
   obtain ⟨c1, c2, _, c4, c5⟩ := a10
   refine ⟨c1, c2, hfin.1, fun j b1 b2 => ?_, c5.1, by rw [hsz, sum_same K k' GS.cnt hfin.2.2]; exact c5.2⟩
   by_cases hji : j = i
   ·subst hji; rw [upd_at]; exact .inl hfin.2.1
   ·rw [upd_not _ _ hji]; exact c4 j b1 (hsz ▸ b2)
theorem Inv.workStep (h : Inv P n0 W0 V gs w t K Im ic (some p) st) {i j : Nat} {gi gi' : Goroutine} {es : Array Event} {hh h' : Ht} {Vi V' : View} (hi : 0 < i) (hgi : gs[i]? = some gi) (hK : K i = .work j hh Vi) (hst : stepG P false gi w = .go gi' w' es)
  (s : StepOk Vi w V' w' es) (hk : WkJ P h' V' gi') (hlt' : HtLt h' hh) : Went P n0 W0 V gs w sl t K Im ic (some p) st i := by
 have hlt : i < gs.size := (Array.getElem?_eq_some_iff.1 hgi).1
 have his := h.is i gi hi hgi
 simp only [hK, GS.is] at his
 obtain ⟨hd, _, S, hS, hrole⟩ := his
 have hcn : (K i).cnt = 1 := by rw [hK]; rfl
 obtain ⟨⟨n, hopen⟩, hst0⟩ := h.counted hi hlt hcn
 have hlow := h.low
 have hbl : Blind p Vi := by have := h.blind hi; rw [hK] at this; exact this
 have hbl' := hbl.step s hlow.1 hlow.2
 have hview : VVof V Im K i = Vi := by simp [VVof, hK, GS.view]; omega
 have hch : w'.heap[p.c]? = w.heap[p.c]? := s.frame p.c hlow.1 hbl.1
 have hWh : w'.heap[p.Wg]? = w.heap[p.Wg]? := s.frame p.Wg hlow.2 hbl.2.2.1
 have hshape : ∀ m, ((upd K i (.work j h' V')) m).shape = (K m).shape := fun m => by
  by_cases hm : m = i
  ·subst hm; rw [upd_at, hK]; rfl
  ·rw [upd_not _ _ hm]
 have hidx : ∀ m, ((upd K i (.work j h' V')) m).idx = (K m).idx := fun m => by rw [<- GS.idx_shape, hshape, GS.idx_shape]
 have hcnt : ∀ m, ((upd K i (.work j h' V')) m).cnt = (K m).cnt := fun m => by rw [<- GS.cnt_shape, hshape, GS.cnt_shape]
 have hlate : ∀ m, ((upd K i (.work j h' V')) m).late = (K m).late := fun m => by rw [<- GS.late_shape, hshape, GS.late_shape]
 have hro : V'.role = Vi.role := s.role
 refine h.next (k' := .work j h' V') (st' := st) hi hgi hst ⟨by rw [hd, s.deaf], hk, S, hS, hro.trans hrole⟩ (fun x => by rw [hk.running] at x; cases x) (fun q hq => by cases hq; exact .inl ⟨n, by rw [hch]; exact hopen⟩) ?_ ?_ ?_ ?_ ?_
 ·rw [vv_upd V Im K hi]
  refine (Core.step (V' := V') h.core hlt (by rw [hview]; exact s) (fun e he x hx hs => ?_) gi.frame.fn gi.frame.place).act_mono fun m hm => ?_
  ·exfalso
   rcases (evOk_fit (s.evs e he) hx).1 with y | ⟨y, _⟩ | y
   ·exact hbl.not_sh y.rd hs
   ·exact hbl.not_sh y hs
   ·exact y (sh_low hlow.1 hlow.2 hs)
  ·simpa only [actPh, actOf, hidx, hcnt, hlate] using hm
 ·rw [hst0]
  have hr : Rest (wgOf (some p)) t K ic st := h.out.2.2.1
  rw [hst0] at hr
  refine hr.app (fun idx a ha hx => .inr (hx.app (by obtain ⟨op, hop, _⟩ := touch_of ha; exact lt_size_of_getElem? hop) fun m _ _ hm => .inl (by rw [hidx]; exact hm))) (fun idx a _ ⟨op, hop, hidx', _⟩ _ => .inr (.inr ⟨i, ?_, hi, .inl ?_⟩))
  ·obtain ⟨e, _, rfl⟩ := Conc.mem_ofEvents hop
   simp [Trace.g?, hidx']
  ·rw [upd_at]; rfl
 ·refine h.phase_upd (by simp) s.size hbl' (fun x => by cases x) (.inl (by rw [hK]; rfl)) ?_
  have hx := h.phase.2.2.2.2.2.2.2.2.2
  split
  ·rename_i hrv
   rw [if_pos hrv] at hx
   obtain ⟨_, _, _, s', hs', hm⟩ := hx
   exact ⟨s', hs', hm.keep hshape hch hWh fun hrr => running_next hlt hk.running hrr⟩
  ·exact ⟨hst0, rfl, by rw [hK]; rfl⟩
 ·rw [hK]
  refine .inr ⟨by simp [GS.rank, hro], .inl hlt'⟩
 ·intro g c hcp
  have ho : Opn w' c := ⟨n, by rw [<- hcp p rfl, hch]; exact hopen⟩
  exact ⟨main_woken hi, fun hpk _ => .inr ⟨park_woken hi hpk ho, ho⟩⟩
end
def joinV (V : View) (I' : Imm) (O' : Own) (r : Role) : View :=
 { V with imm := fun b o => match V.imm b o with | some x => some x | none => I' b o, own := fun b => match V.own b with | some x => some x | none => O' b, role := r }
def partB (B : Nat -> Bool) (U : View) : Own := fun b => if B b then U.own b else none
def keepV (B : Nat -> Bool) (U : View) (r : Role) : View := { U with own := fun b => if B b then none else U.own b, role := r }
section
variable {P : Program} {n0 : Nat} {W0 : World} {V : View} {gs gs' : Array Goroutine} {w w' : World} {sl : Option (Nat × Nat)} {t : Trace} {K : Nat -> GS} {Im : Imm} {ic : Nat} {p : Phase} {st : Option Stage}
theorem offers_none_of {k : GS} {d : Nat} {x : Goroutine} (h : k.is P p.c p.Wg Im p.Ss d x) (r : Nat) : offersAt x r false = [] := by
 rcases GS.runs h with hr | ⟨hf, _⟩ | ⟨j, h', V, V', g0, v, z, rfl⟩ | ⟨_, hb, ho⟩
 ·exact offersAt_of_not_blocked (by rw [hr]; simp) r false
 ·exact offersAt_of_not_blocked (by rw [hf]; simp) r false
 ·obtain ⟨_, _, rfl, _⟩ := h
  exact offersAt_parked_send' _ _ _ _ _ _
 ·unfold offersAt; simp [hb, ho]
theorem main_not_offers {g : Goroutine} (h : MainAt gs g) {x : Goroutine} (hx : gs[0]? = some x) (r : Nat) (s : Bool) : offersAt x r s = [] := by
 obtain ⟨g0, h0, h1, _⟩ := h
 rw [h0] at hx; cases hx
 exact offersAt_of_not_blocked (by rw [h1]; simp) r s
theorem Inv.workPark (h : Inv P n0 W0 V gs w t K Im ic (some p) st) {g : Goroutine} (hm : MainAt gs g) {i j : Nat} {gi : Goroutine} {hh h' : Ht} {Vi V₁ : View} {sp : Spec} {S : List Spec} {v z : Value} {B : Nat -> Bool} (hi : 0 < i) (hgi : gs[i]? = some gi)
  (hK : K i = .work j hh Vi) (hg : Ghost Vi V₁) (hr : V₁.role = .work p.c p.Wg (sp :: S)) (hd : V₁.deaf = 0) (hst : stepG P false gi w = .comm gi #[scase p.c v z] true .send w #[])
  (hsp : sp v V₁.imm (partB B V₁)) (hk : WkJ P h' (keepV B V₁ (.work p.c p.Wg S)) (Conc.served gi undef)) : Went P n0 W0 V gs w sl t K Im ic (some p) st i := by
 have hlt : i < gs.size := (Array.getElem?_eq_some_iff.1 hgi).1
 have his := h.is i gi hi hgi
 simp only [hK, GS.is] at his
 obtain ⟨hdf, _, S', hS, hrole⟩ := his
 have hcn : (K i).cnt = 1 := by rw [hK]; rfl
 obtain ⟨⟨n, hopen⟩, hst0⟩ := h.counted hi hlt hcn
 have hi0 : (i == 0) = false := by simp; omega
 have er : Role.work p.c p.Wg S' = .work p.c p.Wg (sp :: S) := by rw [<- hrole, <- hg.role, hr]
 cases er
 let k' : GS := .park j h' V₁ (keepV B V₁ (.work p.c p.Wg S)) gi v z
 have hw := crowd_waits (P := P) (sl := sl) (i := i) hgi (by rw [hi0]; exact hst) (fun cc hcc => by
  simp only [List.mem_toArray, List.mem_cons, List.not_mem_nil, or_false] at hcc
  subst hcc
  refine ways_send_none hopen (by simp) (partners_nil fun m x hx => ?_)
  rcases getElem?_stand gs i m x hx with ⟨_, rfl⟩ | ⟨_, hx'⟩
  ·exact offersAt_ph _ _
  ·rcases Nat.eq_zero_or_pos m with rfl | hm0
   ·exact main_not_offers hm hx' _ _
   ·exact offers_none_of (h.is m x hm0 hx') _)
 have hview : VVof V Im K i = Vi := by simp [VVof, hK, GS.view]; omega
 have hbl : Blind p Vi := by have := h.blind hi; rw [hK] at this; exact this
 have hidx : ∀ m, ((upd K i k') m).idx = (K m).idx := fun m => by
  by_cases hm : m = i
  ·subst hm; rw [upd_at, hK]; rfl
  ·rw [upd_not _ _ hm]
 have hshape : ∀ m, ((upd K i k') m).shape = (K m).shape := fun m => by
  by_cases hm : m = i
  ·subst hm; rw [upd_at, hK]; rfl
  ·rw [upd_not _ _ hm]
 have hcnt : ∀ m, ((upd K i k') m).cnt = (K m).cnt := fun m => by rw [<- GS.cnt_shape, hshape, GS.cnt_shape]
 have hlate : ∀ m, ((upd K i k') m).late = (K m).late := fun m => by rw [<- GS.late_shape, hshape, GS.late_shape]
 have e0 : t ++ MemOp.ofEvents i gi.frame.fn gi.frame.place #[] = t := by simp [MemOp.ofEvents]
 have hsz : (gs.setIfInBounds i (parked gi #[scase p.c v z] .send)).size = gs.size := by simp
 refine ⟨_, w, _, upd K i k', st, hw, hsz, ?_, fun g' c _ => ⟨fun ⟨g0, a, b⟩ => ⟨g0, by rw [Array.getElem?_setIfInBounds_ne (by omega)]; exact a, b⟩, fun ⟨g0, z', a, b⟩ ho => .inr ⟨⟨g0, z', by rw [Array.getElem?_setIfInBounds_ne (by omega)]; exact a, b⟩, ho⟩⟩, fun g' c ⟨g1, z', a, _⟩ _ => (by obtain ⟨g0, h0, h1, _⟩ := hm; rw [a] at h0; cases h0; cases h1),
  .inl ⟨i, hlt, ?_, fun m hm => by show (upd K i k' m).rank = (K m).rank; rw [upd_not _ _ hm]⟩⟩
 ·rw [e0]
  refine Inv.mk' (by rw [hsz]; exact h.pos) (by rw [upd_not _ _ (by omega)]; exact h.k0) h.d0 (fun m x hm hx => ?_) ?_ ?_ ?_
  ·by_cases hmi : m = i
   ·subst hmi
    rw [Array.getElem?_setIfInBounds_self_of_lt hlt] at hx
    cases hx
    rw [upd_at]
    exact ⟨by rw [hdf, <- hg.deaf, hd], hd, rfl, hk, sp, S, B, hS, hr, hsp, rfl⟩
   ·rw [Array.getElem?_setIfInBounds_ne (Ne.symm hmi)] at hx
    rw [upd_not _ _ hmi]; exact h.is m x hm hx
  ·rw [hsz, vv_upd V Im K hi]
   exact (Core.ghost (V' := V₁) h.core hlt (by rw [hview]; exact hg)).act_mono fun m hm => by simpa only [actPh, actOf, hidx, hcnt, hlate] using hm
  ·have hr : Rest (wgOf (some p)) t K ic st := h.out.2.2.1
   rw [hst0] at hr ⊢
   have := hr.app (u := #[]) (K' := upd K i k') (s' := .early) (fun idx a ha hx => .inr (hx.app (by obtain ⟨op, hop, _⟩ := touch_of ha; exact lt_size_of_getElem? hop) fun m _ _ hm => .inl (by rw [hidx]; exact hm))) (fun idx a _ ⟨op, hop, _⟩ _ => by simp at hop)
   simpa using this
  ·refine h.phase_upd hsz (Nat.le_refl _) (hbl.ghost hg) (fun x => by cases x) (.inl (by rw [hK]; rfl)) ?_
   have hx := h.phase.2.2.2.2.2.2.2.2.2
   split
   ·rename_i hrv
    rw [if_pos hrv] at hx
    obtain ⟨_, hic0, _, s', hs', hm'⟩ := hx
    refine ⟨s', hs', ?_⟩
    have := hm'.keep (w' := w) (gs' := gs.setIfInBounds i (parked gi #[scase p.c v z] .send)) (u := #[]) hshape rfl rfl fun hrr x hx => by
     by_cases hic : ic = i
     ·subst hic
      exfalso
      unfold Mode at hm'
      have hne : ∀ s : GS, (K ic).shape = s -> s = .work j .z noView := fun s e => by rw [<- e, hK]; rfl
      rcases hm' with h | h | h | h | h | h | h
      ·rcases h.2.2.2.2.2 with ⟨_, e, _⟩ | ⟨_, e, _⟩ <;> cases hne _ e
      ·rcases h.2.2.2.2.2.2 with e | e <;> cases hne _ e
      ·rcases h.2.2.2.2.1 with e | e <;> cases hne _ e
      ·rcases h.2.2.2.2.2.2 with e | e <;> cases hne _ e
      ·rcases h.2.2.2.2.2 with e | e <;> cases hne _ e
      ·rcases h.2.2.2.2 with e | e <;> cases hne _ e
      ·cases hne _ h.2.2.2
     ·rw [Array.getElem?_setIfInBounds_ne (Ne.symm hic)] at hx
      exact hrr x hx
    simpa using this
   ·exact ⟨hst0, rfl, by rw [hK]; rfl⟩
 ·show RankLt (upd K i k' i).rank (K i).rank
  rw [hK]
  refine .inl ?_
  simp only [upd_at, k', GS.rank, hr, hrole]
  omega
theorem Mode.keepOpen {c Wg N : Nat} {u : Trace} {K' : Nat -> GS} {s : Stage} (h : Mode P c Wg N w gs t K ic s) (hcn : 1 <= sumTo N fun i => (K i).cnt) (hs : ∀ j, (K' j).shape = (K j).shape) (ho : ∃ n, w'.heap[c]? = some (.chan 0 #[] false n n false)) (hW : w'.heap[Wg]? = w.heap[Wg]?) : Mode P c Wg N w' gs' (t ++ u) K' ic s := by
 have e1 : sumTo N (fun i => (K' i).cnt) = sumTo N fun i => (K i).cnt := sumTo_congr fun i _ => by rw [<- GS.cnt_shape, hs i, GS.cnt_shape]
 have e2 : sumTo N (fun i => (K' i).late) = sumTo N fun i => (K i).late := sumTo_congr fun i _ => by rw [<- GS.late_shape, hs i, GS.late_shape]
 have e3 : ∀ st sm, WgAt P Wg w' st sm = WgAt P Wg w st sm := fun st sm => by unfold WgAt; rw [hW]
 unfold Mode at h ⊢
 simp only [e1, e2, e3, hs]
 rcases h with h | h | h | h | h | h | h
 ·exact .inl ⟨ho, h.2⟩
 ·exact .inr (.inl ⟨ho, h.2⟩)
 ·have := h.2.2.2.1; omega
 ·have := h.2.2.2.1; omega
 ·have := h.2.2.2.1; omega
 ·have := h.2.2.2.1; omega
 ·have := h.2.2.1; omega
theorem Inv.met (h : Inv P n0 W0 V gs w t K Im ic (some p) st) (hrv : p.recv = true) (hV0 : V.deaf = 0) {i j : Nat} {h' : Ht} {V₁ : View} {gi : Goroutine} {sp : Spec} {S : List Spec} {B : Nat -> Bool} (hi : 0 < i) (hlt : i < gs.size)
  (hidxi : (K i).idx = some j) (hg : Ghost ((K i).view Im) V₁) (hr : V₁.role = .work p.c p.Wg (sp :: S)) (hd : V₁.deaf = 0) (hdi : Deaf t i = 0) (hS : p.Ss[j]? = some (sp :: S))
  (hk : WkJ P h' (keepV B V₁ (.work p.c p.Wg S)) (Conc.served gi undef)) (hsz : gs'.size = gs.size) (hgi : gs'[i]? = some (Conc.served gi undef)) (hgo : ∀ m, m ≠ i -> 0 < m -> gs'[m]? = gs[m]?)
  {u : Trace} {x0 x1 x2 x3 : MemOp} (hu : u = #[x0, x1, x2, x3]) {s : Nat} (h0 : x0.g = i /\ x0.act = .send p.c s) (h1 : x1.g = 0 /\ x1.act = .recv p.c s 0) (h2 : x2.g = i /\ x2.act = .sendDone p.c s) (h3 : x3.g = 0 /\ x3.act = .recvDone p.c s)
  (hw1 : w'.heap.size = w.heap.size) (hw2 : ∀ b, b ≠ p.c -> w'.heap[b]? = w.heap[b]?) (hw3 : ∃ n, w'.heap[p.c]? = some (.chan 0 #[] false n n false)) (hw4 : w'.tape = w.tape) (hw5 : w'.os = w.os) (hw6 : w'.output = w.output) :
  (∀ b, V.own b ≠ none -> partB B V₁ b = none) /\ (∀ b o, V.own b ≠ none -> V₁.imm b o ≠ none -> V.imm b o ≠ none) /\
  Inv P n0 W0 (joinV V V₁.imm (partB B V₁) (.recv p.c p.Wg (p.Ss.set j S))) gs' w' (t ++ u) (upd K i (.work j h' (keepV B V₁ (.work p.c p.Wg S)))) Im ic (some { p with Ss := p.Ss.set j S }) st := by
 obtain ⟨his, hc, hrest, hph⟩ := h.out
 obtain ⟨a1, a2, a3, a4, a5, a6, a7, a8, a9, a10⟩ := hph
 rw [if_pos hrv] at a10
 obtain ⟨⟨c1, c2, c3, c4⟩, c5, c6, s', c7, c8⟩ := a10
 have hbV : Blind p V := ⟨c1, c2, c3, c4⟩
 have hbU := (h.blind hi).ghost hg
 have hview : VVof V Im K i = (K i).view Im := by simp [VVof]; omega
 have hv0 : VVof V Im K 0 = V := by simp [VVof]
 have hc1 : Core (upd (VVof V Im K) i V₁) gs.size w t (shOf (some p)) (actPh (some p) gs.size ic K) ic n0 W0 := hc.ghost hlt (by rw [hview]; exact hg)
 have hs1 : Sat V₁ w := by have := hc1.sat i hlt; rwa [upd_at] at this
 have hs0 : Sat V w := by have := hc1.sat 0 h.pos; rwa [upd_not _ _ (by omega), hv0] at this
 have d0i : Disj V V₁ := by have := hc1.dis 0 i h.pos hlt (by omega); rwa [upd_not _ _ (show 0 ≠ i by omega), upd_at, hv0] at this
 have di0 : Disj V₁ V := by have := hc1.dis i 0 hlt h.pos (by omega); rwa [upd_at, upd_not _ _ (show 0 ≠ i by omega), hv0] at this
 have hdisj : ∀ b, V.own b ≠ none -> partB B V₁ b = none := fun b hb => by
  unfold partB; split
  ·exact (d0i b hb).1
  ·rfl
 refine ⟨hdisj, fun b o hb => (d0i b hb).2 o, ?_⟩
 have hmu : ∀ op ∈ u, op.act.touch? = none /\ still op.act /\ (op.g = 0 \/ op.g = i) /\ op.act.low w.heap.size /\ ∀ a, op.act ≠ .mark (.release a) := by
  intro op hop
  rw [hu] at hop
  simp only [List.mem_toArray, List.mem_cons, List.not_mem_nil, or_false] at hop
  rcases hop with rfl | rfl | rfl | rfl
  ·rw [h0.2, h0.1]; exact ⟨rfl, ⟨by simp, by simp⟩, .inr rfl, a4, by simp⟩
  ·rw [h1.2, h1.1]; exact ⟨rfl, ⟨by simp, by simp⟩, .inl rfl, a4, by simp⟩
  ·rw [h2.2, h2.1]; exact ⟨rfl, ⟨by simp, by simp⟩, .inr rfl, a4, by simp⟩
  ·rw [h3.2, h3.1]; exact ⟨rfl, ⟨by simp, by simp⟩, .inl rfl, a4, by simp⟩
 have hstl : ∀ op ∈ u, still op.act := fun op hop => (hmu op hop).2.1
 have hdeaf : ∀ m, Deaf (t ++ u) m = Deaf t m := fun m => Deaf_still hstl
 have d00 : Deaf t 0 = 0 := by rw [h.d0, hV0]
 have hkn : ∀ idx, Knows t i idx -> Knows (t ++ u) 0 idx := fun idx hx => meet_knows hu h0 (hmu x1 (by rw [hu]; simp)).2.1 (hmu x2 (by rw [hu]; simp)).2.1 h3 hdi d00 hx
 let k' : GS := .work j h' (keepV B V₁ (.work p.c p.Wg S))
 let V' : View := joinV V V₁.imm (partB B V₁) (.recv p.c p.Wg (p.Ss.set j S))
 have hidx : ∀ m, ((upd K i k') m).idx = (K m).idx := fun m => by
  by_cases hm : m = i
  ·subst hm; rw [upd_at, hidxi]; rfl
  ·rw [upd_not _ _ hm]
 have hsh : (K i).shape = .work j .z noView := by
  cases hKi : K i <;> rw [hKi] at hidxi <;> simp [GS.idx] at hidxi
  ·subst hidxi; rfl
  ·subst hidxi; rfl
 have hshape : ∀ m, ((upd K i k') m).shape = (K m).shape := fun m => by
  by_cases hm : m = i
  ·subst hm; rw [upd_at, hsh]; rfl
  ·rw [upd_not _ _ hm]
 have hcnt : ∀ m, ((upd K i k') m).cnt = (K m).cnt := fun m => by rw [<- GS.cnt_shape, hshape, GS.cnt_shape]
 have hlate : ∀ m, ((upd K i k') m).late = (K m).late := fun m => by rw [<- GS.late_shape, hshape, GS.late_shape]
 have hcn : (K i).cnt = 1 := by rw [<- GS.cnt_shape, hsh]; rfl
 have hst0 := (h.counted hi hlt hcn).2
 have vv0 : VVof V' Im (upd K i k') 0 = V' := by simp [VVof]
 have vvi : VVof V' Im (upd K i k') i = keepV B V₁ (.work p.c p.Wg S) := by simp [VVof, upd_at, k', GS.view]; omega
 have vvm : ∀ m, m ≠ 0 -> m ≠ i -> VVof V' Im (upd K i k') m = upd (VVof V Im K) i V₁ m := fun m h1 h2 => by simp [VVof, upd_not _ _ h2, h1]
 have old0 : upd (VVof V Im K) i V₁ 0 = V := by rw [upd_not _ _ (by omega), hv0]
 have oldi : upd (VVof V Im K) i V₁ i = V₁ := upd_at _ _ _
 have hbk : ∀ {U : View}, Blind p U -> Sat U w -> Sat U w' := fun {U} hb hs => ⟨fun b o v e => by
   have hne : b ≠ p.c := fun x => by rw [x, hb.2.1 o] at e; cases e
   have := hs.imm b o v e
   simp only [World.cell?, hw2 b hne] at this ⊢
   exact this, fun b x e => by
   have hne : b ≠ p.c := fun y => by rw [y, hb.1] at e; cases e
   rw [hw2 b hne]; exact hs.own b x e⟩
 have hsV' : Sat V' w := ⟨fun b o v e => by
   simp only [V', joinV] at e
   split at e
   ·rename_i x hx; cases e; exact hs0.imm b o _ hx
   ·exact hs1.imm b o v e, fun b x e => by
   simp only [V', joinV] at e
   split at e
   ·rename_i y hy; cases e; exact hs0.own b _ hy
   ·unfold partB at e; split at e
    ·exact hs1.own b x e
    ·cases e⟩
 have hbV' : Blind p V' := ⟨by simp [V', joinV, c1, partB, hbU.1], fun o => by simp [V', joinV, c2, hbU.2.1], by simp [V', joinV, c3, partB, hbU.2.2.1], fun o => by simp [V', joinV, c4, hbU.2.2.2]⟩
 have hsK : Sat (keepV B V₁ (.work p.c p.Wg S)) w := ⟨hs1.imm, fun b x e => by
   simp only [keepV] at e
   split at e
   ·cases e
   ·exact hs1.own b x e⟩
 have hbK : Blind p (keepV B V₁ (.work p.c p.Wg S)) := ⟨by simp [keepV, hbU.1], hbU.2.1, by simp [keepV, hbU.2.2.1], hbU.2.2.2⟩
 have own' : ∀ b, V'.own b ≠ none -> V.own b ≠ none \/ (B b = true /\ V₁.own b ≠ none) := fun b hb => by
  simp only [V', joinV] at hb
  split at hb
  ·rename_i y hy; exact .inl (by rw [hy]; simp)
  ·unfold partB at hb; split at hb
   ·rename_i hB; exact .inr ⟨hB, hb⟩
   ·exact absurd rfl hb
 have imm' : ∀ b o, V'.imm b o ≠ none <-> (V.imm b o ≠ none \/ V₁.imm b o ≠ none) := fun b o => by
  simp only [V', joinV]
  cases e : V.imm b o with
  | some x => simp
  | none => simp
 have ownK : ∀ b, (keepV B V₁ (.work p.c p.Wg S)).own b ≠ none -> B b = false /\ V₁.own b ≠ none := fun b hb => by
  simp only [keepV] at hb
  split at hb
  ·exact absurd rfl hb
  ·rename_i hB; exact ⟨by simpa using hB, hb⟩
 have hcore : Core (VVof V' Im (upd K i k')) gs.size w' (t ++ u) (shOf (some p)) (actPh (some p) gs.size ic K) ic n0 W0 := by
  refine ⟨fun m hm => ?_, fun a b ha hb hab => ?_, ?_, hw4.trans hc.tape, hw5.trans hc.os, hw6.trans hc.out, fun b hb => (hw2 b (by omega)).trans (hc.old b hb), fun m hm b hb => ?_, by rw [hw1]; exact hc.n0⟩
  ·by_cases hm0 : m = 0
   ·subst hm0; rw [vv0]; exact hbk hbV' hsV'
   ·by_cases hmi : m = i
    ·subst hmi; rw [vvi]; exact hbk hbK hsK
    ·rw [vvm m hm0 hmi, upd_not _ _ hmi]
     have := hc.sat m hm
     refine hbk ?_ this
     have e : VVof V Im K m = (K m).view Im := by simp [VVof, hm0]
     rw [e]; exact h.blind (by omega)
  ·
   have dm : ∀ m, m < gs.size -> m ≠ 0 -> m ≠ i -> Disj (upd (VVof V Im K) i V₁ m) V /\ Disj V (upd (VVof V Im K) i V₁ m) /\ Disj (upd (VVof V Im K) i V₁ m) V₁ /\ Disj V₁ (upd (VVof V Im K) i V₁ m) := fun m hm h1 h2 =>
    ⟨by have := hc1.dis m 0 hm h.pos h1; rwa [old0] at this, by have := hc1.dis 0 m h.pos hm (Ne.symm h1); rwa [old0] at this, by have := hc1.dis m i hm hlt h2; rwa [oldi] at this, by have := hc1.dis i m hlt hm (Ne.symm h2); rwa [oldi] at this⟩
   by_cases ha0 : a = 0
   ·subst ha0
    by_cases hbi : b = i
    ·subst hbi; rw [vv0, vvi]
     intro q hq
     rcases own' q hq with x | ⟨hB, x⟩
     ·refine ⟨?_, fun o ho => (imm' q o).2 (.inl ((d0i q x).2 o ho))⟩
      simp only [keepV]; split
      ·rfl
      ·exact (d0i q x).1
     ·refine ⟨by simp only [keepV, hB, if_true], fun o ho => (imm' q o).2 (.inr ho)⟩
    ·have hb0 : b ≠ 0 := Ne.symm hab
     rw [vv0, vvm b hb0 hbi]
     obtain ⟨_, e2, _, e4⟩ := dm b hb hb0 hbi
     intro q hq
     rcases own' q hq with x | ⟨_, x⟩
     ·exact ⟨(e2 q x).1, fun o ho => (imm' q o).2 (.inl ((e2 q x).2 o ho))⟩
     ·exact ⟨(e4 q x).1, fun o ho => (imm' q o).2 (.inr ((e4 q x).2 o ho))⟩
   ·by_cases hai : a = i
    ·subst hai
     by_cases hb0 : b = 0
     ·subst hb0; rw [vv0, vvi]
      intro q hq
      obtain ⟨hB, x⟩ := ownK q hq
      refine ⟨?_, fun o ho => ?_⟩
      ·simp only [V', joinV, (di0 q x).1, partB, hB]; rfl
      ·rcases (imm' q o).1 ho with y | y
       ·exact (di0 q x).2 o y
       ·exact y
     ·rw [vvi, vvm b hb0 (Ne.symm hab)]
      obtain ⟨_, _, _, e4⟩ := dm b hb hb0 (Ne.symm hab)
      intro q hq
      exact e4 q (ownK q hq).2
    ·rw [vvm a ha0 hai]
     obtain ⟨e1, e2, e3, e4⟩ := dm a ha ha0 hai
     by_cases hb0 : b = 0
     ·subst hb0; rw [vv0]
      intro q hq
      refine ⟨?_, fun o ho => ((imm' q o).1 ho).elim ((e1 q hq).2 o) ((e3 q hq).2 o)⟩
      simp only [V', joinV, (e1 q hq).1, partB, (e3 q hq).1, ite_self]
     ·by_cases hbi : b = i
      ·subst hbi; rw [vvi]
       intro q hq
       refine ⟨?_, (e3 q hq).2⟩
       simp only [keepV, (e3 q hq).1, ite_self]
      ·rw [vvm b hb0 hbi]; exact hc1.dis a b ha hb hab
  ·rw [hw1]
   refine hc1.ti.mute (fun op hop => (hmu op hop).1) (fun op hop => (hmu op hop).2.2.2.1) (fun op hop => ((hmu op hop).2.2.1).elim (fun x => by rw [x]; exact h.pos) (fun x => by rw [x]; exact hlt)) (Nat.le_refl _) (fun op hop => (hmu op hop).2.2.2.2) (fun m hm l hl idx a ha hal hwr => ?_) (fun m hm l hl idx a ha hal => ?_) (fun idx a ha hsh => ⟨fun hp m hm => ((hc1.ti.sp idx a ha hsh).1 hp m hm).app u, fun hp => ((hc1.ti.sp idx a ha hsh).2 hp).app u⟩)
   ·obtain ⟨_, hl1, hl2⟩ := hl
    by_cases hm0 : m = 0
    ·subst hm0
     rw [vv0] at hl1
     have : RdV V l \/ RdV V₁ l := by
      cases l with
      | cell a' =>
       rcases hl1 with x | x
       ·exact (own' _ x).imp .inl (fun y => .inl y.2)
       ·exact ((imm' _ _).1 x).imp .inr .inr
      | obj r => exact (own' _ hl1).imp id (fun y => y.2)
      | _ => exact hl1.elim
     rcases this with x | x
     ·exact (hc1.ti.kr 0 h.pos l ⟨h.pos, by rw [old0]; exact x, hl2⟩ idx a ha hal hwr).app u
     ·exact hkn idx (hc1.ti.kr i hlt l ⟨hlt, by rw [oldi]; exact x, hl2⟩ idx a ha hal hwr)
    ·by_cases hmi : m = i
     ·subst hmi
      rw [vvi] at hl1
      have : RdV V₁ l := by
       cases l with
       | cell a' => exact hl1.imp (fun x => (ownK _ x).2) id
       | obj r => exact (ownK _ hl1).2
       | _ => exact hl1.elim
      exact (hc1.ti.kr m hm l ⟨hm, by rw [oldi]; exact this, hl2⟩ idx a ha hal hwr).app u
     ·rw [vvm m hm0 hmi] at hl1
      exact (hc1.ti.kr m hm l ⟨hm, hl1, hl2⟩ idx a ha hal hwr).app u
   ·obtain ⟨_, hl1, hl2⟩ := hl
    by_cases hm0 : m = 0
    ·subst hm0
     rw [vv0] at hl1
     have : WrV V l \/ WrV V₁ l := by
      cases l with
      | cell a' =>
       have hi1 : V.imm a'.block a'.off = none := by
        cases e : V.imm a'.block a'.off with
        | none => rfl
        | some x => exact absurd hl1.2 ((imm' _ _).2 (.inl (by rw [e]; simp)))
       have hi2 : V₁.imm a'.block a'.off = none := by
        cases e : V₁.imm a'.block a'.off with
        | none => rfl
        | some x => exact absurd hl1.2 ((imm' _ _).2 (.inr (by rw [e]; simp)))
       exact (own' _ hl1.1).imp (fun x => ⟨x, hi1⟩) (fun x => ⟨x.2, hi2⟩)
      | obj r => exact (own' _ hl1).imp id (fun y => y.2)
      | _ => exact hl1.elim
     rcases this with x | x
     ·exact (hc1.ti.kw 0 h.pos l ⟨h.pos, by rw [old0]; exact x, hl2⟩ idx a ha hal).app u
     ·exact hkn idx (hc1.ti.kw i hlt l ⟨hlt, by rw [oldi]; exact x, hl2⟩ idx a ha hal)
    ·by_cases hmi : m = i
     ·subst hmi
      rw [vvi] at hl1
      have : WrV V₁ l := by
       cases l with
       | cell a' => exact ⟨(ownK _ hl1.1).2, hl1.2⟩
       | obj r => exact (ownK _ hl1).2
       | _ => exact hl1.elim
      exact (hc1.ti.kw m hm l ⟨hm, by rw [oldi]; exact this, hl2⟩ idx a ha hal).app u
     ·rw [vvm m hm0 hmi] at hl1
      exact (hc1.ti.kw m hm l ⟨hm, hl1, hl2⟩ idx a ha hal).app u
  ·by_cases hm0 : m = 0
   ·subst hm0; rw [vv0]
    have e1 := hc1.oldOwn 0 h.pos b hb
    have e2 := hc1.oldOwn i hlt b hb
    rw [old0] at e1; rw [oldi] at e2
    simp [V', joinV, e1, partB, e2]
   ·by_cases hmi : m = i
    ·subst hmi; rw [vvi]
     have e2 := hc1.oldOwn m hm b hb
     rw [oldi] at e2
     simp [keepV, e2]
    ·rw [vvm m hm0 hmi]; exact hc1.oldOwn m hm b hb
 refine Inv.mk' (by rw [hsz]; exact h.pos) (by rw [upd_not _ _ (by omega)]; exact h.k0) (by rw [hdeaf]; exact h.d0) (fun m x hm hx => ?_) ?_ ?_ ?_
 ·show (upd K i k' m).is P p.c p.Wg Im (p.Ss.set j S) (Deaf (t ++ u) m) x
  rw [hdeaf]
  by_cases hmi : m = i
  ·subst hmi
   rw [hgi] at hx; cases hx
   rw [upd_at]
   have hjl : j < p.Ss.length := (List.getElem?_eq_some_iff.1 hS).1
   exact ⟨by rw [hdi]; exact hd.symm, hk, S, by simp [List.getElem?_set_self hjl], rfl⟩
  ·rw [hgo m hmi hm] at hx
   rw [upd_not _ _ hmi]
   have hxm := his m x hm hx
   have hml : m < gs.size := (Array.getElem?_eq_some_iff.1 hx).1
   have hne : (K m).idx ≠ some j := fun e => hmi (a8 m i j hm hml hi hlt e hidxi)
   cases hKm : K m with
   | work j2 h2 V2 =>
    rw [hKm] at hxm hne
    obtain ⟨b1, b2, S2, b3, b4⟩ := hxm
    exact ⟨b1, b2, S2, by rw [List.getElem?_set_ne (fun e => hne (by rw [e]; rfl))]; exact b3, b4⟩
   | park j2 h2 V2 V3 g2 v2 z2 =>
    rw [hKm] at hxm hne
    obtain ⟨b1, b2, b3, b4, sp2, S2, B2, b5, b6⟩ := hxm
    exact ⟨b1, b2, b3, b4, sp2, S2, B2, by rw [List.getElem?_set_ne (fun e => hne (by rw [e]; rfl))]; exact b5, b6⟩
   | _ => rw [hKm] at hxm; exact hxm
 ·rw [hsz]
  refine hcore.act_mono fun m hm => ?_
  have hm' : actOf p gs.size ic (upd K i k') m := hm
  show actOf p gs.size ic K m
  unfold actOf at hm' ⊢
  rw [hidx, hcnt, hlate] at hm'
  exact hm'
 ·show Rest p.Wg (t ++ u) (upd K i k') ic st
  have hr' : Rest p.Wg t K ic st := hrest
  rw [hst0] at hr' ⊢
  exact hr'.app (fun idx a ha hx => .inr (hx.app (by obtain ⟨op, hop, _⟩ := touch_of ha; exact lt_size_of_getElem? hop) fun m _ _ hm => .inl (by rw [hidx]; exact hm))) (fun idx a _ ⟨op, hop, _, hx⟩ _ => by rw [(hmu op hop).1] at hx; cases hx)
 ·refine ⟨a1, a2, a3, by rw [hw1]; exact a4, by rw [hw1]; exact a5, by simpa using a6, fun m hm => ?_, fun m m' q b1 b2 b3 b4 b5 b6 => a8 m m' q b1 (hsz ▸ b2) b3 (hsz ▸ b4) (by rw [<- hidx]; exact b5) (by rw [<- hidx]; exact b6), fun q S2 b1 b2 => ?_, ?_⟩
  ·by_cases hmi : m = i
   ·subst hmi; rw [upd_at]; exact ⟨hbK.1, hbK.2.1, hbK.2.2.1, hbK.2.2.2, fun x => by cases x⟩
   ·rw [upd_not _ _ hmi]; exact a7 m hm
  ·rw [hsz]
   by_cases hq : q = j
   ·subst hq; exact ⟨i, hi, hlt, by rw [hidx]; exact hidxi⟩
   ·have b1' : p.Ss[q]? = some S2 := by
     have := b1
     rwa [show ({ p with Ss := p.Ss.set j S } : Phase).Ss = p.Ss.set j S from rfl, List.getElem?_set_ne (Ne.symm hq)] at this
    obtain ⟨m, e1, e2, e3⟩ := a9 q S2 b1' b2
    exact ⟨m, e1, e2, by rw [hidx]; exact e3⟩
  ·show if p.recv = true then _ else _
   rw [if_pos hrv]
   refine ⟨⟨hbV'.1, hbV'.2.1, hbV'.2.2.1, hbV'.2.2.2⟩, c5, by rw [hsz]; exact c6, s', c7, ?_⟩
   have hle : (K i).cnt <= sumTo gs.size fun i => (K i).cnt := le_sumTo (f := fun i => (K i).cnt) hlt
   rw [hsz]
   exact c8.keepOpen (by omega) hshape hw3 (hw2 _ (Ne.symm a3))
end
section
variable {P : Program} {n0 : Nat} {W0 : World} {V : View} {gs gs' : Array Goroutine} {w w' : World} {sl : Option (Nat × Nat)} {t : Trace} {K : Nat -> GS} {Im : Imm} {ic : Nat} {p : Phase} {st st' : Option Stage}
theorem Inv.shared (h : Inv P n0 W0 V gs w t K Im ic (some p) st) (hrv : p.recv = true) {i : Nat} {gi gi' : Goroutine} {es : Array Event} {k' : GS} {s' : Stage} (hi : 0 < i) (hgi : gs[i]? = some gi) (hst : stepG P false gi w = .go gi' w' es)
  (hk : k'.is P p.c p.Wg Im p.Ss (deafBehind (Deaf t i) es) gi') (hless : Less (k'.view Im) ((K i).view Im))
  (hclo : k'.closer = true -> i = ic) (hidx : k'.idx = none) (hidx' : ∀ j, (K i).idx = some j -> p.Ss[j]? = some [] /\ ∃ r, Rel p.Wg (t ++ MemOp.ofEvents i gi.frame.fn gi.frame.place es) i r /\ t.size <= r)
  (hact : i = ic \/ (K i).idx.isSome = true \/ (K i).cnt = 1 \/ (K i).late = 1)
  (hev : ∀ e ∈ es, ∀ x, (MemAct.ofEvent e).touch? = some x -> (ShP p.c p.Wg x.loc /\ x.kind = .atomic) \/ (ShP p.c p.Wg x.loc /\ x.kind = .said /\ i = ic) \/ (¬ ShP p.c p.Wg x.loc /\ RdV ((K i).view Im) x.loc /\ x.write = false))
  (hlow : ∀ e ∈ es, (MemAct.ofEvent e).low w.heap.size) (hnr : ∀ e ∈ es, ∀ a, MemAct.ofEvent e ≠ .mark (.release a))
  (hsz : w'.heap.size = w.heap.size) (hfr : ∀ b, b ≠ p.c -> b ≠ p.Wg -> w'.heap[b]? = w.heap[b]?) (ht : w'.tape = w.tape) (ho : w'.os = w.os) (hu : w'.output = w.output)
  (hmode : Mode P p.c p.Wg gs.size w' ((gs.map (woken P gi gi' w')).setIfInBounds i gi') (t ++ MemOp.ofEvents i gi.frame.fn gi.frame.place es) (upd K i k') ic s')
  (hopen : (∃ n, w'.heap[p.c]? = some (.chan 0 #[] false n n false)) \/ ((∀ j, 0 < j -> j < gs.size -> j ≠ i -> (K j).idx = none) /\ ∀ g, MainParked gs g p.c -> MainAt ((gs.map (woken P gi gi' w')).setIfInBounds i gi') g))
  (hrest : Rest p.Wg (t ++ MemOp.ofEvents i gi.frame.fn gi.frame.place es) (upd K i k') ic (some s'))
  (hmu : MuLt gs.size ((fun j => (upd K i k' j).rank), flag ((gs.map (woken P gi gi' w')).setIfInBounds i gi') ic) ((fun j => (K j).rank), flag gs ic)) : Went P n0 W0 V gs w sl t K Im ic (some p) st i := by
 have hlt : i < gs.size := (Array.getElem?_eq_some_iff.1 hgi).1
 obtain ⟨_, hc, _, hp⟩ := h.out
 obtain ⟨a1, a2, a3, a4, a5, a6, a7, a8, a9, a10⟩ := hp
 rw [if_pos hrv] at a10
 obtain ⟨c1, c2, c3, _⟩ := a10
 have hvi : VVof V Im K i = (K i).view Im := by simp [VVof]; omega
 have hbV : ∀ j, j < gs.size -> Blind p (VVof V Im K j) := fun j _ => by
  by_cases hj : j = 0
  ·subst hj; rw [show VVof V Im K 0 = V by simp [VVof]]; exact ⟨c1.1, c1.2.1, c1.2.2.1, c1.2.2.2⟩
  ·simp only [VVof, hj, if_false]; exact h.blind (by omega)
 have hactp : actPh (some p) gs.size ic K i := by
  show actOf p gs.size ic K i
  unfold actOf; rw [if_pos hrv]
  exact ⟨hi, hlt, by rcases hact with x | x | x | x; exact .inr (.inl x); exact .inl x; exact .inr (.inr (.inl x)); exact .inr (.inr (.inr x))⟩
 refine h.nextMu (st' := some s') hi hgi hst hk (fun hb => ?_) (fun q hq => by cases hq; exact hopen.imp id And.left) ?_ hrest ?_ hmu ?_
 ·rcases GS.runs hk with x | ⟨x, _⟩ | ⟨_, _, _, _, _, _, _, e⟩ | ⟨_, _, x⟩
  ·rw [x] at hb; cases hb
  ·rw [x] at hb; cases hb
  ·rw [e] at hidx; cases hidx
  ·exact x
 ·rw [vv_upd V Im K hi]
  have hsh := hc.shared hlt (es := es) (w' := w') (fun e he x hx => by
    rcases hev e he x hx with ⟨x1, x2⟩ | ⟨x1, x2, x3⟩ | ⟨x1, x2, x3⟩
    ·exact .inl ⟨x1, x2, hactp⟩
    ·exact .inr (.inl ⟨x1, x2, x3, hactp⟩)
    ·exact .inr (.inr ⟨x1, .inr (.inl ⟨⟨hlt, by rw [hvi]; exact x2, x1⟩, x3⟩)⟩)) hlow hnr (fun b => b = p.c \/ b = p.Wg)
   (fun b hb => by
    rcases hb with rfl | rfl
    ·exact ⟨a1, fun j hj => ⟨(hbV j hj).1, (hbV j hj).2.1⟩⟩
    ·exact ⟨a2, fun j hj => ⟨(hbV j hj).2.2.1, (hbV j hj).2.2.2⟩⟩) hsz (fun b hb => hfr b (fun x => hb (.inl x)) (fun x => hb (.inr x))) ht ho hu gi.frame.fn gi.frame.place
  refine (hsh.less (V' := k'.view Im) hlt (by rw [hvi]; exact hless)).act_mono fun m hm => ?_
  have hm' : actOf p gs.size ic (upd K i k') m := hm
  show actOf p gs.size ic K m
  unfold actOf at hm' ⊢
  rw [if_pos hrv] at hm' ⊢
  by_cases hmi : m = i
  ·subst hmi
   exact ⟨hi, hlt, by rcases hact with x | x | x | x; exact .inr (.inl x); exact .inl x; exact .inr (.inr (.inl x)); exact .inr (.inr (.inr x))⟩
  ·rw [upd_not _ _ hmi] at hm'; exact hm'
 ·refine h.phase_upd (by simp) (by omega) ?_ hclo (.inr ⟨hidx, fun j hj => (hidx' j hj).1⟩) ?_
  ·have hb := h.blind hi
   exact ⟨(hless.1 _).elim id (fun x => x.trans hb.1), fun o => (hless.2.1 _ o).elim id (fun x => x.trans (hb.2.1 o)), (hless.1 _).elim id (fun x => x.trans hb.2.2.1), fun o => (hless.2.1 _ o).elim id (fun x => x.trans (hb.2.2.2 o))⟩
  ·rw [if_pos hrv]; exact ⟨s', rfl, hmode⟩
 ·intro g c hcp
  refine ⟨main_woken hi, fun hpk _ => ?_⟩
  rw [<- hcp p rfl] at hpk ⊢
  rcases hopen with x | ⟨_, x⟩
  ·exact .inr ⟨park_woken hi hpk x, x⟩
  ·exact .inl (x g hpk)
theorem Mode.keep' {c Wg N : Nat} {u : Trace} {K' : Nat -> GS} {s : Stage} (h : Mode P c Wg N w gs t K ic s) (e1 : sumTo N (fun i => (K' i).cnt) = sumTo N fun i => (K i).cnt) (e2 : sumTo N (fun i => (K' i).late) = sumTo N fun i => (K i).late)
  (e4 : (K' ic).shape = (K ic).shape) (e5 : ∀ i, i < N -> ((K' i).shape = .load 0 \/ (K' i).shape = .store 0) -> ((K i).shape = .load 0 \/ (K i).shape = .store 0)) (e6 : ∀ i, i < N -> (K' i).shape = .sem 0 -> (K i).shape = .sem 0) (hc : w'.heap[c]? = w.heap[c]?) (hW : w'.heap[Wg]? = w.heap[Wg]?)
  (hr : (∀ g, gs[ic]? = some g -> g.status = .running) -> ∀ g, gs'[ic]? = some g -> g.status = .running) : Mode P c Wg N w' gs' (t ++ u) K' ic s := by
 have e3 : ∀ st sm, WgAt P Wg w' st sm = WgAt P Wg w st sm := fun st sm => by unfold WgAt; rw [hW]
 unfold Mode at h ⊢
 simp only [e1, e2, e3, e4, hc]
 rcases h with h | h | h | h | h | h | h
 ·exact .inl h
 ·exact .inr (.inl h)
 ·exact .inr (.inr (.inl ⟨h.1, h.2.1, h.2.2.1, h.2.2.2.1, h.2.2.2.2.1, fun i hi x => h.2.2.2.2.2.1 i hi (e5 i hi x), fun i hi x => h.2.2.2.2.2.2 i hi (e6 i hi x)⟩))
 ·exact .inr (.inr (.inr (.inl ⟨h.1, h.2.1, h.2.2.1, h.2.2.2.1, h.2.2.2.2.1, hr h.2.2.2.2.2.1, h.2.2.2.2.2.2⟩)))
 ·exact .inr (.inr (.inr (.inr (.inl h))))
 ·exact .inr (.inr (.inr (.inr (.inr (.inl h)))))
 ·obtain ⟨⟨p, n, a, b, c', d⟩, e⟩ := h
  exact .inr (.inr (.inr (.inr (.inr (.inr ⟨⟨p, n, a, by rw [act?_old (lt_of_act? b)]; exact b, (heard_old (lt_of_act? b)).2 c', d⟩, e⟩)))))
theorem Mode.waits {c Wg N : Nat} {s : Stage} (h : Mode P c Wg N w gs t K ic s) : (K ic).cnt = 0 /\ (K ic).late = 0 := by
 rw [<- GS.cnt_shape, <- GS.late_shape]
 rcases h with h | h | h | h | h | h | h
 ·rcases h.2.2.2.2.2 with ⟨_, e, _⟩ | ⟨_, e, _⟩ <;> rw [e] <;> exact ⟨rfl, rfl⟩
 ·rcases h.2.2.2.2.2.2 with e | e <;> rw [e] <;> exact ⟨rfl, rfl⟩
 ·rcases h.2.2.2.2.1 with e | e <;> rw [e] <;> exact ⟨rfl, rfl⟩
 ·rcases h.2.2.2.2.2.2 with e | e <;> rw [e] <;> exact ⟨rfl, rfl⟩
 ·rcases h.2.2.2.2.2 with e | e <;> rw [e] <;> exact ⟨rfl, rfl⟩
 ·rcases h.2.2.2.2 with e | e <;> rw [e] <;> exact ⟨rfl, rfl⟩
 ·rw [h.2.2.2]; exact ⟨rfl, rfl⟩
theorem muOf {i : Nat} {k' : GS} {a b : Nat} (hlt : i < gs.size) (hr : RankLt k'.rank (K i).rank) : MuLt gs.size ((fun j => (upd K i k' j).rank), a) ((fun j => (K j).rank), b) :=
 .inl ⟨i, hlt, by simpa only [upd_at] using hr, fun j hj => by show (upd K i k' j).rank = (K j).rank; rw [upd_not _ _ hj]⟩
theorem Inv.mode (h : Inv P n0 W0 V gs w t K Im ic (some p) st) (hrv : p.recv = true) : ∃ s, st = some s /\ 0 < ic /\ ic < gs.size /\ Mode P p.c p.Wg gs.size w gs t K ic s := by
 have hx := h.phase.2.2.2.2.2.2.2.2.2
 rw [if_pos hrv] at hx
 obtain ⟨_, h1, h2, s, h3, h4⟩ := hx
 exact ⟨s, h3, h1, h2, h4⟩
theorem ofEvents_one {i : Nat} {fn : FuncId} {pos : String} {e : Event} : MemOp.ofEvents i fn pos #[e] = #[{ g := i, fn, pos, act := .ofEvent e }] := by simp [MemOp.ofEvents]
theorem deaf_end {t u : Trace} {g : Nat} : (t ++ u).deaf g t.size = Deaf t g := deaf_old (Nat.le_refl _)
theorem less_none (U : View) : Less noView U := ⟨fun _ => .inl rfl, fun _ _ => .inl rfl, fun b hb => absurd rfl hb⟩
theorem Inv.release (h : Inv P n0 W0 V gs w t K Im ic (some p) st) (hrv : p.recv = true) {i j : Nat} {gi : Goroutine} {hh : Ht} {Vi V₁ : View} {c Wg : Nat} (hi : 0 < i) (hgi : gs[i]? = some gi) (hK : K i = .work j hh Vi) (hg : Ghost Vi V₁)
  (hr : V₁.role = .work c Wg []) (hd : V₁.deaf = 0) (hf : Finishes P Wg gi) : Went P n0 W0 V gs w sl t K Im ic (some p) st i := by
 have hlt : i < gs.size := (Array.getElem?_eq_some_iff.1 hgi).1
 have his := h.is i gi hi hgi
 simp only [hK, GS.is] at his
 obtain ⟨hdf, _, S, hS, hrole⟩ := his
 rw [hg.role, hrole] at hr
 cases hr
 have hcn : (K i).cnt = 1 := by rw [hK]; rfl
 obtain ⟨⟨n, hopen⟩, hst0⟩ := h.counted hi hlt hcn
 obtain ⟨s, hs, hic0, hicl, hm⟩ := h.mode hrv
 rw [hst0] at hs; cases hs
 obtain ⟨hrun, g', hstep, m, hsl⟩ := hf
 have hne : i ≠ ic := fun e => by have := (Mode.waits hm).1; rw [<- e, hcn] at this; cases this
 have hd0 : Deaf t i = 0 := by rw [hdf, <- hg.deaf, hd]
 have hrel : Rel p.Wg (t ++ MemOp.ofEvents i gi.frame.fn gi.frame.place #[eMk (.releaseMerge (stateAt p.Wg))]) i t.size := by
  rw [ofEvents_one]
  have e : (#[({ g := i, fn := gi.frame.fn, pos := gi.frame.place, act := .ofEvent (eMk (.releaseMerge (stateAt p.Wg))) } : MemOp)] : Trace)[0]? = some _ := rfl
  have g0 := get_new (t := t) e
  exact ⟨act?_of g0, by simp [Trace.g?, g0], heard_new e rfl (by rw [show t.size + 0 = t.size from rfl, deaf_end]; exact hd0)⟩
 have hmt : ∀ e ∈ #[eMk (.releaseMerge (stateAt p.Wg))], e = eMk (.releaseMerge (stateAt p.Wg)) := fun e he => by simpa using he
 refine h.shared hrv (k' := .add m) (s' := .early) hi hgi (hstep w) ?_ (by rw [hK]; exact less_none _) (fun x => by cases x) rfl (fun j' hj' => ?_) (.inr (.inr (.inl hcn))) (fun e he x hx => ?_) (fun e he => ?_) (fun e he a => ?_) rfl (fun _ _ _ => rfl) rfl rfl rfl ?_ (.inl ⟨n, hopen⟩) ?_ (muOf hlt ?_)
 ·show Slide P (DAdd P p.Wg) m _ g'
  rw [hd0]; exact hsl
 ·rw [hK] at hj'; cases hj'
  exact ⟨hS, t.size, hrel, Nat.le_refl _⟩
 ·rw [hmt e he] at hx; cases hx
 ·rw [hmt e he]; exact h.low.2
 ·rw [hmt e he]; simp [eMk, MemAct.ofEvent]
 ·refine hm.keep' (sum_same K _ GS.cnt (by rw [hcn]; rfl)) (sum_same K _ GS.late (by rw [hK]; rfl)) (by rw [upd_not _ _ (Ne.symm hne)]) (fun m hm => ?_) (fun m hm => ?_) rfl rfl (running_next hlt ?_)
  ·by_cases hmi : m = i
   ·subst hmi; rw [upd_at]; intro x; rcases x with x | x <;> cases x
   ·rw [upd_not _ _ hmi]; exact id
  ·by_cases hmi : m = i
   ·subst hmi; rw [upd_at]; intro x; cases x
   ·rw [upd_not _ _ hmi]; exact id
  ·exact Slide.running (fun d g x => x.2.1) hsl
 ·have hr : Rest p.Wg t K ic st := h.out.2.2.1
  rw [hst0] at hr
  refine hr.app (fun idx a ha hx => .inr (hx.app (by obtain ⟨op, hop, _⟩ := touch_of ha; exact lt_size_of_getElem? hop) fun m hgm _ hm => ?_)) (fun idx a _ ⟨op, hop, _, hx⟩ _ => ?_)
  ·by_cases hmi : m = i
   ·subst hmi
    exact .inr ⟨t.size, hrel, by obtain ⟨op, hop, _⟩ := touch_of ha; exact Nat.le_of_lt (lt_size_of_getElem? hop)⟩
   ·rw [upd_not _ _ hmi]; exact .inl hm
  ·rw [ofEvents_one] at hop
   simp only [List.mem_toArray, List.mem_cons, List.not_mem_nil, or_false] at hop
   subst hop; cases hx
 ·rw [hK]; refine .inl ?_
  simp only [GS.rank, hrole]; omega
def Atom (a : Addr) (es : Array Event) : Prop := es = #[eRd a] \/ es = #[eWr a] \/ es = #[eRd a, eWr a] \/ es = semEv a
theorem Atom.mem {a : Addr} {es : Array Event} (h : Atom a es) {e : Event} (he : e ∈ es) : e = eRd a \/ e = eWr a \/ e = eMk .disable \/ e = eMk .enable := by
 rcases h with rfl | rfl | rfl | rfl <;> simp only [semEv, List.mem_toArray, List.mem_cons, List.not_mem_nil, or_false] at he
 ·exact .inl he
 ·exact .inr (.inl he)
 ·exact he.imp id .inl
 ·rcases he with x | x | x | x
  ·exact .inr (.inr (.inl x))
  ·exact .inl x
  ·exact .inr (.inl x)
  ·exact .inr (.inr (.inr x))
theorem Atom.behind {a : Addr} {es : Array Event} (h : Atom a es) : deafBehind 1 es = 1 := by
 rcases h with rfl | rfl | rfl | rfl <;> rfl
theorem Atom.touch {a : Addr} {es : Array Event} (h : Atom a es) {e : Event} (he : e ∈ es) {x : Touch} (hx : (MemAct.ofEvent e).touch? = some x) : x.loc = .cell a /\ x.kind = .atomic := by
 rcases h.mem he with rfl | rfl | rfl | rfl
 ·cases hx; exact ⟨rfl, rfl⟩
 ·cases hx; exact ⟨rfl, rfl⟩
 ·cases hx
 ·cases hx
theorem Atom.low {a : Addr} {es : Array Event} (h : Atom a es) {n : Nat} (ha : a.block < n) {e : Event} (he : e ∈ es) : (MemAct.ofEvent e).low n := by
 rcases h.mem he with rfl | rfl | rfl | rfl
 ·exact ha
 ·exact ha
 ·trivial
 ·trivial
theorem Atom.norel {a : Addr} {es : Array Event} (h : Atom a es) {e : Event} (he : e ∈ es) (b : Addr) : MemAct.ofEvent e ≠ .mark (.release b) := by
 rcases h.mem he with rfl | rfl | rfl | rfl <;> simp [eRd, eWr, eMk, MemAct.ofEvent]
theorem Atom.unheard {a : Addr} {es : Array Event} (h : Atom a es) {i : Nat} {fn : FuncId} {pos : String} (hd : Deaf t i = 1) {idx : Nat} {op : MemOp} {x : Touch} (hidx : t.size <= idx) (hop : (t ++ MemOp.ofEvents i fn pos es)[idx]? = some op) (hx : op.act.touch? = some x) :
  ¬ (t ++ MemOp.ofEvents i fn pos es).heard idx := by
 obtain ⟨k, rfl⟩ : ∃ k, idx = t.size + k := ⟨idx - t.size, by omega⟩
 have hop' : (MemOp.ofEvents i fn pos es)[k]? = some op := by rw [Array.getElem?_append_right (by omega)] at hop; simpa using hop
 have hgi : op.g = i := by obtain ⟨e, _, rfl⟩ := Conc.mem_ofEvents (mem_of_getElem? hop'); rfl
 rintro ⟨g, hg, hz⟩
 have : g = i := by simp [Trace.g?, hop, hgi] at hg; exact hg.symm
 subst this
 have still2 : ∀ y : MemOp, y.act = MemAct.ofEvent (eRd a) \/ y.act = MemAct.ofEvent (eWr a) -> still y.act := fun y hy => by rcases hy with e | e <;> rw [e] <;> exact ⟨by simp [eRd, eWr, MemAct.ofEvent], by simp [eRd, eWr, MemAct.ofEvent]⟩
 rcases h with rfl | rfl | rfl | rfl
 ·have := deaf_still (t := t) (u := MemOp.ofEvents g fn pos #[eRd a]) (g := g) (fun op hop => by obtain ⟨e, he, rfl⟩ := Conc.mem_ofEvents hop; simp only [List.mem_toArray, List.mem_cons, List.not_mem_nil, or_false] at he; subst he; exact still2 _ (.inl rfl)) (k := k) (by have := lt_size_of_getElem? hop'; omega)
  omega
 ·have := deaf_still (t := t) (u := MemOp.ofEvents g fn pos #[eWr a]) (g := g) (fun op hop => by obtain ⟨e, he, rfl⟩ := Conc.mem_ofEvents hop; simp only [List.mem_toArray, List.mem_cons, List.not_mem_nil, or_false] at he; subst he; exact still2 _ (.inr rfl)) (k := k) (by have := lt_size_of_getElem? hop'; omega)
  omega
 ·have := deaf_still (t := t) (u := MemOp.ofEvents g fn pos #[eRd a, eWr a]) (g := g) (fun op hop => by obtain ⟨e, he, rfl⟩ := Conc.mem_ofEvents hop; simp only [List.mem_toArray, List.mem_cons, List.not_mem_nil, or_false] at he; rcases he with rfl | rfl; exact still2 _ (.inl rfl); exact still2 _ (.inr rfl)) (k := k) (by have := lt_size_of_getElem? hop'; omega)
  omega
 ·
  have eu : MemOp.ofEvents g fn pos (semEv a) = #[{ g, fn, pos, act := .mark .disable }, { g, fn, pos, act := .ofEvent (eRd a) }, { g, fn, pos, act := .ofEvent (eWr a) }, { g, fn, pos, act := .mark .enable }] := by simp [MemOp.ofEvents, semEv, eMk, MemAct.ofEvent]
  rw [eu] at hop' hz
  have d0 : (t ++ #[({ g, fn, pos, act := .mark .disable } : MemOp), { g, fn, pos, act := .ofEvent (eRd a) }, { g, fn, pos, act := .ofEvent (eWr a) }, { g, fn, pos, act := .mark .enable }]).deaf g t.size = 1 := by rw [deaf_end]; exact hd
  have d1 := deaf_succ (g := g) (get_new (t := t) (show (#[({ g, fn, pos, act := .mark .disable } : MemOp), { g, fn, pos, act := .ofEvent (eRd a) }, { g, fn, pos, act := .ofEvent (eWr a) }, { g, fn, pos, act := .mark .enable }] : Trace)[0]? = some _ from rfl))
  have d2 := deaf_succ (g := g) (get_new (t := t) (show (#[({ g, fn, pos, act := .mark .disable } : MemOp), { g, fn, pos, act := .ofEvent (eRd a) }, { g, fn, pos, act := .ofEvent (eWr a) }, { g, fn, pos, act := .mark .enable }] : Trace)[1]? = some _ from rfl))
  have d3 := deaf_succ (g := g) (get_new (t := t) (show (#[({ g, fn, pos, act := .mark .disable } : MemOp), { g, fn, pos, act := .ofEvent (eRd a) }, { g, fn, pos, act := .ofEvent (eWr a) }, { g, fn, pos, act := .mark .enable }] : Trace)[2]? = some _ from rfl))
  rw [deafStep_still (still2 _ (.inl rfl))] at d2
  rw [deafStep_still (still2 _ (.inr rfl))] at d3
  simp only [Nat.add_zero] at d1
  rw [d0] at d1
  have d1 := d1.trans (show deafStep g 1 { g, fn, pos, act := .mark .disable } = 2 by simp [deafStep])
  have hk : k < 4 := by have := lt_size_of_getElem? hop'; simpa using this
  match k, hk with
  | 0, _ => simp at hop'; subst hop'; cases hx
  | 1, _ => rw [d1] at hz; omega
  | 2, _ => rw [show t.size + 2 = t.size + 1 + 1 from rfl, d2, d1] at hz; omega
  | 3, _ => simp at hop'; subst hop'; cases hx
theorem Rest.atom {Wg : Nat} {s : Stage} (hr : Rest Wg t K ic (some s)) {a : Addr} {es : Array Event} (h : Atom a es) {i : Nat} {fn : FuncId} {pos : String} (hd : Deaf t i = 1) {K' : Nat -> GS} (hidx : ∀ m, (K' m).idx = (K m).idx) : Rest Wg (t ++ MemOp.ofEvents i fn pos es) K' ic (some s) := by
 refine hr.app (fun idx a ha hx => .inr (hx.app (by obtain ⟨op, hop, _⟩ := touch_of ha; exact lt_size_of_getElem? hop) fun m _ _ hm => .inl (by rw [hidx]; exact hm))) (fun idx x hi ⟨op, hop, hidx', hx⟩ _ => .inr (.inl ⟨?_, h.unheard hd hi hidx' hx⟩))
 obtain ⟨e, he, rfl⟩ := Conc.mem_ofEvents hop
 exact (h.touch he hx).2
end
end Go.Gg
