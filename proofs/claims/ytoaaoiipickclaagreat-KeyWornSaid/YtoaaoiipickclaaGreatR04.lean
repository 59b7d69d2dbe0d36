/- A part of the proof. -/
import Derived.Test.YtoaaoiipickclaaGreatR03
set_option linter.all false
namespace Go.Gg
open Go.Conc Go.Proofs
def rangeI (lo hi : Int) : List Int := (List.range (hi - lo + 1).toNat).map fun i : Nat => lo + i
theorem ziT {lo hi : Int} {i : Nat} (h : (i : Int) < hi - lo + 1) : (rangeI lo hi)[i]? = some (lo + i) := by
 unfold rangeI;rw [List.getElem?_map, List.getElem?_range (by omega)]; rfl
theorem ze8 (lo hi : Int) : (rangeI lo hi).length = (hi - lo + 1).toNat := by simp [rangeI]
def growM : List Key → Nat → List Int → List (List Int)
 | [], _, t => [t]
 | y :: ys, n, t => (rangeI y.wear.min y.wear.max).flatMap fun w => growM ys (n + 1) (t.set n w)
def YieldC (lv : Bool) (yv : AV) (Gf : List (List Int) → List AObj) (all : List (List Int)) : Prop := ∀ (σ : List (List Int)) (t : List Int) (M : List AObj) (k kp : AV → List AObj → Prop), t.length = 4 → σ ++ [t] <+: all → k (bv true) (Gf (σ ++ [t]) ++ M) → CallC lv Tryz.prog yv (Gf σ ++ M) [.agg (t.map iv)] k kp
structure GrowF (lv : Bool) (x : Ring) (os : List AV) (all : List (List Int)) (ir iy ig : Nat) (yv : AV) (Gf : List (List Int) → List AObj) (N : Nat) : Prop where
 len : ∀ σ, (Gf σ).length = N
 r : ∀ σ M, (Gf σ ++ M)[ir]? = some (.cells [.rp (x.l ++ os)] 100)
 y : ∀ σ M, (Gf σ ++ M)[iy]? = some (.cells [yv] 187)
 g : ∀ σ M, (Gf σ ++ M)[ig]? = some (.cells [.fn (.func 168) [] [.op ir 0, .op iy 0, .op ig 0]] 188)
 yield : YieldC lv yv Gf all
 ok : ∀ m σ σ', (∀ z ∈ Gf σ, OLt m z) → ∀ z ∈ Gf σ', OLt m z
theorem GrowF.more {lv : Bool} {x : Ring} {os : List AV} {all : List (List Int)} {ir iy ig N : Nat} {yv : AV} {Gf : List (List Int) → List AObj} (h : GrowF lv x os all ir iy ig yv Gf N) (z : AObj) : GrowF lv x os all ir iy ig yv (fun σ => Gf σ ++ [z]) (N + 1) :=
 ⟨fun σ => by simp [h.len], fun σ M => by rw [List.append_assoc]; exact h.r σ _, fun σ M => by rw [List.append_assoc]; exact h.y σ _, fun σ M => by rw [List.append_assoc]; exact h.g σ _, fun σ t M k kp h1 h2 h3 => by
  rw [List.append_assoc];exact h.yield σ t _ k kp h1 h2 (by rw [← List.append_assoc]; exact h3), fun m σ σ' h1 w hw => (List.mem_append.1 hw).elim (fun hw => h.ok m σ σ' (fun v hv => h1 v (List.mem_append_left _ hv)) w hw) (fun hw => h1 w (List.mem_append_right _ hw))⟩
theorem GrowF.hok {lv : Bool} {x : Ring} {os : List AV} {all : List (List Int)} {ir iy ig N : Nat} {yv : AV} {Gf : List (List Int) → List AObj} (h : GrowF lv x os all ir iy ig yv Gf N) {σ : List (List Int)} (hH : HOk (Gf σ)) (σ' : List (List Int)) : HOk (Gf σ') := fun z hz => by
 have := h.ok N σ σ' (fun w hw => by have := hH w hw; rwa [h.len] at this) z hz;rwa [h.len]
section
variable {lv : Bool}
theorem f168_c {x : Ring} {os : List AV} {all : List (List Int)} {ir iy ig : Nat} {yv : AV} (hx : x.Ok) (hsy : yv.sure = true) : ∀ (d n N : Nat) (Gf : List (List Int) → List AObj) (t : List Int) (σ : List (List Int)) (k kp : AV → List AObj → Prop), d + n = x.keys.length → t.length = 4 → GrowF lv x os all ir iy ig yv Gf N → σ ++ growM (x.keys.drop n) n t <+: all → k (bv true) (Gf (σ ++ growM (x.keys.drop n) n t)) → FnC lv Tryz.prog 168 (Gf σ) [.agg (t.map iv), iv n, .op ir 0, .op iy 0, .op ig 0] k kp := by
 intro d;induction d with
 | zero =>
  intro n N Gf t σ k kp hdn ht hG hpre hk;refine zak (rs := [.tmp 7]) (nt := 53) F.f168 rfl rfl rfl (by simp) fun hH hA => ?_;simp only [argsT, Nat.reduceAdd];have hr := hG.r σ;have hy := hG.y σ;have hlk : x.l = [iv x.cuts, aKeys x.keys, aLocks x.locks, aTries x.tries] := rfl;have hkd : x.keys.drop n = [] := List.drop_eq_nil_of_le (by omega);rw [hkd, growM] at hpre hk;(repeat apply zaa);refine zl5 ?_;simp only [push_cast, seval];(repeat apply zaa);refine zl5 ?_;simp only [push_cast, seval, hr, hlk, aKeys];(repeat apply zaa);refine zae ?_;simp only [push_cast, seval];refine ⟨fun h => ?_, fun h => by simp at h; omega⟩;have h4 : (t.map iv).length = 4 := by simp [ht]
  (repeat apply zaa);refine zl5 ?_;simp only [push_cast, seval, hy, h4];rw [List.take_of_length_le (by simp [ht])];refine callG (hG.yield σ t _ _ _ ht hpre ?_);(try simp only [push_cast, seval]);(repeat apply zaa);refine zai ?_;simp only [push_cast, seval];have hlen : (Gf σ).length = (Gf (σ ++ [t])).length := by rw [hG.len, hG.len]
  rw [hlen];exact endV (hG.hok hH _) hk
 | succ d ih =>
  intro n N Gf t σ k kp hdn ht hG hpre hk;refine zak (rs := [.tmp 7]) (nt := 53) F.f168 rfl rfl rfl (by simp) fun hH hA => ?_;simp only [argsT, Nat.reduceAdd];have hr := hG.r σ;have hlk : x.l = [iv x.cuts, aKeys x.keys, aLocks x.locks, aTries x.tries] := rfl;have hnl : n < x.keys.length := by omega
  obtain ⟨y, hy⟩ := zaE hnl;have hyk := (hx.key y (zas hy)).2.2;have hkd : x.keys.drop n = y :: x.keys.drop (n + 1) := by
   rw [List.drop_eq_getElem_cons hnl];rw [List.getElem?_eq_getElem hnl] at hy;cases hy; rfl
  rw [hkd, growM] at hpre hk;have h4 : (t.map iv).length = 4 := by simp [ht]
  (repeat apply zaa);refine zl5 ?_;simp only [push_cast, seval];(repeat apply zaa);refine zl5 ?_;simp only [push_cast, seval, hr, hlk, aKeys];(repeat apply zaa);refine zae ?_;simp only [push_cast, seval];refine ⟨fun h => by exfalso; omega, fun h => ?_⟩;(repeat apply zaa);refine zah ?_;simp only [push_cast, seval];(repeat apply zaa);refine zl5 ?_;simp only [push_cast, seval, hr, hlk, aKeys, zc2 hy, zaz hnl];(repeat apply zaa);refine zag ?_;refine zaB (rangeI y.wear.min y.wear.max).length (fun i : Nat => [(8, iv (y.wear.min + i))]) (fun i => Gf (σ ++ ((rangeI y.wear.min y.wear.max).take i).flatMap fun w => growM (x.keys.drop (n + 1)) (n + 1) (t.set n w)) ++ [.cells ((if i = 0 then t else t.set n (y.wear.min + (i - 1 : Nat))).map iv) 132]) (fun i => True) (fun _ _ => rfl) (by intro p hp; simp at hp; subst hp; exact ⟨_, rfl, Wk.refl _⟩) (by simp) (fun m _ _ => by simp [hG.len]) trivial (fun hHs hLt i hin hi R hR => ?_);have hrl := ze8 y.wear.min y.wear.max;have hmm := hyk.le;have hmin := hyk.min;have hmax := hyk.max;have hri := hG.r (σ ++ ((rangeI y.wear.min y.wear.max).take i).flatMap fun w => growM (x.keys.drop (n + 1)) (n + 1) (t.set n w));have hgi := hG.g (σ ++ ((rangeI y.wear.min y.wear.max).take i).flatMap fun w => growM (x.keys.drop (n + 1)) (n + 1) (t.set n w));have hb4 : (0 ≤ (n : Int) ∧ (n : Int) < 4) = True := by have := hx.keys; simp; omega
  have hw1 : IntKind.i64.wrap ((n : Int) + 1) = ((n + 1 : Nat) : Int) := by have := hx.keys; rw [zau _ (by omega)]; rfl
  have hlti : ((if i = 0 then t else t.set n (y.wear.min + (i - 1 : Nat))).map iv).length = 4 := by split <;> simp [ht]
  have hGl : ∀ σ', (Gf σ).length = (Gf σ').length := fun σ' => by rw [hG.len, hG.len]
  have hbox : ∀ σ' z M, (Gf σ' ++ z :: M)[(Gf σ).length]? = some z := fun σ' z M => by rw [hGl σ', List.getElem?_append_right (Nat.le_refl _)]; simp
  have hbset : ∀ σ' z z', (Gf σ' ++ [z]).set (Gf σ).length z' = Gf σ' ++ [z'] := fun σ' z z' => by rw [hGl σ', List.set_append_right _ _ (Nat.le_refl _)]; simp
  have hset : List.take n ((if i = 0 then t else t.set n (y.wear.min + (i - 1 : Nat))).map iv) ++ [AV.val (.int .i64 (y.wear.min + i))] ++ List.drop (n + 1) ((if i = 0 then t else t.set n (y.wear.min + (i - 1 : Nat))).map iv) = (t.set n (y.wear.min + i)).map iv := by
   have hn4 : n < t.length := (by have := hx.keys; omega);have e : ∀ u : List Int, n < u.length → List.take n (u.map iv) ++ [AV.val (.int .i64 (y.wear.min + i))] ++ List.drop (n + 1) (u.map iv) = (u.set n (y.wear.min + i)).map iv := fun u hu => by
    rw [List.set_eq_take_append_cons_drop, if_pos hu]; simp
   split
   ·exact e t hn4
   ·rw [e _ (by simpa using hn4), List.set_set]
  (repeat apply zaa);refine zl5 ?_;simp only [push_cast, seval, hri, hlk, aKeys, zc2 hy, zaz hnl];(repeat apply zaa);refine zae ?_;simp only [push_cast, seval];refine ⟨fun h => ?_, fun h => ?_⟩
  ·
   have hil : (i : Int) < y.wear.max - y.wear.min + 1 := (by omega);have hget := ziT hil;have hil' : i < (rangeI y.wear.min y.wear.max).length := (by omega);have hsucc : ((rangeI y.wear.min y.wear.max).take (i + 1)).flatMap (fun w => growM (x.keys.drop (n + 1)) (n + 1) (t.set n w)) = ((rangeI y.wear.min y.wear.max).take i).flatMap (fun w => growM (x.keys.drop (n + 1)) (n + 1) (t.set n w)) ++ growM (x.keys.drop (n + 1)) (n + 1) (t.set n (y.wear.min + i)) := by
    rw [List.take_succ, hget, List.flatMap_append]; simp
   (repeat apply zaa);refine zah ?_;simp only [push_cast, seval];(repeat apply zaa);refine zag ?_;(repeat apply zaa);refine zl5 ?_;simp only [push_cast, seval, hb4, hbox, hbset, hlti];refine ⟨by have := hx.keys; omega, ?_⟩;rw [hset];have ht' : (t.set n (y.wear.min + i)).length = 4 := (by simp [ht]);have h4' : ((t.set n (y.wear.min + i)).map iv).length = 4 := (by simp [ht]);(repeat apply zaa);refine zl5 ?_;simp only [push_cast, seval, hgi, hbox, h4', hw1];rw [List.take_of_length_le (i := 4) (l := (t.set n (y.wear.min + i)).map iv) (by rw [h4']; exact Nat.le_refl _)];refine zl6 ((ih (n + 1) (N + 1) (fun σ => Gf σ ++ [.cells ((t.set n (y.wear.min + i)).map iv) 132]) (t.set n (y.wear.min + i)) (σ ++ ((rangeI y.wear.min y.wear.max).take i).flatMap fun w => growM (x.keys.drop (n + 1)) (n + 1) (t.set n w)) _ _ (by omega) ht' (hG.more _) ?_ ?_))
   ·rw [List.append_assoc, ← hsucc];refine List.IsPrefix.trans ?_ hpre;obtain ⟨r, hr'⟩ := List.take_prefix (i + 1) (rangeI y.wear.min y.wear.max);rw [List.prefix_append_right_inj]
    conv => rhs; rw [← hr', List.flatMap_append]
    exact List.prefix_append _ _
   ·(try simp only [push_cast, seval]);(repeat apply zaa);refine zae ?_;simp only [push_cast, seval];(repeat apply zaa);refine zah ?_;simp only [push_cast, seval];have hw2 : IntKind.i64.wrap (y.wear.min + (i : Int) + 1) = y.wear.min + ((i + 1 : Nat) : Int) := (by rw [zau _ (by omega)]; push_cast; omega);(repeat apply zaa);refine zl5 ?_;simp only [push_cast, seval, hw2];refine hR _ ⟨hil', trivial, ?_⟩;rw [List.append_assoc, ← hsucc];exact (zax (zam rfl rfl) (by simp only [push_cast, seval]; simp [zaf, Wk.refl]))
  ·have hil : i = (rangeI y.wear.min y.wear.max).length := (by omega);(repeat apply zaa);refine zaq ?_;simp only [push_cast, seval];(repeat apply zaa);refine zl5 ?_;simp only [push_cast, seval];(repeat apply zaa);refine zai ?_;simp only [push_cast, seval];subst hil;rw [List.take_length];rw [hG.len, ← hG.len (σ ++ (rangeI y.wear.min y.wear.max).flatMap fun w => growM (x.keys.drop (n + 1)) (n + 1) (t.set n w))];exact endV (hG.hok hH _) hk
theorem f159_c {H : List AObj} {k kp : AV → List AObj → Prop} {l : List AV} (hk : k (.fn (.func 167) [] [.op H.length 0]) (H ++ [.cells [.rp l] 100])) : FnC lv Tryz.prog 159 H [.rp l] k kp := by
 refine zak (rs := [.tmp 2]) (nt := 4) F.f159 rfl rfl rfl (by simp) fun hH hA => ?_;simp only [argsT, Nat.reduceAdd];(repeat apply zaa);refine zl5 ?_;simp only [push_cast, seval];(repeat apply zaa);refine zl5 ?_;simp only [push_cast, seval, List.mapM_cons, List.mapM_nil, Option.pure_def, Option.bind_eq_bind];(repeat apply zaa);refine zai ?_;simp only [push_cast, seval];exact zao hk
theorem f167_c {x : Ring} {os : List AV} {ir N : Nat} {yv : AV} {Gf : List (List Int) → List AObj} {k kp : AV → List AObj → Prop} (hx : x.Ok) (hsy : yv.sure = true) (hlen : ∀ σ, (Gf σ).length = N) (hr : ∀ σ M, (Gf σ ++ M)[ir]? = some (.cells [.rp (x.l ++ os)] 100)) (hy : YieldC lv yv Gf (growM x.keys 0 [0, 0, 0, 0])) (hok : ∀ m σ σ', (∀ z ∈ Gf σ, OLt m z) → ∀ z ∈ Gf σ', OLt m z)
  (hparts : yv.parts = some [yv]) (hleaf : yv.leaf = true) (hk : k (.tup []) (Gf (growM x.keys 0 [0, 0, 0, 0]))) : FnC lv Tryz.prog 167 (Gf []) [yv, .op ir 0] k kp := by
 refine zak (rs := []) (nt := 8) F.f167 rfl rfl rfl (by simp) fun hH hA => ?_;simp only [argsT, Nat.reduceAdd];have hN := hlen [];(repeat apply zaa);refine zl5 ?_;simp only [push_cast, seval, hparts];(repeat apply zaa);refine zl5 ?_;simp only [push_cast, seval];(repeat apply zaa);refine zl5 ?_;simp only [push_cast, seval, List.mapM_cons, List.mapM_nil, Option.pure_def, Option.bind_eq_bind];(repeat apply zaa);refine zl5 ?_;simp only [push_cast, seval];have hget : ∀ σ (L : List AObj) i, (Gf σ ++ L)[N + i]? = L[i]? := fun σ L i => by rw [← hlen σ, List.getElem?_append_right (by omega)]; congr 1; omega
 have hG : GrowF lv x os (growM x.keys 0 [0, 0, 0, 0]) ir N (N + 1) yv (fun σ => Gf σ ++ [.cells [yv] 187, .cells [.fn (.func 168) [] [.op ir 0, .op N 0, .op (N + 1) 0]] 188]) (N + 2) := by
  refine ⟨fun σ => by simp [hlen], fun σ M => by rw [List.append_assoc]; exact hr σ _, fun σ M => ?_, fun σ M => ?_, fun σ t M k kp h1 h2 h3 => ?_, fun m σ σ' h1 w hw => (List.mem_append.1 hw).elim (fun hw => hok m σ σ' (fun v hv => h1 v (List.mem_append_left _ hv)) w hw) (fun hw => h1 w (List.mem_append_right _ hw))⟩
  ·rw [List.append_assoc]; exact (hget σ _ 0).trans rfl
  ·rw [List.append_assoc]; rw [hget σ _ 1]; rfl
  ·rw [List.append_assoc];exact hy σ t _ k kp h1 h2 (by rw [← List.append_assoc]; exact h3)
 rw [hN];refine zl6 ((f168_c hx hsy x.keys.length 0 (N + 2) _ [0, 0, 0, 0] [] _ _ rfl rfl hG (List.prefix_refl _) ?_));(try simp only [push_cast, seval]);refine zaJ (H' := Gf (growM x.keys 0 [0, 0, 0, 0])) (Wk.refl _) rfl (by rw [hlen]; exact Nat.le_refl _) ?_ (by simp [zaD]) hk;intro z hz;rw [hlen, ← hN];exact hok _ [] _ (fun w hw => hH w hw) z hz
end
open Go.Conc Go.Proofs
set_option maxRecDepth 100000
theorem F.fits166 : MethOf Tryz.prog 166 "gladstone/key.fits" 208 := fun v w es => by kernel_rfl
theorem F.fits167 : MethOf Tryz.prog 167 "gladstone/key.fits" 209 := fun v w es => by kernel_rfl
theorem F.nil166 : NotNil Tryz.prog 166 "gladstone/key.fits" := fun v w es => by kernel_rfl
theorem F.nil167 : NotNil Tryz.prog 167 "gladstone/key.fits" := fun v w es => by kernel_rfl
section
variable {lv : Bool} {H : List AObj} {k kp : AV → List AObj → Prop}
theorem f208_c {m n : Nat} (hm : m < 256) (hk : k (bv (m.testBit n)) H) : FnC lv Tryz.prog 208 H [iv n, uv m] k kp := by
 refine zak (rs := [.tmp 4]) (nt := 8) F.f208 rfl rfl rfl (by simp) fun hH hA => ?_;simp only [argsT, Nat.reduceAdd];(repeat apply zaa);refine zl5 ?_;simp only [push_cast, seval];(repeat apply zaa);refine zl5 ?_;simp only [push_cast, seval];refine zl6 ((f135_c hm ?_));(try simp only [push_cast, seval]);(repeat apply zaa);refine zai ?_;simp only [push_cast, seval];exact zao hk
theorem f209_c {m n : Nat} (hm : m < 256) (hk : k (bv (!m.testBit n)) H) : FnC lv Tryz.prog 209 H [iv n, uv m] k kp := by
 refine zak (rs := [.tmp 4]) (nt := 9) F.f209 rfl rfl rfl (by simp) fun hH hA => ?_;simp only [argsT, Nat.reduceAdd];(repeat apply zaa);refine zl5 ?_;simp only [push_cast, seval];(repeat apply zaa);refine zl5 ?_;simp only [push_cast, seval];refine zl6 ((f135_c hm ?_));(try simp only [push_cast, seval]);(repeat apply zaa);refine zai ?_;simp only [push_cast, seval];exact zao hk
theorem zii {b : Bool} {m n : Nat} (hm : m < 256) (hk : k (bv (m.testBit n == b)) H) : InvC lv Tryz.prog (.ifc (if b then 166 else 167) (iv n)) "gladstone/key.fits" H [uv m] k kp := by
 cases b with
 | true => exact invC F.fits166 (by kernel_rfl) (f208_c hm (by simpa using hk))
 | false => exact invC F.fits167 (by kernel_rfl) (f209_c hm (by simpa using hk))
theorem zfz {b : Bool} : NotNil Tryz.prog (if b then 166 else 167) "gladstone/key.fits" := by
 cases b
 ·exact F.nil167
 ·exact F.nil166
end
open Go.Conc Go.Proofs
def wears0 (x : Ring) : List (List Int) := growM x.keys 0 [0, 0, 0, 0]
def triedM (x : Ring) (t : List Int) (r : Try) : Bool := (opensM x r.key.toNat (t.getD r.key.toNat 0).toNat).testBit r.lock.toNat == r.opens
def okTo (x : Ring) (but : List Int) (t : List Int) : Nat → Bool
 | 0 => true
 | i + 1 => okTo x but t i && (match x.tries[i]? with | some r => but.contains (i : Int) || triedM x t r | none => true)
def truthsTo (x : Ring) (but : List Int) (i : Nat) : List (List Int × Nat) := (wears0 x).zipIdx.filter fun y => okTo x but y.1 i
def truthsM (x : Ring) (but : List Int) : List (List Int × Nat) := truthsTo x but x.tries.length
theorem zgC : ∀ (ys : List Key) (n : Nat) (t : List Int), ∀ u ∈ growM ys n t, u.length = t.length
 | [], _, t, u, h => by simp [growM] at h; subst h; rfl
 | y :: ys, n, t, u, h => by
  rw [growM] at h;obtain ⟨w, _, h⟩ := List.mem_flatMap.1 h;rw [zgC ys (n + 1) _ u h]; simp
theorem zc7 : ∀ (ys : List Key) (n : Nat) (t : List Int), ∀ u ∈ growM ys n t, ∀ i, i < n → u[i]? = t[i]?
 | [], _, t, u, h, i, _ => by simp [growM] at h; subst h; rfl
 | y :: ys, n, t, u, h, i, hi => by
  rw [growM] at h;obtain ⟨w, _, h⟩ := List.mem_flatMap.1 h;rw [zc7 ys (n + 1) _ u h i (by omega), List.getElem?_set_ne (by omega)]
theorem ziS {lo hi w : Int} (h : w ∈ rangeI lo hi) : lo ≤ w ∧ w ≤ hi := by
 unfold rangeI at h;obtain ⟨i, h1, rfl⟩ := List.mem_map.1 h;have := List.mem_range.1 h1;omega
theorem zij : ∀ (ys : List Key) (n : Nat) (t : List Int), (∀ y ∈ ys, y.wear.Ok 2) → (∀ w ∈ t, 0 ≤ w ∧ w ≤ 2) → ∀ u ∈ growM ys n t, ∀ w ∈ u, 0 ≤ w ∧ w ≤ 2
 | [], _, t, _, ht, u, h => by simp [growM] at h; subst h; exact ht
 | y :: ys, n, t, hy, ht, u, h => by
  rw [growM] at h;obtain ⟨w, hw, h⟩ := List.mem_flatMap.1 h;refine zij ys (n + 1) _ (fun z hz => hy z (List.mem_cons_of_mem _ hz)) (fun v hv => ?_) u h;rcases List.mem_or_eq_of_mem_set hv with h' | h'
  ·exact ht v h'
  ·subst h';have := ziS hw;have hk := hy y (List.mem_cons_self ..);have := hk.min; have := hk.max; omega
theorem zgn (lo hi : Int) : (rangeI lo hi).Nodup := by
 unfold rangeI;refine List.Pairwise.map _ (fun a b hab => ?_) List.nodup_range;omega
theorem zeD : ∀ (ys : List Key) (n : Nat) (t : List Int), n + ys.length ≤ t.length → (growM ys n t).Nodup
 | [], _, t, _ => by simp [growM]
 | y :: ys, n, t, h => by
  simp only [List.length_cons] at h;rw [growM];unfold List.Nodup;rw [List.pairwise_flatMap];refine ⟨fun w _ => zeD ys (n + 1) _ (by simp; omega), ?_⟩;refine List.Pairwise.imp ?_ (zgn _ _);intro a b hab u hu1 u2 hu2 e;subst e;have e1 := zc7 ys (n + 1) _ u hu1 n (by omega);have e2 := zc7 ys (n + 1) _ u hu2 n (by omega);rw [List.getElem?_set_self (by omega)] at e1 e2;rw [e1] at e2;exact hab (Option.some.inj e2)
theorem zeE : ∀ (ys : List Key) (n : Nat) (t : List Int), (∀ y ∈ ys, y.wear.Ok 2) → (growM ys n t).length ≤ 3 ^ ys.length
 | [], _, t, _ => by simp [growM]
 | y :: ys, n, t, hy => by
  rw [growM, List.length_flatMap];have h1 : ∀ w, (growM ys (n + 1) (t.set n w)).length ≤ 3 ^ ys.length := fun w => zeE ys (n + 1) _ fun z hz => hy z (List.mem_cons_of_mem _ hz);have h2 : (rangeI y.wear.min y.wear.max).length ≤ 3 := by
   rw [ze8];have hk := hy y (List.mem_cons_self ..);have := hk.min; have := hk.max; omega
  have h3 : ∀ l : List Int, (l.map fun w => (growM ys (n + 1) (t.set n w)).length).sum ≤ l.length * 3 ^ ys.length := by
   intro l;induction l with
   | nil => simp
   | cons a l ih =>
    have := h1 a;simp only [List.map_cons, List.sum_cons, List.length_cons, Nat.add_mul, Nat.one_mul];omega
  refine Nat.le_trans (h3 _) ?_;rw [List.length_cons, Nat.pow_succ, Nat.mul_comm];exact Nat.mul_le_mul_left _ h2
section
variable {x : Ring}
theorem zdD (hx : x.Ok) : ∀ t ∈ wears0 x, t.length = 4 := fun t h => zgC _ _ _ t h
theorem zf4 (hx : x.Ok) : ∀ t ∈ wears0 x, ∀ w ∈ t, 0 ≤ w ∧ w ≤ 2 := zij _ _ _ (fun y hy => (hx.key y hy).2.2) (by simp)
theorem zdT (hx : x.Ok) : (wears0 x).Nodup := zeD _ _ _ (by have := hx.keys; simp; omega)
theorem zdU (hx : x.Ok) : (wears0 x).length ≤ 81 := Nat.le_trans (zeE _ _ _ fun y hy => (hx.key y hy).2.2) (Nat.pow_le_pow_right (n := 3) (j := 4) (by omega) hx.keys)
theorem zhU (l : List (List Int)) : ∀ y ∈ l.zipIdx, y.2 < l.length := fun y hy => by
 have := List.snd_lt_of_mem_zipIdx (x := y) (l := l) (k := 0) hy;simpa using this
theorem ze2 (l : List (List Int)) : (l.zipIdx.map (·.2)).Nodup := by
 rw [List.zipIdx_map_snd]; exact List.nodup_range'
theorem zix {l : List (List Int)} (h : l.Nodup) : (l.zipIdx.map (·.1)).Nodup := by
 rw [List.zipIdx_map_fst]; exact h
theorem zdA {l : List (List Int)} {y : List Int × Nat} (h : y ∈ l.zipIdx) : y.1 ∈ l := by
 have : y.1 ∈ l.zipIdx.map (·.1) := List.mem_map.2 ⟨y, h, rfl⟩;rwa [List.zipIdx_map_fst] at this
end
open Go.Conc
theorem zcA {α β : Type} [DecidableEq β] (f : α → β) : ∀ {l : List α} {i : Nat} {a : α}, (l.map f).Nodup → l[i]? = some a → l.eraseIdx i = l.filter fun z => decide (f z ≠ f a)
 | [], _, _, _, h => by simp at h
 | z :: l, 0, a, hn, h => by
  simp at h; subst h;simp only [List.map_cons, List.nodup_cons] at hn;rw [List.eraseIdx_cons_zero, List.filter_cons_of_neg (by simp)];symm;rw [List.filter_eq_self];intro w hw;have : f w ≠ f z := fun e => hn.1 (List.mem_map.2 ⟨w, hw, e⟩);simpa using this
 | z :: l, i + 1, a, hn, h => by
  simp only [List.map_cons, List.nodup_cons] at hn;have h' : l[i]? = some a := by simpa using h
  have hne : f z ≠ f a := fun e => hn.1 (List.mem_map.2 ⟨a, List.mem_of_getElem? h', e.symm⟩);rw [List.eraseIdx_cons_succ, List.filter_cons_of_pos (by simpa using hne), zcA f hn.2 h']
theorem zgK {x : List Int} : ∀ {ts : List (List Int × Nat)} {j : Nat}, (∃ y ∈ ts, y.1 = x) → ∃ i v, findM x ts j = some (i, v)
 | [], _, h => by obtain ⟨y, hy, _⟩ := h; cases hy
 | y :: ts, j, h => by
  rw [findM];by_cases e : (x == y.1) = true
  ·rw [if_pos e]; exact ⟨_, _, rfl⟩
  ·rw [if_neg e];refine zgK ?_;obtain ⟨z, hz, hzx⟩ := h;rcases List.mem_cons.1 hz with rfl | hz
   ·exact absurd (by simpa using hzx.symm) e
   ·exact ⟨z, hz, hzx⟩
def currM (ts : List (List Int × Nat)) (fit : List Int → Bool) (bs : List Nat) : List (List Int × Nat) := ts.filter fun y => !bs.contains y.2 || fit y.1
section
variable {ts : List (List Int × Nat)} {fit : List Int → Bool} {bs : List Nat}
theorem zk1 : currM ts fit [] = ts := by
 unfold currM;rw [List.filter_eq_self]; simp
theorem zeN : currM ts fit bs ⊆ ts := fun _ h => (List.mem_filter.1 h).1
theorem zdo {α β : Type} {f : α → β} : ∀ {l : List α}, (l.map f).Nodup → ∀ a ∈ l, ∀ b ∈ l, f a = f b → a = b
 | [], _, _, h, _, _, _ => by cases h
 | z :: l, hn, a, ha, b, hb, e => by
  simp only [List.map_cons, List.nodup_cons] at hn;rcases List.mem_cons.1 ha with h1 | h1 <;> rcases List.mem_cons.1 hb with h2 | h2
  ·rw [h1, h2]
  ·subst h1; exact (hn.1 (List.mem_map.2 ⟨b, h2, e.symm⟩)).elim
  ·subst h2; exact (hn.1 (List.mem_map.2 ⟨a, h1, e⟩)).elim
  ·exact zdo hn.2 a h1 b h2 e
theorem zk2 (hb : (ts.map (·.2)).Nodup) {y : List Int × Nat} (hy : y ∈ ts) (hf : fit y.1 = true) : currM ts fit (bs ++ [y.2]) = currM ts fit bs := by
 unfold currM;refine List.filter_congr fun z hz => ?_;by_cases e : z.2 = y.2
 ·have := zdo hb z hz y hy e;subst this;simp [hf]
 ·simp [e]
theorem zk4 (hb : (ts.map (·.2)).Nodup) (hk : (ts.map (·.1)).Nodup) {y : List Int × Nat} (hy : y ∈ ts) (hf : fit y.1 = false) (hbs : y.2 ∉ bs) :
  ∃ i v, findM y.1 (currM ts fit bs) 0 = some (i, v) ∧ i < (currM ts fit bs).length ∧ (currM ts fit bs).eraseIdx i = currM ts fit (bs ++ [y.2]) := by
 have hym : y ∈ currM ts fit bs := List.mem_filter.2 ⟨hy, by simp [hbs]⟩;obtain ⟨i, v, h⟩ := zgK (x := y.1) (ts := currM ts fit bs) (j := 0) ⟨y, hym, rfl⟩;obtain ⟨b, _, h2, _⟩ := zfe h;rw [Nat.sub_zero] at h2;refine ⟨i, v, h, (List.getElem?_eq_some_iff.1 h2).1, ?_⟩;have hn : ((currM ts fit bs).map (·.1)).Nodup := List.Sublist.nodup (List.Sublist.map _ List.filter_sublist) hk;rw [zcA (·.1) hn h2];unfold currM;rw [List.filter_filter];refine List.filter_congr fun z hz => ?_;by_cases e : z.1 = y.1
 ·have := zdo hk z hz y hy e;subst this;simp [hf]
 ·have e2 : z.2 ≠ y.2 := fun e2 => e (by rw [zdo hb z hz y hy e2]);simp [e, e2]
theorem zk5 (h : ∀ y ∈ ts, y.2 ∈ bs) : currM ts fit bs = ts.filter fun y => fit y.1 := by
 unfold currM;refine List.filter_congr fun z hz => ?_;simp [h z hz]
end
theorem zfo (x : Ring) (but : List Int) : truthsTo x but 0 = (wears0 x).zipIdx := by
 unfold truthsTo;rw [List.filter_eq_self]; simp [okTo]
theorem zdc {x : Ring} {but : List Int} {i : Nat} {r : Try} (h : x.tries[i]? = some r) : truthsTo x but (i + 1) = (truthsTo x but i).filter fun y => but.contains (i : Int) || triedM x y.1 r := by
 unfold truthsTo;rw [List.filter_filter];refine List.filter_congr fun z _ => ?_;simp only [okTo, h];rw [Bool.and_comm]
theorem zbk (x : Ring) (but : List Int) (i : Nat) : (truthsTo x but i).Sublist (wears0 x).zipIdx := List.filter_sublist
open Go.Conc Go.Proofs
theorem F.u132 : Tryz.prog.underlying 132 = some (.array 4 3) := by kernel_rfl
theorem F.u3 : Tryz.prog.underlying 3 = some (.int .i64) := by kernel_rfl
theorem F.i3 : ∃ i, Tryz.prog.info? 3 = some i ∧ i.size = 1 := by
 obtain ⟨i, h1, h2⟩ := Option.map_eq_some_iff.1 (show (Tryz.prog.info? 3).map (·.size) = some 1 by kernel_rfl);exact ⟨i, h1, h2⟩
theorem zgJ {x : List Int} : ∀ {ts : List (List Int × Nat)} {j : Nat}, (∀ y ∈ ts, y.1 ≠ x) → findM x ts j = none
 | [], _, _ => rfl
 | y :: ts, j, h => by
  rw [findM, if_neg (by simpa using fun e => h y (List.mem_cons_self ..) e.symm)];exact zgJ fun z hz => h z (List.mem_cons_of_mem _ hz)
theorem zec {H L : List AObj} {o o' : AObj} (h : HOk (H ++ o :: L)) (ho : ∀ n, OLt n o') : HOk (H ++ o' :: L) := by
 have hl : (H ++ o' :: L).length = (H ++ o :: L).length := by simp
 intro z hz;rw [hl];rcases List.mem_append.1 hz with h' | h'
 ·exact h z (List.mem_append_left _ h')
 ·rcases List.mem_cons.1 h' with rfl | h'
  ·exact ho _
  ·exact h z (List.mem_append_right _ (List.mem_cons_of_mem _ h'))
theorem olt_swap {H L : List AObj} {o o' : AObj} {m : Nat} (h : ∀ z ∈ H ++ o :: L, OLt m z) (ho : ∀ n, OLt n o') : ∀ z ∈ H ++ o' :: L, OLt m z := by
 intro z hz;rcases List.mem_append.1 hz with h' | h'
 ·exact h z (List.mem_append_left _ h')
 ·rcases List.mem_cons.1 h' with rfl | h'
  ·exact ho _
  ·exact h z (List.mem_append_right _ (List.mem_cons_of_mem _ h'))
theorem zhv (ts : List (List Int × Nat)) (ck n : Nat) : OLt n (setObj ts ck) := trivial
theorem zaL (ts : List (List Int × Nat)) (ck : Nat) : setObj ts ck = .obj (.map (ts.map setEntry).toArray ck) := rfl
theorem zhi (σ : List (List Int)) (t : List Int) : setObj (σ ++ [t]).zipIdx (σ ++ [t]).length = .obj (.map ((σ.zipIdx ++ [(t, σ.length)]).map setEntry).toArray (σ.length + 1)) := by
 rw [List.zipIdx_append, List.length_append]; simp [setObj]
section
variable {lv : Bool} {H : List AObj} {k kp : AV → List AObj → Prop}
def trObjs (H : List AObj) (x : Ring) (l fn : Nat) (st : LoopState) (T : List (Nat × AV)) (ps : Array Tmp) (asg body : Code) (ts : List (List Int × Nat)) (ck : Nat) : List AObj := [setObj ts ck, .cells [.mp H.length] 118, .cells [.rp (x.l ++ opensL x)] 100, .obj (.deferred (some [])), .loop l st none fn T 73 ps asg body (H.length + 3)]
theorem f129_c {x : Ring} {but : List Int} {e : End} (hx : x.Ok) (hb : but.length < 2 ^ 30) (hk : k (.mp H.length) (H ++ [setObj (truthsM x but) (wears0 x).length])) : FnC lv Tryz.prog 129 H [.rp (x.l ++ opensL x), .sl but.length (but.map iv) e] k kp := by
 refine zjj (rs := [.tmp 4]) (nt := 73) F.f129 rfl rfl rfl (by simp) fun hH hA => ?_;simp only [argsT, Nat.reduceAdd];refine zeS ?_;refine zl5 ?_;simp only [push_cast, seval];refine zhS ?_;refine zeS ?_;refine zl5 ?_;simp only [push_cast, seval];refine zis ?_;refine zeS ?_;refine zl5 ?_;simp only [push_cast, seval];refine zl6 ((f159_c ?_));(try simp only [push_cast, seval]);refine zjz ?_;refine zjy (by rfl) fun l fn => ?_;(try simp only [push_cast, seval]);obtain ⟨i3, hi3, hs3⟩ := F.i3;refine zad (by kernel_rfl) (f167_c (x := x) (os := opensL x) (ir := H.length + 2) (N := H.length + 5) (Gf := fun σ => H ++ [setObj σ.zipIdx σ.length, .cells [.mp H.length] 118, .cells [.rp (x.l ++ opensL x)] 100, .obj (.deferred (some [])), .loop l .ready none fn _ 73 #[16] _ _ (H.length + 3)]) hx rfl (fun σ => by simp) (fun σ M => ?_) (fun σ t M k kp ht hpre hk => ?_) (fun m σ σ' h1 z hz => ?_) rfl rfl ?_)
 ·rw [List.append_assoc, zbD]; rfl
 ·
  have hget : ∀ (L : List AObj) i, (H ++ L)[H.length + i]? = L[i]? := fun L i => zbD H L i;refine zhM (id := H.length + 4) (by rw [List.append_assoc, zbD]; rfl) rfl (by kernel_rfl) fun hHk hAk => ?_;simp only [zipT];(repeat apply zaa);refine zl5 ?_;simp only [push_cast, seval];refine ⟨ht, by omega, ?_⟩;unfold RoundB;refine ⟨none, fn, _, 73, #[16], _, _, _, by rw [zbD]; rfl, ?_⟩;dsimp only;rw [zcT];simp only [List.set_cons_succ, List.set_cons_zero];have hk4 : (t.map iv).length = 4 := by simp [ht]
  have hse : setObj σ.zipIdx σ.length = .obj (.map (σ.zipIdx.map setEntry).toArray σ.length) := rfl;(repeat apply zaa);refine zag ?_;(repeat apply zaa);refine zl5 ?_;simp only [push_cast, seval, hk4, ht, hse];rw [List.take_of_length_le (i := 4) (l := t.map iv) (by omega)];have hnd : (σ ++ [t]).Nodup := List.Sublist.nodup hpre.sublist (zdT hx);have hnt : ∀ y ∈ σ.zipIdx, y.1 ≠ t := fun y hy e => by
   have hm := zdA hy;rw [e] at hm;exact (List.nodup_append.1 hnd).2.2 t hm t (by simp) rfl
  have hσ4 : ∀ y ∈ σ.zipIdx, y.1.length = 4 := fun y hy => zdD hx _ (hpre.subset (List.mem_append_left _ (zdA hy)));have hfind := zdW (ts := σ.zipIdx) F.u132 F.u3 hi3 hs3 ht hσ4;rw [zgJ hnt] at hfind;refine zbs (zd8 t) (zbs rfl ⟨zcR F.u132 F.u3 hi3 hs3 ht, none, hfind, by simp, ?_⟩);unfold RoundE;refine ⟨_, _, _, _, _, _, _, _, _, _, by rw [zbD]; rfl, ?_⟩;dsimp only;rw [zcT];simp only [List.set_cons_succ, List.set_cons_zero];rw [zgp, ← zhi];dsimp only at hk hHk;refine zaJ (G := [.cells (t.map iv) 132]) (Wk.refl _) ?_ ?_ ?_ (.val _) hk
  ·simp
  ·simp
  ·rw [List.append_assoc] at hHk ⊢;exact zec hHk (zhv _ _)
 ·exact olt_swap h1 (zhv _ _) z hz
 ·
  refine ⟨.ready, none, _, _, _, _, _, _, _, by rw [Nat.add_assoc, zbD]; rfl, by simp, ?_⟩;rw [Nat.add_assoc, zcT];simp only [List.set_cons_succ, List.set_cons_zero];unfold PendQ;(try simp only [push_cast, seval]);refine zle ?_;have hb2 := zdU hx;rw [show growM x.keys 0 [0, 0, 0, 0] = wears0 x from rfl];have hlk : x.l ++ opensL x = iv x.cuts :: aKeys x.keys :: aLocks x.locks :: aTries x.tries :: opensL x := rfl;(repeat apply zaa);refine zbQ ?_;simp only [push_cast, seval];(repeat apply zaa);refine zl5 ?_;simp only [push_cast, seval, hlk, aTries];(repeat apply zaa);refine zag ?_;refine zaB x.tries.length (fun i : Nat => [(25, iv i)]) (fun i => H ++ [setObj (truthsTo x but i) (wears0 x).length, .cells [.mp H.length] 118, .cells [.rp (x.l ++ opensL x)] 100, .obj (.deferred (some [])), .gone]) (fun i => True) (fun _ _ => rfl) (by simp only [push_cast, seval, List.forall_mem_cons, List.not_mem_nil, false_imp_iff, implies_true, List.forall_mem_nil]; simp [zaf, Wk.refl]) (by simp only [zfo]; rfl) (fun _ _ _ => by simp) trivial (fun hHs hLt i hin hi R hR => ?_);(repeat apply zaa);refine zl5 ?_;simp only [push_cast, seval];(repeat apply zaa);refine zae ?_;simp only [push_cast, seval];refine ⟨fun h => ?_, fun h => ?_⟩
  ·have hHf : ∀ ts, HOk (H ++ [setObj ts (wears0 x).length, .cells [.mp H.length] 118, .cells [.rp (x.l ++ opensL x)] 100, .obj (.deferred (some [])), .gone]) := fun ts => zec hHs (zhv _ _);have hil : i < x.tries.length := (by omega);obtain ⟨r, hr⟩ := zaE hil;have hrt := hx.tried r (zas hr);obtain ⟨rk, rl, ro⟩ := r;simp only at hrt;obtain ⟨kn, rfl⟩ : ∃ n : Nat, rk = n := ⟨rk.toNat, by omega⟩;obtain ⟨ln, rfl⟩ : ∃ n : Nat, rl = n := ⟨rl.toNat, by omega⟩;have hkn : kn < 4 := (by have := hx.keys; omega);have hln : ln < 4 := (by have := hx.locks; omega);(repeat apply zaa);refine zah ?_;simp only [push_cast, seval];(repeat apply zaa);refine zag ?_;(repeat apply zaa);refine zl5 ?_;simp only [push_cast, seval, zh6 hr, zaz hil];(repeat apply zaa);refine zl5 ?_;simp only [push_cast, seval];(repeat apply zaa);refine zag ?_;refine zaB but.length (fun j : Nat => [(32, iv j)]) (fun _ => _) (fun j => ∀ q, q < j → but[q]? ≠ some (i : Int)) (fun _ _ => rfl) (by simp only [push_cast, seval, List.forall_mem_cons, List.not_mem_nil, false_imp_iff, implies_true, List.forall_mem_nil]; simp [zaf, Wk.refl]) rfl (fun _ _ _ => rfl) (fun q hq => by omega) (fun hHs2 hLt2 j hjn hj R2 hR2 => ?_);(repeat apply zaa);refine zl5 ?_;simp only [push_cast, seval];(repeat apply zaa);refine zae ?_;simp only [push_cast, seval];refine ⟨fun h2 => ?_, fun h2 => ?_⟩
   ·
    have hjl : j < but.length := (by omega);obtain ⟨w, hw⟩ := zaE hjl;(repeat apply zaa);refine zah ?_;simp only [push_cast, seval];(repeat apply zaa);refine zag ?_;(repeat apply zaa);refine zl5 ?_;simp only [push_cast, seval, za2 hw, zaz hjl];(repeat apply zaa);refine zl5 ?_;simp only [push_cast, seval];(repeat apply zaa);refine zae ?_;simp only [push_cast, seval];refine ⟨fun h3 => ?_, fun h3 => ?_⟩
    ·
     (repeat apply zaa);refine zaq ?_;simp only [push_cast, seval];have hi1 : IntKind.i64.wrap ((i : Int) + 1) = ((i + 1 : Nat) : Int) := (by have := hx.tries; rw [zau _ (by omega)]; rfl);(repeat apply zaa);refine zl5 ?_;simp only [push_cast, seval, hi1];have hwi : w = (i : Int) := (by simpa using h3);have hcon : but.contains (i : Int) = true := (by rw [← hwi]; simpa using zas hw);have heq : truthsTo x but (i + 1) = truthsTo x but i := by
      rw [zdc hr, List.filter_eq_self];intro y _;simp only [hcon, Bool.true_or]
     refine hR _ ⟨hil, trivial, ?_⟩;rw [heq];have hHs := hHf (truthsTo x but i);exact (by first | exact zaS (zam rfl rfl) (by simp only [push_cast, seval]; simp [zaf, Wk.refl]) hHs (by simp [zap]) | exact zat (zam rfl rfl) (by simp only [push_cast, seval]; simp [zaf, Wk.refl]) hHs (by simp [zap]))
    ·(repeat apply zaa);refine zah ?_;simp only [push_cast, seval];have hj1 : IntKind.i64.wrap ((j : Int) + 1) = ((j + 1 : Nat) : Int) := (by rw [zau _ (by omega)]; rfl);(repeat apply zaa);refine zl5 ?_;simp only [push_cast, seval, hj1];refine hR2 _ ⟨hjl, fun q hq => ?_, ?_⟩
     ·by_cases e : q = j
      ·subst e;rw [hw];have : ¬ w = (i : Int) := (by simpa using h3);simpa using this
      ·exact hj q (by omega)
     ·exact (zax (zam rfl rfl) (by simp only [push_cast, seval]; simp [zaf, Wk.refl]))
   ·
    have hnc : but.contains (i : Int) = false := by
     have hjn' : j = but.length := (by omega);subst hjn';apply Bool.eq_false_iff.2;intro hc;obtain ⟨q, hq⟩ := List.mem_iff_getElem?.1 (by simpa using hc);exact hj q (get_lt hq) hq
    (repeat apply zaa);refine zaq ?_;simp only [push_cast, seval];(repeat apply zaa);refine zl5 ?_;simp only [push_cast, seval];refine zl6 ((f122_c ?_));(try simp only [push_cast, seval]);let ts := truthsTo x but i;let fit : List Int → Bool := fun t => triedM x t ⟨kn, ln, ro⟩;have hsub := zbk x but i;have hborn : ∀ y ∈ ts, y.2 < (wears0 x).length := fun y hy => zhU _ y (hsub.subset hy);have hnd2 : (ts.map (·.2)).Nodup := List.Sublist.nodup (hsub.map _) (ze2 _);have hnd1 : (ts.map (·.1)).Nodup := List.Sublist.nodup (hsub.map _) (zix (zdT hx));have h4r : ∀ y ∈ ts, y.1.length = 4 ∧ ∀ w ∈ y.1, 0 ≤ w ∧ w ≤ 2 := fun y hy => ⟨zdD hx _ (zdA (hsub.subset hy)), zf4 hx _ (zdA (hsub.subset hy))⟩;have hokV : ∀ ts' sn, HOk (H ++ [setObj ts' (wears0 x).length, .cells [.mp H.length] 118, .cells [.rp (x.l ++ opensL x)] 100, .obj (.deferred (some [])), .gone, .cells [iv kn, iv ln, bv ro] 28, .iter H.length (wears0 x).length sn (wears0 x).length]) := by
     intro ts' sn z hz;have hl : ∀ o1 o2 o3 o4 o5 o6 o7 : AObj, (H ++ [o1, o2, o3, o4, o5, o6, o7]).length = H.length + 7 := fun _ _ _ _ _ _ _ => (by simp);rw [hl];rcases List.mem_append.1 hz with h' | h'
     ·exact (hH z h').mono (by omega)
     ·simp only [List.mem_cons, List.not_mem_nil, or_false] at h';rcases h' with rfl | rfl | rfl | rfl | rfl | rfl | rfl
      ·trivial
      ·intro a ha; simp at ha; subst ha; exact .mp (by omega)
      ·intro a ha; simp at ha; subst ha; rw [zfB]; trivial
      ·trivial
      ·trivial
      ·intro a ha; simp at ha; rcases ha with rfl | rfl | rfl <;> exact .val _
      ·show H.length < _; omega
    (repeat apply zaa);refine zl5 ?_;simp only [push_cast, seval, zaL];(repeat apply zaa);refine zag ?_;refine za9 (measure fun vs : List (List Int × Nat) => ts.length - vs.length).wf (fun vs => []) (fun vs => H ++ [setObj (currM ts fit (vs.map (·.2))) (wears0 x).length, .cells [.mp H.length] 118, .cells [.rp (x.l ++ opensL x)] 100, .obj (.deferred (some [])), .gone, .cells [iv kn, iv ln, bv ro] 28, .iter H.length (wears0 x).length (vs.map (·.2)).toArray (wears0 x).length]) (fun vs => (vs.map (·.2)).Nodup ∧ ∀ y ∈ vs, y ∈ ts) [] (fun _ _ => rfl) (by simp) (by simp only [List.map_nil, zk1]; rfl) (fun _ _ => by simp) ⟨by simp, by simp⟩ (fun hHs3 hLt3 vs hok R3 hR3 => ?_);have hcb : ∀ y ∈ currM ts fit (vs.map (·.2)), y.2 < (wears0 x).length := fun y hy => hborn y (zeN hy);have hall := zcO (currM ts fit (vs.map (·.2))) _ hcb;(repeat apply zaa);refine zl5 ?_;simp only [push_cast, seval, zaL];refine ⟨hall.elim .inl (fun h => .inr (.inl h)), fun e he hn => ?_, fun hs => ?_⟩
    ·obtain ⟨y, hy, rfl⟩ : ∃ y ∈ currM ts fit (vs.map (·.2)), setEntry y = e := (by simpa using he);have hyts : y ∈ ts := zeN hy;(repeat apply zaa);refine zae ?_;simp only [push_cast, seval];(repeat apply zaa);refine zah ?_;simp only [push_cast, seval];(repeat apply zaa);refine zag ?_;obtain ⟨h41, h42⟩ := h4r y hyts;have hlen : (y.1.map iv).length = 4 := (by simp [h41]);have hdrop : List.drop 4 [AV.val (Value.int IntKind.i64 0), AV.val (Value.int IntKind.i64 0), AV.val (Value.int IntKind.i64 0), AV.val (Value.int IntKind.i64 0)] = [] := rfl;have hbe : (setEntry y).born = y.2 := rfl;have hcn2 : ((currM ts fit (vs.map (·.2))).map (·.2)).Nodup := List.Sublist.nodup (List.filter_sublist.map _) hnd2;(repeat apply zaa);refine zl5 ?_;simp only [push_cast, seval, zaL, Array.back?_push, hbe, zcL hcn2 hy, zb7, h41, hlen, hdrop];obtain ⟨w, hw⟩ := zaE (xs := y.1) (i := kn) (by omega);have hwb := h42 w (zas hw);obtain ⟨wn, rfl⟩ : ∃ n : Nat, w = n := ⟨w.toNat, by omega⟩;have b4 : (0 ≤ (kn : Int) ∧ (kn : Int) < 4) = True := (by simp; omega);have b3 : (0 ≤ (wn : Int) ∧ (wn : Int) < 3) = True := (by simp; omega);have hm : opensM x kn wn < 256 := by
      unfold opensM;split
      ·exact u8_of (zb5 _ _ _ _) (by have := hx.locks; omega)
      ·decide
     (repeat apply zaa);refine zaT F.mixed 18 (by kernel_rfl) ?_;simp only [push_cast, seval, b4, b3, zbf hw, zcH x hkn, zb0 x hkn (show wn < 3 by omega), zfz, List.mapM_cons, List.mapM_nil, Option.pure_def, Option.bind_eq_bind];refine qInv (bv ((opensM x kn wn).testBit ln == ro)) (zii hm ⟨rfl, rfl⟩) ?_;(try simp only [push_cast, seval]);have hget : y.1.getD kn 0 = (wn : Int) := (by rw [List.getD_eq_getElem?_getD, hw]; rfl);have hfit : fit y.1 = ((opensM x kn wn).testBit ln == ro) := by
      show triedM x y.1 ⟨kn, ln, ro⟩ = _;simp only [triedM, Int.toNat_natCast, hget]
     have hyn : y.2 ∉ vs.map (·.2) := (by simpa [setEntry] using hn);have hpush : ((vs.map (·.2)).toArray.push y.2) = ((vs ++ [y]).map (·.2)).toArray := (by simp);have hmapa : (vs ++ [y]).map (·.2) = vs.map (·.2) ++ [y.2] := (by simp);have hok' : ((vs ++ [y]).map (·.2)).Nodup ∧ ∀ z ∈ vs ++ [y], z ∈ ts := by
      refine ⟨?_, fun z hz => ?_⟩
      ·rw [hmapa, List.nodup_append];refine ⟨hok.1, by simp, fun a ha b hb => ?_⟩;simp at hb; subst hb;intro e; subst e; exact hyn ha
      ·rcases List.mem_append.1 hz with h | h
       ·exact hok.2 z h
       ·rw [List.mem_singleton.1 h]; exact hyts
     have hvlen : vs.length < ts.length := by
      have h1 : (vs ++ [y]).Nodup := zbo _ hok'.1;have := h1.length_le_of_subset hok'.2;simp at this; omega
     have hrel : ts.length - (vs ++ [y]).length < ts.length - vs.length := (by simp; omega);(repeat apply zaa);refine zae ?_;simp only [push_cast, seval];refine ⟨fun h5 => ?_, fun h5 => ?_⟩
     ·have hf : fit y.1 = false := (by rw [hfit]; simpa using h5);(repeat apply zaa);refine zl5 ?_;simp only [push_cast, seval, zaL, hlen];rw [List.take_of_length_le (i := 4) (l := y.1.map iv) (by omega)];obtain ⟨di, dv, hfd, hdl, hde⟩ := zk4 hnd2 hnd1 hyts hf hyn;have hfind := zdW (ts := currM ts fit (vs.map (·.2))) F.u132 F.u3 hi3 hs3 h41 (fun z hz => (h4r z (zeN hz)).1);rw [hfd] at hfind;refine zbs (zd8 y.1) ⟨zcR F.u132 F.u3 hi3 hs3 h41, _, hfind, ?_⟩;rw [zgQ hdl, hde, ← hmapa, ← zaL, hpush];refine hR3 _ ⟨vs ++ [y], hrel, hok', ?_⟩;exact (by first | exact zaS (zam rfl rfl) (by simp) (hokV _ _) (by simp) | exact zat (zam rfl rfl) (by simp) (hokV _ _) (by simp))
     ·have hf : fit y.1 = true := (by rw [hfit]; simpa using h5);(repeat apply zaa);refine zah ?_;simp only [push_cast, seval];rw [hpush];have hce : currM ts fit (vs.map (·.2)) = currM ts fit ((vs ++ [y]).map (·.2)) := (by rw [hmapa, zk2 hnd2 hyts hf]);rw [← zaL, hce];refine hR3 _ ⟨vs ++ [y], hrel, hok', ?_⟩;exact (by first | exact zaS (zam rfl rfl) (by simp) (hokV _ _) (by simp) | exact zat (zam rfl rfl) (by simp) (hokV _ _) (by simp))
    ·
     have hseen : ∀ y ∈ ts, y.2 ∈ vs.map (·.2) := fun y hy => by
      apply Classical.byContradiction;intro hn;have hm : y ∈ currM ts fit (vs.map (·.2)) := List.mem_filter.2 ⟨hy, by simp only [List.contains_eq_mem, hn, decide_false, Bool.not_false, Bool.true_or]⟩;have := hs (setEntry y) (by simpa using ⟨y.1, y.2, hm, rfl⟩) (hborn y hy);exact hn (by simpa [setEntry] using this)
     have hcur : currM ts fit (vs.map (·.2)) = truthsTo x but (i + 1) := by
      rw [zk5 hseen, zdc hr];simp only [hnc, Bool.false_or];rfl
     (repeat apply zaa);refine zae ?_;simp only [push_cast, seval];(repeat apply zaa);refine zaq ?_;simp only [push_cast, seval];have hi1 : IntKind.i64.wrap ((i : Int) + 1) = ((i + 1 : Nat) : Int) := (by have := hx.tries; rw [zau _ (by omega)]; rfl);(repeat apply zaa);refine zl5 ?_;simp only [push_cast, seval, hi1];rw [← zaL, hcur];refine hR _ ⟨hil, trivial, ?_⟩;have hHs := hHf (truthsTo x but (i + 1));exact (by first | exact zaS (zam rfl rfl) (by simp only [push_cast, seval]; simp [zaf, Wk.refl]) hHs (by simp [zap]) | exact zat (zam rfl rfl) (by simp only [push_cast, seval]; simp [zaf, Wk.refl]) hHs (by simp [zap]))
  ·have hie : i = x.tries.length := (by omega);subst hie;(repeat apply zaa);refine zaq ?_;simp only [push_cast, seval];(repeat apply zaa);refine zl5 ?_;simp only [push_cast, seval];(repeat apply zaa);refine zai ?_;simp only [push_cast, seval];rw [zjg (by rw [zbD]; rfl), zgF, zcT];refine zbs rfl ?_;simp only [List.set_cons_succ, List.set_cons_zero];refine zaJ (H' := H ++ [setObj (truthsM x but) (wears0 x).length]) (G := [.cells [.mp H.length] 118, .cells [.rp (x.l ++ opensL x)] 100, .gone, .gone]) (Wk.refl _) (by simp [truthsM]) (by simp) ?_ (.mp (by simp)) hk;intro z hz;rcases List.mem_append.1 hz with h' | h'
   ·exact (hH z h').mono (by simp)
   ·rw [List.mem_singleton.1 h']; trivial
end
open Go.Conc Go.Proofs
def openingE (x : Ring) (fl : Option Int) : Int := if openE x fl ≠ 0 then openE x fl else if truthsM x [] = [] then 11 else 0
theorem zaP {x : Ring} {fl : Option Int} : openingE x fl = 0 ↔ openE x fl = 0 ∧ truthsM x [] ≠ [] := by
 unfold openingE;split
 ·simp_all
 ·split <;> simp_all
theorem zbp {x : Ring} {fl : Option Int} (h : openE x fl = 0) : x.Ok := zbH.1 (zaN.1 h).1
def verdictM (n all : Nat) : Int := if n = 0 then 2 else if n = all then 1 else 3
theorem zbl {x : Ring} (hx : x.Ok) (but : List Int) : (truthsM x but).length ≤ 81 := by
 have h1 := (zbk x but x.tries.length).length_le;have h2 := zdU hx;have h3 : (wears0 x).zipIdx.length = (wears0 x).length := by simp
 show (truthsTo x but x.tries.length).length ≤ 81;omega
def wornFl (x : Ring) (n w : Int) : Option Int := if inM n 0 (x.keys.length - 1) then (if inM w 0 2 then none else some 4) else some 0
def opensFl (x : Ring) (n w : Int) : Option Int := if inM n 0 (x.keys.length - 1) then (if inM w 0 (x.locks.length - 1) then none else some 1) else some 0
theorem hok_put {H H' L : List AObj} (h1 : HOk H') (hl : H'.length = H.length) (h : HOk (H ++ L)) : HOk (H' ++ L) := fun z hz => by
 have e : (H' ++ L).length = (H ++ L).length := by simp [hl]
 rw [e];rcases List.mem_append.1 hz with h' | h'
 ·exact (h1 z h').mono (by simp [hl])
 ·exact h z (List.mem_append_right _ h')
theorem aLen_mp (P : Program) (T : List (Nat × AV)) (H : List AObj) {t : TypeId} (id : Nat) (k : AV → Prop) (h : LenOf P t = some .map) : ALen P ⟨T, H⟩ t (.mp id) k = (match H[id]? with
  | some (.obj (.map es _)) => k (.val (.int .i64 es.size))
  | _ => False) := by unfold ALen; rw [h]; rfl
attribute [push_cast] aLen_mp
theorem zbm (x : Ring) (but : List Int) : ∀ y ∈ truthsM x but, y.2 < (wears0 x).length := fun y hy => zhU _ y ((zbk x but _).subset hy)
theorem zba (x : Ring) (but : List Int) : ((truthsM x but).map (·.2)).Nodup := List.Sublist.nodup ((zbk x but _).map _) (ze2 _)
theorem zbt {x : Ring} (hx : x.Ok) (but : List Int) : ∀ y ∈ truthsM x but, y.1.length = 4 ∧ ∀ w ∈ y.1, 0 ≤ w ∧ w ≤ 2 := fun y hy => ⟨zdD hx _ (zdA ((zbk x but _).subset hy)), zf4 hx _ (zdA ((zbk x but _).subset hy))⟩
theorem zbU {a lo hi : Int} : inM a lo hi = true ↔ lo ≤ a ∧ a ≤ hi := by simp [inM]
theorem zg4 {x : Ring} {n w : Int} : wornFl x n w = none ↔ (0 ≤ n ∧ n ≤ x.keys.length - 1) ∧ 0 ≤ w ∧ w ≤ 2 := by
 unfold wornFl;rw [← zbU, ← zbU];cases inM n 0 (x.keys.length - 1) <;> cases inM w 0 2 <;> simp
theorem zgu {x : Ring} {n w : Int} : opensFl x n w = none ↔ (0 ≤ n ∧ n ≤ x.keys.length - 1) ∧ 0 ≤ w ∧ w ≤ x.locks.length - 1 := by
 unfold opensFl;rw [← zbU, ← zbU];cases inM n 0 (x.keys.length - 1) <;> cases inM w 0 (x.locks.length - 1) <;> simp
section
variable {lv : Bool} {H : List AObj} {k kp : AV → List AObj → Prop}
theorem f99_t {H' : List AObj} {x : Ring} {ask : AV} {fl : Option Int} (hnr : NewRingC lv) (hmain : H'[0]? = some .main) (hl : H'.length = H.length) (hok : HOk H → HOk H') (hs : x.Small) (hask : AskT lv H H' ask fl) (h0 : checkM x ≠ 0 → k (.tup [.val (.pointer none), .val (.map none), iv (openingE x fl)]) H) (h1 : checkM x = 0 → openingE x fl ≠ 0 → k (.tup [.val (.pointer none), .val (.map none), iv (openingE x fl)]) H') (h2 : openingE x fl = 0 → k (.tup [.rp (x.l ++ opensL x), .mp (H.length + 1), iv 0]) (H' ++ [.cells x.l 26, setObj (truthsM x []) (wears0 x).length])) : FnC lv Tryz.prog 99 H [x.av, ask] k kp := by
 have hlL : ∀ L : List AObj, (H' ++ L).length = (H ++ L).length := fun L => by simp [hl]
 have hmn : ∀ L : List AObj, (H' ++ L)[0]? = some .main := fun L => by rw [List.getElem?_append_left (List.getElem?_eq_some_iff.1 hmain).1]; exact hmain
 refine zak (rs := [.tmp 4, .tmp 5, .tmp 6]) (nt := 26) F.f99 rfl rfl rfl (by simp) fun hH hA => ?_;simp only [argsT, Nat.reduceAdd, Ring.av];(repeat apply zaa);refine zl5 ?_;simp only [push_cast, seval, Ring.l];(repeat apply zaa);refine zl5 ?_;simp only [push_cast, seval];refine zl6 ((f87_t hnr (hmn _) (hlL _) (hok_put (hok hH) hl) hs (fun _ => hask.ext _) (fun hc => ?_) (fun hc hz => ?_) (fun hz => ?_)))
 ·(try simp only [push_cast, seval]);(repeat apply zaa);refine zl5 ?_;simp only [push_cast, seval];have hz : openE x fl ≠ 0 := fun e => hc (zaN.1 e).1;have he : openingE x fl = openE x fl := by unfold openingE; rw [if_pos hz]
  (repeat apply zaa);refine zae ?_;simp only [push_cast, seval];refine ⟨fun h => ?_, fun h => absurd (by simpa using h) hz⟩;(repeat apply zaa);refine zl5 ?_;simp only [push_cast, seval];(repeat apply zaa);refine zai ?_;simp only [push_cast, seval];exact endA hH (Wk.refl _) (by simp [zap, zaD]) (he ▸ h0 hc)
 ·(try simp only [push_cast, seval]);(repeat apply zaa);refine zl5 ?_;simp only [push_cast, seval];have he : openingE x fl = openE x fl := by unfold openingE; rw [if_pos hz]
  (repeat apply zaa);refine zae ?_;simp only [push_cast, seval];refine ⟨fun h => ?_, fun h => absurd (by simpa using h) hz⟩;(repeat apply zaa);refine zl5 ?_;simp only [push_cast, seval];(repeat apply zaa);refine zai ?_;simp only [push_cast, seval];have h1 := h1 hc (he ▸ hz);rw [he] at h1;rw [← hl];exact endA (hok hH) (Wk.refl _) (by simp [zap, zaD]) h1
 ·rw [← hl] at h2 ⊢;(try simp only [push_cast, seval]);(repeat apply zaa);refine zl5 ?_;simp only [push_cast, seval];have hx := zbp hz;have hlen : (truthsM x []).length ≤ 81 := zbl hx [];(repeat apply zaa);refine zae ?_;simp only [push_cast, seval];(repeat apply zaa);refine zah ?_;simp only [push_cast, seval];(repeat apply zaa);refine zl5 ?_;simp only [push_cast, seval];refine zl6 ((f129_c (but := []) (e := .exact) hx (by decide) ?_));(try simp only [push_cast, seval]);(repeat apply zaa);refine zl5 ?_;simp only [push_cast, seval, zaL];(repeat apply zaa);refine zae ?_;simp only [push_cast, seval];refine ⟨fun h => ?_, fun h => ?_⟩
  ·
   (repeat apply zaa);refine zl5 ?_;simp only [push_cast, seval];(repeat apply zaa);refine zai ?_;simp only [push_cast, seval];have he : truthsM x [] = [] := (by simpa using h);have ho : openingE x fl = 11 := (by unfold openingE; rw [if_neg (by simpa using hz), if_pos he]);refine zaJ (H' := H') (Wk.refl _) rfl (Nat.le_refl _) (hok hH) (by simp [zap, zaD]) (ho ▸ h1 (zaN.1 hz).1 (by rw [ho]; decide))
  ·
   (repeat apply zaa);refine zah ?_;simp only [push_cast, seval];(repeat apply zaa);refine zl5 ?_;simp only [push_cast, seval];(repeat apply zaa);refine zai ?_;simp only [push_cast, seval];have he : truthsM x [] ≠ [] := (by simpa using h);refine zao ?_;exact h2 (zaP.2 ⟨hz, he⟩)
theorem f99_c {x : Ring} {ask : AV} {fl : Option Int} (hnr : NewRingC lv) (hmain : H[0]? = some .main) (hs : x.Small) (hask : AskC lv H ask fl) (h1 : openingE x fl ≠ 0 → k (.tup [.val (.pointer none), .val (.map none), iv (openingE x fl)]) H) (h2 : openingE x fl = 0 → k (.tup [.rp (x.l ++ opensL x), .mp (H.length + 1), iv 0]) (H ++ [.cells x.l 26, setObj (truthsM x []) (wears0 x).length])) : FnC lv Tryz.prog 99 H [x.av, ask] k kp :=
 f99_t hnr hmain rfl id hs hask (fun hc => h1 fun e => hc (zaN.1 (zaP.1 e).1).1) (fun _ => h1) h2
theorem f101_c {n all : Nat} (hk : k (iv (verdictM n all)) H) : FnC lv Tryz.prog 101 H [iv n, iv all] k kp := by
 refine zak (rs := [.tmp 4]) (nt := 11) F.f101 rfl rfl rfl (by simp) fun hH hA => ?_;simp only [argsT, Nat.reduceAdd];(repeat apply zaa);refine zl5 ?_;simp only [push_cast, seval];(repeat apply zaa);refine zl5 ?_;simp only [push_cast, seval];(repeat apply zaa);refine zag ?_;(repeat apply zaa);refine zl5 ?_;simp only [push_cast, seval];(repeat apply zaa);refine zae ?_;simp only [push_cast, seval];refine ⟨fun h => ?_, fun h => ?_⟩
 ·(repeat apply zaa);refine zl5 ?_;simp only [push_cast, seval];(repeat apply zaa);refine zai ?_;simp only [push_cast, seval];have h : n = 0 := by simpa using h
  rw [verdictM, if_pos h] at hk;exact zao hk
 ·have h : n ≠ 0 := by simpa using h
  (repeat apply zaa);refine zl5 ?_;simp only [push_cast, seval];(repeat apply zaa);refine zae ?_;simp only [push_cast, seval];refine ⟨fun h2 => ?_, fun h2 => ?_⟩
  ·(repeat apply zaa);refine zl5 ?_;simp only [push_cast, seval];(repeat apply zaa);refine zai ?_;simp only [push_cast, seval];have h2 : n = all := Int.ofNat_inj.1 (by simpa using h2);rw [verdictM, if_neg h, if_pos h2] at hk;exact zao hk
  ·have h2 : n ≠ all := fun e => (by subst e; simp at h2);(repeat apply zaa);refine zah ?_;simp only [push_cast, seval];(repeat apply zaa);refine zl5 ?_;simp only [push_cast, seval];(repeat apply zaa);refine zai ?_;simp only [push_cast, seval];rw [verdictM, if_neg h, if_neg h2] at hk;exact zao hk
theorem f88_c {r i j : Nat} {x : Ring} {n w : Int} (hx : x.Small) (hr : H[r]? = some (.cells x.l 26)) (hi : H[i]? = some (.cells [iv n] 3)) (hj : H[j]? = some (.cells [iv w] 3)) (hk : wornFl x n w = none → k (.tup []) H) (hp : ∀ f, wornFl x n w = some f → kp (.ifc 106 (iv f)) H) : FnC lv Tryz.prog 88 H [.op r 0, .op i 0, .op j 0] k kp := by
 refine zak (rs := []) (nt := 10) F.f88 rfl rfl rfl (by simp) fun hH hA => ?_;simp only [argsT, Nat.reduceAdd];have hr2 := hr;rw [Ring.l] at hr2;(repeat apply zaa);refine zl5 ?_;simp only [push_cast, seval, hr2, hi];refine zl6 ((f89_c (x := x) ?_));(try simp only [push_cast, seval]);refine zl6 ((f152_c hx (by simp only [push_cast, seval] <;> rfl) (by simp only [push_cast, seval] <;> rfl) (fun hin => ?_) (fun hin => ?_)))
 ·(try simp only [push_cast, seval]);(repeat apply zaa);refine zl5 ?_;simp only [push_cast, seval, zay hj];refine zl6 ((f91_c ?_));(try simp only [push_cast, seval]);refine zl6 ((f90_c (fun h => ?_) (fun h => ?_)))
  ·have h : inM w 0 2 = true := (by simpa [inM] using h);exact zaJ (Wk.refl _) rfl (Nat.le_refl _) hH (by simp [zaD]) (hk (by rw [wornFl, if_pos hin, if_pos h]))
  ·have h : inM w 0 2 = false := (by simpa [inM] using h);exact zaJ (Wk.refl _) rfl (Nat.le_refl _) hH (by simp [zap, zey]) (hp 4 (by rw [wornFl, if_pos hin, h]; rfl))
 ·exact zaJ (Wk.refl _) rfl (Nat.le_refl _) hH (by simp [zap, zey]) (hp 0 (by rw [wornFl, hin]; rfl))
theorem f100_c {r i j : Nat} {x : Ring} {n w : Int} (hx : x.Small) (hr : H[r]? = some (.cells x.l 26)) (hi : H[i]? = some (.cells [iv n] 3)) (hj : H[j]? = some (.cells [iv w] 3)) (hk : opensFl x n w = none → k (.tup []) H) (hp : ∀ f, opensFl x n w = some f → kp (.ifc 106 (iv f)) H) : FnC lv Tryz.prog 100 H [.op r 0, .op i 0, .op j 0] k kp := by
 refine zak (rs := []) (nt := 14) F.f100 rfl rfl rfl (by simp) fun hH hA => ?_;simp only [argsT, Nat.reduceAdd];have hl := hx.locks;have hw : IntKind.i64.wrap ((x.locks.length : Int) - 1) = x.locks.length - 1 := zau _ (by omega);have hr2 := hr;rw [Ring.l] at hr2;(repeat apply zaa);refine zl5 ?_;simp only [push_cast, seval, hr2, hi];refine zl6 ((f89_c (x := x) ?_));(try simp only [push_cast, seval]);refine zl6 ((f152_c hx (by simp only [push_cast, seval] <;> rfl) (by simp only [push_cast, seval] <;> rfl) (fun hin => ?_) (fun hin => ?_)))
 ·(try simp only [push_cast, seval]);(repeat apply zaa);refine zl5 ?_;simp only [push_cast, seval, zay hj, zay hr2, hw, aLocks];refine zl6 ((f91_c ?_));(try simp only [push_cast, seval]);refine zl6 ((f90_c (fun h => ?_) (fun h => ?_)))
  ·have h : inM w 0 (x.locks.length - 1) = true := (by simpa [inM] using h);exact zaJ (Wk.refl _) rfl (Nat.le_refl _) hH (by simp [zaD]) (hk (by rw [opensFl, if_pos hin, if_pos h]))
  ·have h : inM w 0 (x.locks.length - 1) = false := (by simpa [inM] using h);exact zaJ (Wk.refl _) rfl (Nat.le_refl _) hH (by simp [zap, zey]) (hp 1 (by rw [opensFl, if_pos hin, h]; rfl))
 ·exact zaJ (Wk.refl _) rfl (Nat.le_refl _) hH (by simp [zap, zey]) (hp 0 (by rw [opensFl, hin]; rfl))
theorem ask_worn {r i j : Nat} {x : Ring} {n w : Int} (hx : x.Small) (hr : H[r]? = some (.cells x.l 26)) (hi : H[i]? = some (.cells [iv n] 3)) (hj : H[j]? = some (.cells [iv w] 3)) : AskC lv H (.fn (.func 88) [] [.op r 0, .op i 0, .op j 0]) (wornFl x n w) := fun L k kp h1 h2 =>
 zad (by kernel_rfl) (f88_c hx (zay hr) (zay hi) (zay hj) h1 h2)
theorem zlh {r i j : Nat} {x : Ring} {n w : Int} (hx : x.Small) (hr : H[r]? = some (.cells x.l 26)) (hi : H[i]? = some (.cells [iv n] 3)) (hj : H[j]? = some (.cells [iv w] 3)) : AskC lv H (.fn (.func 100) [] [.op r 0, .op i 0, .op j 0]) (opensFl x n w) := fun L k kp h1 h2 =>
 zad (by kernel_rfl) (f100_c hx (zay hr) (zay hi) (zay hj) h1 h2)
def wornOf (x : Ring) (n w : Nat) : List Int := match x.keys[n]? with
 | some y => (wornM w (depthsM y.cuts)).take x.cuts.toNat
 | none => []
theorem f94_o {id off n cap : Nat} {l : List AV} {el : TypeId} {xs : List Int} (hid : H[id]? = some (.cells l el)) (hn : n = xs.length) (hxs : (l.drop off).take n = xs.map iv) (hl : xs.length ≤ 2 ^ 30) (hk : k (aInts xs) H) : FnC lv Tryz.prog 94 H [.osl id off n cap] k kp := by
 refine zak (rs := [.tmp 2]) (nt := 8) F.f94 rfl rfl rfl (by simp) fun hH hA => ?_;simp only [argsT, Nat.reduceAdd];(repeat apply zaa);refine zl5 ?_;simp only [push_cast, seval];(repeat apply zaa);refine zl5 ?_;simp only [push_cast, seval];intro b hb;(repeat apply zaa);refine zae ?_;simp only [push_cast, seval];refine ⟨fun h => ?_, fun h => ?_⟩
 ·
  (repeat apply zaa);refine zl5 ?_;simp only [push_cast, seval];(repeat apply zaa);refine zai ?_;simp only [push_cast, seval];have : xs = [] := by
   cases xs with
   | nil => rfl
   | cons x xs => rw [hb (by simp [hn])] at h; cases h
  subst this;exact zaJ (H' := H) (G := []) (zaK _ _ _) (by simp) (Nat.le_refl _) hH (by simp [aInts, za3]) hk
 ·
  (repeat apply zaa);refine zah ?_;simp only [push_cast, seval];(repeat apply zaa);refine zl5 ?_;simp only [push_cast, seval, hid, hxs];subst hn;refine ⟨by simp, hl, ?_⟩;(repeat apply zaa);refine zai ?_;simp only [push_cast, seval];exact endA hH (zaK _ _ _) (by simp [← aInts.eq_1, zbi]) hk
theorem f30_c {x : Ring} {n w : Int} (hnr : NewRingC lv) (hmain : H[0]? = some .main) (hs : x.Small) (h1 : openE x (wornFl x n w) ≠ 0 → k (.tup [.sl 0 [] .exact, iv (openE x (wornFl x n w))]) H) (h2 : openE x (wornFl x n w) = 0 → k (.tup [aInts (wornOf x n.toNat w.toNat), iv 0]) H) : FnC lv Tryz.prog 30 H [x.av, iv n, iv w] k kp := by
 have hmn : ∀ L : List AObj, (H ++ L)[0]? = some .main := fun L => zay hmain;refine zak (rs := [.tmp 6, .tmp 7]) (nt := 39) F.f30 rfl rfl rfl (by simp) fun hH hA => ?_;simp only [argsT, Nat.reduceAdd, Ring.av];(repeat apply zaa);refine zl5 ?_;simp only [push_cast, seval, Ring.l];(repeat apply zaa);refine zl5 ?_;simp only [push_cast, seval, List.mapM_cons, List.mapM_nil, Option.pure_def, Option.bind_eq_bind];have hask : AskC lv (H ++ [.cells x.l 26, .cells [iv n] 3, .cells [iv w] 3]) _ (wornFl x n w) := ask_worn (r := H.length) (i := H.length + 1) (j := H.length + 2) hs (by simp only [push_cast, seval]) (by simp only [push_cast, seval]) (by simp only [push_cast, seval]);refine zl6 ((f87_c hnr (hmn _) hs hask (fun hz => ?_) (fun hz => ?_)))
 ·(try simp only [push_cast, seval]);(repeat apply zaa);refine zl5 ?_;simp only [push_cast, seval];(repeat apply zaa);refine zae ?_;simp only [push_cast, seval];refine ⟨fun h => ?_, fun h => absurd (by simpa using h) hz⟩;(repeat apply zaa);refine zl5 ?_;simp only [push_cast, seval];(repeat apply zaa);refine zai ?_;simp only [push_cast, seval];exact endA hH (Wk.refl _) (by simp [zap, zaD, zbh]) (h1 hz)
 ·(try simp only [push_cast, seval]);(repeat apply zaa);refine zl5 ?_;simp only [push_cast, seval];have hx := zbp hz;obtain ⟨hc, hfl⟩ := zaN.1 hz;obtain ⟨⟨hn0, hn1⟩, hw0, hw1⟩ := zg4.1 hfl;obtain ⟨kn, rfl⟩ : ∃ m : Nat, n = m := ⟨n.toNat, by omega⟩;have hkl : kn < x.keys.length := by omega
  obtain ⟨y, hy⟩ := zaE hkl;have hym := zas hy;have hds := zcm y.cuts;have hdl : ((depthsM y.cuts).map iv).length = 4 := by simp [hds]
  have hwl : ((wornM w (depthsM y.cuts)).map iv).length = 4 := by simp [wornM, hds]
  have hdrop : ([iv 0, iv 0, iv 0, iv 0] : List AV).drop 4 = [] := rfl;(repeat apply zaa);refine zae ?_;simp only [push_cast, seval];(repeat apply zaa);refine zah ?_;simp only [push_cast, seval];(repeat apply zaa);refine zbE [12, 13] [0, 1, 2, 3, 4, 5, 6, 7, 8, 9, 10, 11, 12, 13] [⟨0, false, [], [([12], [12])]⟩, ⟨1, false, [], [([12], [12])]⟩, ⟨2, false, [], [([12], [12])]⟩, ⟨3, false, [], [([12], [12])]⟩, ⟨4, false, [], [([12], [12])]⟩, ⟨5, false, [], [([12], [12])]⟩, ⟨6, false, [], [([12], [12])]⟩, ⟨7, false, [], [([12], [12])]⟩, ⟨8, false, [], [([12], [12])]⟩, ⟨9, false, [], [([12], [12])]⟩, ⟨10, false, [], [([12], [12])]⟩, ⟨11, false, [], [([12], [12])]⟩, ⟨12, true, [12], []⟩, ⟨13, true, [12, 13], []⟩] (fun D => bif isDone 13 D then H ++ [.cells x.l 26, .cells [iv kn] 3, .cells [iv w] 3, .cells ((wornM w (depthsM y.cuts)).map iv) 108] else bif isDone 12 D then H ++ [.cells x.l 26, .cells [iv kn] 3, .cells [iv w] 3, .cells [iv 0, iv 0, iv 0, iv 0] 108] else H ++ [.cells x.l 26, .cells [iv kn] 3, .cells [iv w] 3]) F.mixed (by kernel_rfl) (by kernel_rfl) (by first | rfl | simp only [push_cast, seval]) ?_;simp only [push_cast, seval, Ring.l, aKeys, zc2 hy, zaz hkl];refine qCall (.agg ((depthsM y.cuts).map iv)) (zad (by kernel_rfl) (f92_c ⟨rfl, rfl⟩)) ⟨qCall _ (zad (by kernel_rfl) (f92_c ⟨rfl, rfl⟩)) rfl, ?_⟩;have hdm := hx.depths hym;refine qCall (.agg ((wornM w (depthsM y.cuts)).map iv)) (zad (by kernel_rfl) (f93_c hds hdm ⟨hw0, hw1⟩ ⟨rfl, rfl⟩)) ⟨qCall _ (zad (by kernel_rfl) (f93_c hds hdm ⟨hw0, hw1⟩ ⟨rfl, rfl⟩)) rfl, ?_⟩;(try simp only [push_cast, seval, hwl]);have hc4 := hx.cuts;(repeat apply zaa);refine zl5 ?_;simp only [push_cast, seval, hwl];refine ⟨by omega, by omega, ?_⟩;have hw2 : ((w.toNat : Nat) : Int) = w := by omega
  have hwo : wornOf x (kn : Int).toNat w.toNat = (wornM w (depthsM y.cuts)).take x.cuts.toNat := by
   unfold wornOf;rw [Int.toNat_natCast, hy, hw2]
  have hwn : (wornM w (depthsM y.cuts)).length = 4 := by simp [wornM, hds]
  rw [hwo] at h2;refine zl6 ((f94_o (xs := (wornM w (depthsM y.cuts)).take x.cuts.toNat) (by simp only [push_cast, seval] <;> rfl) (by rw [List.length_take, hwn]; omega) (by rw [List.map_take]; rfl) (by rw [List.length_take, hwn]; omega) ?_));(try simp only [push_cast, seval]);(repeat apply zaa);refine zai ?_;simp only [push_cast, seval];exact endA hH (Wk.refl _) (by simp [zap, zaD, zbi]) (h2 hz)
theorem f32_c {x : Ring} {n w : Int} (hnr : NewRingC lv) (hmain : H[0]? = some .main) (hs : x.Small) (h1 : openingE x (opensFl x n w) ≠ 0 → k (.tup [iv 0, iv (openingE x (opensFl x n w))]) H) (h2 : openingE x (opensFl x n w) = 0 → k (.tup [iv (verdictM (cntM x n.toNat w.toNat (truthsM x [])) (truthsM x []).length), iv 0]) H) : FnC lv Tryz.prog 32 H [x.av, iv n, iv w] k kp := by
 have hmn : ∀ L : List AObj, (H ++ L)[0]? = some .main := fun L => zay hmain;refine zak (rs := [.tmp 6, .tmp 7]) (nt := 29) F.f32 rfl rfl rfl (by simp) fun hH hA => ?_;simp only [argsT, Nat.reduceAdd, Ring.av];(repeat apply zaa);refine zl5 ?_;simp only [push_cast, seval, Ring.l];(repeat apply zaa);refine zl5 ?_;simp only [push_cast, seval, List.mapM_cons, List.mapM_nil, Option.pure_def, Option.bind_eq_bind];have hask : AskC lv (H ++ [.cells x.l 26, .cells [iv n] 3, .cells [iv w] 3]) _ (opensFl x n w) := zlh (r := H.length) (i := H.length + 1) (j := H.length + 2) hs (by simp only [push_cast, seval]) (by simp only [push_cast, seval]) (by simp only [push_cast, seval]);refine zl6 ((f99_c hnr (hmn _) hs hask (fun hz => ?_) (fun hz => ?_)))
 ·(try simp only [push_cast, seval]);(repeat apply zaa);refine zl5 ?_;simp only [push_cast, seval];(repeat apply zaa);refine zae ?_;simp only [push_cast, seval];refine ⟨fun h => ?_, fun h => absurd (by simpa using h) hz⟩;(repeat apply zaa);refine zl5 ?_;simp only [push_cast, seval];(repeat apply zaa);refine zai ?_;simp only [push_cast, seval];exact endA hH (Wk.refl _) (by simp [zap, zaD]) (h1 hz)
 ·(try simp only [push_cast, seval]);(repeat apply zaa);refine zl5 ?_;simp only [push_cast, seval];obtain ⟨ho, hne⟩ := zaP.1 hz;have hx := zbp ho;obtain ⟨⟨hn0, hn1⟩, hw0, hw1⟩ := zgu.1 (zaN.1 ho).2;obtain ⟨kn, rfl⟩ : ∃ m : Nat, n = m := ⟨n.toNat, by omega⟩;obtain ⟨ln, rfl⟩ : ∃ m : Nat, w = m := ⟨w.toNat, by omega⟩;have hx4 := hx.keys;have hx5 := hx.locks;have hle := zbl hx [];(repeat apply zaa);refine zae ?_;simp only [push_cast, seval];(repeat apply zaa);refine zah ?_;simp only [push_cast, seval];have hg4 : ∀ L : List AObj, (H ++ L)[H.length + 3 + 1]? = L[4]? := fun L => zbD H L 4;(repeat apply zaa);refine zl5 ?_;simp only [push_cast, seval];refine zl6 ((f102_c (x := x) (ts := truthsM x []) (ck := (wears0 x).length) (by rw [hg4]; rfl) (zbm x []) (zba x []) (by omega) (by omega) (by omega) (zbt hx []) ?_));(try simp only [push_cast, seval, zaL, hg4]);have hsz : ((List.map setEntry (truthsM x [])).toArray.size : Int) = ((truthsM x []).length : Nat) := by simp
  (try simp only [push_cast, seval, hsz]);refine zl6 ((f101_c ?_));(try simp only [push_cast, seval]);(repeat apply zaa);refine zai ?_;simp only [push_cast, seval];exact endA hH (Wk.refl _) (by simp [zap, zaD]) (h2 hz)
theorem f53_c {x : Ring} (hnr : NewRingC lv) (hmain : H[0]? = some .main) (hs : x.Small) (h1 : openE x none ≠ 0 → k (.tup [iv 0, iv (openE x none)]) H) (h2 : openE x none = 0 → k (.tup [iv (truthsM x []).length, iv 0]) H) : FnC lv Tryz.prog 53 H [x.av] k kp := by
 have hmn : ∀ L : List AObj, (H ++ L)[0]? = some .main := fun L => zay hmain;refine zak (rs := [.tmp 2, .tmp 3]) (nt := 17) F.f53 rfl rfl rfl (by simp) fun hH hA => ?_;simp only [argsT, Nat.reduceAdd, Ring.av];(repeat apply zaa);refine zl5 ?_;simp only [push_cast, seval, Ring.l];(repeat apply zaa);refine zl5 ?_;simp only [push_cast, seval];refine zl6 ((f87_c hnr (hmn _) hs zbA (fun hz => ?_) (fun hz => ?_)))
 ·(try simp only [push_cast, seval]);(repeat apply zaa);refine zl5 ?_;simp only [push_cast, seval];(repeat apply zaa);refine zae ?_;simp only [push_cast, seval];refine ⟨fun h => ?_, fun h => absurd (by simpa using h) hz⟩;(repeat apply zaa);refine zl5 ?_;simp only [push_cast, seval];(repeat apply zaa);refine zai ?_;simp only [push_cast, seval];exact endA hH (Wk.refl _) (by simp [zap, zaD]) (h1 hz)
 ·(try simp only [push_cast, seval]);(repeat apply zaa);refine zl5 ?_;simp only [push_cast, seval];have hx := zbp hz;(repeat apply zaa);refine zae ?_;simp only [push_cast, seval];(repeat apply zaa);refine zah ?_;simp only [push_cast, seval];(repeat apply zaa);refine zl5 ?_;simp only [push_cast, seval];refine zl6 ((f129_c (but := []) (e := .exact) hx (by decide) ?_));(try simp only [push_cast, seval, zaL]);have hsz : ((List.map setEntry (truthsM x [])).toArray.size : Int) = ((truthsM x []).length : Nat) := by simp
  (try simp only [push_cast, seval, hsz]);(repeat apply zaa);refine zai ?_;simp only [push_cast, seval];exact endA hH (Wk.refl _) (by simp [zap, zaD]) (h2 hz)
end
open Go.Conc Go.Proofs
def belowM (n : Nat) : List Int := (List.range n).map fun i : Nat => (i : Int)
theorem zhR (n : Nat) : (belowM (n + 1)).map iv = (belowM n).map iv ++ [iv n] := by simp [belowM, List.range_succ]
theorem zca (n : Nat) : (belowM n).length = n := by simp [belowM]
theorem zjx {n i : Nat} (h : i < n) : (belowM n)[i]? = some (i : Int) := by simp [belowM, h]
theorem z1 : zeroRow (Value.int .i64 0) 1 = [iv 0] := rfl
section
variable {lv : Bool} {H : List AObj} {k kp : AV → List AObj → Prop}
theorem f115_c {n : Nat} (hn : n ≤ 2 ^ 30) (hk : k (aInts (belowM n)) H) : FnC lv Tryz.prog 115 H [iv n] k kp := by
 refine zak (rs := [.tmp 2]) (nt := 15) F.f115 rfl rfl rfl (by simp) fun hH hA => ?_;simp only [argsT, Nat.reduceAdd];(repeat apply zaa);refine zl5 ?_;simp only [push_cast, seval];(repeat apply zaa);refine zl5 ?_;simp only [push_cast, seval]
 (repeat apply zaa); refine zbV (t := 3) (sz := 1) (el := 3) (by simp only [push_cast, seval] <;> rfl) ?_
 (repeat apply zaa);refine zl5 ?_;simp only [push_cast, seval];(repeat apply zaa);refine zag ?_;refine zaB n (fun i : Nat => [(3, .sl i ((belowM i).map iv) (.opn H.length)), (6, iv i)]) (fun i => H ++ [.tail i 1 3]) (fun _ => True) (fun _ _ => rfl) (by simp only [push_cast, seval, List.forall_mem_cons, List.not_mem_nil, false_imp_iff, implies_true, List.forall_mem_nil]; simp [zaf, Wk.refl]; exact Wk.refl _) rfl (fun _ _ _ => by simp) trivial (fun hHs hLt i hin hi R hR => ?_);(repeat apply zaa);refine zl5 ?_;simp only [push_cast, seval];(repeat apply zaa);refine zae ?_;simp only [push_cast, seval];refine ⟨fun h => ?_, fun h => ?_⟩
 ·(repeat apply zaa);refine zah ?_;simp only [push_cast, seval];(repeat apply zaa);refine zag ?_;(repeat apply zaa);refine zl5 ?_;simp only [push_cast, seval];(repeat apply zaa);refine zl5 ?_;simp only [push_cast, seval, z1, List.length_map, zca];have hl : i < n := by omega
  first | refine ⟨by omega, by omega, ?_⟩ | refine ⟨by omega, ?_⟩
  have hi1 : IntKind.i64.wrap ((i : Int) + 1) = ((i + 1 : Nat) : Int) := by rw [zau _ (by omega)]; rfl
  (repeat apply zaa);refine zl5 ?_;simp only [push_cast, seval, hi1];refine hR _ ⟨hl, trivial, ?_⟩;rw [zhR];exact (zax (zam rfl rfl) (by simp only [push_cast, seval]; simp [zaf, Wk.refl]))
 ·(repeat apply zaa);refine zaq ?_;simp only [push_cast, seval];have : i = n := by omega
  subst this;(repeat apply zaa);refine zl5 ?_;simp only [push_cast, seval];(repeat apply zaa);refine zai ?_;simp only [push_cast, seval];rw [aInts, zca] at hk;exact endA hH (zaK _ _ _) (by simp [za3, zap]) hk
end
open Go.Conc Go.Proofs
theorem zeg {n : Nat} {l l' : List AV} {e : End} (hl : l.length = l'.length) (h : ∀ (i : Nat) a b, l'[i]? = some a → l[i]? = some b → Wk b a) : Wk (.sl n l e) (.sl n l' e) := fun E v hd => by
 cases hd with
 | sl b o cap f hc he h1 h2 =>
  refine .sl b o cap f hc he (fun i hi => h1 i (by omega)) fun i x hx => ?_;obtain ⟨y, hy⟩ := zaE (xs := l) (i := i) (by have := get_lt hx; omega);exact h i x y hx hy E _ (h2 i y hy)
 | nil he =>
  have : l' = [] := List.eq_nil_of_length_eq_zero hl.symm;subst this;exact .nil he
theorem zhW {a b c : AV} (h : Wk a b) (k : Wk b c) : Wk a c := fun E v hd => k E v (h E v hd)
theorem zdC {a b a' b' : AV} (h : Wk a a') (k : Wk b b') : Wk (.tup [a, b]) (.tup [a', b']) := fun E v hd => by
 cases hd with
 | tup hs h1 =>
  refine .tup (by simpa using hs) fun i x hx => ?_
  match i with
  | 0 => cases hx; exact h E _ (h1 0 a rfl)
  | 1 => cases hx; exact k E _ (h1 1 b rfl)
  | i + 2 => cases hx
theorem z1s : zeroRow (Value.slice none 0 0) 1 = [.sl 0 [] .exact] := rfl
theorem pow24 : (1 ≤ 2 ^ 24) = True := by simp
def fromM (x : List Int) : Nat := match x.getLast? with
 | none => 0
 | some i => i.toNat + 1
def nextM (n : Nat) (x : List Int) : List (List Int) := (List.range' (fromM x) (n - fromM x)).map fun i : Nat => x ++ [(i : Int)]
def levelM (n : Nat) : Nat → List (List Int)
 | 0 => [[]]
 | k + 1 => (levelM n k).flatMap (nextM n)
def fewestM (n : Nat) (f : List Int → Bool) : Option (List Int) := ((List.range (n + 1)).flatMap (levelM n)).find? f
theorem zgy : ∀ n, n ≤ 6 → ∀ k, k ≤ 7 → (levelM n k).length ≤ 20 := by decide +kernel
theorem zfE : ∀ n, n ≤ 6 → ∀ k, k ≤ 7 → ∀ x ∈ levelM n k, x.length = k ∧ ∀ i ∈ x, 0 ≤ i ∧ i < n := by decide +kernel
def rowsM (n k j : Nat) : List (List Int) := ((levelM n k).take j).flatMap (nextM n)
theorem zke (n k : Nat) : rowsM n k (levelM n k).length = levelM n (k + 1) := by unfold rowsM; rw [List.take_length]; rfl
theorem ziR {n k j : Nat} {x : List Int} (h : (levelM n k)[j]? = some x) : rowsM n k (j + 1) = rowsM n k j ++ nextM n x := by
 unfold rowsM;obtain ⟨hj, rfl⟩ := List.getElem?_eq_some_iff.1 h;rw [List.take_succ_eq_append_getElem hj, List.flatMap_append]; simp
theorem rowsM_le {n k j : Nat} (hn : n ≤ 6) (hk : k ≤ 6) : (rowsM n k j).length ≤ 20 := by
 have h1 := zgy n hn (k + 1) (by omega);have h2 : (rowsM n k j).length ≤ (levelM n (k + 1)).length := by
  show (((levelM n k).take j).flatMap (nextM n)).length ≤ ((levelM n k).flatMap (nextM n)).length
  conv => rhs; rw [← List.take_append_drop j (levelM n k), List.flatMap_append, List.length_append]
  omega
 omega
theorem zdp (n : Nat) (x : List Int) : (nextM n x).length = n - fromM x := by simp [nextM]
theorem zks {n c : Nat} {x : List Int} (h : fromM x + c < n) : (nextM n x).take (c + 1) = (nextM n x).take c ++ [x ++ [((fromM x + c : Nat) : Int)]] := by
 have hl := zdp n x;rw [List.take_succ_eq_append_getElem (by omega)];simp [nextM]
theorem zjh {x : List Int} {q : Nat} {i : Int} (h : x[q]? = some i) (hi : 0 ≤ i) : ((fromM (x.take (q + 1)) : Nat) : Int) = i + 1 := by
 obtain ⟨hj, rfl⟩ := List.getElem?_eq_some_iff.1 h;unfold fromM;rw [List.take_succ_eq_append_getElem hj, List.getLast?_append];simp;omega
theorem fromM_le {n : Nat} {x : List Int} (h : ∀ i ∈ x, 0 ≤ i ∧ i < n) : fromM x ≤ n := by
 unfold fromM;split
 ·omega
 ·rename_i i hi;have := h i (List.mem_of_getLast? hi);omega
theorem zdt {α : Type} {f : α → Bool} {l : List α} (h : ∀ x ∈ l, f x = false) : l.find? f = none := by
 rw [List.find?_eq_none]; intro x hx; simp [h x hx]
theorem zfN {α : Type} {f : α → Bool} : ∀ {l : List α} {j : Nat} {x : α}, l[j]? = some x → f x = true → (∀ y ∈ l.take j, f y = false) → l.find? f = some x
 | [], j, x, h, _, _ => by simp at h
 | y :: l, 0, x, h, hf, _ => by simp at h; subst h; simp [hf]
 | y :: l, j + 1, x, h, hf, hn => by
  have hy : f y = false := hn y (by simp);rw [List.find?_cons_of_neg (by simp [hy])];exact zfN (by simpa using h) hf fun z hz => hn z (by simp [hz])
theorem zhG {n k : Nat} {f : List Int → Bool} {x : List Int} (hk : k ≤ n) (h0 : ∀ k' < k, ∀ y ∈ levelM n k', f y = false) (hx : (levelM n k).find? f = some x) : fewestM n f = some x := by
 unfold fewestM;have e : List.range (n + 1) = List.range k ++ (k :: List.range' (k + 1) (n - k)) := by
  have h1 : List.range (n + 1) = List.range' 0 (n + 1) := List.range_eq_range';have h2 : List.range k = List.range' 0 k := List.range_eq_range';have h3 := @List.range'_append_1 0 k (n - k + 1);rw [Nat.zero_add] at h3;rw [h1, h2, ← List.range'_succ, h3];congr 1; omega
 rw [e, List.flatMap_append, List.find?_append, zdt fun y hy => by
  obtain ⟨k', h1, h2⟩ := List.mem_flatMap.1 hy;exact h0 k' (List.mem_range.1 h1) y h2]
 rw [List.flatMap_cons, List.find?_append, hx];rfl
theorem zhH {n : Nat} {f : List Int → Bool} (h0 : ∀ k' < n + 1, ∀ y ∈ levelM n k', f y = false) : fewestM n f = none := by
 unfold fewestM;refine zdt fun y hy => ?_;obtain ⟨k', h1, h2⟩ := List.mem_flatMap.1 hy;exact h0 k' (List.mem_range.1 h1) y h2
theorem wk_rows0 (n : Nat) : Wk (.sl 1 [.sl 0 [] .exact] .exact) (aRows (levelM n 0)) := zhW (zeg (l' := [aInts []]) rfl fun i a b h1 h2 => by
  match i with
  | 0 => cases h1; cases h2; exact zaK _ _ _
  | i + 1 => cases h1) (zaK _ _ _)
theorem wk_snoc {n : Nat} {l : List AV} {a b : AV} {e : End} (h : Wk a b) : Wk (.sl n (l ++ [a]) e) (.sl n (l ++ [b]) e) := zeg (by simp) fun i x y hx hy => by
 by_cases hi : i < l.length
 ·rw [List.getElem?_append_left hi] at hx hy;rw [hx] at hy; cases hy; exact Wk.refl _
 ·rw [List.getElem?_append_right (by omega)] at hx hy;have h0 : i - l.length = 0 := by have := get_lt hx; simp at this; omega
  rw [h0] at hx hy;cases hx; cases hy; exact h
theorem zc6 {H L : List AObj} (h : HOk H) (hL : ∀ z ∈ L, ∀ n, OLt n z) : HOk (H ++ L) := fun z hz => by
 rcases List.mem_append.1 hz with h' | h'
 ·exact (h z h').mono (by simp)
 ·exact hL z h' _
theorem zif (n m k : Nat) (ls : List (List Int)) : Lt n (.sl m (ls.map aInts) (.opn k)) = (k < n) := by
 rw [zdq];simp only [List.mem_map, eq_iff_iff, and_iff_left_iff_imp]
 rintro _ _ ⟨x, _, rfl⟩
 rw [zbi]; trivial
theorem take_iv {x : List Int} {q : Nat} {i : Int} (h : x[q]? = some i) : (x.take (q + 1)).map iv = (x.take q).map iv ++ [iv i] := by
 obtain ⟨hj, rfl⟩ := List.getElem?_eq_some_iff.1 h;rw [List.take_succ_eq_append_getElem hj, List.map_append]; rfl
section
variable {lv : Bool} {H : List AObj} {k kp : AV → List AObj → Prop}
def SoC (lv : Bool) (H : List AObj) (so : AV) (f : List Int → Bool) (P : List Int → Prop) : Prop := ∀ (L : List AObj) (xs : List Int) (e : End) (k kp : AV → List AObj → Prop), P xs → k (bv (f xs)) (H ++ L) → CallC lv Tryz.prog so (H ++ L) [.sl xs.length (xs.map iv) e] k kp
theorem f113_c {n : Nat} {so : AV} {f : List Int → Bool} {P : List Int → Prop} (hn : n ≤ 6) (hso : SoC lv H so f P) (hP : ∀ k, k ≤ n → ∀ x ∈ levelM n k, P x) (hk : k (.tup [aInts ((fewestM n f).getD []), bv (fewestM n f).isSome]) H) : FnC lv Tryz.prog 113 H [so, aInts (belowM n)] k kp := by
 refine zak (rs := [.tmp 4, .tmp 5]) (nt := 69) F.f113 rfl rfl rfl (by simp) fun hH hA => ?_;simp only [argsT, Nat.reduceAdd];(repeat apply zaa);refine zl5 ?_;simp only [push_cast, seval];(repeat apply zaa);refine zl5 ?_;simp only [push_cast, seval, z1s, pow24];have hn1 : IntKind.i64.wrap ((n : Int) + 1) = ((n + 1 : Nat) : Int) := by rw [zau _ (by omega)]; rfl
 (repeat apply zaa);refine zl5 ?_;simp only [push_cast, seval, aInts, zca, hn1];(repeat apply zaa);refine zag ?_;refine zaB (n + 1) (fun i : Nat => [(6, aRows (levelM n i)), (19, iv i)]) (fun _ => H) (fun i => ∀ k' < i, ∀ y ∈ levelM n k', f y = false) (fun _ _ => rfl) (by simp only [push_cast, seval, List.forall_mem_cons, List.not_mem_nil, false_imp_iff, implies_true, List.forall_mem_nil]; simp [zaf, Wk.refl]; exact wk_rows0 n) rfl (fun _ _ _ => rfl) (fun k' hk' => by omega) (fun hHs hLt i hin hi R hR => ?_);(repeat apply zaa);refine zl5 ?_;simp only [push_cast, seval];(repeat apply zaa);refine zae ?_;simp only [push_cast, seval];refine ⟨fun h => ?_, fun h => ?_⟩
 ·
  have hil : i ≤ n := by omega
  (repeat apply zaa);refine zah ?_;simp only [push_cast, seval];(repeat apply zaa);refine zag ?_;(repeat apply zaa);refine zl5 ?_;simp only [push_cast, seval]
  (repeat apply zaa); refine zbV (t := 7) (sz := 1) (el := 30) (by simp only [push_cast, seval] <;> rfl) ?_
  (repeat apply zaa);refine zl5 ?_;simp only [push_cast, seval, aRows];(repeat apply zaa);refine zag ?_;refine zaB (levelM n i).length (fun j : Nat => [(7, .sl (rowsM n i j).length ((rowsM n i j).map aInts) (.opn H.length)), (23, iv j)]) (fun j => H ++ [.tail (rowsM n i j).length 1 30]) (fun j => ∀ y ∈ (levelM n i).take j, f y = false) (fun _ _ => rfl) (by simp only [push_cast, seval, List.forall_mem_cons, List.not_mem_nil, false_imp_iff, implies_true, List.forall_mem_nil]; simp [zaf, Wk.refl]; exact Wk.refl _) rfl (fun _ _ _ => by simp) (by simp) (fun hHs2 hLt2 j hjn hj R2 hR2 => ?_);(repeat apply zaa);refine zl5 ?_;simp only [push_cast, seval];(repeat apply zaa);refine zae ?_;simp only [push_cast, seval];refine ⟨fun h2 => ?_, fun h2 => ?_⟩
  ·
   have hjl : j < (levelM n i).length := (by omega);obtain ⟨x, hx⟩ := zaE hjl;obtain ⟨hxl, hxi⟩ := zfE n hn i (by omega) x (zas hx);(repeat apply zaa);refine zah ?_;simp only [push_cast, seval];(repeat apply zaa);refine zag ?_;(repeat apply zaa);refine zl5 ?_;simp only [push_cast, seval, zlB hx, zaz hjl];(repeat apply zaa);refine zl5 ?_;simp only [push_cast, seval]
   (repeat apply zaa); refine zbV (t := 10) (sz := 1) (el := 3) (by simp only [push_cast, seval] <;> rfl) ?_
   (repeat apply zaa);refine zl5 ?_;simp only [push_cast, seval];(repeat apply zaa);refine zl5 ?_;simp only [push_cast, seval, aInts];(repeat apply zaa);refine zag ?_;refine zaB x.length (fun q : Nat => [(10, .sl q ((x.take q).map iv) (.opn (H.length + 1))), (11, iv (fromM (x.take q))), (29, iv q)]) (fun q => H ++ [.tail (rowsM n i j).length 1 30, .tail q 1 3]) (fun _ => True) (fun _ _ => rfl) (by simp only [push_cast, seval, List.forall_mem_cons, List.not_mem_nil, false_imp_iff, implies_true, List.forall_mem_nil]; simp [zaf, Wk.refl]; first | exact Wk.refl _ | exact ⟨Wk.refl _, Wk.refl _⟩) rfl (fun _ _ _ => by simp) trivial (fun hHs3 hLt3 q hqn hq R3 hR3 => ?_);(repeat apply zaa);refine zl5 ?_;simp only [push_cast, seval];(repeat apply zaa);refine zae ?_;simp only [push_cast, seval];refine ⟨fun h3 => ?_, fun h3 => ?_⟩
   ·
    have hql : q < x.length := (by omega);obtain ⟨xi, hxq⟩ := zaE hql;obtain ⟨hx0, hx1⟩ := hxi xi (zas hxq);obtain ⟨c, rfl⟩ : ∃ m : Nat, xi = m := ⟨xi.toNat, by omega⟩;have hcn : c < n := (by omega);have hlt : (x.take q).length = q := (by rw [List.length_take]; omega);have hc1 : IntKind.i64.wrap ((c : Int) + 1) = (c : Int) + 1 := zau _ (by omega);have hq1 : IntKind.i64.wrap ((q : Int) + 1) = ((q + 1 : Nat) : Int) := (by rw [zau _ (by omega)]; rfl);have hfr := zjh hxq hx0;(repeat apply zaa);refine zah ?_;simp only [push_cast, seval];(repeat apply zaa);refine zag ?_;(repeat apply zaa);refine zl5 ?_;simp only [push_cast, seval, za2 hxq, zaz hql];(repeat apply zaa);refine zl5 ?_;simp only [push_cast, seval, za2 (zjx hcn), zaz hcn, z1, List.length_map, zca, hlt, hc1]
    first | refine ⟨by omega, by omega, ?_⟩ | refine ⟨by omega, ?_⟩
    (repeat apply zaa);refine zl5 ?_;simp only [push_cast, seval, hq1];refine hR3 _ ⟨hql, trivial, ?_⟩;rw [take_iv hxq, hfr];exact (zax (zam rfl rfl) (by simp only [push_cast, seval]; simp [zaf, Wk.refl]))
   ·
    have hqx : q = x.length := (by omega);subst hqx;have hxm := zas hx;(repeat apply zaa);refine zaq ?_;simp only [push_cast, seval];have htk : List.take x.length x = x := List.take_length;(repeat apply zaa);refine zl5 ?_;simp only [push_cast, seval, htk];refine callG (hso _ x _ _ _ (hP i hil x hxm) ?_);(try simp only [push_cast, seval]);(repeat apply zaa);refine zae ?_;simp only [push_cast, seval];refine ⟨fun h4 => ?_, fun h4 => ?_⟩
    ·
     (repeat apply zaa);refine zl5 ?_;simp only [push_cast, seval];(repeat apply zaa);refine zai ?_;simp only [push_cast, seval];have hfw := zhG (f := f) hil hi (zfN hx (by simpa using h4) hj);rw [hfw] at hk;exact endA hH (zdC (zaK _ _ _) (Wk.refl _)) (by simp [zap, zaD, za3]) hk
    ·
     (repeat apply zaa);refine zah ?_;simp only [push_cast, seval];(repeat apply zaa);refine zl5 ?_;simp only [push_cast, seval];(repeat apply zaa);refine zag ?_;have hfl : fromM x ≤ n := fromM_le hxi;refine zaB (n - fromM x) (fun c : Nat => [(7, .sl ((rowsM n i j).length + c) ((rowsM n i j ++ (nextM n x).take c).map aInts) (.opn H.length)), (14, iv ((fromM x + c : Nat) : Int))]) (fun c => H ++ [.tail ((rowsM n i j).length + c) 1 30, .tail x.length 1 3]) (fun c => True) (fun _ _ => rfl) (by simp only [push_cast, seval, List.forall_mem_cons, List.not_mem_nil, false_imp_iff, implies_true, List.forall_mem_nil]; simp [zaf, Wk.refl]) rfl (fun _ _ _ => by simp) trivial (fun hHs4 hLt4 c hcn hc R4 hR4 => ?_);(repeat apply zaa);refine zl5 ?_;simp only [push_cast, seval];(repeat apply zaa);refine zae ?_;simp only [push_cast, seval];refine ⟨fun h5 => ?_, fun h5 => ?_⟩
     ·
      have hfc : fromM x + c < n := (by omega);have hbe : ((x.length : Int) == x.length) = true := (by simp);have htc : ((nextM n x).take c).length = c := (by rw [List.length_take, zdp]; omega);have hf1 : IntKind.i64.wrap ((fromM x : Int) + c + 1) = (fromM x : Int) + ((c + 1 : Nat) : Int) := (by rw [zau _ (by omega)]; omega);have hrl := rowsM_le (n := n) (k := i) (j := j) hn (by omega);(repeat apply zaa);refine zah ?_;simp only [push_cast, seval];(repeat apply zaa);refine zag ?_;(repeat apply zaa);refine zl5 ?_;simp only [push_cast, seval, z1, z1s, List.length_map, hbe, Bool.and_self, pow24, List.length_append, htc]
      first | refine ⟨by omega, by omega, by omega, ?_⟩ | refine ⟨by omega, by omega, ?_⟩ | refine ⟨by omega, ?_⟩
      (repeat apply zaa);refine zl5 ?_;simp only [push_cast, seval, hf1];have ew : ((rowsM n i j ++ (nextM n x).take (c + 1)).map aInts) = (rowsM n i j ++ (nextM n x).take c).map aInts ++ [.sl (x.length + 1) (x.map iv ++ [iv ((fromM x + c : Nat) : Int)]) .shut] := by
       rw [zks hfc, ← List.append_assoc, List.map_append];simp [aInts]
      refine hR4 _ ⟨by omega, trivial, ?_⟩;rw [ew];refine zat (L := [.tail ((rowsM n i j).length + (c + 1)) 1 30, .tail x.length 1 3]) (zam rfl rfl) ?_ (zc6 hH (by simp [OLt])) ?_
      ·(try simp only [push_cast, seval, List.forall_mem_cons, List.not_mem_nil, false_imp_iff, implies_true, List.forall_mem_nil]; simp [zaf, Wk.refl]);simp only [← List.append_assoc];exact wk_snoc (zaK _ _ _)
      ·rw [← ew];simp only [List.forall_mem_cons, zif, iv, zap];simp
     ·
      have hcn' : c = n - fromM x := (by omega);subst hcn';(repeat apply zaa);refine zaq ?_;simp only [push_cast, seval];have hj1 : IntKind.i64.wrap ((j : Int) + 1) = ((j + 1 : Nat) : Int) := by
       have := zgy n hn i (by omega);rw [zau _ (by omega)]; rfl
      (repeat apply zaa);refine zl5 ?_;simp only [push_cast, seval, hj1];have htk : (nextM n x).take (n - fromM x) = nextM n x := List.take_of_length_le (by rw [zdp]; omega);have hrs := ziR hx;have hrl : (rowsM n i (j + 1)).length = (rowsM n i j).length + (n - fromM x) := (by rw [hrs, List.length_append, zdp]);refine hR2 _ ⟨hjl, fun y hy => ?_, ?_⟩
      ·obtain ⟨hj', rfl⟩ := List.getElem?_eq_some_iff.1 hx;rw [List.take_succ_eq_append_getElem hj', List.mem_append] at hy;rcases hy with hy | hy
       ·exact hj y hy
       ·simp at hy; subst hy; simpa using h4
      ·rw [htk, hrl, hrs];refine zat (L := [.tail ((rowsM n i j).length + (n - fromM x)) 1 30]) (G := [.tail x.length 1 3]) (zam rfl rfl) ?_ (zc6 hH (by simp [OLt])) ?_
       ·try simp only [push_cast, seval, List.forall_mem_cons, List.not_mem_nil, false_imp_iff, implies_true, List.forall_mem_nil]; simp [zaf, Wk.refl]
       ·simp only [List.forall_mem_cons, zif, iv, zap];simp
  ·
   have hjx : j = (levelM n i).length := (by omega);subst hjx;(repeat apply zaa);refine zaq ?_;simp only [push_cast, seval];(repeat apply zaa);refine zl5 ?_;simp only [push_cast, seval];have hi1 : IntKind.i64.wrap ((i : Int) + 1) = ((i + 1 : Nat) : Int) := (by rw [zau _ (by omega)]; rfl);(repeat apply zaa);refine zl5 ?_;simp only [push_cast, seval, hi1];refine hR _ ⟨by omega, fun k' hk' y hy => ?_, ?_⟩
   ·by_cases e : k' = i
    ·subst e;exact hj y (by rw [List.take_length]; exact hy)
    ·exact hi k' (by omega) y hy
   ·rw [zke];refine zaS (zam rfl rfl) ?_ hH (by simp [zap, zlv]);(try simp only [push_cast, seval, List.forall_mem_cons, List.not_mem_nil, false_imp_iff, implies_true, List.forall_mem_nil]; simp [zaf, Wk.refl]);exact zaK _ _ _
 ·(repeat apply zaa);refine zaq ?_;simp only [push_cast, seval];(repeat apply zaa);refine zl5 ?_;simp only [push_cast, seval];(repeat apply zaa);refine zai ?_;simp only [push_cast, seval];have hin' : i = n + 1 := by omega
  subst hin';have hfw := zhH (f := f) hi;rw [hfw] at hk;have hk : k (.tup [.sl 0 [] .shut, bv false]) H := hk;exact zaJ (H' := H) (G := []) (zdC (zaK _ _ _) (Wk.refl _)) (by simp) (Nat.le_refl _) hH (by simp [zap, zaD, za3]) hk
end
open Go.Conc Go.Proofs
def wrongM (x : Ring) : List Int := (fewestM x.tries.length fun xs => decide (0 < (truthsM x xs).length)).getD []
def bestObj : Option (Nat × Nat × Nat) → AObj
 | none => .cells [.fn (.func 132) [] [], iv 0, iv 0, iv 0, bv false] 148
 | some (a, b, c) => .cells [.fn (.func 132) [] [], iv a, iv b, iv c, bv true] 148
def takeM : Option (Nat × Nat × Nat) → Nat × Nat × Nat → Option (Nat × Nat × Nat)
 | none, t => some t
 | some u, t => if t.2.2 < u.2.2 then some t else some u
def testM (x : Ring) (k n : Nat) : Nat × Nat × Nat := (k, n, max (cntM x k n (truthsM x [])) ((truthsM x []).length - cntM x k n (truthsM x [])))
def testsAt (x : Ring) (k n : Nat) : List (Nat × Nat × Nat) := ((List.range k).flatMap fun i => (List.range x.locks.length).map (testM x i)) ++ (List.range n).map (testM x k)
def askAt (x : Ring) (k n : Nat) : Option (Nat × Nat × Nat) := (testsAt x k n).foldl takeM none
def askM (x : Ring) : Option (Nat × Nat × Nat) := askAt x x.keys.length 0
theorem zjC (x : Ring) (k n : Nat) : askAt x k (n + 1) = takeM (askAt x k n) (testM x k n) := by
 unfold askAt testsAt;rw [List.range_succ, List.map_append, ← List.append_assoc, List.foldl_append]; rfl
theorem zjD (x : Ring) (k : Nat) : askAt x (k + 1) 0 = askAt x k x.locks.length := by
 unfold askAt testsAt;rw [List.range_succ, List.flatMap_append]; simp
theorem zie (n : Nat) (o : Option (Nat × Nat × Nat)) : OLt n (bestObj o) := by
 cases o with
 | none => intro a ha; simp [iv, bv] at ha; rcases ha with rfl | rfl | rfl <;> simp [zap, lt_fn]
 | some u => obtain ⟨a0, b0, c0⟩ := u; intro a ha; simp [iv, bv] at ha; rcases ha with rfl | rfl | rfl | rfl | rfl <;> simp [zap, lt_fn]
theorem zh7 {H : List AObj} {id : Nat} {z : AObj} (h : H[id]? = some z) : H.set id z = H := by
 obtain ⟨hj, rfl⟩ := List.getElem?_eq_some_iff.1 h;exact List.set_getElem_self hj
section
variable {lv : Bool} {H : List AObj} {k kp : AV → List AObj → Prop}
theorem f128_c {r : Nat} {x : Ring} {xs : List Int} {e : End} (hx : x.Ok) (hb : xs.length < 2 ^ 30) (hr : H[r]? = some (.cells [.rp (x.l ++ opensL x)] 100)) (hk : k (bv (decide (0 < (truthsM x xs).length))) H) : FnC lv Tryz.prog 128 H [.sl xs.length (xs.map iv) e, .op r 0] k kp := by
 refine zak (rs := [.tmp 3]) (nt := 9) F.f128 rfl rfl rfl (by simp) fun hH hA => ?_;simp only [argsT, Nat.reduceAdd];(repeat apply zaa);refine zl5 ?_;simp only [push_cast, seval];(repeat apply zaa);refine zl5 ?_;simp only [push_cast, seval, hr];refine zl6 ((f129_c hx hb ?_));(try simp only [push_cast, seval, zaL]);have hsz : ((List.map setEntry (truthsM x xs)).toArray.size : Int) = ((truthsM x xs).length : Nat) := by simp
 (try simp only [push_cast, seval, hsz]);(repeat apply zaa);refine zai ?_;simp only [push_cast, seval];have e : (decide (0 < ((truthsM x xs).length : Int))) = decide (0 < (truthsM x xs).length) := by simp
 rw [e];exact endA hH (Wk.refl _) (by simp [zap]) hk
theorem f132_c {a b c a' b' c' : Int} (hk : k (bv (decide (c < c'))) H) : FnC lv Tryz.prog 132 H [.agg [iv a, iv b, iv c], .agg [iv a', iv b', iv c']] k kp := by
 refine zak (rs := [.tmp 4]) (nt := 10) F.f132 rfl rfl rfl (by simp) fun hH hA => ?_;simp only [argsT, Nat.reduceAdd];(repeat apply zaa);refine zl5 ?_;simp only [push_cast, seval];(repeat apply zaa);refine zl5 ?_;simp only [push_cast, seval];(repeat apply zaa);refine zai ?_;simp only [push_cast, seval];exact endA hH (Wk.refl _) (by simp [zap]) hk
theorem f133_c {id : Nat} {o : Option (Nat × Nat × Nat)} {a b c : Nat} (hid : H[id]? = some (bestObj o)) (hk : k (.tup []) (H.set id (bestObj (takeM o (a, b, c))))) : FnC lv Tryz.prog 133 H [.op id 0, .agg [iv a, iv b, iv c]] k kp := by
 refine zak (rs := []) (nt := 28) F.f133 rfl rfl rfl (by simp) fun hH hA => ?_;simp only [argsT, Nat.reduceAdd];have hg : ∀ L : List AObj, (H ++ L)[id]? = some (bestObj o) := fun L => zay hid;have hset : ∀ (L : List AObj) z, (H ++ L).set id z = H.set id z ++ L := fun L z => List.set_append_left _ _ (get_lt hid);have hget2 : ∀ z (L : List AObj), (H.set id z ++ L)[id]? = some z := fun z L => by
  rw [List.getElem?_append_left (by simpa using get_lt hid), List.getElem?_set_self (get_lt hid)]
 have hset2 : ∀ z z' (L : List AObj), (H.set id z ++ L).set id z' = H.set id z' ++ L := fun z z' L => by
  rw [List.set_append_left _ _ (by simpa using get_lt hid), List.set_set]
 have hokb : ∀ z, OLt H.length z → HOk (H.set id z) := fun z hz y hy => by
  rw [List.length_set];rcases List.mem_or_eq_of_mem_set hy with h | h
  ·exact hH y h
  ·rw [h]; exact hz
 (repeat apply zaa);refine zl5 ?_;simp only [push_cast, seval];cases o with
 | none =>
  simp only [bestObj] at hg;(repeat apply zaa);refine zaT F.mixed 15 (by kernel_rfl) ?_;simp only [push_cast, seval, hg];(repeat apply zaa);refine zae ?_;simp only [push_cast, seval];(repeat apply zaa);refine zl5 ?_;simp only [push_cast, seval, hg, hset, hget2, hset2];exact zaJ (H' := H.set id (bestObj (some (a, b, c)))) (Wk.refl _) rfl (by simp) (hokb _ (zie _ _)) (by simp [zaD]) hk
 | some u =>
  obtain ⟨a0, b0, c0⟩ := u;simp only [bestObj] at hg;(repeat apply zaa);refine zaT F.mixed 15 (by kernel_rfl) ?_;simp only [push_cast, seval, hg];refine zl6 ((f132_c ?_));(try simp only [push_cast, seval]);(repeat apply zaa);refine zae ?_;simp only [push_cast, seval];refine ⟨fun h => ?_, fun h => ?_⟩
  ·(repeat apply zaa);refine zl5 ?_;simp only [push_cast, seval, hg, hset, hget2, hset2];have ht : takeM (some (a0, b0, c0)) (a, b, c) = some (a, b, c) := (by simp [takeM]; omega);rw [ht] at hk;exact zaJ (H' := H.set id (bestObj (some (a, b, c)))) (Wk.refl _) rfl (by simp) (hokb _ (zie _ _)) (by simp [zaD]) hk
  ·(repeat apply zaa);refine zah ?_;simp only [push_cast, seval];have ht : takeM (some (a0, b0, c0)) (a, b, c) = some (a0, b0, c0) := (by simp [takeM]; omega);rw [ht, zh7 hid] at hk;exact endA hH (Wk.refl _) (by simp [zaD]) hk
theorem so_wrong {r : Nat} {x : Ring} (hx : x.Ok) (hr : H[r]? = some (.cells [.rp (x.l ++ opensL x)] 100)) : SoC lv H (.fn (.func 128) [] [.op r 0]) (fun xs => decide (0 < (truthsM x xs).length)) (fun xs => xs.length ≤ 6) := fun L xs e k kp hp h =>
 zad (by kernel_rfl) (f128_c hx (Nat.lt_of_le_of_lt hp (by decide)) (zay hr) h)
theorem f51_c {x : Ring} (hnr : NewRingC lv) (hmain : H[0]? = some .main) (hs : x.Small) (h1 : openE x none ≠ 0 → k (.tup [.sl 0 [] .exact, iv (openE x none)]) H) (h2 : openE x none = 0 → k (.tup [aInts (wrongM x), iv 0]) H) : FnC lv Tryz.prog 51 H [x.av] k kp := by
 have hmn : ∀ L : List AObj, (H ++ L)[0]? = some .main := fun L => zay hmain;refine zak (rs := [.tmp 2, .tmp 3]) (nt := 29) F.f51 rfl rfl rfl (by simp) fun hH hA => ?_;simp only [argsT, Nat.reduceAdd, Ring.av];(repeat apply zaa);refine zl5 ?_;simp only [push_cast, seval, Ring.l];(repeat apply zaa);refine zl5 ?_;simp only [push_cast, seval];refine zl6 ((f87_c hnr (hmn _) hs zbA (fun hz => ?_) (fun hz => ?_)))
 ·(try simp only [push_cast, seval]);(repeat apply zaa);refine zl5 ?_;simp only [push_cast, seval];(repeat apply zaa);refine zae ?_;simp only [push_cast, seval];refine ⟨fun h => ?_, fun h => absurd (by simpa using h) hz⟩;(repeat apply zaa);refine zl5 ?_;simp only [push_cast, seval];(repeat apply zaa);refine zai ?_;simp only [push_cast, seval];exact endA hH (Wk.refl _) (by simp [zap, zaD, zbh]) (h1 hz)
 ·(try simp only [push_cast, seval]);(repeat apply zaa);refine zl5 ?_;simp only [push_cast, seval];have hx := zbp hz;have hlk : x.l ++ opensL x = iv x.cuts :: aKeys x.keys :: aLocks x.locks :: aTries x.tries :: opensL x := rfl;(repeat apply zaa);refine zae ?_;simp only [push_cast, seval];(repeat apply zaa);refine zah ?_;simp only [push_cast, seval];(repeat apply zaa);refine zl5 ?_;simp only [push_cast, seval, List.mapM_cons, List.mapM_nil, Option.pure_def, Option.bind_eq_bind, hlk, aTries];have hx6 := hx.tries;refine zl6 ((f115_c (by omega) ?_));(try simp only [push_cast, seval]);refine zl6 ((f113_c (P := fun xs => xs.length ≤ 6) (by omega) (so_wrong (r := H.length + 1) hx (by simp only [push_cast, seval] <;> rfl)) (fun k hk y hy => by rw [(zfE _ (by omega) k (by omega) y hy).1]; omega) ?_));(try simp only [push_cast, seval]);(repeat apply zaa);refine zl5 ?_;simp only [push_cast, seval];(repeat apply zaa);refine zai ?_;simp only [push_cast, seval];exact endA hH (Wk.refl _) (by simp [zap, zaD, zbi]) (h2 hz)
end
open Go.Conc Go.Proofs
def askR (x : Ring) : Option (Nat × Nat × Nat) := (askM x).filter fun t => decide (t.2.2 < (truthsM x []).length)
section
variable {lv : Bool} {H : List AObj} {k kp : AV → List AObj → Prop}
theorem cnt_le (x : Ring) (k n : Nat) (ts : List (List Int × Nat)) : cntM x k n ts ≤ ts.length := List.length_filter_le _ _
theorem f55_c {x : Ring} (hnr : NewRingC lv) (hmain : H[0]? = some .main) (hs : x.Small) (h1 : openingE x none ≠ 0 → k (.tup [iv 0, iv 0, iv 0, iv (openingE x none)]) H) (h2 : openingE x none = 0 → askR x = none → k (.tup [iv 0, iv 0, iv 0, iv 11]) H) (h3 : openingE x none = 0 → ∀ a b c : Nat, askR x = some (a, b, c) → k (.tup [iv a, iv b, iv c, iv 0]) H) : FnC lv Tryz.prog 55 H [x.av] k kp := by
 have hmn : ∀ L : List AObj, (H ++ L)[0]? = some .main := fun L => zay hmain;refine zak (rs := [.tmp 2, .tmp 3, .tmp 4, .tmp 5]) (nt := 81) F.f55 rfl rfl rfl (by simp) fun hH hA => ?_;simp only [argsT, Nat.reduceAdd, Ring.av];(repeat apply zaa);refine zl5 ?_;simp only [push_cast, seval, Ring.l];(repeat apply zaa);refine zl5 ?_;simp only [push_cast, seval];refine zl6 ((f99_c hnr (hmn _) hs zbA (fun hz => ?_) (fun hz => ?_)))
 ·(try simp only [push_cast, seval]);(repeat apply zaa);refine zl5 ?_;simp only [push_cast, seval];(repeat apply zaa);refine zae ?_;simp only [push_cast, seval];refine ⟨fun h => ?_, fun h => absurd (by simpa using h) hz⟩;(repeat apply zaa);refine zl5 ?_;simp only [push_cast, seval];(repeat apply zaa);refine zai ?_;simp only [push_cast, seval];exact endA hH (Wk.refl _) (by simp [zap, zaD]) (h1 hz)
 ·(try simp only [push_cast, seval]);(repeat apply zaa);refine zl5 ?_;simp only [push_cast, seval];obtain ⟨ho, hne⟩ := zaP.1 hz;have hx := zbp ho;have hx4 := hx.keys;have hx5 := hx.locks;have hle := zbl hx [];have hlk : x.l ++ opensL x = iv x.cuts :: aKeys x.keys :: aLocks x.locks :: aTries x.tries :: opensL x := rfl;(repeat apply zaa);refine zae ?_;simp only [push_cast, seval];(repeat apply zaa);refine zah ?_;simp only [push_cast, seval];(repeat apply zaa);refine zl5 ?_;simp only [push_cast, seval];(repeat apply zaa);refine zl5 ?_;simp only [push_cast, seval, List.mapM_cons, List.mapM_nil, Option.pure_def, Option.bind_eq_bind];(repeat apply zaa);refine zl5 ?_;simp only [push_cast, seval, hlk, aKeys];have hsz : ((List.map setEntry (truthsM x [])).toArray.size : Int) = ((truthsM x []).length : Nat) := by simp
  (repeat apply zaa);refine zag ?_;refine zaB x.keys.length (fun i : Nat => [(31, iv i)]) (fun i => H ++ [.cells x.l 26, .cells x.l 26, setObj (truthsM x []) (wears0 x).length, bestObj (askAt x i 0)]) (fun _ => True) (fun _ _ => rfl) (by simp only [push_cast, seval, List.forall_mem_cons, List.not_mem_nil, false_imp_iff, implies_true, List.forall_mem_nil]; simp [zaf, Wk.refl]) rfl (fun _ _ _ => by simp) trivial (fun hHs hLt i hin hi R hR => ?_);(repeat apply zaa);refine zl5 ?_;simp only [push_cast, seval];(repeat apply zaa);refine zae ?_;simp only [push_cast, seval];refine ⟨fun h => ?_, fun h => ?_⟩
  ·
   (repeat apply zaa);refine zah ?_;simp only [push_cast, seval];(repeat apply zaa);refine zag ?_;(repeat apply zaa);refine zl5 ?_;simp only [push_cast, seval];(repeat apply zaa);refine zl5 ?_;simp only [push_cast, seval, aLocks];(repeat apply zaa);refine zag ?_;refine zaB x.locks.length (fun j : Nat => [(40, iv j)]) (fun j => H ++ [.cells x.l 26, .cells x.l 26, setObj (truthsM x []) (wears0 x).length, bestObj (askAt x i j)]) (fun _ => True) (fun _ _ => rfl) (by simp only [push_cast, seval, List.forall_mem_cons, List.not_mem_nil, false_imp_iff, implies_true, List.forall_mem_nil]; simp [zaf, Wk.refl]) rfl (fun _ _ _ => by simp) trivial (fun hHs2 hLt2 j hjn hj R2 hR2 => ?_);(repeat apply zaa);refine zl5 ?_;simp only [push_cast, seval];(repeat apply zaa);refine zae ?_;simp only [push_cast, seval];refine ⟨fun h2 => ?_, fun h2 => ?_⟩
   ·
    have hil : i < x.keys.length := (by omega);have hjl : j < x.locks.length := (by omega);(repeat apply zaa);refine zah ?_;simp only [push_cast, seval];(repeat apply zaa);refine zag ?_;(repeat apply zaa);refine zl5 ?_;simp only [push_cast, seval];(repeat apply zaa);refine zl5 ?_;simp only [push_cast, seval];refine zl6 ((f102_c (x := x) (ts := truthsM x []) (ck := (wears0 x).length) (by simp only [push_cast, seval] <;> rfl) (zbm x []) (zba x []) (by omega) (by omega) (by omega) (zbt hx []) ?_));(try simp only [push_cast, seval]);have hcl := cnt_le x i j (truthsM x []);have hw : IntKind.i64.wrap (((truthsM x []).length : Int) - (cntM x i j (truthsM x []) : Nat)) = ((truthsM x []).length : Int) - (cntM x i j (truthsM x []) : Nat) := zau _ (by omega);have hmx : (if ((cntM x i j (truthsM x []) : Nat) : Int) < ((truthsM x []).length : Int) - (cntM x i j (truthsM x []) : Nat) then ((truthsM x []).length : Int) - (cntM x i j (truthsM x []) : Nat) else ((cntM x i j (truthsM x []) : Nat) : Int)) = (((testM x i j).2.2 : Nat) : Int) := by
     simp only [testM];split <;> omega
    (repeat apply zaa);refine zl5 ?_;simp only [push_cast, seval, zaL, hsz, hw, hmx];refine zl6 ((f133_c (id := H.length + 3) (o := askAt x i j) (a := i) (b := j) (c := (testM x i j).2.2) (by simp only [push_cast, seval] <;> rfl) ?_));have hj1 : IntKind.i64.wrap ((j : Int) + 1) = ((j + 1 : Nat) : Int) := (by rw [zau _ (by omega)]; rfl);rw [zbR H _ 3, ← show testM x i j = (i, j, (testM x i j).2.2) from rfl, ← zjC];(try simp only [push_cast, seval]);(repeat apply zaa);refine zl5 ?_;simp only [push_cast, seval, hj1];refine hR2 _ ⟨hjl, trivial, ?_⟩;exact (zax (zam rfl rfl) (by simp only [push_cast, seval]; simp [zaf, Wk.refl]))
   ·
    have hjx : j = x.locks.length := (by omega);subst hjx;(repeat apply zaa);refine zaq ?_;simp only [push_cast, seval];have hi1 : IntKind.i64.wrap ((i : Int) + 1) = ((i + 1 : Nat) : Int) := (by rw [zau _ (by omega)]; rfl);(repeat apply zaa);refine zl5 ?_;simp only [push_cast, seval, hi1];refine hR _ ⟨by omega, trivial, ?_⟩;rw [← zjD];exact (zax (zam rfl rfl) (by simp only [push_cast, seval]; simp [zaf, Wk.refl]))
  ·
   have hix : i = x.keys.length := (by omega);subst hix;(repeat apply zaa);refine zaq ?_;simp only [push_cast, seval];rw [show askAt x x.keys.length 0 = askM x from rfl];cases hm : askM x with
   | none =>
    simp only [bestObj];(repeat apply zaa);refine zl5 ?_;simp only [push_cast, seval];(repeat apply zaa);refine zae ?_;simp only [push_cast, seval];(repeat apply zaa);refine zl5 ?_;simp only [push_cast, seval];(repeat apply zaa);refine zai ?_;simp only [push_cast, seval];exact endA hH (Wk.refl _) (by simp [zap, zaD]) (h2 hz (by simp [askR, hm]))
   | some u =>
    obtain ⟨a, b, c⟩ := u;simp only [bestObj];(repeat apply zaa);refine zl5 ?_;simp only [push_cast, seval, zaL, hsz];(repeat apply zaa);refine zae ?_;simp only [push_cast, seval];refine ⟨fun h5 => ?_, fun h5 => ?_⟩
    ·have hc : (truthsM x []).length ≤ c := (by simpa using h5);(repeat apply zaa);refine zl5 ?_;simp only [push_cast, seval];(repeat apply zaa);refine zai ?_;simp only [push_cast, seval];exact endA hH (Wk.refl _) (by simp [zap, zaD]) (h2 hz (by simp [askR, hm]; omega))
    ·have hc : c < (truthsM x []).length := (by simpa using h5);(repeat apply zaa);refine zah ?_;simp only [push_cast, seval];(repeat apply zaa);refine zaT F.mixed 11 (by kernel_rfl) ?_;simp only [push_cast, seval];(repeat apply zaa);refine zai ?_;simp only [push_cast, seval];exact endA hH (Wk.refl _) (by simp [zap, zaD]) (h3 hz a b c (by simp [askR, hm]; omega))
end
open Go.Conc Go.Proofs
theorem zfj {P : Program} {t : TypeId} {op : BinOp} (hop : op = .eql ∨ op = .neq) (ht : P.underlying t = some .bool) (hg : P.eqGuardType P.depth t = false) (x y : Bool) (k : AV → Prop) : ABin P op t (.val (.bool x)) (.val (.bool y)) k = k (.val (.bool (if op == .neq then !(x == y) else (x == y)))) := by
 have hsure : Sure P (Op.equal t (.bool x) (.bool y)) (x == y) := zjZ (d := 9999) ht;have e : ABin P op t (.val (.bool x)) (.val (.bool y)) k = ((op = .eql ∨ op = .neq) ∧ one1 (AV.raw (.val (.bool x))) fun X => one1 (AV.raw (.val (.bool y))) fun Y => eqKind X Y = true ∧ P.eqGuardType P.depth t = false ∧ ∃ e, Sure P (Op.equal t X Y) e ∧ k (.val (.bool (if op == .neq then !e else e)))) := rfl;rw [e];apply propext;constructor
 ·rintro ⟨_, _, _, b, h1, h2⟩
  rw [hsure.uniq h1]; exact h2
 ·intro h;exact ⟨hop, rfl, hg, _, hsure, h⟩
theorem F.u4 : Tryz.prog.underlying 4 = some .bool := by kernel_rfl
theorem F.g4 : Tryz.prog.eqGuardType Tryz.prog.depth 4 = false := by kernel_rfl
theorem B4.eql (x y : Bool) (k : AV → Prop) : ABin Tryz.prog .eql 4 (.val (.bool x)) (.val (.bool y)) k = k (.val (.bool (x == y))) := zfj (.inl rfl) F.u4 F.g4 x y k
theorem B4.neq (x y : Bool) (k : AV → Prop) : ABin Tryz.prog .neq 4 (.val (.bool x)) (.val (.bool y)) k = k (.val (.bool (x != y))) := zfj (.inr rfl) F.u4 F.g4 x y k
attribute [push_cast] B4.eql B4.neq
theorem zdk {ts vs : List (List Int × Nat)} {y : List Int × Nat} (h : (vs.map (·.2)).Nodup ∧ ∀ z ∈ vs, z ∈ ts) (hy : y ∈ ts) (hn : y.2 ∉ vs.map (·.2)) : ((vs ++ [y]).map (·.2)).Nodup ∧ ∀ z ∈ vs ++ [y], z ∈ ts := by
 refine ⟨?_, fun z hz => ?_⟩
 ·rw [List.map_append, List.nodup_append];refine ⟨h.1, by simp, fun a ha b hb => ?_⟩;simp at hb; subst hb;intro e; subst e; exact hn ha
 ·rcases List.mem_append.1 hz with h' | h'
  ·exact h.2 z h'
  ·rw [List.mem_singleton.1 h']; exact hy
theorem zdl {ts vs : List (List Int × Nat)} {y : List Int × Nat} (h : ((vs ++ [y]).map (·.2)).Nodup ∧ ∀ z ∈ vs ++ [y], z ∈ ts) : ts.length - (vs ++ [y]).length < ts.length - vs.length := by
 have h1 : (vs ++ [y]).Nodup := zbo _ h.1;have := h1.length_le_of_subset h.2;simp at this ⊢; omega
theorem zdm (vs : List (List Int × Nat)) (y : List Int × Nat) : ((vs.map (·.2)).toArray.push y.2) = ((vs ++ [y]).map (·.2)).toArray := by simp
theorem u8z (t : List Int) (k : Nat) {w : Int} (h : t[k]? = some w) : t.getD k 0 = w := by rw [List.getD_eq_getElem?_getD, h]; rfl
def inTruth (x : Ring) (t : List Int) (k : Nat) : Nat := opensM x k (t.getD k 0).toNat
theorem zdn {x : Ring} (hl4 : x.locks.length ≤ 8) (k w : Nat) : opensM x k w < 256 := by
 unfold opensM;split
 ·exact u8_of (zb5 _ _ _ _) hl4
 ·decide
def apartM (x : Ring) (t : List Int) (keys : List Int) (a b : Nat) : Bool := keys.any fun k => (inTruth x t k.toNat).testBit a != (inTruth x t k.toNat).testBit b
theorem any_take {α : Type} {f : α → Bool} {l : List α} {i : Nat} {a : α} (h : l[i]? = some a) : (l.take (i + 1)).any f = ((l.take i).any f || f a) := by
 obtain ⟨hj, rfl⟩ := List.getElem?_eq_some_iff.1 h;rw [List.take_succ_eq_append_getElem hj, List.any_append]; simp
theorem any_of {α : Type} {f : α → Bool} {l : List α} {i : Nat} {a : α} (h : l[i]? = some a) (hf : f a = true) : l.any f = true := List.any_eq_true.2 ⟨a, zas h, hf⟩
section
variable {lv : Bool} {H : List AObj} {k kp : AV → List AObj → Prop}
theorem f117_c {x : Ring} {t keys : List Int} {e : End} {a b : Nat} (hl4 : x.locks.length ≤ 8) (ht : t.length = 4) (htb : ∀ w ∈ t, 0 ≤ w ∧ w ≤ 2) (hkeys : ∀ q ∈ keys, 0 ≤ q ∧ q < 4) (hkl : keys.length < 2 ^ 30) (hk : k (bv (apartM x t keys a b)) H) : FnC lv Tryz.prog 117 H [.rp (x.l ++ opensL x), .agg (t.map iv), .sl keys.length (keys.map iv) e, iv a, iv b] k kp := by
 refine zak (rs := [.tmp 10]) (nt := 38) F.f117 rfl rfl rfl (by simp) fun hH hA => ?_;simp only [argsT, Nat.reduceAdd];(repeat apply zaa);refine zl5 ?_;simp only [push_cast, seval];(repeat apply zaa);refine zl5 ?_;simp only [push_cast, seval];(repeat apply zaa);refine zag ?_;refine zaB keys.length (fun i : Nat => [(16, iv i)]) (fun _ => H ++ [.cells (t.map iv) 132]) (fun i => (keys.take i).any (fun q => (inTruth x t q.toNat).testBit a != (inTruth x t q.toNat).testBit b) = false) (fun _ _ => rfl) (by simp only [push_cast, seval, List.forall_mem_cons, List.not_mem_nil, false_imp_iff, implies_true, List.forall_mem_nil]; simp [zaf, Wk.refl]) rfl (fun _ _ _ => rfl) (by simp) (fun hHs hLt i hin hi R hR => ?_);(repeat apply zaa);refine zl5 ?_;simp only [push_cast, seval];(repeat apply zaa);refine zae ?_;simp only [push_cast, seval];refine ⟨fun h => ?_, fun h => ?_⟩
 ·
  have hil : i < keys.length := by omega
  obtain ⟨q, hq⟩ := zaE hil;obtain ⟨hq0, hq4⟩ := hkeys q (zas hq);obtain ⟨kn, rfl⟩ : ∃ m : Nat, q = m := ⟨q.toNat, by omega⟩;obtain ⟨w, hw⟩ := zaE (xs := t) (i := kn) (by omega);have hwb := htb w (zas hw);obtain ⟨wn, rfl⟩ : ∃ n : Nat, w = n := ⟨w.toNat, by omega⟩;have b4 : (0 ≤ (kn : Int) ∧ (kn : Int) < 4) = True := by simp; omega
  have b3 : (0 ≤ (wn : Int) ∧ (wn : Int) < 3) = True := by simp; omega
  have hm := zdn hl4 kn wn;have hin : inTruth x t (kn : Int).toNat = opensM x kn wn := by unfold inTruth; rw [Int.toNat_natCast, u8z t kn hw]; rfl
  have sh4 : AV.shift 4 (.rp (x.l ++ opensL x)) = some (.rp (opensL x)) := by simp [Ring.l, zdf, zdg]
  (repeat apply zaa);refine zah ?_;simp only [push_cast, seval];(repeat apply zaa);refine zag ?_;(repeat apply zaa);refine zl5 ?_;simp only [push_cast, seval, za2 hq, zaz hil];(repeat apply zaa);refine zaT F.mixed 10 (by kernel_rfl) ?_;simp only [push_cast, seval, b4, b3, zbf hw, sh4, zcH x (show kn < 4 by omega), zb0 x (show kn < 4 by omega) (show wn < 3 by omega)];(repeat apply zaa);refine zl5 ?_;simp only [push_cast, seval];refine zl6 ((f135_c hm ?_));(try simp only [push_cast, seval]);refine zl6 ((f135_c hm ?_));(try simp only [push_cast, seval]);(repeat apply zaa);refine zae ?_;simp only [push_cast, seval];refine ⟨fun h2 => ?_, fun h2 => ?_⟩
  ·
   (repeat apply zaa);refine zl5 ?_;simp only [push_cast, seval];(repeat apply zaa);refine zai ?_;simp only [push_cast, seval];have hr : apartM x t keys a b = true := any_of hq (by rw [hin]; simpa using h2);rw [hr] at hk;exact endA hH (Wk.refl _) (by simp [zap]) hk
  ·
   (repeat apply zaa);refine zah ?_;simp only [push_cast, seval];have hi1 : IntKind.i64.wrap ((i : Int) + 1) = ((i + 1 : Nat) : Int) := (by rw [zau _ (by omega)]; rfl);(repeat apply zaa);refine zl5 ?_;simp only [push_cast, seval, hi1];refine hR _ ⟨hil, ?_, ?_⟩
   ·rw [any_take hq, hi, hin]; simpa using h2
   ·exact (zax (zam rfl rfl) (by simp only [push_cast, seval]; simp [zaf, Wk.refl]))
 ·
  have hix : i = keys.length := by omega
  subst hix;(repeat apply zaa);refine zaq ?_;simp only [push_cast, seval];(repeat apply zaa);refine zl5 ?_;simp only [push_cast, seval];(repeat apply zaa);refine zai ?_;simp only [push_cast, seval];rw [List.take_length] at hi;have hr : apartM x t keys a b = false := hi;rw [hr] at hk;exact endA hH (Wk.refl _) (by simp [zap]) hk
end
open Go.Conc Go.Proofs
theorem or_u8 {a b : Nat} (ha : a < 256) (hb : b < 256) : IntKind.u8.wrap (BitVec.ofInt IntKind.u8.bits (a : Int) ||| BitVec.ofInt IntKind.u8.bits (b : Int)).toNat = ((a ||| b : Nat) : Int) := by
 rw [BitVec.toNat_or, zk8 ha, zk8 hb];exact zfk (Nat.or_lt_two_pow (n := 8) ha hb)
theorem mask_u8 {n : Nat} (h : n ≤ 4) : IntKind.u8.wrap (IntKind.u8.wrap (1 * 2 ^ (min n IntKind.u8.bits)) - 1) = ((2 ^ n - 1 : Nat) : Int) := by
 have : n = 0 ∨ n = 1 ∨ n = 2 ∨ n = 3 ∨ n = 4 := by omega
 rcases this with rfl | rfl | rfl | rfl | rfl <;> decide
def orM (x : Ring) (t : List Int) (keys : List Int) : Nat := keys.foldl (fun a q => a ||| inTruth x t q.toNat) 0
theorem orM_take {x : Ring} {t keys : List Int} {i : Nat} {q : Int} (h : keys[i]? = some q) : orM x t (keys.take (i + 1)) = orM x t (keys.take i) ||| inTruth x t q.toNat := by
 obtain ⟨hj, rfl⟩ := List.getElem?_eq_some_iff.1 h;unfold orM;rw [List.take_succ_eq_append_getElem hj, List.foldl_append]; rfl
theorem orM_lt {x : Ring} (hl4 : x.locks.length ≤ 8) (t keys : List Int) : orM x t keys < 256 := by
 unfold orM;have : ∀ (l : List Int) (a : Nat), a < 256 → l.foldl (fun a q => a ||| inTruth x t q.toNat) a < 256 := by
  intro l;induction l with
  | nil => exact fun a h => h
  | cons y l ih => exact fun a h => ih _ (Nat.or_lt_two_pow (n := 8) h (zdn hl4 _ _))
 exact this keys 0 (by decide)
def coverB (x : Ring) (ts : List (List Int × Nat)) (keys : List Int) : Bool := ts.all fun y => orM x y.1 keys == 2 ^ x.locks.length - 1
def coverM (x : Ring) : Option (List Int) := fewestM x.keys.length (coverB x (truthsM x []))
section
variable {lv : Bool} {H : List AObj} {k kp : AV → List AObj → Prop}
theorem f114_c {x : Ring} {keys : List Int} {e : End} {l r id ck : Nat} {ts : List (List Int × Nat)} (hl : H[l]? = some (.cells [.mp id] 118)) (hr : H[r]? = some (.cells [.rp (x.l ++ opensL x)] 100)) (hid : H[id]? = some (setObj ts ck)) (hb : ∀ y ∈ ts, y.2 < ck) (hnd : (ts.map (·.2)).Nodup) (hl4 : x.locks.length ≤ 4) (h4 : ∀ y ∈ ts, y.1.length = 4 ∧ ∀ w ∈ y.1, 0 ≤ w ∧ w ≤ 2) (hkeys : ∀ q ∈ keys, 0 ≤ q ∧ q < 4) (hkl : keys.length < 2 ^ 30) (hk : k (bv (coverB x ts keys)) H) : FnC lv Tryz.prog 114 H [.sl keys.length (keys.map iv) e, .op l 0, .op r 0] k kp := by
 refine zak (rs := [.tmp 4]) (nt := 44) F.f114 rfl rfl rfl (by simp) fun hH hA => ?_;simp only [argsT, Nat.reduceAdd];rw [setObj] at hid;(repeat apply zaa);refine zl5 ?_;simp only [push_cast, seval];(repeat apply zaa);refine zl5 ?_;simp only [push_cast, seval, hl, hid];have hid' : ∀ L : List AObj, (H ++ L)[id]? = some (AObj.obj (Obj.map (List.map setEntry ts).toArray ck)) := fun L => zay hid;have hr' : ∀ L : List AObj, (H ++ L)[r]? = some (.cells [.rp (x.l ++ opensL x)] 100) := fun L => zay hr;have hall := zcO ts ck hb;have hokI : ∀ sn, HOk (H ++ [AObj.iter id ck sn ck]) := fun sn z hz => by
  have hl := get_lt hid;rcases List.mem_append.1 hz with h | h
  ·exact (hH z h).mono (by simp)
  ·rw [List.mem_singleton.1 h]; show id < _; simp; omega
 (repeat apply zaa);refine zag ?_;refine za9 (measure fun vs : List (List Int × Nat) => ts.length - vs.length).wf (fun vs => []) (fun vs => H ++ [.iter id ck (vs.map (·.2)).toArray ck]) (fun vs => ((vs.map (·.2)).Nodup ∧ ∀ y ∈ vs, y ∈ ts) ∧ ∀ y ∈ vs, (orM x y.1 keys == 2 ^ x.locks.length - 1) = true) [] (fun _ _ => rfl) (by simp) (by simp) (fun _ _ => by simp) ⟨⟨by simp, by simp⟩, by simp⟩ (fun hHs hLt vs hok R hR => ?_);(repeat apply zaa);refine zl5 ?_;simp only [push_cast, seval, hid'];refine ⟨hall.elim .inl (fun h => .inr (.inl h)), fun e he hn => ?_, fun hs => ?_⟩
 ·obtain ⟨y, hy, rfl⟩ : ∃ y ∈ ts, setEntry y = e := by simpa using he
  have hyn : y.2 ∉ vs.map (·.2) := by simpa [setEntry] using hn
  have hok' := zdk hok.1 hy hyn;have hrel := zdl hok';(repeat apply zaa);refine zae ?_;simp only [push_cast, seval];(repeat apply zaa);refine zah ?_;simp only [push_cast, seval];(repeat apply zaa);refine zag ?_;obtain ⟨h41, h42⟩ := h4 y hy;have hborn : (setEntry y).born = y.2 := rfl;have hlen : (y.1.map iv).length = 4 := by simp [h41]
  have hdrop : List.drop 4 [AV.val (Value.int IntKind.i64 0), AV.val (Value.int IntKind.i64 0), AV.val (Value.int IntKind.i64 0), AV.val (Value.int IntKind.i64 0)] = [] := rfl;(repeat apply zaa);refine zl5 ?_;simp only [push_cast, seval, hid', Array.back?_push, hborn, zcL hnd hy, zb7, h41, hlen, hdrop];(repeat apply zaa);refine zl5 ?_;simp only [push_cast, seval];(repeat apply zaa);refine zl5 ?_;simp only [push_cast, seval];(repeat apply zaa);refine zag ?_;rw [zdm];have hokC : HOk (H ++ [AObj.iter id ck ((vs ++ [y]).map (·.2)).toArray ck, .cells (y.1.map iv) 132]) := by
   have h1 : (H ++ [AObj.iter id ck ((vs ++ [y]).map (·.2)).toArray ck, .cells (y.1.map iv) 132]) = (H ++ [AObj.iter id ck ((vs ++ [y]).map (·.2)).toArray ck]) ++ [.cells (y.1.map iv) 132] := (by simp);rw [h1];refine zc6 (hokI _) fun z hz n => ?_;rw [List.mem_singleton.1 hz];intro a ha;obtain ⟨w, _, rfl⟩ := List.mem_map.1 ha;exact .val _
  refine zaB keys.length (fun i : Nat => [(6, uv (orM x y.1 (keys.take i))), (17, iv i)]) (fun _ => H ++ [.iter id ck ((vs ++ [y]).map (·.2)).toArray ck, .cells (y.1.map iv) 132]) (fun i => True) (fun _ _ => rfl) (by simp only [push_cast, seval, List.forall_mem_cons, List.not_mem_nil, false_imp_iff, implies_true, List.forall_mem_nil]; simp [zaf, Wk.refl]; exact Wk.refl _) rfl (fun _ _ _ => rfl) trivial (fun hHs2 hLt2 i hin hi R2 hR2 => ?_);(repeat apply zaa);refine zl5 ?_;simp only [push_cast, seval];(repeat apply zaa);refine zae ?_;simp only [push_cast, seval];refine ⟨fun h => ?_, fun h => ?_⟩
  ·
   have hil : i < keys.length := (by omega);obtain ⟨q, hq⟩ := zaE hil;obtain ⟨hq0, hq4⟩ := hkeys q (zas hq);obtain ⟨kn, rfl⟩ : ∃ m : Nat, q = m := ⟨q.toNat, by omega⟩;obtain ⟨w, hw⟩ := zaE (xs := y.1) (i := kn) (by omega);have hwb := h42 w (zas hw);obtain ⟨wn, rfl⟩ : ∃ n : Nat, w = n := ⟨w.toNat, by omega⟩;have b4 : (0 ≤ (kn : Int) ∧ (kn : Int) < 4) = True := (by simp; omega);have b3 : (0 ≤ (wn : Int) ∧ (wn : Int) < 3) = True := (by simp; omega);have hm := zdn (x := x) (by omega) kn wn;have ho := orM_lt (x := x) (by omega) y.1 (keys.take i);have hin : inTruth x y.1 (kn : Int).toNat = opensM x kn wn := (by unfold inTruth; rw [Int.toNat_natCast, u8z y.1 kn hw]; rfl);have sh4 : AV.shift 4 (.rp (x.l ++ opensL x)) = some (.rp (opensL x)) := (by simp [Ring.l, zdf, zdg]);have hi1 : IntKind.i64.wrap ((i : Int) + 1) = ((i + 1 : Nat) : Int) := (by rw [zau _ (by omega)]; rfl);(repeat apply zaa);refine zah ?_;simp only [push_cast, seval];(repeat apply zaa);refine zag ?_;(repeat apply zaa);refine zl5 ?_;simp only [push_cast, seval, za2 hq, zaz hil];(repeat apply zaa);refine zaT F.mixed 12 (by kernel_rfl) ?_;simp only [push_cast, seval, b4, b3, hr', zbf hw, sh4, zcH x (show kn < 4 by omega), zb0 x (show kn < 4 by omega) (show wn < 3 by omega), zlp, or_u8 ho hm];(repeat apply zaa);refine zl5 ?_;simp only [push_cast, seval, hi1];refine hR2 _ ⟨hil, trivial, ?_⟩;rw [orM_take hq, hin];exact (zax (zam rfl rfl) (by simp only [push_cast, seval]; simp [zaf, Wk.refl]))
  ·
   have hix : i = keys.length := (by omega);subst hix;(repeat apply zaa);refine zaq ?_;simp only [push_cast, seval];rw [List.take_length];(repeat apply zaa);refine zl5 ?_;simp only [push_cast, seval, hr', Ring.l, aLocks, ziv, if_nat, mask_u8 hl4];(repeat apply zaa);refine zae ?_;simp only [push_cast, seval];refine ⟨fun h2 => ?_, fun h2 => ?_⟩
   ·
    have hne : ¬ orM x y.1 keys = 2 ^ x.locks.length - 1 := by
     intro e2;rw [e2] at h2;simp at h2
    have hr : coverB x ts keys = false := by
     apply Bool.eq_false_iff.2;intro hc;exact hne (by simpa using List.all_eq_true.1 hc y hy)
    (repeat apply zaa);refine zl5 ?_;simp only [push_cast, seval];(repeat apply zaa);refine zai ?_;simp only [push_cast, seval];rw [hr] at hk;exact endV hH hk
   ·
    have heq : orM x y.1 keys = 2 ^ x.locks.length - 1 := by
     have h3 : ((orM x y.1 keys : Nat) : Int) = ((2 ^ x.locks.length - 1 : Nat) : Int) := (by simpa using h2);exact Int.ofNat_inj.1 h3
    (repeat apply zaa);refine zah ?_;simp only [push_cast, seval];refine hR _ ⟨vs ++ [y], hrel, ⟨hok', fun z hz => ?_⟩, ?_⟩
    ·rcases List.mem_append.1 hz with h | h
     ·exact hok.2 z h
     ·rw [List.mem_singleton.1 h]; simpa using heq
    ·exact zat (zam rfl rfl) (by simp) (hokI _) (by simp)
 ·have hp : vs.Perm ts := zct hok.1.1 hnd hok.1.2 fun y hy => by
   have := hs (setEntry y) (by simp; exact ⟨y.1, y.2, hy, rfl⟩) (hb y hy);simpa [setEntry] using this
  have hr : coverB x ts keys = true := List.all_eq_true.2 fun y hy => hok.2 y (hp.mem_iff.2 hy);(repeat apply zaa);refine zae ?_;simp only [push_cast, seval];(repeat apply zaa);refine zaq ?_;simp only [push_cast, seval];(repeat apply zaa);refine zl5 ?_;simp only [push_cast, seval];(repeat apply zaa);refine zai ?_;simp only [push_cast, seval];rw [hr] at hk;exact endV hH hk
theorem so_cover {l r id ck : Nat} {x : Ring} {ts : List (List Int × Nat)} (hl : H[l]? = some (.cells [.mp id] 118)) (hr : H[r]? = some (.cells [.rp (x.l ++ opensL x)] 100)) (hid : H[id]? = some (setObj ts ck)) (hb : ∀ y ∈ ts, y.2 < ck) (hnd : (ts.map (·.2)).Nodup) (hl4 : x.locks.length ≤ 4) (h4 : ∀ y ∈ ts, y.1.length = 4 ∧ ∀ w ∈ y.1, 0 ≤ w ∧ w ≤ 2) : SoC lv H (.fn (.func 114) [] [.op l 0, .op r 0]) (coverB x ts) (fun xs => (∀ q ∈ xs, 0 ≤ q ∧ q < 4) ∧ xs.length ≤ 6) := fun L xs e k kp hp h =>
 zad (by kernel_rfl) (f114_c (zay hl) (zay hr) (zay hid) hb hnd hl4 h4 hp.1 (Nat.lt_of_le_of_lt hp.2 (by decide)) h)
theorem keysP {n : Nat} (hn : n ≤ 4) : ∀ k, k ≤ n → ∀ y ∈ levelM n k, (∀ q ∈ y, 0 ≤ q ∧ q < 4) ∧ y.length ≤ 6 := fun k hk y hy => by
 obtain ⟨h1, h2⟩ := zfE n (by omega) k (by omega) y hy;refine ⟨fun q hq => ?_, by omega⟩;have := h2 q hq;omega
theorem f38_c {x : Ring} (hnr : NewRingC lv) (hmain : H[0]? = some .main) (hs : x.Small) (h1 : openingE x none ≠ 0 → k (.tup [.sl 0 [] .exact, iv (openingE x none)]) H) (h2 : openingE x none = 0 → coverM x = none → k (.tup [.sl 0 [] .exact, iv 11]) H) (h3 : openingE x none = 0 → ∀ xs, coverM x = some xs → k (.tup [aInts xs, iv 0]) H) : FnC lv Tryz.prog 38 H [x.av] k kp := by
 have hmn : ∀ L : List AObj, (H ++ L)[0]? = some .main := fun L => zay hmain;refine zak (rs := [.tmp 2, .tmp 3]) (nt := 33) F.f38 rfl rfl rfl (by simp) fun hH hA => ?_;simp only [argsT, Nat.reduceAdd, Ring.av];(repeat apply zaa);refine zl5 ?_;simp only [push_cast, seval, Ring.l];(repeat apply zaa);refine zl5 ?_;simp only [push_cast, seval];refine zl6 ((f99_c hnr (hmn _) hs zbA (fun hz => ?_) (fun hz => ?_)))
 ·(try simp only [push_cast, seval]);(repeat apply zaa);refine zl5 ?_;simp only [push_cast, seval];(repeat apply zaa);refine zae ?_;simp only [push_cast, seval];refine ⟨fun h => ?_, fun h => absurd (by simpa using h) hz⟩;(repeat apply zaa);refine zl5 ?_;simp only [push_cast, seval];(repeat apply zaa);refine zai ?_;simp only [push_cast, seval];exact endA hH (Wk.refl _) (by simp [zap, zaD, zbh]) (h1 hz)
 ·(try simp only [push_cast, seval]);(repeat apply zaa);refine zl5 ?_;simp only [push_cast, seval];obtain ⟨ho, hne⟩ := zaP.1 hz;have hx := zbp ho;have hx4 := hx.keys;have hx5 := hx.locks;have hle := zbl hx [];have hlk : x.l ++ opensL x = iv x.cuts :: aKeys x.keys :: aLocks x.locks :: aTries x.tries :: opensL x := rfl;(repeat apply zaa);refine zae ?_;simp only [push_cast, seval];(repeat apply zaa);refine zah ?_;simp only [push_cast, seval];(repeat apply zaa);refine zl5 ?_;simp only [push_cast, seval, List.mapM_cons, List.mapM_nil, Option.pure_def, Option.bind_eq_bind, hlk, aKeys];refine zl6 ((f115_c (by omega) ?_));(try simp only [push_cast, seval]);refine zl6 ((f113_c (P := fun xs => (∀ q ∈ xs, 0 ≤ q ∧ q < 4) ∧ xs.length ≤ 6) (by omega) (so_cover (l := H.length + 4) (r := H.length + 3) (id := H.length + 2) (by simp only [push_cast, seval] <;> rfl) (by simp only [push_cast, seval] <;> rfl) (by simp only [push_cast, seval] <;> rfl) (zbm x []) (zba x []) hx5 (zbt hx [])) (keysP hx4) ?_));(try simp only [push_cast, seval]);rw [show fewestM x.keys.length (coverB x (truthsM x [])) = coverM x from rfl];(repeat apply zaa);refine zl5 ?_;simp only [push_cast, seval];(repeat apply zaa);refine zae ?_;simp only [push_cast, seval];cases hm : coverM x with
  | none =>
   refine ⟨fun h => ?_, fun h => by simp at h⟩;(repeat apply zaa);refine zl5 ?_;simp only [push_cast, seval];(repeat apply zaa);refine zai ?_;simp only [push_cast, seval];exact endA hH (Wk.refl _) (by simp [zap, zaD, zbh]) (h2 hz hm)
  | some xs =>
   refine ⟨fun h => by simp at h, fun h => ?_⟩;(repeat apply zaa);refine zah ?_;simp only [push_cast, seval];(repeat apply zaa);refine zl5 ?_;simp only [push_cast, seval];(repeat apply zaa);refine zai ?_;simp only [push_cast, seval];exact endA hH (Wk.refl _) (by simp [zap, zaD, zbi]) (h3 hz xs hm)
end
open Go.Conc Go.Proofs
def pairsB (x : Ring) (t keys : List Int) : Bool := (List.range x.locks.length).all fun b => (List.range b).all fun a => apartM x t keys a b
def tellB (x : Ring) (ts : List (List Int × Nat)) (keys : List Int) : Bool := ts.all fun y => pairsB x y.1 keys
def tellM (x : Ring) : Option (List Int) := fewestM x.keys.length (tellB x (truthsM x []))
section
variable {lv : Bool} {H : List AObj} {k kp : AV → List AObj → Prop}
theorem f120_c {x : Ring} {keys : List Int} {e : End} {l r id ck : Nat} {ts : List (List Int × Nat)} (hl : H[l]? = some (.cells [.mp id] 118)) (hr : H[r]? = some (.cells [.rp (x.l ++ opensL x)] 100)) (hid : H[id]? = some (setObj ts ck)) (hb : ∀ y ∈ ts, y.2 < ck) (hnd : (ts.map (·.2)).Nodup) (hl4 : x.locks.length ≤ 4) (h4 : ∀ y ∈ ts, y.1.length = 4 ∧ ∀ w ∈ y.1, 0 ≤ w ∧ w ≤ 2) (hkeys : ∀ q ∈ keys, 0 ≤ q ∧ q < 4) (hkl : keys.length < 2 ^ 30) (hk : k (bv (tellB x ts keys)) H) : FnC lv Tryz.prog 120 H [.sl keys.length (keys.map iv) e, .op l 0, .op r 0] k kp := by
 refine zak (rs := [.tmp 4]) (nt := 36) F.f120 rfl rfl rfl (by simp) fun hH hA => ?_;simp only [argsT, Nat.reduceAdd];rw [setObj] at hid;(repeat apply zaa);refine zl5 ?_;simp only [push_cast, seval];(repeat apply zaa);refine zl5 ?_;simp only [push_cast, seval, hl, hid];have hid' : ∀ L : List AObj, (H ++ L)[id]? = some (AObj.obj (Obj.map (List.map setEntry ts).toArray ck)) := fun L => zay hid;have hr' : ∀ L : List AObj, (H ++ L)[r]? = some (.cells [.rp (x.l ++ opensL x)] 100) := fun L => zay hr;have hall := zcO ts ck hb;have hokI : ∀ sn, HOk (H ++ [AObj.iter id ck sn ck]) := fun sn z hz => by
  have hl := get_lt hid;rcases List.mem_append.1 hz with h | h
  ·exact (hH z h).mono (by simp)
  ·rw [List.mem_singleton.1 h]; show id < _; simp; omega
 (repeat apply zaa);refine zag ?_;refine za9 (measure fun vs : List (List Int × Nat) => ts.length - vs.length).wf (fun vs => []) (fun vs => H ++ [.iter id ck (vs.map (·.2)).toArray ck]) (fun vs => ((vs.map (·.2)).Nodup ∧ ∀ y ∈ vs, y ∈ ts) ∧ ∀ y ∈ vs, pairsB x y.1 keys = true) [] (fun _ _ => rfl) (by simp) (by simp) (fun _ _ => by simp) ⟨⟨by simp, by simp⟩, by simp⟩ (fun hHs hLt vs hok R hR => ?_);(repeat apply zaa);refine zl5 ?_;simp only [push_cast, seval, hid'];refine ⟨hall.elim .inl (fun h => .inr (.inl h)), fun e he hn => ?_, fun hs => ?_⟩
 ·obtain ⟨y, hy, rfl⟩ : ∃ y ∈ ts, setEntry y = e := by simpa using he
  have hyn : y.2 ∉ vs.map (·.2) := by simpa [setEntry] using hn
  have hok' := zdk hok.1 hy hyn;have hrel := zdl hok';(repeat apply zaa);refine zae ?_;simp only [push_cast, seval];(repeat apply zaa);refine zah ?_;simp only [push_cast, seval];(repeat apply zaa);refine zag ?_;obtain ⟨h41, h42⟩ := h4 y hy;have hborn : (setEntry y).born = y.2 := rfl;have hlen : (y.1.map iv).length = 4 := by simp [h41]
  have hdrop : List.drop 4 [AV.val (Value.int IntKind.i64 0), AV.val (Value.int IntKind.i64 0), AV.val (Value.int IntKind.i64 0), AV.val (Value.int IntKind.i64 0)] = [] := rfl;(repeat apply zaa);refine zl5 ?_;simp only [push_cast, seval, hid', Array.back?_push, hborn, zcL hnd hy, zb7, h41, hlen, hdrop];rw [zdm];have hokC : HOk (H ++ [AObj.iter id ck ((vs ++ [y]).map (·.2)).toArray ck, .cells (y.1.map iv) 132]) := by
   have h1 : (H ++ [AObj.iter id ck ((vs ++ [y]).map (·.2)).toArray ck, .cells (y.1.map iv) 132]) = (H ++ [AObj.iter id ck ((vs ++ [y]).map (·.2)).toArray ck]) ++ [.cells (y.1.map iv) 132] := (by simp);rw [h1];refine zc6 (hokI _) fun z hz n => ?_;rw [List.mem_singleton.1 hz];intro a ha;obtain ⟨w, _, rfl⟩ := List.mem_map.1 ha;exact .val _
  (repeat apply zaa);refine zl5 ?_;simp only [push_cast, seval, hr', Ring.l, aLocks];(repeat apply zaa);refine zag ?_;refine zaB x.locks.length (fun b : Nat => [(20, iv b)]) (fun _ => H ++ [.iter id ck ((vs ++ [y]).map (·.2)).toArray ck, .cells (y.1.map iv) 132]) (fun b => ∀ b' < b, ∀ a < b', apartM x y.1 keys a b' = true) (fun _ _ => rfl) (by simp only [push_cast, seval, List.forall_mem_cons, List.not_mem_nil, false_imp_iff, implies_true, List.forall_mem_nil]; simp [zaf, Wk.refl]) rfl (fun _ _ _ => rfl) (fun b hb => by omega) (fun hHs2 hLt2 b hbn hbo R2 hR2 => ?_);(repeat apply zaa);refine zl5 ?_;simp only [push_cast, seval];(repeat apply zaa);refine zae ?_;simp only [push_cast, seval];refine ⟨fun h => ?_, fun h => ?_⟩
  ·
   have hbl : b < x.locks.length := (by omega);(repeat apply zaa);refine zah ?_;simp only [push_cast, seval];(repeat apply zaa);refine zag ?_;(repeat apply zaa);refine zl5 ?_;simp only [push_cast, seval];(repeat apply zaa);refine zl5 ?_;simp only [push_cast, seval];(repeat apply zaa);refine zag ?_;refine zaB b (fun a : Nat => [(24, iv a)]) (fun _ => H ++ [.iter id ck ((vs ++ [y]).map (·.2)).toArray ck, .cells (y.1.map iv) 132]) (fun a => ∀ a' < a, apartM x y.1 keys a' b = true) (fun _ _ => rfl) (by simp only [push_cast, seval, List.forall_mem_cons, List.not_mem_nil, false_imp_iff, implies_true, List.forall_mem_nil]; simp [zaf, Wk.refl]) rfl (fun _ _ _ => rfl) (fun a ha => by omega) (fun hHs3 hLt3 a han hao R3 hR3 => ?_);(repeat apply zaa);refine zl5 ?_;simp only [push_cast, seval];(repeat apply zaa);refine zae ?_;simp only [push_cast, seval];refine ⟨fun h2 => ?_, fun h2 => ?_⟩
   ·
    have hab : a < b := (by omega);(repeat apply zaa);refine zah ?_;simp only [push_cast, seval];(repeat apply zaa);refine zag ?_;(repeat apply zaa);refine zl5 ?_;simp only [push_cast, seval];have htk : List.take 4 (y.1.map iv) = y.1.map iv := List.take_of_length_le (by omega);(repeat apply zaa);refine zl5 ?_;simp only [push_cast, seval, hr', hlen, htk];refine zl6 ((f117_c (x := x) (by omega) h41 h42 hkeys hkl ?_));(try simp only [push_cast, seval]);(repeat apply zaa);refine zae ?_;simp only [push_cast, seval];refine ⟨fun h3 => ?_, fun h3 => ?_⟩
    ·
     have hr : tellB x ts keys = false := by
      apply Bool.eq_false_iff.2;intro hc;have h4 := List.all_eq_true.1 hc y hy;have h5 := List.all_eq_true.1 h4 b (List.mem_range.2 hbl);have h6 := List.all_eq_true.1 h5 a (List.mem_range.2 hab);rw [h6] at h3; simp at h3
     (repeat apply zaa);refine zl5 ?_;simp only [push_cast, seval];(repeat apply zaa);refine zai ?_;simp only [push_cast, seval];rw [hr] at hk;exact endV hH hk
    ·
     have ha1 : IntKind.i64.wrap ((a : Int) + 1) = ((a + 1 : Nat) : Int) := (by rw [zau _ (by omega)]; rfl);(repeat apply zaa);refine zah ?_;simp only [push_cast, seval];(repeat apply zaa);refine zl5 ?_;simp only [push_cast, seval, ha1];refine hR3 _ ⟨hab, fun a' ha' => ?_, ?_⟩
     ·by_cases e3 : a' = a
      ·subst e3; simpa using h3
      ·exact hao a' (by omega)
     ·exact (zax (zam rfl rfl) (by simp only [push_cast, seval]; simp [zaf, Wk.refl]))
   ·
    have hax : a = b := (by omega);subst hax;(repeat apply zaa);refine zaq ?_;simp only [push_cast, seval];have hb1 : IntKind.i64.wrap ((a : Int) + 1) = ((a + 1 : Nat) : Int) := (by rw [zau _ (by omega)]; rfl);(repeat apply zaa);refine zl5 ?_;simp only [push_cast, seval, hb1];refine hR2 _ ⟨hbl, fun b' hb' a' ha' => ?_, ?_⟩
    ·by_cases e3 : b' = a
     ·subst e3; exact hao a' ha'
     ·exact hbo b' (by omega) a' ha'
    ·exact (zax (zam rfl rfl) (by simp only [push_cast, seval]; simp [zaf, Wk.refl]))
  ·
   have hbx : b = x.locks.length := (by omega);subst hbx;(repeat apply zaa);refine zaq ?_;simp only [push_cast, seval];have heq : pairsB x y.1 keys = true := List.all_eq_true.2 fun b hb => List.all_eq_true.2 fun a ha => hbo b (List.mem_range.1 hb) a (List.mem_range.1 ha);refine hR _ ⟨vs ++ [y], hrel, ⟨hok', fun z hz => ?_⟩, ?_⟩
   ·rcases List.mem_append.1 hz with h | h
    ·exact hok.2 z h
    ·rw [List.mem_singleton.1 h]; exact heq
   ·exact zat (zam rfl rfl) (by simp) (hokI _) (by simp)
 ·have hp : vs.Perm ts := zct hok.1.1 hnd hok.1.2 fun y hy => by
   have := hs (setEntry y) (by simp; exact ⟨y.1, y.2, hy, rfl⟩) (hb y hy);simpa [setEntry] using this
  have hr : tellB x ts keys = true := List.all_eq_true.2 fun y hy => hok.2 y (hp.mem_iff.2 hy);(repeat apply zaa);refine zae ?_;simp only [push_cast, seval];(repeat apply zaa);refine zaq ?_;simp only [push_cast, seval];(repeat apply zaa);refine zl5 ?_;simp only [push_cast, seval];(repeat apply zaa);refine zai ?_;simp only [push_cast, seval];rw [hr] at hk;exact endV hH hk
theorem so_tell {l r id ck : Nat} {x : Ring} {ts : List (List Int × Nat)} (hl : H[l]? = some (.cells [.mp id] 118)) (hr : H[r]? = some (.cells [.rp (x.l ++ opensL x)] 100)) (hid : H[id]? = some (setObj ts ck)) (hb : ∀ y ∈ ts, y.2 < ck) (hnd : (ts.map (·.2)).Nodup) (hl4 : x.locks.length ≤ 4) (h4 : ∀ y ∈ ts, y.1.length = 4 ∧ ∀ w ∈ y.1, 0 ≤ w ∧ w ≤ 2) : SoC lv H (.fn (.func 120) [] [.op l 0, .op r 0]) (tellB x ts) (fun xs => (∀ q ∈ xs, 0 ≤ q ∧ q < 4) ∧ xs.length ≤ 6) := fun L xs e k kp hp h =>
 zad (by kernel_rfl) (f120_c (zay hl) (zay hr) (zay hid) hb hnd hl4 h4 hp.1 (Nat.lt_of_le_of_lt hp.2 (by decide)) h)
theorem f42_c {x : Ring} (hnr : NewRingC lv) (hmain : H[0]? = some .main) (hs : x.Small) (h1 : openingE x none ≠ 0 → k (.tup [.sl 0 [] .exact, iv (openingE x none)]) H) (h2 : openingE x none = 0 → tellM x = none → k (.tup [.sl 0 [] .exact, iv 11]) H) (h3 : openingE x none = 0 → ∀ xs, tellM x = some xs → k (.tup [aInts xs, iv 0]) H) : FnC lv Tryz.prog 42 H [x.av] k kp := by
 have hmn : ∀ L : List AObj, (H ++ L)[0]? = some .main := fun L => zay hmain;refine zak (rs := [.tmp 2, .tmp 3]) (nt := 33) F.f42 rfl rfl rfl (by simp) fun hH hA => ?_;simp only [argsT, Nat.reduceAdd, Ring.av];(repeat apply zaa);refine zl5 ?_;simp only [push_cast, seval, Ring.l];(repeat apply zaa);refine zl5 ?_;simp only [push_cast, seval];refine zl6 ((f99_c hnr (hmn _) hs zbA (fun hz => ?_) (fun hz => ?_)))
 ·(try simp only [push_cast, seval]);(repeat apply zaa);refine zl5 ?_;simp only [push_cast, seval];(repeat apply zaa);refine zae ?_;simp only [push_cast, seval];refine ⟨fun h => ?_, fun h => absurd (by simpa using h) hz⟩;(repeat apply zaa);refine zl5 ?_;simp only [push_cast, seval];(repeat apply zaa);refine zai ?_;simp only [push_cast, seval];exact endA hH (Wk.refl _) (by simp [zap, zaD, zbh]) (h1 hz)
 ·(try simp only [push_cast, seval]);(repeat apply zaa);refine zl5 ?_;simp only [push_cast, seval];obtain ⟨ho, hne⟩ := zaP.1 hz;have hx := zbp ho;have hx4 := hx.keys;have hx5 := hx.locks;have hle := zbl hx [];have hlk : x.l ++ opensL x = iv x.cuts :: aKeys x.keys :: aLocks x.locks :: aTries x.tries :: opensL x := rfl;(repeat apply zaa);refine zae ?_;simp only [push_cast, seval];(repeat apply zaa);refine zah ?_;simp only [push_cast, seval];(repeat apply zaa);refine zl5 ?_;simp only [push_cast, seval, List.mapM_cons, List.mapM_nil, Option.pure_def, Option.bind_eq_bind, hlk, aKeys];refine zl6 ((f115_c (by omega) ?_));(try simp only [push_cast, seval]);refine zl6 ((f113_c (P := fun xs => (∀ q ∈ xs, 0 ≤ q ∧ q < 4) ∧ xs.length ≤ 6) (by omega) (so_tell (l := H.length + 4) (r := H.length + 3) (id := H.length + 2) (by simp only [push_cast, seval] <;> rfl) (by simp only [push_cast, seval] <;> rfl) (by simp only [push_cast, seval] <;> rfl) (zbm x []) (zba x []) hx5 (zbt hx [])) (keysP hx4) ?_));(try simp only [push_cast, seval]);rw [show fewestM x.keys.length (tellB x (truthsM x [])) = tellM x from rfl];(repeat apply zaa);refine zl5 ?_;simp only [push_cast, seval];(repeat apply zaa);refine zae ?_;simp only [push_cast, seval];cases hm : tellM x with
  | none =>
   refine ⟨fun h => ?_, fun h => by simp at h⟩;(repeat apply zaa);refine zl5 ?_;simp only [push_cast, seval];(repeat apply zaa);refine zai ?_;simp only [push_cast, seval];exact endA hH (Wk.refl _) (by simp [zap, zaD, zbh]) (h2 hz hm)
  | some xs =>
   refine ⟨fun h => by simp at h, fun h => ?_⟩;(repeat apply zaa);refine zah ?_;simp only [push_cast, seval];(repeat apply zaa);refine zl5 ?_;simp only [push_cast, seval];(repeat apply zaa);refine zai ?_;simp only [push_cast, seval];exact endA hH (Wk.refl _) (by simp [zap, zaD, zbi]) (h3 hz xs hm)
end
open Go.Conc Go.Proofs
def sameB (x : Ring) (ts : List (List Int × Nat)) (keys : List Int) (a b : Nat) : Bool := ts.all fun y => !apartM x y.1 keys a b
def alikeTo (x : Ring) (ts : List (List Int × Nat)) (keys : List Int) : Nat → List Int × Nat
 | 0 => ([], 0)
 | b + 1 => match (List.range b).find? fun a => sameB x ts keys a b with
  | some a => ((alikeTo x ts keys b).1 ++ [(alikeTo x ts keys b).1.getD a 0], (alikeTo x ts keys b).2)
  | none => ((alikeTo x ts keys b).1 ++ [((alikeTo x ts keys b).2 : Int)], (alikeTo x ts keys b).2 + 1)
def alikeM (x : Ring) : List Int := (alikeTo x (truthsM x []) (belowM x.keys.length) x.locks.length).1
theorem zeV (x : Ring) (ts : List (List Int × Nat)) (keys : List Int) : ∀ b, (alikeTo x ts keys b).1.length = b
 | 0 => rfl
 | b + 1 => by
  unfold alikeTo;split <;> simp [zeV x ts keys b]
theorem zfi (x : Ring) (ts : List (List Int × Nat)) (keys : List Int) : ∀ b, (alikeTo x ts keys b).2 ≤ b
 | 0 => Nat.le_refl _
 | b + 1 => by
  have := zfi x ts keys b;unfold alikeTo;split <;> simp <;> omega
theorem zjl {f : Nat → Bool} {a b : Nat} (hab : a < b) (hf : f a = true) (h : ∀ a' < a, f a' = false) : (List.range b).find? f = some a :=
 zfN (j := a) (by simp [hab]) hf fun y hy => by
  have : List.take a (List.range b) = List.range a := by rw [List.take_range, Nat.min_eq_left (by omega)]
  rw [this] at hy;exact h y (List.mem_range.1 hy)
theorem zeF {f : Nat → Bool} {b : Nat} (h : ∀ a' < b, f a' = false) : (List.range b).find? f = none := zdt fun y hy => h y (List.mem_range.1 hy)
section
variable {lv : Bool} {H : List AObj} {k kp : AV → List AObj → Prop}
theorem f40_c {x : Ring} (hnr : NewRingC lv) (hmain : H[0]? = some .main) (hs : x.Small) (h1 : openingE x none ≠ 0 → k (.tup [.sl 0 [] .exact, iv (openingE x none)]) H) (h2 : openingE x none = 0 → k (.tup [aInts (alikeM x), iv 0]) H) : FnC lv Tryz.prog 40 H [x.av] k kp := by
 have hmn : ∀ L : List AObj, (H ++ L)[0]? = some .main := fun L => zay hmain;refine zak (rs := [.tmp 2, .tmp 3]) (nt := 70) F.f40 rfl rfl rfl (by simp) fun hH hA => ?_;simp only [argsT, Nat.reduceAdd, Ring.av];(repeat apply zaa);refine zl5 ?_;simp only [push_cast, seval, Ring.l];(repeat apply zaa);refine zcb ?_;(repeat apply zaa);refine zl5 ?_;simp only [push_cast, seval];refine zl6 ((f99_c hnr (hmn _) hs zbA (fun hz => ?_) (fun hz => ?_)))
 ·(try simp only [push_cast, seval]);(repeat apply zaa);refine zl5 ?_;simp only [push_cast, seval];(repeat apply zaa);refine zae ?_;simp only [push_cast, seval];refine ⟨fun h => ?_, fun h => absurd (by simpa using h) hz⟩;(repeat apply zaa);refine zl5 ?_;simp only [push_cast, seval];(repeat apply zaa);refine zai ?_;simp only [push_cast, seval];exact endA hH (Wk.refl _) (by simp [zap, zaD, zbh]) (h1 hz)
 ·(try simp only [push_cast, seval]);(repeat apply zaa);refine zl5 ?_;simp only [push_cast, seval];obtain ⟨ho, hne⟩ := zaP.1 hz;have hx := zbp ho;have hx4 := hx.keys;have hx5 := hx.locks;have hle := zbl hx [];have hlk : x.l ++ opensL x = iv x.cuts :: aKeys x.keys :: aLocks x.locks :: aTries x.tries :: opensL x := rfl;have hkeys : ∀ q ∈ belowM x.keys.length, 0 ≤ q ∧ q < 4 := fun q hq => by
   obtain ⟨m, hm, rfl⟩ := List.mem_map.1 hq;have := List.mem_range.1 hm;omega
  (repeat apply zaa);refine zae ?_;simp only [push_cast, seval];(repeat apply zaa);refine zah ?_;simp only [push_cast, seval];(repeat apply zaa);refine zl5 ?_;simp only [push_cast, seval, hlk, aKeys];refine zl6 ((f115_c (by omega) ?_));(try simp only [push_cast, seval]);(repeat apply zaa);refine zl5 ?_;simp only [push_cast, seval]
  (repeat apply zaa); refine zbV (t := 8) (sz := 1) (el := 3) (by simp only [push_cast, seval] <;> rfl) ?_
  (repeat apply zaa);refine zl5 ?_;simp only [push_cast, seval];(repeat apply zaa);refine zbQ ?_;simp only [push_cast, seval];(repeat apply zaa);refine zl5 ?_;simp only [push_cast, seval, aLocks];(repeat apply zaa);refine zag ?_;let ts := truthsM x [];let keys := belowM x.keys.length;let al := alikeTo x ts keys;have hal : ∀ b, (al b).1.length = b := zeV x ts keys;have hb := zbm x [];have hnd := zba x [];have h4 := zbt hx [];have hall := zcO (truthsM x []) (wears0 x).length hb;refine zaB x.locks.length (fun b : Nat => [(8, .sl b ((al b).1.map iv) (.opn (H.length + 3))), (9, iv (al b).2), (35, iv b)]) (fun b => H ++ [.cells x.l 26, .cells x.l 26, setObj (truthsM x []) (wears0 x).length, .tail b 1 3]) (fun _ => True) (fun _ _ => rfl) (by simp only [push_cast, seval, List.forall_mem_cons, List.not_mem_nil, false_imp_iff, implies_true, List.forall_mem_nil]; simp [zaf, Wk.refl]; first | exact Wk.refl _ | exact ⟨Wk.refl _, Wk.refl _⟩) rfl (fun _ _ _ => by simp) trivial (fun hHs hLt b hbn hbo R hR => ?_);(repeat apply zaa);refine zl5 ?_;simp only [push_cast, seval];(repeat apply zaa);refine zae ?_;simp only [push_cast, seval];refine ⟨fun h => ?_, fun h => ?_⟩
  ·
   have hbl : b < x.locks.length := (by omega);have hb1 : IntKind.i64.wrap ((b : Int) + 1) = ((b + 1 : Nat) : Int) := (by rw [zau _ (by omega)]; rfl);have hml : (al b).2 ≤ b := zfi x ts keys b;have hm1 : IntKind.i64.wrap (((al b).2 : Int) + 1) = (((al b).2 + 1 : Nat) : Int) := (by rw [zau _ (by omega)]; rfl);(repeat apply zaa);refine zah ?_;simp only [push_cast, seval];(repeat apply zaa);refine zag ?_;(repeat apply zaa);refine zl5 ?_;simp only [push_cast, seval];(repeat apply zaa);refine zcb ?_;(repeat apply zaa);refine zbQ ?_;simp only [push_cast, seval];(repeat apply zaa);refine zl5 ?_;simp only [push_cast, seval];(repeat apply zaa);refine zag ?_;refine zaB b (fun a : Nat => [(39, iv a)]) (fun _ => H ++ [.cells x.l 26, .cells x.l 26, setObj (truthsM x []) (wears0 x).length, .tail b 1 3]) (fun a => ∀ a' < a, sameB x ts keys a' b = false) (fun _ _ => rfl) (by simp only [push_cast, seval, List.forall_mem_cons, List.not_mem_nil, false_imp_iff, implies_true, List.forall_mem_nil]; simp [zaf, Wk.refl]) rfl (fun _ _ _ => rfl) (fun a ha => by omega) (fun hHs2 hLt2 a han hao R2 hR2 => ?_);(repeat apply zaa);refine zl5 ?_;simp only [push_cast, seval];(repeat apply zaa);refine zae ?_;simp only [push_cast, seval];refine ⟨fun h2 => ?_, fun h2 => ?_⟩
   ·
    have hab : a < b := (by omega);have ha1 : IntKind.i64.wrap ((a : Int) + 1) = ((a + 1 : Nat) : Int) := (by rw [zau _ (by omega)]; rfl);have hokB : HOk (H ++ [AObj.cells x.l 26, .cells x.l 26, setObj (truthsM x []) (wears0 x).length, .tail b 1 3]) := hHs2;have hokT : ∀ m, HOk (H ++ [AObj.cells x.l 26, .cells x.l 26, setObj (truthsM x []) (wears0 x).length, .tail m 1 3]) := fun m => by
     have h1 := zec (H := H ++ [AObj.cells x.l 26, .cells x.l 26, setObj (truthsM x []) (wears0 x).length]) (L := []) (o := .tail b 1 3) (o' := .tail m 1 3) (by simpa using hokB) (fun _ => trivial);simpa using h1
    have hokI : ∀ sn, HOk (H ++ [AObj.cells x.l 26, .cells x.l 26, setObj (truthsM x []) (wears0 x).length, .tail b 1 3, .iter (H.length + 1 + 1) (wears0 x).length sn (wears0 x).length]) := fun sn => by
     have h1 : (H ++ [AObj.cells x.l 26, .cells x.l 26, setObj (truthsM x []) (wears0 x).length, .tail b 1 3, .iter (H.length + 1 + 1) (wears0 x).length sn (wears0 x).length]) = (H ++ [AObj.cells x.l 26, .cells x.l 26, setObj (truthsM x []) (wears0 x).length, .tail b 1 3]) ++ [.iter (H.length + 1 + 1) (wears0 x).length sn (wears0 x).length] := (by simp);rw [h1];intro z hz;rcases List.mem_append.1 hz with h | h
     ·exact (hokB z h).mono (by simp)
     ·rw [List.mem_singleton.1 h]; show H.length + 1 + 1 < _; simp
    (repeat apply zaa);refine zah ?_;simp only [push_cast, seval];(repeat apply zaa);refine zag ?_;(repeat apply zaa);refine zl5 ?_;simp only [push_cast, seval];(repeat apply zaa);refine zl5 ?_;simp only [push_cast, seval, zaL];(repeat apply zaa);refine zag ?_;refine za9 (measure fun vs : List (List Int × Nat) => (truthsM x []).length - vs.length).wf (fun vs => []) (fun vs => H ++ [.cells x.l 26, .cells x.l 26, setObj (truthsM x []) (wears0 x).length, .tail b 1 3, .iter (H.length + 1 + 1) (wears0 x).length (vs.map (·.2)).toArray (wears0 x).length]) (fun vs => ((vs.map (·.2)).Nodup ∧ ∀ y ∈ vs, y ∈ truthsM x []) ∧ ∀ y ∈ vs, apartM x y.1 keys a b = false) [] (fun _ _ => rfl) (by simp) (by simp [zaL]) (fun _ _ => by simp) ⟨⟨by simp, by simp⟩, by simp⟩ (fun hHs3 hLt3 vs hok R3 hR3 => ?_);(repeat apply zaa);refine zl5 ?_;simp only [push_cast, seval, zaL];refine ⟨hall.elim .inl (fun h => .inr (.inl h)), fun e he hn => ?_, fun hs => ?_⟩
    ·obtain ⟨y, hy, rfl⟩ : ∃ y ∈ truthsM x [], setEntry y = e := (by simpa using he);have hyn : y.2 ∉ vs.map (·.2) := (by simpa [setEntry] using hn);have hok' := zdk hok.1 hy hyn;have hrel := zdl hok';(repeat apply zaa);refine zae ?_;simp only [push_cast, seval];(repeat apply zaa);refine zah ?_;simp only [push_cast, seval];(repeat apply zaa);refine zag ?_;obtain ⟨h41, h42⟩ := h4 y hy;have hborn : (setEntry y).born = y.2 := rfl;have hlen : (y.1.map iv).length = 4 := (by simp [h41]);have hdrop : List.drop 4 [AV.val (Value.int IntKind.i64 0), AV.val (Value.int IntKind.i64 0), AV.val (Value.int IntKind.i64 0), AV.val (Value.int IntKind.i64 0)] = [] := rfl;have htk : List.take 4 (y.1.map iv) = y.1.map iv := List.take_of_length_le (by omega);(repeat apply zaa);refine zl5 ?_;simp only [push_cast, seval, zaL, Array.back?_push, hborn, zcL hnd hy, zb7, h41, hlen, hdrop];(repeat apply zaa);refine zl5 ?_;simp only [push_cast, seval, hlen, htk];refine zl6 ((f117_c (x := x) (t := y.1) (keys := belowM x.keys.length) (e := .shut) (a := a) (b := b) (by omega) h41 h42 hkeys (by rw [zca]; omega) ?_));(try simp only [push_cast, seval]);(repeat apply zaa);refine zae ?_;simp only [push_cast, seval];refine ⟨fun h3 => ?_, fun h3 => ?_⟩
     ·
      (repeat apply zaa);refine zaq ?_;simp only [push_cast, seval];(repeat apply zaa);refine zl5 ?_;simp only [push_cast, seval, ha1];have hf : sameB x ts keys a b = false := by
       apply Bool.eq_false_iff.2;intro hc;have h5 := List.all_eq_true.1 hc y hy;have h6 : apartM x y.1 keys a b = true := h3;rw [h6] at h5; simp at h5
      refine hR2 _ ⟨hab, fun a' ha' => ?_, ?_⟩
      ·by_cases e3 : a' = a
       ·subst e3; exact hf
       ·exact hao a' (by omega)
      ·exact zat (zam rfl rfl) (by simp only [push_cast, seval]; simp [zaf, Wk.refl]) hokB (by simp [zap])
     ·
      (repeat apply zaa);refine zah ?_;simp only [push_cast, seval];rw [zdm];refine hR3 _ ⟨vs ++ [y], hrel, ⟨hok', fun z hz => ?_⟩, ?_⟩
      ·rcases List.mem_append.1 hz with h | h
       ·exact hok.2 z h
       ·rw [List.mem_singleton.1 h]; exact h3
      ·exact zat (zam rfl rfl) (by simp) (hokI _) (by simp)
    ·have hp : vs.Perm (truthsM x []) := zct hok.1.1 hnd hok.1.2 fun y hy => by
      have := hs (setEntry y) (by simp; exact ⟨y.1, y.2, hy, rfl⟩) (hb y hy);simpa [setEntry] using this
     have hf : sameB x ts keys a b = true := List.all_eq_true.2 fun y hy => by
      rw [hok.2 y (hp.mem_iff.2 hy)]; rfl
     have hfd := zjl hab hf hao;have hsucc : al (b + 1) = ((al b).1 ++ [(al b).1.getD a 0], (al b).2) := by
      show alikeTo x ts keys (b + 1) = _;rw [alikeTo, hfd]
     obtain ⟨v, hv⟩ := zaE (xs := (al b).1) (i := a) (by rw [hal]; exact hab);have hgv := u8z (al b).1 a hv;(repeat apply zaa);refine zae ?_;simp only [push_cast, seval];(repeat apply zaa);refine zaq ?_;simp only [push_cast, seval];(repeat apply zaa);refine zl5 ?_;simp only [push_cast, seval, za2 hv, zaz hab, z1, pow24, List.length_map, hal];refine ⟨by omega, ?_⟩;(repeat apply zaa);refine zaq ?_;simp only [push_cast, seval];(repeat apply zaa);refine zl5 ?_;simp only [push_cast, seval, hb1];refine hR _ ⟨hbl, trivial, ?_⟩;rw [hsucc, hgv, List.map_append];exact zat (zam rfl rfl) (by simp only [push_cast, seval]; simp [zaf, Wk.refl]) (hokT (b + 1)) (by simp [zap, zdq]; rintro a (⟨w, _, rfl⟩ | rfl) <;> exact .val _)
   ·
    have hax : a = b := (by omega);subst hax;(repeat apply zaa);refine zaq ?_;simp only [push_cast, seval];(repeat apply zaa);refine zl5 ?_;simp only [push_cast, seval, z1, pow24, List.length_map, hal];refine ⟨by omega, ?_⟩;(repeat apply zaa);refine zl5 ?_;simp only [push_cast, seval, hm1];(repeat apply zaa);refine zl5 ?_;simp only [push_cast, seval, hb1];have hfd := zeF hao;have hsucc : al (a + 1) = ((al a).1 ++ [((al a).2 : Int)], (al a).2 + 1) := by
     show alikeTo x ts keys (a + 1) = _;rw [alikeTo, hfd]
    refine hR _ ⟨hbl, trivial, ?_⟩;rw [hsucc, List.map_append];exact (zax (zam rfl rfl) (by simp only [push_cast, seval]; simp [zaf, Wk.refl]))
  ·
   have hbx : b = x.locks.length := (by omega);subst hbx;(repeat apply zaa);refine zaq ?_;simp only [push_cast, seval];(repeat apply zaa);refine zl5 ?_;simp only [push_cast, seval];(repeat apply zaa);refine zai ?_;simp only [push_cast, seval];have ea : aInts (alikeM x) = .sl x.locks.length ((al x.locks.length).1.map iv) .shut := by
    unfold aInts;rw [show (alikeM x).length = x.locks.length from hal _]; rfl
   rw [ea] at h2;exact endA hH (zdC (zaK _ _ _) (Wk.refl _)) (by simp [zap, zaD, za3]) (h2 hz)
end
open Go.Conc Go.Proofs
def whichFl (x : Ring) (us : List Turn) : Option Int := if us.length ≤ 6 then (if us.all fun u => inM u.key 0 (x.keys.length - 1) then none else some 0) else some 3
theorem zf3 {x : Ring} {us : List Turn} : whichFl x us = none ↔ us.length ≤ 6 ∧ ∀ u ∈ us, 0 ≤ u.key ∧ u.key ≤ x.keys.length - 1 := by
 unfold whichFl;split
 ·split
  ·rename_i h1 h2;simp only [true_iff];refine ⟨h1, fun u hu => zbU.1 (List.all_eq_true.1 h2 u hu)⟩
  ·rename_i h1 h2;simp only [reduceCtorEq, false_iff];intro h;exact h2 (List.all_eq_true.2 fun u hu => zbU.2 (h.2 u hu))
 ·rename_i h1;simp only [reduceCtorEq, false_iff];intro h; exact h1 h.1
section
variable {lv : Bool} {H : List AObj} {k kp : AV → List AObj → Prop}
theorem f121_c {r i : Nat} {x : Ring} {us : List Turn} (hx : x.Small) (hul : us.length < 2 ^ 30) (hr : H[r]? = some (.cells [aTurns us] 50)) (hi : H[i]? = some (.cells x.l 26)) (hk : whichFl x us = none → k (.tup []) H) (hp : ∀ f, whichFl x us = some f → kp (.ifc 106 (iv f)) H) : FnC lv Tryz.prog 121 H [.op r 0, .op i 0] k kp := by
 refine zak (rs := []) (nt := 20) F.f121 rfl rfl rfl (by simp) fun hH hA => ?_;simp only [argsT, Nat.reduceAdd];have hi2 := hi;rw [Ring.l] at hi2;(repeat apply zaa);refine zl5 ?_;simp only [push_cast, seval, hr, aTurns];refine zl6 ((f90_c (fun h => ?_) (fun h => ?_)))
 ·have h5 : (us.length : Int) ≤ 6 := by simpa using h
  have h6 : us.length ≤ 6 := by omega
  (try simp only [push_cast, seval]);(repeat apply zaa);refine zl5 ?_;simp only [push_cast, seval, hr, aTurns];(repeat apply zaa);refine zag ?_;refine zaB us.length (fun i : Nat => [(10, iv i)]) (fun _ => H) (fun i => (us.take i).all (fun u => inM u.key 0 (x.keys.length - 1)) = true) (fun _ _ => rfl) (by simp only [push_cast, seval, List.forall_mem_cons, List.not_mem_nil, false_imp_iff, implies_true, List.forall_mem_nil]; simp [zaf, Wk.refl]) rfl (fun _ _ _ => rfl) (by simp) (fun hHs hLt j hjn hj R hR => ?_);(repeat apply zaa);refine zl5 ?_;simp only [push_cast, seval];(repeat apply zaa);refine zae ?_;simp only [push_cast, seval];refine ⟨fun h2 => ?_, fun h2 => ?_⟩
  ·have hjl : j < us.length := (by omega);obtain ⟨u, hu⟩ := zaE hjl;have hj1 : IntKind.i64.wrap ((j : Int) + 1) = ((j + 1 : Nat) : Int) := (by rw [zau _ (by omega)]; rfl);have htk : (us.take (j + 1)).all (fun u => inM u.key 0 (x.keys.length - 1)) = ((us.take j).all (fun u => inM u.key 0 (x.keys.length - 1)) && inM u.key 0 (x.keys.length - 1)) := by
    obtain ⟨hj', rfl⟩ := List.getElem?_eq_some_iff.1 hu;rw [List.take_succ_eq_append_getElem hj', List.all_append]; simp
   (repeat apply zaa);refine zah ?_;simp only [push_cast, seval];(repeat apply zaa);refine zag ?_;(repeat apply zaa);refine zl5 ?_;simp only [push_cast, seval, zh5 hu, zaz hjl];(repeat apply zaa);refine zl5 ?_;simp only [push_cast, seval, zay hi2];refine zl6 ((f89_c (x := x) ?_));(try simp only [push_cast, seval]);refine zl6 ((f152_c hx (by simp only [push_cast, seval] <;> rfl) (by simp only [push_cast, seval] <;> rfl) (fun hin => ?_) (fun hin => ?_)))
   ·(try simp only [push_cast, seval]);(repeat apply zaa);refine zl5 ?_;simp only [push_cast, seval, hj1];refine hR _ ⟨hjl, by rw [htk, hj, hin]; rfl, ?_⟩;exact (by first | exact zaS (zam rfl rfl) (by simp only [push_cast, seval]; simp [zaf, Wk.refl]) hHs (by simp [zap]) | exact zat (zam rfl rfl) (by simp only [push_cast, seval]; simp [zaf, Wk.refl]) hHs (by simp [zap]))
   ·(try simp only [push_cast, seval]);have hw : whichFl x us = some 0 := by
     unfold whichFl;rw [if_pos h6, if_neg];intro hc;have := List.all_eq_true.1 hc u (zas hu);rw [hin] at this; cases this
    exact zaJ (Wk.refl _) rfl (Nat.le_refl _) hH (by simp [zap, zey]) (hp 0 hw)
  ·have hjx : j = us.length := (by omega);subst hjx;rw [List.take_length] at hj;(repeat apply zaa);refine zaq ?_;simp only [push_cast, seval];have hw : whichFl x us = none := by
    unfold whichFl;rw [if_pos h6, if_pos hj]
   exact zao (hk hw)
 ·have h5 : ¬ (us.length : Int) ≤ 6 := by simpa using h
  have h6 : ¬ us.length ≤ 6 := by omega
  exact zao (hp 3 (by unfold whichFl; rw [if_neg h6]))
theorem zlg {r i : Nat} {x : Ring} {us : List Turn} (hx : x.Small) (hul : us.length < 2 ^ 30) (hr : H[r]? = some (.cells [aTurns us] 50)) (hi : H[i]? = some (.cells x.l 26)) : AskC lv H (.fn (.func 121) [] [.op r 0, .op i 0]) (whichFl x us) := fun L k kp h1 h2 =>
 zad (by kernel_rfl) (f121_c hx hul (zay hr) (zay hi) h1 h2)
end
open Go.Conc Go.Proofs
def fitsB (x : Ring) (t : List Int) (n : Nat) (u : Turn) : Bool := (inTruth x t u.key.toNat).testBit n == u.opens
def bagB (x : Ring) (ts : List (List Int × Nat)) (us : List Turn) (n : Nat) : Bool := ts.any fun y => us.all (fitsB x y.1 n)
def whichTo (x : Ring) (us : List Turn) (n : Nat) : List Int := ((List.range n).filter (bagB x (truthsM x []) us)).map fun i : Nat => (i : Int)
def whichM (x : Ring) (us : List Turn) : List Int := whichTo x us x.locks.length
theorem ziB (x : Ring) (us : List Turn) (n : Nat) : (whichTo x us n).length ≤ n := by
 unfold whichTo;rw [List.length_map];have := List.length_filter_le (bagB x (truthsM x []) us) (List.range n);simpa using this
theorem zdS (x : Ring) (us : List Turn) (n : Nat) : whichTo x us (n + 1) = whichTo x us n ++ (if bagB x (truthsM x []) us n then [(n : Int)] else []) := by
 unfold whichTo;rw [List.range_succ, List.filter_append, List.map_append];congr 1;by_cases h : bagB x (truthsM x []) us n = true <;> simp [h]
section
variable {lv : Bool} {H : List AObj} {k kp : AV → List AObj → Prop}
theorem f46_c {x : Ring} {us : List Turn} (hnr : NewRingC lv) (hmain : H[0]? = some .main) (hs : x.Small) (hul : us.length < 2 ^ 30) (h1 : openingE x (whichFl x us) ≠ 0 → k (.tup [.sl 0 [] .exact, iv (openingE x (whichFl x us))]) H) (h2 : openingE x (whichFl x us) = 0 → k (.tup [aInts (whichM x us), iv 0]) H) : FnC lv Tryz.prog 46 H [x.av, aTurns us] k kp := by
 have hmn : ∀ L : List AObj, (H ++ L)[0]? = some .main := fun L => zay hmain;refine zak (rs := [.tmp 4, .tmp 5]) (nt := 81) F.f46 rfl rfl rfl (by simp) fun hH hA => ?_;simp only [argsT, Nat.reduceAdd, Ring.av];(repeat apply zaa);refine zl5 ?_;simp only [push_cast, seval, Ring.l, aTurns];(repeat apply zaa);refine zcb ?_;(repeat apply zaa);refine zl5 ?_;simp only [push_cast, seval, List.mapM_cons, List.mapM_nil, Option.pure_def, Option.bind_eq_bind];have hask : AskC lv (H ++ [.cells x.l 26, .cells [aTurns us] 50]) _ (whichFl x us) := zlg (r := H.length + 1) (i := H.length) hs hul (by simp only [push_cast, seval]) (by simp only [push_cast, seval]);refine zl6 ((f99_c hnr (hmn _) hs hask (fun hz => ?_) (fun hz => ?_)))
 ·(try simp only [push_cast, seval]);(repeat apply zaa);refine zl5 ?_;simp only [push_cast, seval];(repeat apply zaa);refine zae ?_;simp only [push_cast, seval];refine ⟨fun h => ?_, fun h => absurd (by simpa using h) hz⟩;(repeat apply zaa);refine zl5 ?_;simp only [push_cast, seval];(repeat apply zaa);refine zai ?_;simp only [push_cast, seval];exact endA hH (Wk.refl _) (by simp [zap, zaD, zbh]) (h1 hz)
 ·(try simp only [push_cast, seval]);(repeat apply zaa);refine zl5 ?_;simp only [push_cast, seval];obtain ⟨ho, hne⟩ := zaP.1 hz;have hx := zbp ho;have hx4 := hx.keys;have hx5 := hx.locks;have hle := zbl hx [];have hlk : x.l ++ opensL x = iv x.cuts :: aKeys x.keys :: aLocks x.locks :: aTries x.tries :: opensL x := rfl;obtain ⟨hu6, hus⟩ := zf3.1 (zaN.1 ho).2;(repeat apply zaa);refine zae ?_;simp only [push_cast, seval];(repeat apply zaa);refine zah ?_;simp only [push_cast, seval];(repeat apply zaa);refine zl5 ?_;simp only [push_cast, seval]
  (repeat apply zaa); refine zbV (t := 9) (sz := 1) (el := 3) (by simp only [push_cast, seval] <;> rfl) ?_
  (repeat apply zaa);refine zbQ ?_;simp only [push_cast, seval];(repeat apply zaa);refine zl5 ?_;simp only [push_cast, seval, hlk, aLocks];(repeat apply zaa);refine zag ?_;have hb := zbm x [];have hnd := zba x [];have h4 := zbt hx [];have hall := zcO (truthsM x []) (wears0 x).length hb;have hg3 : ∀ L : List AObj, (H ++ L)[H.length + 2 + 1]? = L[3]? := fun L => zbD H L 3;refine zaB x.locks.length (fun n : Nat => [(9, .sl (whichTo x us n).length ((whichTo x us n).map iv) (.opn (H.length + 4))), (31, iv n)]) (fun n => H ++ [AObj.cells x.l 26, .cells [aTurns us] 50, .cells x.l 26, setObj (truthsM x []) (wears0 x).length, .tail (whichTo x us n).length 1 3]) (fun _ => True) (fun _ _ => rfl) (by simp only [push_cast, seval, List.forall_mem_cons, List.not_mem_nil, false_imp_iff, implies_true, List.forall_mem_nil]; simp [zaf, Wk.refl]; first | exact Wk.refl _ | exact ⟨Wk.refl _, Wk.refl _⟩) rfl (fun _ _ _ => by simp) trivial (fun hHs hLt n hnn hno R hR => ?_);(repeat apply zaa);refine zl5 ?_;simp only [push_cast, seval];(repeat apply zaa);refine zae ?_;simp only [push_cast, seval];refine ⟨fun h => ?_, fun h => ?_⟩
  ·
   have hnl : n < x.locks.length := (by omega);have hn1 : IntKind.i64.wrap ((n : Int) + 1) = ((n + 1 : Nat) : Int) := (by rw [zau _ (by omega)]; rfl);have hwl := ziB x us n;have hokB0 : HOk (H ++ [AObj.cells x.l 26, .cells [aTurns us] 50, .cells x.l 26, setObj (truthsM x []) (wears0 x).length, .tail 0 1 3]) := hHs;have hokB : ∀ m, HOk (H ++ [AObj.cells x.l 26, .cells [aTurns us] 50, .cells x.l 26, setObj (truthsM x []) (wears0 x).length, .tail m 1 3]) := fun m => by
    have h1 := zec (H := H ++ [AObj.cells x.l 26, .cells [aTurns us] 50, .cells x.l 26, setObj (truthsM x []) (wears0 x).length]) (L := []) (o := .tail 0 1 3) (o' := .tail m 1 3) (by simpa using hokB0) (fun _ => trivial);simpa using h1
   have hokI : ∀ m sn, HOk (H ++ [AObj.cells x.l 26, .cells [aTurns us] 50, .cells x.l 26, setObj (truthsM x []) (wears0 x).length, .tail m 1 3, .iter (H.length + 2 + 1) (wears0 x).length sn (wears0 x).length]) := fun m sn => by
    have h1 : (H ++ [AObj.cells x.l 26, .cells [aTurns us] 50, .cells x.l 26, setObj (truthsM x []) (wears0 x).length, .tail m 1 3, .iter (H.length + 2 + 1) (wears0 x).length sn (wears0 x).length]) = (H ++ [AObj.cells x.l 26, .cells [aTurns us] 50, .cells x.l 26, setObj (truthsM x []) (wears0 x).length, .tail m 1 3]) ++ [.iter (H.length + 2 + 1) (wears0 x).length sn (wears0 x).length] := (by simp);rw [h1];intro z hz;rcases List.mem_append.1 hz with h | h
    ·exact (hokB m z h).mono (by simp)
    ·rw [List.mem_singleton.1 h]; show H.length + 2 + 1 < _; simp
   have hokC : ∀ m sn (t : List Int), HOk (H ++ [AObj.cells x.l 26, .cells [aTurns us] 50, .cells x.l 26, setObj (truthsM x []) (wears0 x).length, .tail m 1 3, .iter (H.length + 2 + 1) (wears0 x).length sn (wears0 x).length, .cells (t.map iv) 132]) := fun m sn t => by
    have h1 : (H ++ [AObj.cells x.l 26, .cells [aTurns us] 50, .cells x.l 26, setObj (truthsM x []) (wears0 x).length, .tail m 1 3, .iter (H.length + 2 + 1) (wears0 x).length sn (wears0 x).length, .cells (t.map iv) 132]) = (H ++ [AObj.cells x.l 26, .cells [aTurns us] 50, .cells x.l 26, setObj (truthsM x []) (wears0 x).length, .tail m 1 3, .iter (H.length + 2 + 1) (wears0 x).length sn (wears0 x).length]) ++ [.cells (t.map iv) 132] := (by simp);rw [h1];refine zc6 (hokI m sn) fun z hz n => ?_;rw [List.mem_singleton.1 hz];intro a ha;obtain ⟨w, _, rfl⟩ := List.mem_map.1 ha;exact .val _
   (repeat apply zaa);refine zah ?_;simp only [push_cast, seval];(repeat apply zaa);refine zag ?_;(repeat apply zaa);refine zl5 ?_;simp only [push_cast, seval];(repeat apply zaa);refine zcb ?_;(repeat apply zaa);refine zbQ ?_;simp only [push_cast, seval];(repeat apply zaa);refine zl5 ?_;simp only [push_cast, seval, zaL, hg3];(repeat apply zaa);refine zag ?_;refine za9 (measure fun vs : List (List Int × Nat) => (truthsM x []).length - vs.length).wf (fun vs => []) (fun vs => H ++ [AObj.cells x.l 26, .cells [aTurns us] 50, .cells x.l 26, setObj (truthsM x []) (wears0 x).length, .tail (whichTo x us n).length 1 3, .iter (H.length + 2 + 1) (wears0 x).length (vs.map (·.2)).toArray (wears0 x).length]) (fun vs => ((vs.map (·.2)).Nodup ∧ ∀ y ∈ vs, y ∈ truthsM x []) ∧ ∀ y ∈ vs, us.all (fitsB x y.1 n) = false) [] (fun _ _ => rfl) (by simp) (by simp [zaL, aTurns]) (fun _ _ => by simp) ⟨⟨by simp, by simp⟩, by simp⟩ (fun hHs3 hLt3 vs hok R3 hR3 => ?_);(repeat apply zaa);refine zl5 ?_;simp only [push_cast, seval, zaL, hg3];refine ⟨hall.elim .inl (fun h => .inr (.inl h)), fun e he hn => ?_, fun hs => ?_⟩
   ·obtain ⟨y, hy, rfl⟩ : ∃ y ∈ truthsM x [], setEntry y = e := (by simpa using he);have hyn : y.2 ∉ vs.map (·.2) := (by simpa [setEntry] using hn);have hok' := zdk hok.1 hy hyn;have hrel := zdl hok';(repeat apply zaa);refine zae ?_;simp only [push_cast, seval];(repeat apply zaa);refine zah ?_;simp only [push_cast, seval];(repeat apply zaa);refine zag ?_;obtain ⟨h41, h42⟩ := h4 y hy;have hborn : (setEntry y).born = y.2 := rfl;have hlen : (y.1.map iv).length = 4 := (by simp [h41]);have hdrop : List.drop 4 [AV.val (Value.int IntKind.i64 0), AV.val (Value.int IntKind.i64 0), AV.val (Value.int IntKind.i64 0), AV.val (Value.int IntKind.i64 0)] = [] := rfl;(repeat apply zaa);refine zl5 ?_;simp only [push_cast, seval, zaL, hg3, Array.back?_push, hborn, zcL hnd hy, zb7, h41, hlen, hdrop];(repeat apply zaa);refine zl5 ?_;simp only [push_cast, seval, aTurns];(repeat apply zaa);refine zag ?_;rw [zdm];refine zaB us.length (fun j : Nat => [(42, iv j)]) (fun _ => H ++ [AObj.cells x.l 26, .cells [aTurns us] 50, .cells x.l 26, setObj (truthsM x []) (wears0 x).length, .tail (whichTo x us n).length 1 3, .iter (H.length + 2 + 1) (wears0 x).length ((vs ++ [y]).map (·.2)).toArray (wears0 x).length, .cells (y.1.map iv) 132]) (fun j => (us.take j).all (fitsB x y.1 n) = true) (fun _ _ => rfl) (by simp only [push_cast, seval, List.forall_mem_cons, List.not_mem_nil, false_imp_iff, implies_true, List.forall_mem_nil]; simp [zaf, Wk.refl]) rfl (fun _ _ _ => rfl) (by simp) (fun hHs4 hLt4 j hjn hj R4 hR4 => ?_);(repeat apply zaa);refine zl5 ?_;simp only [push_cast, seval];(repeat apply zaa);refine zae ?_;simp only [push_cast, seval];refine ⟨fun h2 => ?_, fun h2 => ?_⟩
    ·
     have hjl : j < us.length := (by omega);obtain ⟨u, hu⟩ := zaE hjl;obtain ⟨hk0, hk1⟩ := hus u (zas hu);obtain ⟨uk, uo⟩ := u;simp only at hk0 hk1;obtain ⟨kn, rfl⟩ : ∃ m : Nat, uk = m := ⟨uk.toNat, by omega⟩;have hkn : kn < 4 := (by omega);have hj1 : IntKind.i64.wrap ((j : Int) + 1) = ((j + 1 : Nat) : Int) := (by rw [zau _ (by omega)]; rfl);have htk : (us.take (j + 1)).all (fitsB x y.1 n) = ((us.take j).all (fitsB x y.1 n) && fitsB x y.1 n ⟨kn, uo⟩) := by
      obtain ⟨hj', e5⟩ := List.getElem?_eq_some_iff.1 hu;rw [List.take_succ_eq_append_getElem hj', List.all_append, e5]; simp
     obtain ⟨w, hw⟩ := zaE (xs := y.1) (i := kn) (by omega);have hwb := h42 w (zas hw);obtain ⟨wn, rfl⟩ : ∃ n : Nat, w = n := ⟨w.toNat, by omega⟩;have b4 : (0 ≤ (kn : Int) ∧ (kn : Int) < 4) = True := (by simp; omega);have b3 : (0 ≤ (wn : Int) ∧ (wn : Int) < 3) = True := (by simp; omega);have hm := zdn (x := x) (by omega) kn wn;have hfit : fitsB x y.1 n ⟨kn, uo⟩ = ((opensM x kn wn).testBit n == uo) := by
      unfold fitsB inTruth;rw [Int.toNat_natCast, u8z y.1 kn hw]; rfl
     have hne0 : ((n : Int) != (n : Int)) = false := (by simp);(repeat apply zaa);refine zah ?_;simp only [push_cast, seval];(repeat apply zaa);refine zag ?_;(repeat apply zaa);refine zl5 ?_;simp only [push_cast, seval, zh5 hu, zaz hjl];(repeat apply zaa);refine zl5 ?_;simp only [push_cast, seval];refine zl6 ((f122_c ?_));(try simp only [push_cast, seval]);(repeat apply zaa);refine zaT F.mixed 23 (by kernel_rfl) ?_;simp only [push_cast, seval, b4, b3, zbf hw, zcH x hkn, zb0 x hkn (show wn < 3 by omega), zfz, List.mapM_cons, List.mapM_nil, Option.pure_def, Option.bind_eq_bind];refine qCall (iv n) (zad (by kernel_rfl) (f123_c ⟨rfl, rfl⟩)) ?_;(try simp only [push_cast, seval, hne0, b4, b3, zbf hw, zcH x hkn, zb0 x hkn (show wn < 3 by omega), zfz, List.mapM_cons, List.mapM_nil, Option.pure_def, Option.bind_eq_bind]);refine qInv (bv ((opensM x kn wn).testBit n == uo)) (zii hm ⟨rfl, rfl⟩) ?_;(try simp only [push_cast, seval]);(repeat apply zaa);refine zae ?_;simp only [push_cast, seval];refine ⟨fun h3 => ?_, fun h3 => ?_⟩
     ·
      have hff : fitsB x y.1 n ⟨kn, uo⟩ = false := (by rw [hfit]; simpa using h3);have hf : us.all (fitsB x y.1 n) = false := by
       apply Bool.eq_false_iff.2;intro hc;have h5 := List.all_eq_true.1 hc _ (zas hu);rw [hff] at h5; cases h5
      (repeat apply zaa);refine zaq ?_;simp only [push_cast, seval];refine hR3 _ ⟨vs ++ [y], hrel, ⟨hok', fun z hz => ?_⟩, ?_⟩
      ·rcases List.mem_append.1 hz with h | h
       ·exact hok.2 z h
       ·rw [List.mem_singleton.1 h]; exact hf
      ·exact zat (zam rfl rfl) (by simp) (hokI _ _) (by simp)
     ·
      have hff : fitsB x y.1 n ⟨kn, uo⟩ = true := (by rw [hfit]; simpa using h3);(repeat apply zaa);refine zah ?_;simp only [push_cast, seval];(repeat apply zaa);refine zl5 ?_;simp only [push_cast, seval, hj1];refine hR4 _ ⟨hjl, by rw [htk, hj, hff]; rfl, ?_⟩;exact zat (zam rfl rfl) (by simp only [push_cast, seval]; simp [zaf, Wk.refl]) (hokC _ _ _) (by simp [zap])
    ·
     have hjx : j = us.length := (by omega);subst hjx;rw [List.take_length] at hj;have hbag : bagB x (truthsM x []) us n = true := List.any_eq_true.2 ⟨y, hy, hj⟩;have hsucc : whichTo x us (n + 1) = whichTo x us n ++ [(n : Int)] := (by rw [zdS, if_pos hbag]);have hsl : (whichTo x us n ++ [(n : Int)]).length = (whichTo x us n).length + 1 := (by simp);(repeat apply zaa);refine zaq ?_;simp only [push_cast, seval];(repeat apply zaa);refine zl5 ?_;simp only [push_cast, seval, z1, pow24, List.length_map];refine ⟨by omega, ?_⟩;(repeat apply zaa);refine zaq ?_;simp only [push_cast, seval];(repeat apply zaa);refine zl5 ?_;simp only [push_cast, seval, hn1];refine hR _ ⟨hnl, trivial, ?_⟩;rw [hsucc, hsl, List.map_append];exact zat (zam rfl rfl) (by simp only [push_cast, seval]; simp [zaf, Wk.refl]) (hokB _) (by simp [zap, zdq]; rintro a (⟨w, _, rfl⟩ | rfl) <;> exact .val _)
   ·have hp : vs.Perm (truthsM x []) := zct hok.1.1 hnd hok.1.2 fun y hy => by
     have := hs (setEntry y) (by simp; exact ⟨y.1, y.2, hy, rfl⟩) (hb y hy);simpa [setEntry] using this
    have hbag : bagB x (truthsM x []) us n = false := by
     apply Bool.eq_false_iff.2;intro hc;obtain ⟨y, hy, hf⟩ := List.any_eq_true.1 hc;rw [hok.2 y (hp.mem_iff.2 hy)] at hf; cases hf
    have hsucc : whichTo x us (n + 1) = whichTo x us n := (by rw [zdS, hbag]; simp);(repeat apply zaa);refine zae ?_;simp only [push_cast, seval];(repeat apply zaa);refine zaq ?_;simp only [push_cast, seval];(repeat apply zaa);refine zl5 ?_;simp only [push_cast, seval, hn1];refine hR _ ⟨hnl, trivial, ?_⟩;rw [hsucc];exact zat (zam rfl rfl) (by simp only [push_cast, seval]; simp [zaf, Wk.refl]) (hokB _) (by simp [zap, zdq])
  ·
   have hnx : n = x.locks.length := (by omega);subst hnx;(repeat apply zaa);refine zaq ?_;simp only [push_cast, seval];(repeat apply zaa);refine zl5 ?_;simp only [push_cast, seval];(repeat apply zaa);refine zai ?_;simp only [push_cast, seval];exact endA hH (zdC (zaK _ _ _) (Wk.refl _)) (by simp [zap, zaD, za3]) (h2 hz)
end
def digs (c j : Nat) : List Int := (List.range 4).map fun p => if p < c then (((j / 4 ^ (c - 1 - p)) % 4 : Nat) : Int) else 0
def zeroed (c j t : Nat) : List Int := (List.range 4).map fun p => if c - t ≤ p then 0 else (digs c j).getD p 0
def threes (c j t : Nat) : Bool := (List.range c).all fun p => p < c - t || (digs c j).getD p 0 == 3
theorem zdu (c j : Nat) : (digs c j).length = 4 := by simp [digs]
theorem zcC (c j t : Nat) : (zeroed c j t).length = 4 := by simp [zeroed]
theorem zjp : ∀ c, c < 5 → ∀ j, j < 4 ^ c → zeroed c j 0 = digs c j ∧ (threes c j c = true → j + 1 = 4 ^ c) ∧ (∀ w ∈ digs c j, 0 ≤ w ∧ w ≤ 3) ∧ threes c j 0 = true := by decide +kernel
theorem digs_s1 : ∀ c, c < 5 → ∀ j, j < 4 ^ c → ∀ t, t < c → (zeroed c j t)[c - 1 - t]? = some ((digs c j).getD (c - 1 - t) 0) ∧ (zeroed c j t).set (c - 1 - t) 0 = zeroed c j (t + 1) := by decide +kernel
theorem digs_s2 : ∀ c, c < 5 → ∀ j, j < 4 ^ c → ∀ t, t < c → threes c j t = true → (digs c j).getD (c - 1 - t) 0 = 3 → threes c j (t + 1) = true := by decide +kernel
theorem digs_s3 : ∀ c, c < 5 → ∀ j, j < 4 ^ c → ∀ t, t < c → threes c j t = true → (digs c j).getD (c - 1 - t) 0 = 3 ∨ (zeroed c j t).set (c - 1 - t) ((digs c j).getD (c - 1 - t) 0 + 1) = digs c (j + 1) := by decide +kernel
theorem digs_s4 : ∀ c, c < 5 → ∀ j, j < 4 ^ c → ∀ t, t < c → threes c j t = true → (digs c j).getD (c - 1 - t) 0 = 3 ∨ j + 1 < 4 ^ c := by decide +kernel
theorem zkT (c : Nat) : digs c 0 = [0, 0, 0, 0] := by simp [digs, List.range_succ]
def firstM (c : Nat) (f : List Int → Bool) : Option (List Int) := (((List.range (4 ^ c)).map (digs c)).find? f).map fun d => d.take c
open Go.Conc Go.Proofs
theorem zh2 {T T' : List (Nat × AV)} (h : ∀ p ∈ T', ∃ b, look T p.1 = some b ∧ Wk b p.2) {t : Nat} {a : AV} (e : look T' t = some a) : ∃ b, look T t = some b ∧ Wk b a := h _ (zbB e)
section
variable {lv : Bool} {H : List AObj} {k kp : AV → List AObj → Prop}
def DoC (lv : Bool) (H : List AObj) (so : AV) (f : List Int → Bool) : Prop := ∀ (L : List AObj) (ds : List Int) (k kp : AV → List AObj → Prop), ds.length = 4 → (∀ w ∈ ds, 0 ≤ w ∧ w ≤ 3) → k (bv (f ds)) (H ++ L) → CallC lv Tryz.prog so (H ++ L) [.agg (ds.map iv)] k kp
def firstS (H : List AObj) (x : Ring) (so : AV) (c j : Nat) : AS := ⟨[(0, .rp (x.l ++ opensL x)), (1, so), (6, .op H.length 0)], H ++ [.cells ((digs c j).map iv) 108]⟩
theorem f137_c {x : Ring} {so : AV} {f : List Int → Bool} (hx : x.Ok) (hso : DoC lv H so f) (hk : k (.tup [aInts ((firstM x.cuts.toNat f).getD []), bv (firstM x.cuts.toNat f).isSome]) H) : FnC lv Tryz.prog 137 H [.rp (x.l ++ opensL x), so] k kp := by
 refine zak (rs := [.tmp 4, .tmp 5]) (nt := 43) F.f137 rfl rfl rfl (by simp) fun hH hA => ?_;simp only [argsT, Nat.reduceAdd];obtain ⟨hc1, hc4⟩ := hx.cuts;obtain ⟨c, hc⟩ : ∃ c : Nat, x.cuts = c := ⟨x.cuts.toNat, by omega⟩;have hcl : c < 5 := by omega
 have hp : 0 < 4 ^ c := Nat.pow_pos (by decide);have hlk : x.l ++ opensL x = iv x.cuts :: aKeys x.keys :: aLocks x.locks :: aTries x.tries :: opensL x := rfl;(repeat apply zaa);refine zl5 ?_;simp only [push_cast, seval];(repeat apply zaa);refine zjB (fun m => firstS H x so c (4 ^ c - 1 - m)) (fun m => m < 4 ^ c ∧ ∀ j < 4 ^ c - 1 - m, f (digs c j) = false) (l := 0) rfl (fun m hm => ?_) (fun hb => ⟨4 ^ c - 1, ?_⟩)
 ·obtain ⟨hm, hbef⟩ := hm;generalize hj : 4 ^ c - 1 - m = j at hbef ⊢;have hjl : j < 4 ^ c := by omega
  obtain ⟨hz0, hall3, hdb, ht0⟩ := zjp c hcl j hjl;have hdl : ((digs c j).map iv).length = 4 := by simp [zdu]
  have htk : List.take 4 ((digs c j).map iv) = (digs c j).map iv := List.take_of_length_le (by omega);unfold firstS;(repeat apply zaa);refine zl5 ?_;simp only [push_cast, seval, hdl, htk];refine callG (hso _ _ _ _ (zdu c j) hdb ?_);(try simp only [push_cast, seval]);(repeat apply zaa);refine zae ?_;simp only [push_cast, seval];refine ⟨fun h => ?_, fun h => ?_⟩
  ·
   have hcn : x.cuts.toNat = c := (by omega);have hfi : firstM x.cuts.toNat f = some ((digs c j).take c) := by
    rw [hcn];unfold firstM;rw [zfN (j := j) (x := digs c j) (by simp [hjl]) h fun y hy => by
     rw [← List.map_take, List.take_range, Nat.min_eq_left (by omega)] at hy;obtain ⟨j', hj', rfl⟩ := List.mem_map.1 hy;exact hbef j' (List.mem_range.1 hj')]
    rfl
   (repeat apply zaa);refine zl5 ?_;simp only [push_cast, seval, hlk];refine ⟨by omega, by omega, ?_⟩;refine zl6 ((f94_o (xs := (digs c j).take c) (by simp only [push_cast, seval] <;> rfl) (by rw [List.length_take, zdu]; omega) (by rw [List.map_take, hcn]; rfl) (by rw [List.length_take, zdu]; omega) ?_));(try simp only [push_cast, seval]);(repeat apply zaa);refine zai ?_;simp only [push_cast, seval];rw [hfi] at hk;exact endA hH (Wk.refl _) (by simp [zap, zaD, zbi]) hk
  ·
   have hw1 : IntKind.i64.wrap (x.cuts - 1) = (c : Int) - 1 := (by rw [zau _ (by omega), hc]);(repeat apply zaa);refine zah ?_;simp only [push_cast, seval];(repeat apply zaa);refine zl5 ?_;simp only [push_cast, seval, hlk];(repeat apply zaa);refine zag ?_;refine zaB c (fun t : Nat => [(7, iv ((c : Int) - 1 - (t : Int)))]) (fun t => H ++ [.cells ((zeroed c j t).map iv) 108]) (fun t => threes c j t = true) (fun _ _ => rfl) (by simp only [push_cast, seval, List.forall_mem_cons, List.not_mem_nil, false_imp_iff, implies_true, List.forall_mem_nil]; simp [zaf, Wk.refl]; rw [hw1]; exact Wk.refl _) (by rw [hz0]) (fun _ _ _ => by simp) ht0 (fun hHs hLt t htn hto R hR => ?_);by_cases htc : t < c
   ·have hat : (c : Int) - 1 - (t : Int) = ((c - 1 - t : Nat) : Int) := (by omega);have hge : decide (((c - 1 - t : Nat) : Int) ≥ 0) = true := (by simp);obtain ⟨hg, hset⟩ := digs_s1 c hcl j hjl t htc;have b4 : (0 ≤ ((c - 1 - t : Nat) : Int) ∧ ((c - 1 - t : Nat) : Int) < 4) = True := (by simp; omega);rw [hat];(repeat apply zaa);refine zl5 ?_;simp only [push_cast, seval, hge, decide_false, b4, zbf hg];(repeat apply zaa);refine zae ?_;simp only [push_cast, seval];refine ⟨fun h2 => ?_, fun h2 => ?_⟩
    ·
     have h3 : (digs c j).getD (c - 1 - t) 0 = 3 := (by simpa using h2);have hl4 : ((zeroed c j t).map iv).length = 4 := (by simp [zcC]);have hlt4 : c - 1 - t < (zeroed c j t).length := (by rw [zcC]; omega);have hoff : (c - 1 - t + 1 ≤ 4) = True := (by simp; omega);have hw2 : IntKind.i64.wrap (((c - 1 - t : Nat) : Int) - 1) = (c : Int) - 1 - ((t + 1 : Nat) : Int) := (by rw [zau _ (by omega)]; omega);(repeat apply zaa);refine zah ?_;simp only [push_cast, seval];(repeat apply zaa);refine zag ?_;(repeat apply zaa);refine zl5 ?_;simp only [push_cast, seval, b4, hl4, hoff, zfv hlt4, hset];refine ⟨by omega, ?_⟩;(repeat apply zaa);refine zl5 ?_;simp only [push_cast, seval, hw2];refine hR _ ⟨htc, digs_s2 c hcl j hjl t htc hto h3, ?_⟩;rw [← hat];exact (zax (zam rfl rfl) (by simp only [push_cast, seval]; simp [zaf, Wk.refl]))
    ·have h3 : ¬ (digs c j).getD (c - 1 - t) 0 = 3 := (by simpa using h2);have h4 := (digs_s3 c hcl j hjl t htc hto).resolve_left h3;have h5 := (digs_s4 c hcl j hjl t htc hto).resolve_left h3;have hl4 : ((zeroed c j t).map iv).length = 4 := (by simp [zcC]);have hlt4 : c - 1 - t < (zeroed c j t).length := (by rw [zcC]; omega);have hoff : (c - 1 - t + 1 ≤ 4) = True := (by simp; omega);have hdg : 0 ≤ (digs c j).getD (c - 1 - t) 0 ∧ (digs c j).getD (c - 1 - t) 0 ≤ 3 := by
      obtain ⟨w, hw⟩ := zaE (xs := digs c j) (i := c - 1 - t) (by rw [zdu]; omega);rw [u8z _ _ hw]; exact hdb w (zas hw)
     have hw3 : IntKind.i64.wrap ((digs c j).getD (c - 1 - t) 0 + 1) = (digs c j).getD (c - 1 - t) 0 + 1 := zau _ (by omega);(repeat apply zaa);refine zaq ?_;simp only [push_cast, seval];(repeat apply zaa);refine zl5 ?_;simp only [push_cast, seval, hge, decide_false];(repeat apply zaa);refine zae ?_;simp only [push_cast, seval];(repeat apply zaa);refine zl5 ?_;simp only [push_cast, seval, b4, hl4, hoff, zbf hg, hw3, zfv hlt4, h4];(repeat apply zaa);refine awp_goto ?_;simp only [push_cast, seval];refine ⟨rfl, m - 1, by omega, ⟨by omega, fun j' hj' => ?_⟩, ?_⟩
     ·by_cases e : j' = j
      ·rw [e]; exact h
      ·exact hbef j' (by omega)
     ·have e : 4 ^ c - 1 - (m - 1) = j + 1 := (by omega);show AS.Sub _ (firstS H x so c (4 ^ c - 1 - (m - 1)));rw [e];exact ⟨fun t' a e' => zh2 (by unfold firstS; simp only [push_cast, seval, List.forall_mem_cons, List.not_mem_nil, false_imp_iff, implies_true, List.forall_mem_nil]; simp [zaf, Wk.refl]; exact Wk.refl _) e', rfl⟩
   ·have htx : t = c := (by omega);subst htx;have hat : (t : Int) - 1 - (t : Int) = -1 := (by omega);have hge : decide ((-1 : Int) ≥ 0) = false := (by decide);rw [hat];(repeat apply zaa);refine zl5 ?_;simp only [push_cast, seval, hge, decide_false];(repeat apply zaa);refine zae ?_;simp only [push_cast, seval];(repeat apply zaa);refine zaq ?_;simp only [push_cast, seval];(repeat apply zaa);refine zl5 ?_;simp only [push_cast, seval, hge, decide_false];(repeat apply zaa);refine zae ?_;simp only [push_cast, seval];(repeat apply zaa);refine zah ?_;simp only [push_cast, seval];(repeat apply zaa);refine zl5 ?_;simp only [push_cast, seval];(repeat apply zaa);refine zai ?_;simp only [push_cast, seval];have hje := hall3 hto;have hcn : x.cuts.toNat = t := (by omega);have hfi : firstM x.cuts.toNat f = none := by
     rw [hcn];unfold firstM;rw [zdt fun y hy => by
      obtain ⟨j', hj', rfl⟩ := List.mem_map.1 hy;have := List.mem_range.1 hj';by_cases e : j' = j
      ·rw [e]; exact h
      ·exact hbef j' (by omega)]
     rfl
    rw [hfi] at hk;have hk : k (.tup [.sl 0 [] .shut, bv false]) H := hk;exact endA hH (zdC (zaK _ _ _) (Wk.refl _)) (by simp [zap, zaD, za3]) hk
 ·(repeat apply zaa);refine zl5 ?_;simp only [push_cast, seval];(repeat apply zaa);refine zl5 ?_;simp only [push_cast, seval];(repeat apply zaa);refine zbQ ?_;simp only [push_cast, seval];refine ziu ?_ (hb (4 ^ c - 1) ⟨by omega, fun j hj => by omega⟩);have e : 4 ^ c - 1 - (4 ^ c - 1) = 0 := by omega
  show AS.Sub _ (firstS H x so c (4 ^ c - 1 - (4 ^ c - 1)));rw [e];refine ⟨fun t' a e' => zh2 (by unfold firstS; simp only [push_cast, seval, List.forall_mem_cons, List.not_mem_nil, false_imp_iff, implies_true, List.forall_mem_nil]; simp [zaf, Wk.refl]) e', ?_⟩;show _ = H ++ [AObj.cells ((digs c 0).map iv) 108];rw [zkT]; rfl
end
open Go.Conc Go.Proofs
def cutS (x : Ring) : List Int → Nat → Nat × Option Int
 | [], due => (due, none)
 | n :: l, due => if inM n 0 (x.locks.length - 1) then (if due.testBit n.toNat then (due, some 2) else cutS x l (due ||| 2 ^ n.toNat)) else (due, some 1)
theorem zkZ {x : Ring} {l : List Int} {i : Nat} {n : Int} (h : l[i]? = some n) : ∀ due, cutS x (l.drop i) due = cutS x (n :: l.drop (i + 1)) due := fun due => by
 obtain ⟨hj, rfl⟩ := List.getElem?_eq_some_iff.1 h;rw [List.drop_eq_getElem_cons hj]
section
variable {lv : Bool} {H : List AObj} {k kp : AV → List AObj → Prop}
theorem f138_c {r d : Nat} {x : Ring} {ds : List Int} {due : Nat} (hx : x.Ok) (hds : ds.length = 4) (hdue : due < 256) (hr : H[r]? = some (.cells [.rp (x.l ++ opensL x)] 100)) (hd : H[d]? = some (.cells [uv due] 110)) (hk : k (bv (openedM x.cuts ds x.locks x.locks.length == due)) H) : FnC lv Tryz.prog 138 H [.agg (ds.map iv), .op r 0, .op d 0] k kp := by
 refine zak (rs := [.tmp 4]) (nt := 10) F.f138 rfl rfl rfl (by simp) fun hH hA => ?_;simp only [argsT, Nat.reduceAdd];have hdl : (ds.map iv).length = 4 := by simp [hds]
 have htk : List.take 4 (ds.map iv) = ds.map iv := List.take_of_length_le (by omega);have hc := hx.cuts;have hl := hx.locks;(repeat apply zaa);refine zl5 ?_;simp only [push_cast, seval];(repeat apply zaa);refine zaT F.mixed 5 (by kernel_rfl) ?_;simp only [push_cast, seval, zay hr, zay hd, hdl, htk];refine qCall (uv (openedM x.cuts ds x.locks x.locks.length)) (zad (by kernel_rfl) (f139_c hds (by omega) hl (fun l hl => by have := (hx.lock l hl).1; omega) ⟨rfl, rfl⟩)) ?_;(try simp only [push_cast, seval]);(repeat apply zaa);refine zai ?_;simp only [push_cast, seval];exact endA hH (Wk.refl _) (by simp [zap]) (by rw [show (((openedM x.cuts ds x.locks x.locks.length : Nat) : Int) == (due : Int)) = (openedM x.cuts ds x.locks x.locks.length == due) from by rw [Bool.eq_iff_iff]; simp only [beq_iff_eq]; omega]; exact hk)
def dueF (l : List Int) : Nat := l.foldl (fun due n => due ||| 2 ^ n.toNat) 0
theorem zkO {l : List Int} {i : Nat} {n : Int} (h : l[i]? = some n) : dueF (l.take (i + 1)) = dueF (l.take i) ||| 2 ^ n.toNat := by
 obtain ⟨hj, rfl⟩ := List.getElem?_eq_some_iff.1 h;unfold dueF;rw [List.take_succ_eq_append_getElem hj, List.foldl_append]; rfl
theorem f134_c {a b d : Nat} {x : Ring} {l : List Int} (hx : x.Ok) (hll : l.length < 2 ^ 30) (hl : H[a]? = some (.cells [aInts l] 30)) (hr : H[b]? = some (.cells x.l 26)) (hd : H[d]? = some (.cells [uv 0] 110)) (had : a ≠ d) (hbd : b ≠ d) (hk : (cutS x l 0).2 = none → k (.tup []) (H.set d (.cells [uv (cutS x l 0).1] 110))) (hp : ∀ f, (cutS x l 0).2 = some f → kp (.ifc 106 (iv f)) (H.set d (.cells [uv (cutS x l 0).1] 110))) : FnC lv Tryz.prog 134 H [.op a 0, .op b 0, .op d 0] k kp := by
 refine zak (rs := []) (nt := 27) F.f134 rfl rfl rfl (by simp) fun hH hA => ?_;simp only [argsT, Nat.reduceAdd];have hr2 := hr;rw [Ring.l] at hr2;have hx5 := hx.locks;have hw : IntKind.i64.wrap ((x.locks.length : Int) - 1) = x.locks.length - 1 := zau _ (by omega);have gx : ∀ z, (H.set d z)[b]? = some (.cells [iv x.cuts, aKeys x.keys, aLocks x.locks, aTries x.tries] 26) := fun z => by rw [List.getElem?_set_ne (Ne.symm hbd)]; exact hr2
 have gd : ∀ z, (H.set d z)[d]? = some z := fun z => List.getElem?_set_self (get_lt hd);have gs : ∀ z z', (H.set d z).set d z' = H.set d z' := fun z z' => List.set_set ..;have hokb : ∀ m, HOk (H.set d (.cells [uv m] 110)) := fun m y hy => by
  rw [List.length_set];rcases List.mem_or_eq_of_mem_set hy with h | h
  ·exact hH y h
  ·rw [h]; intro a ha; simp at ha; subst ha; exact .val _
 (repeat apply zaa);refine zl5 ?_;simp only [push_cast, seval, hl, aInts];(repeat apply zaa);refine zag ?_;refine zaB l.length (fun i : Nat => [(7, iv i)]) (fun i => H.set d (.cells [uv (dueF (l.take i))] 110)) (fun i => cutS x l 0 = cutS x (l.drop i) (dueF (l.take i)) ∧ dueF (l.take i) < 256) (fun _ _ => rfl) (by simp only [push_cast, seval, List.forall_mem_cons, List.not_mem_nil, false_imp_iff, implies_true, List.forall_mem_nil]; simp [zaf, Wk.refl]) (by exact zh7 hd) (fun _ _ _ => by simp) ⟨by simp [dueF], by simp [dueF]⟩ (fun hHs hLt i hin hi R hR => ?_);(repeat apply zaa);refine zl5 ?_;simp only [push_cast, seval];(repeat apply zaa);refine zae ?_;simp only [push_cast, seval];refine ⟨fun h => ?_, fun h => ?_⟩
 ·have hil : i < l.length := by omega
  obtain ⟨n, hn⟩ := zaE hil;have hi1 : IntKind.i64.wrap ((i : Int) + 1) = ((i + 1 : Nat) : Int) := by rw [zau _ (by omega)]; rfl
  (repeat apply zaa);refine zah ?_;simp only [push_cast, seval];(repeat apply zaa);refine zag ?_;(repeat apply zaa);refine zl5 ?_;simp only [push_cast, seval, za2 hn, zaz hil];(repeat apply zaa);refine zl5 ?_;simp only [push_cast, seval, gx, aLocks, hw];obtain ⟨hcut, hdl⟩ := hi;rw [zkZ hn] at hcut;refine zl6 ((f91_c ?_));(try simp only [push_cast, seval]);refine zl6 ((f90_c (fun h2 => ?_) (fun h2 => ?_)))
  ·have h3 : inM n 0 (x.locks.length - 1) = true := (by simpa [inM] using h2);obtain ⟨hn0, hn1⟩ := zbU.1 h3;obtain ⟨nn, rfl⟩ : ∃ m : Nat, n = m := ⟨n.toNat, by omega⟩;rw [cutS, if_pos h3, Int.toNat_natCast] at hcut;(try simp only [push_cast, seval]);(repeat apply zaa);refine zl5 ?_;simp only [push_cast, seval, gd];refine zl6 ((f135_c hdl ?_));(try simp only [push_cast, seval]);refine zl6 ((f90_c (fun h4 => ?_) (fun h4 => ?_)))
   ·have h5 : (dueF (l.take i)).testBit nn = false := (by simpa using h4);rw [h5] at hcut;simp only [Bool.false_eq_true, if_false] at hcut;(try simp only [push_cast, seval]);(repeat apply zaa);refine zl5 ?_;simp only [push_cast, seval, gd];refine zl6 ((f136_c hdl (by omega) ?_));(try simp only [push_cast, seval, gd, gs]);(repeat apply zaa);refine zl5 ?_;simp only [push_cast, seval, hi1];have hdt := zkO hn;rw [Int.toNat_natCast] at hdt;refine hR _ ⟨hil, ⟨by rw [hdt]; exact hcut, ?_⟩, ?_⟩
    ·rw [hdt]; exact Nat.or_lt_two_pow (n := 8) hdl (Nat.pow_lt_pow_right (by decide) (by omega))
    ·rw [hdt]; exact (zax (zam rfl rfl) (by simp only [push_cast, seval]; simp [zaf, Wk.refl]))
   ·have h5 : (dueF (l.take i)).testBit nn = true := (by simpa using h4);rw [h5, if_pos rfl] at hcut;have hp := hp 2 (by rw [hcut]);rw [hcut] at hp;exact zaJ (H' := H.set d (.cells [uv (dueF (l.take i))] 110)) (G := []) (Wk.refl _) (by simp) (by simp) (hokb _) (by simp [zap, zey]) hp
  ·have h3 : ¬ inM n 0 (x.locks.length - 1) = true := (by simpa [inM] using h2);rw [cutS, if_neg h3] at hcut;have hp := hp 1 (by rw [hcut]);rw [hcut] at hp;exact zaJ (H' := H.set d (.cells [uv (dueF (l.take i))] 110)) (G := []) (Wk.refl _) (by simp) (by simp) (hokb _) (by simp [zap, zey]) hp
 ·have hix : i = l.length := by omega
  subst hix;obtain ⟨hcut, hdl⟩ := hi;rw [List.drop_length, cutS, List.take_length] at hcut;(repeat apply zaa);refine zaq ?_;simp only [push_cast, seval];rw [List.take_length];have hk := hk (by rw [hcut]);rw [hcut] at hk;exact zaJ (H' := H.set d (.cells [uv (dueF l)] 110)) (G := []) (Wk.refl _) (by simp) (by simp) (hokb _) (by simp [zaD]) hk
end
open Go.Conc Go.Proofs
theorem zk0 {x : Ring} (hl : x.locks.length ≤ 4) : ∀ (l : List Int) (due : Nat), due < 256 → (cutS x l due).1 < 256
 | [], due, h => h
 | n :: l, due, h => by
  rw [cutS];split
  ·rename_i h2;have := zbU.1 h2;split
   ·exact h
   ·exact zk0 hl l _ (Nat.or_lt_two_pow (n := 8) h (Nat.pow_lt_pow_right (by decide) (by omega)))
  ·exact h
def newCutM (x : Ring) (l : List Int) : Option (List Int) := firstM x.cuts.toNat fun ds => openedM x.cuts ds x.locks x.locks.length == (cutS x l 0).1
section
variable {lv : Bool} {H : List AObj} {k kp : AV → List AObj → Prop}
theorem ask_cut {a b d : Nat} {x : Ring} {l : List Int} (hx : x.Ok) (hll : l.length < 2 ^ 30) (hl : H[a]? = some (.cells [aInts l] 30)) (hr : H[b]? = some (.cells x.l 26)) (hd : H[d]? = some (.cells [uv 0] 110)) (had : a ≠ d) (hbd : b ≠ d) : AskT lv H (H.set d (.cells [uv (cutS x l 0).1] 110)) (.fn (.func 134) [] [.op a 0, .op b 0, .op d 0]) (cutS x l 0).2 := fun L k kp h1 h2 => by
 have e : (H ++ L).set d (.cells [uv (cutS x l 0).1] 110) = H.set d (.cells [uv (cutS x l 0).1] 110) ++ L := List.set_append_left _ _ (get_lt hd);rw [← e] at h1 h2;exact zad (by kernel_rfl) (f134_c hx hll (zay hl) (zay hr) (zay hd) had hbd h1 h2)
theorem so_cut {r d : Nat} {x : Ring} {due : Nat} (hx : x.Ok) (hdue : due < 256) (hr : H[r]? = some (.cells [.rp (x.l ++ opensL x)] 100)) (hd : H[d]? = some (.cells [uv due] 110)) : DoC lv H (.fn (.func 138) [] [.op r 0, .op d 0]) (fun ds => openedM x.cuts ds x.locks x.locks.length == due) := fun L ds k kp h1 h2 h =>
 zad (by kernel_rfl) (f138_c hx h1 hdue (zay hr) (zay hd) h)
theorem f62_c {x : Ring} {l : List Int} (hnr : NewRingC lv) (hmain : H[0]? = some .main) (hs : x.Small) (hll : l.length < 2 ^ 30) (h1 : openE x (cutS x l 0).2 ≠ 0 → k (.tup [.sl 0 [] .exact, iv (openE x (cutS x l 0).2)]) H) (h2 : openE x (cutS x l 0).2 = 0 → newCutM x l = none → k (.tup [.sl 0 [] .exact, iv 11]) H) (h3 : openE x (cutS x l 0).2 = 0 → ∀ xs, newCutM x l = some xs → k (.tup [aInts xs, iv 0]) H) : FnC lv Tryz.prog 62 H [x.av, aInts l] k kp := by
 have hmn : ∀ L : List AObj, (H ++ L)[0]? = some .main := fun L => zay hmain;refine zak (rs := [.tmp 4, .tmp 5]) (nt := 29) F.f62 rfl rfl rfl (by simp) fun hH hA => ?_;simp only [argsT, Nat.reduceAdd, Ring.av];(repeat apply zaa);refine zl5 ?_;simp only [push_cast, seval, Ring.l];(repeat apply zaa);refine zl5 ?_;simp only [push_cast, seval];(repeat apply zaa);refine zl5 ?_;simp only [push_cast, seval, List.mapM_cons, List.mapM_nil, Option.pure_def, Option.bind_eq_bind];have hask : checkM x = 0 → AskT lv (H ++ [.cells x.l 26, .cells [aInts l] 30, .cells [.val (.int .u8 0)] 110]) (H ++ [.cells x.l 26, .cells [aInts l] 30, .cells [uv (cutS x l 0).1] 110]) (.fn (.func 134) [] [.op (H.length + 1) 0, .op H.length 0, .op (H.length + 2) 0]) (cutS x l 0).2 := fun hc => by
  have h := ask_cut (lv := lv) (H := H ++ [.cells x.l 26, .cells [aInts l] 30, .cells [.val (.int .u8 0)] 110]) (a := H.length + 1) (b := H.length) (d := H.length + 2) (zbH.1 hc) hll (by simp only [push_cast, seval]) (by simp only [push_cast, seval]) (by simp only [push_cast, seval] <;> rfl) (by omega) (by omega);rwa [show (H ++ [AObj.cells x.l 26, .cells [aInts l] 30, .cells [.val (.int .u8 0)] 110]).set (H.length + 2) (.cells [uv (cutS x l 0).1] 110) = H ++ [.cells x.l 26, .cells [aInts l] 30, .cells [uv (cutS x l 0).1] 110] from zbR H _ 2 _] at h
 refine zl6 ((f87_t hnr (H' := H ++ [AObj.cells x.l 26, AObj.cells [aInts l] 30, AObj.cells [uv (cutS x l 0).1] 110]) (hmn _) (by simp) (fun h => zc6 hH ?_) hs hask (fun hc => ?_) (fun hc hz => ?_) (fun hz => ?_)))
 ·intro z hz n;simp only [List.mem_cons, List.not_mem_nil, or_false] at hz;rcases hz with rfl | rfl | rfl
  ·intro a ha;simp only [Ring.l, List.mem_cons, List.not_mem_nil, or_false] at ha;rcases ha with rfl | rfl | rfl | rfl
   ·exact .val _
   ·rw [zc5]; trivial
   ·rw [zci]; trivial
   ·rw [zch]; trivial
  ·intro a ha; simp at ha; subst ha; rw [zbi]; trivial
  ·intro a ha; simp at ha; subst ha; exact .val _
 ·(try simp only [push_cast, seval]);(repeat apply zaa);refine zl5 ?_;simp only [push_cast, seval];have hz : openE x (cutS x l 0).2 ≠ 0 := fun e => hc (zaN.1 e).1;(repeat apply zaa);refine zae ?_;simp only [push_cast, seval];refine ⟨fun h => ?_, fun h => absurd (by simpa using h) hz⟩;(repeat apply zaa);refine zl5 ?_;simp only [push_cast, seval];(repeat apply zaa);refine zai ?_;simp only [push_cast, seval];exact endA hH (Wk.refl _) (by simp [zap, zaD, zbh]) (h1 hz)
 ·(try simp only [push_cast, seval]);(repeat apply zaa);refine zl5 ?_;simp only [push_cast, seval];(repeat apply zaa);refine zae ?_;simp only [push_cast, seval];refine ⟨fun h => ?_, fun h => absurd (by simpa using h) hz⟩;(repeat apply zaa);refine zl5 ?_;simp only [push_cast, seval];(repeat apply zaa);refine zai ?_;simp only [push_cast, seval];exact endA hH (Wk.refl _) (by simp [zap, zaD, zbh]) (h1 hz)
 ·(try simp only [push_cast, seval]);(repeat apply zaa);refine zl5 ?_;simp only [push_cast, seval];have hx := zbp hz;(repeat apply zaa);refine zae ?_;simp only [push_cast, seval];(repeat apply zaa);refine zah ?_;simp only [push_cast, seval];(repeat apply zaa);refine zl5 ?_;simp only [push_cast, seval, List.mapM_cons, List.mapM_nil, Option.pure_def, Option.bind_eq_bind];refine zl6 ((f137_c hx (so_cut (r := H.length + 3) (d := H.length + 2) hx (zk0 hx.locks l 0 (by decide)) (by simp only [push_cast, seval] <;> rfl) (by simp only [push_cast, seval] <;> rfl)) ?_));(try simp only [push_cast, seval]);rw [show firstM x.cuts.toNat (fun ds => openedM x.cuts ds x.locks x.locks.length == (cutS x l 0).1) = newCutM x l from rfl];(repeat apply zaa);refine zl5 ?_;simp only [push_cast, seval];(repeat apply zaa);refine zae ?_;simp only [push_cast, seval];cases hm : newCutM x l with
  | none =>
   refine ⟨fun h => ?_, fun h => by simp at h⟩;(repeat apply zaa);refine zl5 ?_;simp only [push_cast, seval];(repeat apply zaa);refine zai ?_;simp only [push_cast, seval];exact endA hH (Wk.refl _) (by simp [zap, zaD, zbh]) (h2 hz hm)
  | some xs =>
   refine ⟨fun h => by simp at h, fun h => ?_⟩;(repeat apply zaa);refine zah ?_;simp only [push_cast, seval];(repeat apply zaa);refine zl5 ?_;simp only [push_cast, seval];(repeat apply zaa);refine zai ?_;simp only [push_cast, seval];exact endA hH (Wk.refl _) (by simp [zap, zaD, zbi]) (h3 hz xs hm)
end
open Go.Conc Go.Proofs
def exR (ts : List Try) : Ring := ⟨2, [⟨[3, 1], ⟨0, 1⟩⟩, ⟨[2, 2], ⟨0, 0⟩⟩, ⟨[1, 3], ⟨0, 2⟩⟩], [[⟨2, 3⟩, ⟨0, 1⟩], [⟨2, 2⟩, ⟨1, 2⟩], [⟨0, 1⟩, ⟨2, 3⟩]], ts⟩
def exLast : Try := ⟨2, 2, true⟩
def exNever : Try := ⟨1, 1, false⟩
def exOne : Ring := ⟨2, [⟨[2, 2], ⟨0, 0⟩⟩], [[⟨2, 3⟩, ⟨0, 1⟩], [⟨2, 2⟩, ⟨1, 2⟩], [⟨0, 1⟩, ⟨2, 3⟩]], []⟩
theorem zbq {ts : List Try} (h : ts.length < 2 ^ 30) : (exR ts).Small := ⟨by show 3 < 2 ^ 30; decide, by show 3 < 2 ^ 30; decide, h, fun x hx => by simp only [exR, List.mem_cons, List.not_mem_nil, or_false] at hx; rcases hx with rfl | rfl | rfl <;> decide, fun x hx => by simp only [exR, List.mem_cons, List.not_mem_nil, or_false] at hx; rcases hx with rfl | rfl | rfl <;> decide⟩
theorem zhI : exOne.Small := ⟨by decide, by decide, by decide, by decide, by decide⟩
section
variable {H : List AObj} {k kp : AV → List AObj → Prop}
theorem ex_worn (hmain : H[0]? = some .main) (hk : k (.tup [aInts [0, 1], iv 0]) H) : FnC true Tryz.prog 30 H [(exR []).av, iv 2, iv 2] k kp :=
 f30_c zaQ hmain (zbq (by decide)) (fun h => absurd (by decide +kernel) h) fun _ => by
  rw [show wornOf (exR []) (2 : Int).toNat (2 : Int).toNat = [0, 1] by decide +kernel]; exact hk
theorem ex_opens (hmain : H[0]? = some .main) (hk : k (.tup [iv 3, iv 0]) H) : FnC true Tryz.prog 32 H [(exR []).av, iv 2, iv 2] k kp :=
 f32_c zaQ hmain (zbq (by decide)) (fun h => absurd (by decide +kernel) h) fun _ => by
  rw [show verdictM (cntM (exR []) (2 : Int).toNat (2 : Int).toNat (truthsM (exR []) [])) (truthsM (exR []) []).length = 3 by decide +kernel]; exact hk
theorem ex_count (hmain : H[0]? = some .main) (hk : k (.tup [iv 4, iv 0]) H) : FnC true Tryz.prog 53 H [(exR [exLast]).av] k kp :=
 f53_c zaQ hmain (zbq (by decide)) (fun h => absurd (by decide +kernel) h) fun _ => by
  rw [show (truthsM (exR [exLast]) []).length = 4 by decide +kernel]; exact hk
theorem ex_ask (hmain : H[0]? = some .main) (hk : k (.tup [iv 2, iv 2, iv 4, iv 0]) H) : FnC true Tryz.prog 55 H [(exR []).av] k kp :=
 f55_c zaQ hmain (zbq (by decide)) (fun h => absurd (by decide +kernel) h) (fun _ h => absurd h (by decide +kernel)) fun _ a b c h => by
  rw [show askR (exR []) = some (2, 2, 4) by decide +kernel] at h; cases h; exact hk
theorem ex_cover (hmain : H[0]? = some .main) (hk : k (.tup [aInts [0, 1, 2], iv 0]) H) : FnC true Tryz.prog 38 H [(exR [exLast]).av] k kp :=
 f38_c zaQ hmain (zbq (by decide)) (fun h => absurd (by decide +kernel) h) (fun _ h => absurd h (by decide +kernel)) fun _ xs h => by
  rw [show coverM (exR [exLast]) = some [0, 1, 2] by decide +kernel] at h; cases h; exact hk
theorem ex_alike (hmain : H[0]? = some .main) (hk : k (.tup [aInts [0, 1, 0], iv 0]) H) : FnC true Tryz.prog 40 H [exOne.av] k kp :=
 f40_c zaQ hmain zhI (fun h => absurd (by decide +kernel) h) fun _ => by
  rw [show alikeM exOne = [0, 1, 0] by decide +kernel]; exact hk
theorem ex_which (hmain : H[0]? = some .main) (hk : k (.tup [aInts [1, 2], iv 0]) H) : FnC true Tryz.prog 46 H [(exR []).av, aTurns [⟨0, false⟩]] k kp :=
 f46_c zaQ hmain (zbq (by decide)) (by decide) (fun h => absurd (by decide +kernel) h) fun _ => by
  rw [show whichM (exR []) [⟨0, false⟩] = [1, 2] by decide +kernel]; exact hk
theorem ex_cut (hmain : H[0]? = some .main) (hk : k (.tup [aInts [2, 1], iv 0]) H) : FnC true Tryz.prog 62 H [(exR []).av, aInts [0, 1]] k kp :=
 f62_c zaQ hmain (zbq (by decide)) (by decide) (fun h => absurd (by decide +kernel) h) (fun _ h => absurd h (by decide +kernel)) fun _ xs h => by
  rw [show newCutM (exR []) [0, 1] = some [2, 1] by decide +kernel] at h; cases h; exact hk
theorem ex_wrong (hmain : H[0]? = some .main) (hk : k (.tup [aInts [0], iv 0]) H) : FnC true Tryz.prog 51 H [(exR [exNever]).av] k kp :=
 f51_c zaQ hmain (zbq (by decide)) (fun h => absurd (by decide +kernel) h) fun _ => by
  rw [show wrongM (exR [exNever]) = [0] by decide +kernel]; exact hk
theorem ex_tell (hmain : H[0]? = some .main) (hk : k (.tup [aInts [0, 1], iv 0]) H) : FnC true Tryz.prog 42 H [(exR []).av] k kp :=
 f42_c zaQ hmain (zbq (by decide)) (fun h => absurd (by decide +kernel) h) (fun _ h => absurd h (by decide +kernel)) fun _ xs h => by
  rw [show tellM (exR []) = some [0, 1] by decide +kernel] at h; cases h; exact hk
end
open Go.Conc Go.Proofs
structure TinS where
 nums : List Int
 g : Int
 s : Int
def tinO (τ : TinS) : AObj := .cells [aInts τ.nums, .val (.int .i64 τ.g), .val (.int .u64 τ.s)] 98
def xorU (a b : Int) : Int := IntKind.u64.wrap (BitVec.ofInt IntKind.u64.bits a ^^^ BitVec.ofInt IntKind.u64.bits b).toNat
def word0 (g : Int) : Int := IntKind.u64.wrap (IntKind.u64.wrap (IntKind.u64.wrap g * 15074714826142052245) + 11400714819323198485)
def wordT (τ : TinS) : Int := match τ.nums[τ.g.toNat]? with
 | some x => xorU (word0 τ.g) (IntKind.u64.wrap (IntKind.u64.wrap x * 12620523164723586485))
 | none => word0 τ.g
def mix1 (s w : Int) : Int := IntKind.u64.wrap (IntKind.u64.wrap (s + w) * 13787848793156543929)
def mix2 (s : Int) : Int := xorU s (s.fdiv (2 ^ min 31 IntKind.u64.bits))
def out1 (s : Int) : Int := (xorU s (s.fdiv (2 ^ min 27 IntKind.u64.bits))).fdiv (2 ^ min 9 IntKind.u64.bits)
def tick (τ : TinS) : TinS := ⟨τ.nums, τ.g + 1, mix2 (mix1 τ.s (wordT τ))⟩
def outT (τ : TinS) : Int := out1 (IntKind.u64.wrap ((tick τ).s * 10723151780598845931))
theorem u64_in (n : Int) (h0 : 0 ≤ n) (h : n < 2 ^ 64) : IntKind.u64.wrap n = n := by
 have h1 : IntKind.u64.bits = 64 := rfl;have h2 : IntKind.u64.signed = false := rfl;unfold IntKind.wrap;rw [h1, h2];simp;omega
theorem zjS (n : Int) : 0 ≤ IntKind.u64.wrap n ∧ IntKind.u64.wrap n < 2 ^ 64 := by
 have h1 : IntKind.u64.bits = 64 := rfl;have h2 : IntKind.u64.signed = false := rfl;unfold IntKind.wrap;rw [h1, h2];simp;omega
theorem ze9 (s : Int) : 0 ≤ out1 s ∧ out1 s < 2 ^ 55 := by
 unfold out1 xorU;have h := zjS (BitVec.ofInt IntKind.u64.bits s ^^^ BitVec.ofInt IntKind.u64.bits (s.fdiv (2 ^ min 27 IntKind.u64.bits))).toNat;have e : (2 : Int) ^ min 9 IntKind.u64.bits = 512 := by decide
 rw [e, Int.fdiv_eq_ediv_of_nonneg _ (show (0 : Int) ≤ 512 by decide)];omega
def uptoT (τ : TinS) (n : Int) : Int := if n < 1 then 0 else (outT τ).tmod (n + 1)
theorem zaX (τ : TinS) (n : Int) : 0 ≤ uptoT τ n ∧ (uptoT τ n ≤ n ∨ uptoT τ n = 0) := by
 unfold uptoT;split
 ·omega
 ·have h := (ze9 (IntKind.u64.wrap ((tick τ).s * 10723151780598845931))).1;have h1 := Int.tmod_nonneg (n + 1) h;have h2 := Int.tmod_lt_of_pos (outT τ) (show 0 < n + 1 by omega);unfold outT at h2 ⊢;omega
def withinT (τ : TinS) (lo hi : Int) : Int := lo + uptoT τ (hi - lo)
theorem za1 (τ : TinS) {lo hi : Int} (h : lo ≤ hi) : lo ≤ withinT τ lo hi ∧ withinT τ lo hi ≤ hi := by
 have := zaX τ (hi - lo);unfold withinT;omega
def rarelyT (τ : TinS) (n : Int) : Bool := uptoT τ (n - 1) == 0
def bandT (τ : TinS) (lo hi : Int) : Band := ⟨withinT τ lo hi, withinT (tick τ) (withinT τ lo hi) hi⟩
theorem zir (τ : TinS) {lo hi : Int} (h : lo ≤ hi) : lo ≤ (bandT τ lo hi).min ∧ (bandT τ lo hi).min ≤ (bandT τ lo hi).max ∧ (bandT τ lo hi).max ≤ hi := by
 have h1 := za1 τ h;have h2 := za1 (tick τ) h1.2;exact ⟨h1.1, h2.1, h2.2⟩
structure TinAt (Gf : TinS → List AObj) (t N : Nat) : Prop where
 len : ∀ τ, (Gf τ).length = N
 get : ∀ τ, (Gf τ)[t]? = some (tinO τ)
 set : ∀ τ τ', (Gf τ).set t (tinO τ') = Gf τ'
 ok : ∀ m τ τ', (∀ z ∈ Gf τ, OLt m z) → ∀ z ∈ Gf τ', OLt m z
theorem TinAt.more {Gf : TinS → List AObj} {t N : Nat} (h : TinAt Gf t N) (L : List AObj) : TinAt (fun τ => Gf τ ++ L) t (N + L.length) where
 len := fun τ => by simp [h.len]
 get := fun τ => zay (h.get τ)
 set := fun τ τ' => by show (Gf τ ++ L).set t _ = _; rw [List.set_append_left _ _ (get_lt (h.get τ)), h.set]
 ok := fun m τ τ' hk z hz => (List.mem_append.1 hz).elim (fun hz => h.ok m τ τ' (fun v hv => hk v (List.mem_append_left _ hv)) z hz) (fun hz => hk z (List.mem_append_right _ hz))
theorem TinAt.hok {Gf : TinS → List AObj} {t N : Nat} (h : TinAt Gf t N) {τ : TinS} (hH : HOk (Gf τ)) (τ' : TinS) : HOk (Gf τ') := fun z hz => by
 have := h.ok N τ τ' (fun w hw => by have := hH w hw; rwa [h.len] at this) z hz;rwa [h.len]
section
variable {Gf : TinS → List AObj} {t N : Nat} (h : TinAt Gf t N)
include h
theorem TinAt.g0 (τ : TinS) (L : List AObj) : (Gf τ ++ L)[N]? = L[0]? := by have := zco (Gf τ) L 0; rwa [h.len] at this
theorem TinAt.g1 (τ : TinS) (L : List AObj) : (Gf τ ++ L)[N + 1]? = L[1]? := by have := zco (Gf τ) L 1; rwa [h.len] at this
theorem TinAt.g2 (τ : TinS) (L : List AObj) : (Gf τ ++ L)[N + 1 + 1]? = L[2]? := by have := zco (Gf τ) L 2; rwa [h.len] at this
theorem TinAt.g3 (τ : TinS) (L : List AObj) : (Gf τ ++ L)[N + 1 + 1 + 1]? = L[3]? := by have := zco (Gf τ) L 3; rwa [h.len] at this
theorem TinAt.h2 (τ : TinS) (L : List AObj) : (Gf τ ++ L)[N + 2]? = L[2]? := h.g2 τ L
theorem TinAt.h3 (τ : TinS) (L : List AObj) : (Gf τ ++ L)[N + 3]? = L[3]? := h.g3 τ L
theorem TinAt.s0 (τ : TinS) (L : List AObj) (x : AObj) : (Gf τ ++ L).set N x = Gf τ ++ L.set 0 x := by have := zbR (Gf τ) L 0 x; rwa [h.len] at this
theorem TinAt.s1 (τ : TinS) (L : List AObj) (x : AObj) : (Gf τ ++ L).set (N + 1) x = Gf τ ++ L.set 1 x := by have := zbR (Gf τ) L 1 x; rwa [h.len] at this
theorem TinAt.s2 (τ : TinS) (L : List AObj) (x : AObj) : (Gf τ ++ L).set (N + 1 + 1) x = Gf τ ++ L.set 2 x := by have := zbR (Gf τ) L 2 x; rwa [h.len] at this
theorem TinAt.s3 (τ : TinS) (L : List AObj) (x : AObj) : (Gf τ ++ L).set (N + 1 + 1 + 1) x = Gf τ ++ L.set 3 x := by have := zbR (Gf τ) L 3 x; rwa [h.len] at this
theorem TinAt.t2 (τ : TinS) (L : List AObj) (x : AObj) : (Gf τ ++ L).set (N + 2) x = Gf τ ++ L.set 2 x := h.s2 τ L x
theorem TinAt.t3 (τ : TinS) (L : List AObj) (x : AObj) : (Gf τ ++ L).set (N + 3) x = Gf τ ++ L.set 3 x := h.s3 τ L x
end
theorem TinAt.an {Gf : TinS → List AObj} {t N : Nat} (h : TinAt Gf t N) : (type_of% h.len) ∧ (type_of% h.g0) ∧ (type_of% h.g1) ∧ (type_of% h.g2) ∧ (type_of% h.g3) ∧ (type_of% h.h2) ∧ (type_of% h.h3) ∧ (type_of% h.s0) ∧ (type_of% h.s1) ∧ (type_of% h.s2) ∧ (type_of% h.s3) ∧ (type_of% h.t2) ∧ (type_of% h.t3) := ⟨h.len, h.g0, h.g1, h.g2, h.g3, h.h2, h.h3, h.s0, h.s1, h.s2, h.s3, h.t2, h.t3⟩
theorem olt_tin (m : Nat) (τ : TinS) : OLt m (tinO τ) := by
 intro a ha;simp only [List.mem_cons, List.not_mem_nil, or_false] at ha;rcases ha with rfl | rfl | rfl
 ·rw [zbi]; trivial
 ·exact .val _
 ·exact .val _
theorem zjT (H : List AObj) : TinAt (fun τ => H ++ [tinO τ]) H.length (H.length + 1) where
 len := fun τ => by simp
 get := fun τ => by simp
 set := fun τ τ' => by simp
 ok := fun m τ τ' hk z hz => by
  rcases List.mem_append.1 hz with hz | hz
  ·exact hk z (List.mem_append_left _ hz)
  ·rw [List.mem_singleton.1 hz]; exact olt_tin _ _
structure TinS.Ok (τ : TinS) (b : Int) : Prop where
 g0 : 0 ≤ τ.g
 g : τ.g ≤ b
 len : τ.nums.length ≤ 2 ^ 50
section
variable {lv : Bool} {H : List AObj} {k kp : AV → List AObj → Prop} {Gf : TinS → List AObj} {t N : Nat} {τ : TinS} {b : Int}
theorem f26_c {nums : List Int} (hk : k (.op H.length 0) (H ++ [tinO ⟨nums, 0, 7640891576956012809⟩])) : FnC lv Tryz.prog 26 H [aInts nums] k kp := by
 refine zak (rs := [.tmp 2]) (nt := 6) F.f26 rfl rfl rfl (by simp) fun hH hA => ?_;simp only [argsT, Nat.reduceAdd];(repeat apply zaa);refine zl5 ?_;simp only [push_cast, seval];(repeat apply zaa);refine zl5 ?_;simp only [push_cast, seval];(repeat apply zaa);refine zai ?_;simp only [push_cast, seval];exact zao hk
theorem TinS.Ok.tick (h : τ.Ok b) : (tick τ).Ok (b + 1) := ⟨by have := h.g0; show 0 ≤ τ.g + 1; omega, by have := h.g; show τ.g + 1 ≤ b + 1; omega, h.len⟩
theorem TinS.Ok.mono {b' : Int} (h : τ.Ok b) (hb : b ≤ b') : τ.Ok b' := ⟨h.g0, by have := h.g; omega, h.len⟩
theorem f86_c (hT : TinAt Gf t N) (hτ : τ.Ok b) (hb : b < 2 ^ 60) (hk : k (.val (.int .u64 (outT τ))) (Gf (tick τ))) : FnC lv Tryz.prog 86 (Gf τ) [.op t 0] k kp := by
 obtain ⟨nums, g, s⟩ := τ;obtain ⟨hg0, hgb, hln⟩ := hτ;simp only at hg0 hgb hln;refine zak (rs := [.tmp 2]) (nt := 76) F.f86 rfl rfl rfl (by simp) fun hH hA => ?_;simp only [argsT, Nat.reduceAdd];have hg : ∀ τ, (Gf τ)[t]? = some (.cells [.sl τ.nums.length (τ.nums.map iv) .shut, .val (.int .i64 τ.g), .val (.int .u64 τ.s)] 98) := hT.get;have hs : ∀ τ (nums' : List Int) g' s', (Gf τ).set t (.cells [.sl nums'.length (nums'.map iv) .shut, .val (.int .i64 g'), .val (.int .u64 s')] 98) = Gf ⟨nums', g', s'⟩ := fun τ nums' g' s' => hT.set τ ⟨nums', g', s'⟩;obtain ⟨n, rfl⟩ : ∃ n : Nat, g = n := ⟨g.toNat, by omega⟩;have hw : IntKind.i64.wrap ((n : Int) + 1) = n + 1 := zau _ (by omega);(repeat apply zaa);refine zl5 ?_;simp only [push_cast, seval];(repeat apply zaa);refine zl5 ?_;simp only [push_cast, seval, hg];(repeat apply zaa);refine zaT F.mixed 9 (by kernel_rfl) ?_;simp only [push_cast, seval, hg];(repeat apply zaa);refine zae ?_;simp only [push_cast, seval];refine ⟨fun h => ?_, fun h => ?_⟩
 ·have hnl : n < nums.length := by simpa using h
  obtain ⟨x, hx⟩ := zaE hnl;(repeat apply zaa);refine zaT F.mixed 13 (by kernel_rfl) ?_;simp only [push_cast, seval, hg, za2 hx, zaz hnl, zcQ, zdy];(repeat apply zaa);refine zl5 ?_;simp only [push_cast, seval, hg, hw, hs];(repeat apply zaa);refine zl5 ?_;simp only [push_cast, seval, hg, hs, zcQ];(repeat apply zaa);refine zaT F.mixed 11 (by kernel_rfl) ?_;simp only [push_cast, seval, hg, hs, zdz, zdy];(repeat apply zaa);refine zl5 ?_;simp only [push_cast, seval, hg, zcQ];(repeat apply zaa);refine zl5 ?_;simp only [push_cast, seval, zdz, zdy];(repeat apply zaa);refine zai ?_;simp only [push_cast, seval];refine zao ?_;unfold outT tick wordT at hk;simp only [Int.toNat_natCast, hx] at hk;exact hk
 ·have hnl : ¬ n < nums.length := by simpa using h
  have hx : nums[n]? = none := by rw [List.getElem?_eq_none]; omega
  (repeat apply zaa);refine zah ?_;simp only [push_cast, seval];(repeat apply zaa);refine zl5 ?_;simp only [push_cast, seval, hg, hw, hs];(repeat apply zaa);refine zl5 ?_;simp only [push_cast, seval, hg, hs, zcQ];(repeat apply zaa);refine zaT F.mixed 11 (by kernel_rfl) ?_;simp only [push_cast, seval, hg, hs, zdz, zdy];(repeat apply zaa);refine zl5 ?_;simp only [push_cast, seval, hg, zcQ];(repeat apply zaa);refine zl5 ?_;simp only [push_cast, seval, zdz, zdy];(repeat apply zaa);refine zai ?_;simp only [push_cast, seval];refine zao ?_;unfold outT tick wordT at hk;simp only [Int.toNat_natCast, hx] at hk;exact hk
theorem f29_c {n : Int} (hT : TinAt Gf t N) (hτ : τ.Ok b) (hb : b < 2 ^ 60) (hn : n < 2 ^ 60) (hk : k (iv (uptoT τ n)) (Gf (tick τ))) : FnC lv Tryz.prog 29 (Gf τ) [.op t 0, iv n] k kp := by
 refine zak (rs := [.tmp 4]) (nt := 16) F.f29 rfl rfl rfl (by simp) fun hH hA => ?_;simp only [argsT, Nat.reduceAdd];(repeat apply zaa);refine zl5 ?_;simp only [push_cast, seval];(repeat apply zaa);refine zl5 ?_;simp only [push_cast, seval];refine zl6 ((f86_c hT hτ hb ?_));(try simp only [push_cast, seval]);(repeat apply zaa);refine zl5 ?_;simp only [push_cast, seval];(repeat apply zaa);refine zae ?_;simp only [push_cast, seval];refine ⟨fun h => ?_, fun h => ?_⟩
 ·have h : n < 1 := by simpa using h
  (repeat apply zaa);refine zl5 ?_;simp only [push_cast, seval];(repeat apply zaa);refine zai ?_;simp only [push_cast, seval];rw [uptoT, if_pos h] at hk;exact zao hk
 ·have h : ¬ n < 1 := by simpa using h
  have ho := ze9 (IntKind.u64.wrap ((tick τ).s * 10723151780598845931));have hw1 : IntKind.u64.wrap n = n := u64_in n (by omega) (by omega);have hw2 : IntKind.u64.wrap (n + 1) = n + 1 := u64_in _ (by omega) (by omega);have hn0 : n + 1 ≠ 0 := by omega
  have hr := zaX τ n;rw [uptoT, if_neg h] at hk hr;have hw3 : IntKind.i64.wrap ((outT τ).tmod (n + 1)) = (outT τ).tmod (n + 1) := zau _ (by omega);(repeat apply zaa);refine zah ?_;simp only [push_cast, seval];(repeat apply zaa);refine zl5 ?_;simp only [push_cast, seval, abin_rem, hw1, hw2, hw3, hn0, if_false];(repeat apply zaa);refine zai ?_;simp only [push_cast, seval];exact zao hk
theorem f125_c {lo hi : Int} (hT : TinAt Gf t N) (hτ : τ.Ok b) (hb : b < 2 ^ 60) (hlo : 0 ≤ lo ∧ lo < 2 ^ 20) (hhi : -1 ≤ hi ∧ hi < 2 ^ 20) (hk : k (iv (withinT τ lo hi)) (Gf (tick τ))) : FnC lv Tryz.prog 125 (Gf τ) [.op t 0, iv lo, iv hi] k kp := by
 refine zak (rs := [.tmp 6]) (nt := 14) F.f125 rfl rfl rfl (by simp) fun hH hA => ?_;simp only [argsT, Nat.reduceAdd];have hw1 : IntKind.i64.wrap (hi - lo) = hi - lo := zau _ (by omega);have hr := zaX τ (hi - lo);have hw2 : IntKind.i64.wrap (lo + uptoT τ (hi - lo)) = lo + uptoT τ (hi - lo) := zau _ (by omega);(repeat apply zaa);refine zl5 ?_;simp only [push_cast, seval];(repeat apply zaa);refine zl5 ?_;simp only [push_cast, seval, hw1];refine zl6 ((f29_c hT hτ hb (by omega) ?_));(try simp only [push_cast, seval, hw2]);(repeat apply zaa);refine zai ?_;simp only [push_cast, seval];exact zao hk
theorem f44_c {n : Int} (hT : TinAt Gf t N) (hτ : τ.Ok b) (hb : b < 2 ^ 60) (hn : 0 ≤ n ∧ n < 2 ^ 20) (hk : k (bv (rarelyT τ n)) (Gf (tick τ))) : FnC lv Tryz.prog 44 (Gf τ) [.op t 0, iv n] k kp := by
 refine zak (rs := [.tmp 4]) (nt := 10) F.f44 rfl rfl rfl (by simp) fun hH hA => ?_;simp only [argsT, Nat.reduceAdd];have hw1 : IntKind.i64.wrap (n - 1) = n - 1 := zau _ (by omega);(repeat apply zaa);refine zl5 ?_;simp only [push_cast, seval];(repeat apply zaa);refine zl5 ?_;simp only [push_cast, seval, hw1];refine zl6 ((f29_c hT hτ hb (by omega) ?_));(try simp only [push_cast, seval]);(repeat apply zaa);refine zai ?_;simp only [push_cast, seval];exact zao hk
theorem f126_c {lo hi : Int} (hT : TinAt Gf t N) (hτ : τ.Ok b) (hb : b < 2 ^ 50) (hlo : 0 ≤ lo ∧ lo ≤ hi) (hhi : hi < 2 ^ 20) (hk : k (bandT τ lo hi).av (Gf (tick (tick τ)))) : FnC lv Tryz.prog 126 (Gf τ) [.op t 0, iv lo, iv hi] k kp := by
 refine zak (rs := [.cell 6 63]) (nt := 18) F.f126 rfl rfl rfl (by simp) fun hH hA => ?_;simp only [argsT, Nat.reduceAdd];have hr := za1 τ hlo.2;(repeat apply zaa);refine zl5 ?_;simp only [push_cast, seval, hT.an];(repeat apply zaa);refine zl5 ?_;simp only [push_cast, seval, hT.an];refine zl6 ((f125_c (hT.more _) hτ (by omega) (by omega) (by omega) ?_));(try simp only [push_cast, seval, hT.an]);(repeat apply zaa);refine zl5 ?_;simp only [push_cast, seval, hT.an];refine zl6 ((f125_c (hT.more _) hτ.tick (by omega) (by omega) (by omega) ?_));(try simp only [push_cast, seval, hT.an]);(repeat apply zaa);refine zai ?_;simp only [push_cast, seval, hT.an];rw [← hT.len (tick (tick τ))];exact endA (b := (bandT τ lo hi).av) (hT.hok hH _) (Wk.refl _) (by simp [zap, zfa, Band.av, Band.l, iv]) hk
end
open Go.Conc Go.Proofs
theorem zfA {xs : List Int} {i : Nat} {x : Int} (f : Int → AV) (h : xs[i]? = some x) : (xs.take (i + 1)).map f = (xs.take i).map f ++ [f x] := by
 obtain ⟨hj, rfl⟩ := List.getElem?_eq_some_iff.1 h;rw [List.take_succ_eq_append_getElem hj, List.map_append]; rfl
theorem zgb {xs ys : List Int} {i : Nat} {x y : Int} (hx : xs[i]? = some x) (hy : ys[i]? = some y) (h : xs.take i = ys.take i) (e : x = y) : xs.take (i + 1) = ys.take (i + 1) := by
 obtain ⟨hj, rfl⟩ := List.getElem?_eq_some_iff.1 hx;obtain ⟨hk, rfl⟩ := List.getElem?_eq_some_iff.1 hy;rw [List.take_succ_eq_append_getElem hj, List.take_succ_eq_append_getElem hk, h, e]
section
variable {lv : Bool} {H : List AObj} {k kp : AV → List AObj → Prop}
theorem f34_c {xs ys : List Int} {e e' : End} (hx : xs.length < 2 ^ 60) (hk : k (bv (decide (xs = ys))) H) : FnC lv Tryz.prog 34 H [.sl xs.length (xs.map iv) e, .sl ys.length (ys.map iv) e'] k kp := by
 refine zak (rs := [.tmp 4]) (nt := 26) F.f34 rfl rfl rfl (by simp) fun hH hA => ?_;simp only [argsT, Nat.reduceAdd];(repeat apply zaa);refine zl5 ?_;simp only [push_cast, seval];(repeat apply zaa);refine zl5 ?_;simp only [push_cast, seval];(repeat apply zaa);refine zae ?_;simp only [push_cast, seval];refine ⟨fun h => ?_, fun h => ?_⟩
 ·have h : xs ≠ ys := fun e => by subst e; simp at h
  (repeat apply zaa);refine zl5 ?_;simp only [push_cast, seval];(repeat apply zaa);refine zai ?_;simp only [push_cast, seval];rw [decide_eq_false h] at hk;exact zao hk
 ·have h : xs.length = ys.length := by
   have h : (xs.length : Int) = ys.length := (by simpa using h);omega
  (repeat apply zaa);refine zah ?_;simp only [push_cast, seval];(repeat apply zaa);refine zl5 ?_;simp only [push_cast, seval];(repeat apply zaa);refine zag ?_;refine zaB xs.length (fun i : Nat => [(5, iv i)]) (fun _ => _) (fun i => xs.take i = ys.take i) (fun _ _ => rfl) (by simp only [push_cast, seval, List.forall_mem_cons, List.not_mem_nil, false_imp_iff, implies_true, List.forall_mem_nil]; simp [zaf, Wk.refl]) rfl (fun _ _ _ => rfl) (by simp) (fun hHs hLt i hin hi R hR => ?_);(repeat apply zaa);refine zl5 ?_;simp only [push_cast, seval];(repeat apply zaa);refine zae ?_;simp only [push_cast, seval];refine ⟨fun h2 => ?_, fun h2 => ?_⟩
  ·have hlt : i < xs.length := (by omega);obtain ⟨x, hx1⟩ := zaE hlt;obtain ⟨y, hy1⟩ := zaE (xs := ys) (i := i) (by omega);(repeat apply zaa);refine zah ?_;simp only [push_cast, seval];(repeat apply zaa);refine zag ?_;(repeat apply zaa);refine zaT F.mixed 8 (by kernel_rfl) ?_;simp only [push_cast, seval, za2 hx1, za2 hy1, zaz hlt, zaz (get_lt hy1)];(repeat apply zaa);refine zae ?_;simp only [push_cast, seval];refine ⟨fun h3 => ?_, fun h3 => ?_⟩
   ·have h3 : xs ≠ ys := fun e => (by subst e; rw [hx1] at hy1; cases hy1; simp at h3);(repeat apply zaa);refine zl5 ?_;simp only [push_cast, seval];(repeat apply zaa);refine zai ?_;simp only [push_cast, seval];rw [decide_eq_false h3] at hk;exact zao hk
   ·have h3 : x = y := (by simpa using h3);(repeat apply zaa);refine zah ?_;simp only [push_cast, seval];(repeat apply zaa);refine zl5 ?_;simp only [push_cast, seval];refine hR _ ⟨hlt, zgb hx1 hy1 hi h3, ?_⟩;rw [zau _ (by omega)];exact (zax (zam rfl rfl) (by simp only [push_cast, seval]; simp [zaf, Wk.refl]))
  ·have hix : i = xs.length := (by omega);(repeat apply zaa);refine zaq ?_;simp only [push_cast, seval];(repeat apply zaa);refine zl5 ?_;simp only [push_cast, seval];(repeat apply zaa);refine zai ?_;simp only [push_cast, seval];have h3 : xs = ys := by
    rw [hix, List.take_length] at hi;rw [hi, h, List.take_length]
   rw [decide_eq_true h3] at hk;exact zao hk
theorem f78_c {xs : List Int} {n : Int} (hb : ∀ x ∈ xs, 0 ≤ x ∧ x ≤ 3) (hn : 0 ≤ n ∧ n ≤ 3) (hl : xs.length ≤ 2 ^ 20) (hk : k (aInts (wornM n xs)) H) : FnC lv Tryz.prog 78 H [aInts xs, iv n] k kp := by
 refine zak (rs := [.tmp 4]) (nt := 24) F.f78 rfl rfl rfl (by simp) fun hH hA => ?_;simp only [argsT, Nat.reduceAdd, aInts];(repeat apply zaa);refine zl5 ?_;simp only [push_cast, seval];(repeat apply zaa);refine zl5 ?_;simp only [push_cast, seval]
 (repeat apply zaa); refine zbV (t := 5) (sz := 1) (el := 3) (by simp only [push_cast, seval] <;> rfl) ?_
 (repeat apply zaa);refine zl5 ?_;simp only [push_cast, seval];(repeat apply zaa);refine zag ?_;refine zaB xs.length (fun i : Nat => [(5, .sl i ((wornM n (xs.take i)).map iv) (.opn H.length)), (6, iv i)]) (fun i => H ++ [.tail i 1 3]) (fun i => True) (fun _ _ => rfl) (by simp only [push_cast, seval, List.forall_mem_cons, List.not_mem_nil, false_imp_iff, implies_true, List.forall_mem_nil]; simp [zaf, Wk.refl]; exact Wk.refl _) rfl (fun _ _ _ => by simp) trivial (fun hHs hLt i hin hi R hR => ?_);(repeat apply zaa);refine zl5 ?_;simp only [push_cast, seval];(repeat apply zaa);refine zae ?_;simp only [push_cast, seval];refine ⟨fun h => ?_, fun h => ?_⟩
 ·have hlt : i < xs.length := by omega
  obtain ⟨x, hx⟩ := zaE hlt;have hxb := hb x (zas hx);have hw : IntKind.i64.wrap (x - n) = x - n := zau _ (by omega);have hw2 : IntKind.i64.wrap ((i : Int) + 1) = i + 1 := zau _ (by omega);have hmax : (if 0 < x - n then x - n else 0) = max 0 (x - n) := by omega
  have hwl : ((wornM n (xs.take i)).map iv).length = i := by simp [wornM]; omega
  have hnext : (wornM n (xs.take (i + 1))).map iv = (wornM n (xs.take i)).map iv ++ [.val (.int .i64 (max 0 (x - n)))] := by
   unfold wornM;rw [List.map_map, zfA _ hx, List.map_map]; rfl
  (repeat apply zaa);refine zah ?_;simp only [push_cast, seval];(repeat apply zaa);refine zag ?_;(repeat apply zaa);refine zl5 ?_;simp only [push_cast, seval, z1, za2 hx, zaz hlt, hw, hmax, hwl]
  first | refine ⟨by omega, by omega, ?_⟩ | refine ⟨by omega, ?_⟩
  (repeat apply zaa);refine zl5 ?_;simp only [push_cast, seval, hw2];refine hR _ ⟨hlt, trivial, ?_⟩;rw [hnext];exact (zax (zam rfl rfl) (by simp only [push_cast, seval]; simp [zaf, Wk.refl]))
 ·have hix : i = xs.length := by omega
  subst hix;(repeat apply zaa);refine zaq ?_;simp only [push_cast, seval];(repeat apply zaa);refine zl5 ?_;simp only [push_cast, seval];(repeat apply zaa);refine zai ?_;simp only [push_cast, seval];rw [List.take_length];have hwl : (wornM n xs).length = xs.length := by simp [wornM]
  rw [aInts, hwl] at hk;exact endA hH (zaK _ _ _) (by simp [za3, zap]) hk
theorem f64_c {ds : List Int} {bs : List Band} (hlen : ds.length ≤ bs.length) (hsz : ds.length < 2 ^ 60) (hk : k (bv (fitsM ds bs)) H) : FnC lv Tryz.prog 64 H [aInts ds, aBands bs] k kp := by
 refine zak (rs := [.tmp 4]) (nt := 34) F.f64 rfl rfl rfl (by simp) fun hH hA => ?_;simp only [argsT, Nat.reduceAdd, aInts, aBands];(repeat apply zaa);refine zl5 ?_;simp only [push_cast, seval];(repeat apply zaa);refine zl5 ?_;simp only [push_cast, seval];(repeat apply zaa);refine zag ?_;refine zaB ds.length (fun i : Nat => [(5, iv i)]) (fun _ => _) (fun i => fitsM ds bs = fitsM (ds.drop i) (bs.drop i)) (fun _ _ => rfl) (by simp only [push_cast, seval, List.forall_mem_cons, List.not_mem_nil, false_imp_iff, implies_true, List.forall_mem_nil]; simp [zaf, Wk.refl]) rfl (fun _ _ _ => rfl) rfl (fun hHs hLt i hin hi R hR => ?_);(repeat apply zaa);refine zl5 ?_;simp only [push_cast, seval];(repeat apply zaa);refine zae ?_;simp only [push_cast, seval];refine ⟨fun h => ?_, fun h => ?_⟩
 ·have hlt : i < ds.length := by omega
  obtain ⟨d, hd⟩ := zaE hlt;obtain ⟨b, hb⟩ := zaE (xs := bs) (i := i) (by omega);(repeat apply zaa);refine zah ?_;simp only [push_cast, seval];(repeat apply zaa);refine zag ?_;(repeat apply zaa);refine zaT F.mixed 20 (by kernel_rfl) ?_;simp only [push_cast, seval, za2 hd, zdh hb, zaz hlt, zaz (get_lt hb)];refine guardI (fun h2 => ?_) (fun h2 => ?_)
  ·have h2 : b.min ≤ d := (by simpa using h2);(try simp only [push_cast, seval, za2 hd, zdh hb, zaz hlt, zaz (get_lt hb)]);(repeat apply zaa);refine zae ?_;simp only [push_cast, seval];refine ⟨fun h3 => ?_, fun h3 => ?_⟩
   ·have h3 : ¬ d ≤ b.max := (by simpa using h3);(repeat apply zaa);refine zl5 ?_;simp only [push_cast, seval];(repeat apply zaa);refine zai ?_;simp only [push_cast, seval];rw [hi, zcK hd hb, decide_eq_false h3, Bool.and_false, Bool.false_and] at hk;exact zao hk
   ·have h3 : d ≤ b.max := (by simpa using h3);(repeat apply zaa);refine zah ?_;simp only [push_cast, seval];(repeat apply zaa);refine zl5 ?_;simp only [push_cast, seval];refine hR _ ⟨hlt, ?_, ?_⟩
    ·rw [hi, zcK hd hb, decide_eq_true h2, decide_eq_true h3]; rfl
    ·rw [zau _ (by omega)];exact (zax (zam rfl rfl) (by simp only [push_cast, seval]; simp [zaf, Wk.refl]))
  ·have h2 : ¬ b.min ≤ d := (by simpa using h2);(try simp only [push_cast, seval, za2 hd, zdh hb, zaz hlt, zaz (get_lt hb)]);(repeat apply zaa);refine zae ?_;simp only [push_cast, seval];(repeat apply zaa);refine zl5 ?_;simp only [push_cast, seval];(repeat apply zaa);refine zai ?_;simp only [push_cast, seval];rw [hi, zcK hd hb, decide_eq_false h2, Bool.false_and, Bool.false_and] at hk;exact zao hk
 ·have hix : i = ds.length := by omega
  subst hix;(repeat apply zaa);refine zaq ?_;simp only [push_cast, seval];(repeat apply zaa);refine zl5 ?_;simp only [push_cast, seval];(repeat apply zaa);refine zai ?_;simp only [push_cast, seval];rw [hi, List.drop_length, fitsM] at hk;exact zao hk
end
open Go.Conc Go.Proofs
inductive Wks : List AV → List AV → Prop
 | nil : Wks [] []
 | cons {a b : AV} {l m : List AV} (h : Wk a b) (t : Wks l m) : Wks (a :: l) (b :: m)
theorem Wks.len {l m : List AV} (h : Wks l m) : l.length = m.length := by
 induction h with
 | nil => rfl
 | cons _ _ ih => simp [ih]
theorem Wks.at {l m : List AV} (h : Wks l m) : ∀ (i : Nat) (a b : AV), m[i]? = some a → l[i]? = some b → Wk b a := by
 induction h with
 | nil => intro i a b h; simp at h
 | cons h _ ih =>
  intro i a b h1 h2
  match i with
  | 0 => cases h1; cases h2; exact h
  | i + 1 => exact ih i a b h1 h2
theorem zhX {l l' : List AV} (h : Wks l l') : Wk (.agg l) (.agg l') := fun E v hd => by
 cases hd with
 | agg hs h1 =>
  refine .agg (by rw [hs, h.len]) fun i x hx => ?_;obtain ⟨y, hy⟩ := zaE (xs := l) (i := i) (by rw [h.len]; exact get_lt hx);exact h.at i x y hx hy E _ (h1 i y hy)
theorem wk_sl {n : Nat} {l l' : List AV} {e : End} (h : Wks l l') : Wk (.sl n l e) (.sl n l' .shut) := zhW (zeg h.len h.at) (zaK _ _ _)
theorem zr2 : zeroRow (Value.int .i64 0) 2 = [iv 0, iv 0] := rfl
theorem zr3 : zeroRow (Value.int .i64 0) 3 = [iv 0, iv 0, iv 0] := rfl
theorem zk3 : zeroRow (.agg #[.slice none 0 0, .int .i64 0, .int .i64 0]) 3 = [.sl 0 [] .exact, iv 0, iv 0] := rfl
theorem zk9 : zeroRow (.agg #[.slice none 0 0, .int .i64 0, .int .i64 0]) 9 = [.sl 0 [] .exact, iv 0, iv 0, .sl 0 [] .exact, iv 0, iv 0, .sl 0 [] .exact, iv 0, iv 0] := rfl
theorem zb2 : zeroRow (.agg #[.int .i64 0, .int .i64 0]) 2 = [iv 0, iv 0] := rfl
theorem zb4 : zeroRow (.agg #[.int .i64 0, .int .i64 0]) 4 = [iv 0, iv 0, iv 0, iv 0] := rfl
theorem zs3 : zeroRow (Value.slice none 0 0) 3 = [.sl 0 [] .exact, .sl 0 [] .exact, .sl 0 [] .exact] := rfl
theorem zt3 : zeroRow (.agg #[.int .i64 0, .int .i64 0, .bool false]) 3 = [iv 0, iv 0, bv false] := rfl
theorem zu2 : zeroRow (.agg #[.int .i64 0, .bool false]) 2 = [iv 0, bv false] := rfl
theorem p24_4 : (4 ≤ 2 ^ 24) = True := by simp
theorem p24_9 : (9 ≤ 2 ^ 24) = True := by simp
theorem zhq : (1 ≤ 2 ^ 24) = True := by simp
theorem zes : (2 ≤ 2 ^ 24) = True := by simp
theorem zd5 : (3 ≤ 2 ^ 24) = True := by simp
theorem zkE (x : List Int) : (aInts x).leaf = true := rfl
theorem zfd (x : List Band) : (aBands x).leaf = true := rfl
theorem zkC (x : List Key) : (aKeys x).leaf = true := rfl
theorem zjd (x : List (List Band)) : (aLocks x).leaf = true := rfl
theorem zjc (x : List Try) : (aTries x).leaf = true := rfl
attribute [push_cast] zkE zfd zkC zjd zjc
theorem zfC (n : Nat) (x : Ring) : Lt n x.av = True := by simp [Ring.av, Ring.l, zfa, zc5, zci, zch, zap, iv]
section
variable {lv : Bool} {H : List AObj} {k kp : AV → List AObj → Prop}
theorem f81_c {lo hi : Int} (hk : k (Band.mk lo hi).av H) : FnC lv Tryz.prog 81 H [iv lo, iv hi] k kp := by
 refine zak (rs := [.cell 4 63]) (nt := 8) F.f81 rfl rfl rfl (by simp) fun hH hA => ?_;simp only [argsT, Nat.reduceAdd];(repeat apply zaa);refine zl5 ?_;simp only [push_cast, seval];(repeat apply zaa);refine zl5 ?_;simp only [push_cast, seval];(repeat apply zaa);refine zai ?_;simp only [push_cast, seval];exact endA (b := (Band.mk lo hi).av) hH (Wk.refl _) (by simp [zap, zfa, Band.av, Band.l, iv]) hk
theorem f149_c {lo hi : Int} {xs : List Int} {e : End} (hk : k (Key.mk xs ⟨lo, hi⟩).av H) : FnC lv Tryz.prog 149 H [iv lo, iv hi, .sl xs.length (xs.map iv) e] k kp := by
 refine zak (rs := [.cell 6 65]) (nt := 12) F.f149 rfl rfl rfl (by simp) fun hH hA => ?_;simp only [argsT, Nat.reduceAdd];(repeat apply zaa);refine zl5 ?_;simp only [push_cast, seval];(repeat apply zaa);refine zl5 ?_;simp only [push_cast, seval];refine zl6 ((f81_c ?_));(try simp only [push_cast, seval, Band.av, Band.l]);(repeat apply zaa);refine zai ?_;simp only [push_cast, seval];exact endA (b := (Key.mk xs ⟨lo, hi⟩).av) hH (zhX (.cons (zaK _ _ _) (.cons (Wk.refl _) (.cons (Wk.refl _) .nil)))) (by simp [zap, zfa, Key.av, Key.l, iv, zbi]) hk
theorem f80_c {ts : List Try} {e : End} (hts : ts.length < 2 ^ 30) (hk : k (exR ts).av H) : FnC lv Tryz.prog 80 H [.sl ts.length (ts.flatMap Try.l) e] k kp := by
 refine zak (rs := [.cell 2 26]) (nt := 22) F.f80 rfl rfl rfl (by simp) fun hH hA => ?_;simp only [argsT, Nat.reduceAdd];(repeat apply zaa);refine zl5 ?_;simp only [push_cast, seval];(repeat apply zaa);refine zl5 ?_;simp only [push_cast, seval, zr2, zes];refine zl6 ((f149_c (xs := [3, 1]) ?_));(try simp only [push_cast, seval, Key.av, Key.l, zr2, zes]);refine zl6 ((f149_c (xs := [2, 2]) ?_));(try simp only [push_cast, seval, Key.av, Key.l, zr2, zes]);refine zl6 ((f149_c (xs := [1, 3]) ?_));(try simp only [push_cast, seval, Key.av, Key.l, zk9, p24_9]);refine zl6 ((f81_c ?_));(try simp only [push_cast, seval, Band.av, Band.l]);refine zl6 ((f81_c ?_));(try simp only [push_cast, seval, Band.av, Band.l, zb4, p24_4]);refine zl6 ((f81_c ?_));(try simp only [push_cast, seval, Band.av, Band.l]);refine zl6 ((f81_c ?_));(try simp only [push_cast, seval, Band.av, Band.l, zb4, p24_4]);refine zl6 ((f81_c ?_));(try simp only [push_cast, seval, Band.av, Band.l]);refine zl6 ((f81_c ?_));(try simp only [push_cast, seval, Band.av, Band.l, zb4, zs3, p24_4, zd5]);(repeat apply zaa);refine zai ?_;simp only [push_cast, seval];exact endA (b := (exR ts).av) hH (zhX (.cons (Wk.refl _) (.cons (zaK _ _ _) (.cons (wk_sl (.cons (zaK _ _ _) (.cons (zaK _ _ _) (.cons (zaK _ _ _) .nil)))) (.cons (zaK _ _ _) .nil))))) (by rw [zfC]; trivial) hk
theorem f82_c (hk : k exLast.av H) : FnC lv Tryz.prog 82 H [] k kp := by
 refine zak (rs := [.cell 0 28]) (nt := 2) F.f82 rfl rfl rfl (by simp) fun hH hA => ?_;simp only [argsT, Nat.reduceAdd];(repeat apply zaa);refine zl5 ?_;simp only [push_cast, seval];(repeat apply zaa);refine zl5 ?_;simp only [push_cast, seval];(repeat apply zaa);refine zai ?_;simp only [push_cast, seval];exact endA (b := exLast.av) hH (Wk.refl _) (by simp [zap, zfa, Try.av, Try.l, exLast, iv, bv]) hk
theorem f83_c (hk : k exNever.av H) : FnC lv Tryz.prog 83 H [] k kp := by
 refine zak (rs := [.cell 0 28]) (nt := 2) F.f83 rfl rfl rfl (by simp) fun hH hA => ?_;simp only [argsT, Nat.reduceAdd];(repeat apply zaa);refine zl5 ?_;simp only [push_cast, seval];(repeat apply zaa);refine zl5 ?_;simp only [push_cast, seval];(repeat apply zaa);refine zai ?_;simp only [push_cast, seval];exact endA (b := exNever.av) hH (Wk.refl _) (by simp [zap, zfa, Try.av, Try.l, exNever, iv, bv]) hk
theorem f34_same {xs : List Int} {e e' : End} (hx : xs.length < 2 ^ 60) (hk : k (bv true) H) : FnC lv Tryz.prog 34 H [.sl xs.length (xs.map iv) e, .sl xs.length (xs.map iv) e'] k kp :=
 f34_c hx (by rw [decide_eq_true rfl]; exact hk)
theorem f84_c (hk : k exOne.av H) : FnC lv Tryz.prog 84 H [] k kp := by
 refine zak (rs := [.cell 0 26]) (nt := 8) F.f84 rfl rfl rfl (by simp) fun hH hA => ?_;simp only [argsT, Nat.reduceAdd];(repeat apply zaa);refine zl5 ?_;simp only [push_cast, seval];(repeat apply zaa);refine zl5 ?_;simp only [push_cast, seval];refine zl6 ((f80_c (ts := []) (by decide) ?_));(try simp only [push_cast, seval, Ring.av, Ring.l, exR]);(repeat apply zaa);refine zl5 ?_;simp only [push_cast, seval, aKeys, List.flatMap_cons, List.flatMap_nil, Key.l, Bool.false_and, ite_self, ite_ff];(repeat apply zaa);refine zl5 ?_;simp only [push_cast, seval];(repeat apply zaa);refine zai ?_;simp only [push_cast, seval];exact endA (b := exOne.av) hH (Wk.refl _) (by rw [zfC]; trivial) hk
end
open Go.Conc Go.Proofs
def lockStep (sm : Bool) (p : List Band × TinS) (d : Int) : List Band × TinS :=
 if sm then (p.1 ++ [⟨uptoT (tick (tick p.2)) d, withinT (tick (tick (tick p.2))) d 3⟩], tick (tick (tick (tick p.2)))) else (p.1 ++ [bandT p.2 0 3], tick (tick p.2))
def lockTo (sm : Bool) (τ : TinS) (ds : List Int) (i : Nat) : List Band × TinS := (ds.take i).foldl (lockStep sm) ([], τ)
def lockT (sm : Bool) (τ : TinS) (ds : List Int) : List Band × TinS := ds.foldl (lockStep sm) ([], τ)
theorem zez {sm : Bool} {τ : TinS} {ds : List Int} {i : Nat} {d : Int} (h : ds[i]? = some d) : lockTo sm τ ds (i + 1) = lockStep sm (lockTo sm τ ds i) d := by
 obtain ⟨hj, rfl⟩ := List.getElem?_eq_some_iff.1 h;unfold lockTo;rw [List.take_succ_eq_append_getElem hj, List.foldl_append]; rfl
theorem zcw {sm : Bool} {τ : TinS} {ds : List Int} {b : Int} (hτ : τ.Ok b) (hds : ∀ d ∈ ds, 0 ≤ d ∧ d ≤ 3) : ∀ i, i ≤ ds.length → (lockTo sm τ ds i).1.length = i ∧ (lockTo sm τ ds i).2.Ok (b + 4 * i) ∧ ∀ y ∈ (lockTo sm τ ds i).1, y.Ok 3
 | 0, _ => ⟨rfl, by have := hτ.mono (b' := b + 4 * (0 : Nat)) (by omega); exact this, by simp [lockTo]⟩
 | i + 1, h => by
  obtain ⟨d, hd⟩ := zaE (xs := ds) (i := i) (by omega);obtain ⟨h1, h2, h3⟩ := zcw (sm := sm) hτ hds i (by omega);obtain ⟨hd0, hd3⟩ := hds d (zas hd);rw [zez hd];unfold lockStep;cases sm with
  | true =>
   simp only [if_true];refine ⟨by simp [h1], h2.tick.tick.tick.tick.mono (by omega), fun y hy => ?_⟩;rcases List.mem_append.1 hy with hy | hy
   ·exact h3 y hy
   ·rw [List.mem_singleton.1 hy];have e1 := zaX (tick (tick (lockTo true τ ds i).2)) d;have e2 := za1 (tick (tick (tick (lockTo true τ ds i).2))) hd3;exact ⟨e1.1, e2.2, by show uptoT _ d ≤ withinT _ d 3; omega⟩
  | false =>
   simp only [Bool.false_eq_true, if_false];refine ⟨by simp [h1], h2.tick.tick.mono (by omega), fun y hy => ?_⟩;rcases List.mem_append.1 hy with hy | hy
   ·exact h3 y hy
   ·rw [List.mem_singleton.1 hy];have e := zir (lockTo false τ ds i).2 (show (0 : Int) ≤ 3 by decide);exact ⟨e.1, e.2.2, e.2.1⟩
theorem zld (bs : List Band) : (bs.flatMap Band.l).length = bs.length * 2 := by
 induction bs with
 | nil => rfl
 | cons b bs ih => rw [List.flatMap_cons, List.length_append, ih]; simp [Band.l]; omega
theorem zgH (bs : List Band) (b : Band) : (bs ++ [b]).flatMap Band.l = bs.flatMap Band.l ++ [iv b.min, iv b.max] := by simp [Band.l]
theorem zkv (n m k : Nat) (bs : List Band) : Lt n (.sl m (bs.flatMap Band.l) (.opn k)) = (k < n) := by
 rw [zdq, eq_iff_iff];refine ⟨fun h => h.1, fun h => ⟨h, fun a ha => ?_⟩⟩;have := zfD n bs;rw [aBands, za3] at this;exact this.mpr trivial a ha
section
variable {lv : Bool} {k kp : AV → List AObj → Prop} {Gf : TinS → List AObj} {t N : Nat} {τ : TinS} {b : Int}
theorem f127_c {ds : List Int} {sm : Bool} (hT : TinAt Gf t N) (hτ : τ.Ok b) (hb : b < 2 ^ 40) (hds : ∀ d ∈ ds, 0 ≤ d ∧ d ≤ 3) (hl : ds.length ≤ 4) (hk : k (aBands (lockT sm τ ds).1) (Gf (lockT sm τ ds).2)) : FnC lv Tryz.prog 127 (Gf τ) [.op t 0, aInts ds, bv sm] k kp := by
 refine zak (rs := [.tmp 6]) (nt := 37) F.f127 rfl rfl rfl (by simp) fun hH hA => ?_;simp only [argsT, Nat.reduceAdd, aInts];have hokT : ∀ τ' n, HOk (Gf τ' ++ [.tail n 2 63]) := fun τ' n => zc6 (hT.hok hH τ') fun z hz m => by rw [List.mem_singleton.1 hz]; trivial
 (repeat apply zaa);refine zl5 ?_;simp only [push_cast, seval];(repeat apply zaa);refine zl5 ?_;simp only [push_cast, seval]
 (repeat apply zaa); refine zbV (t := 7) (sz := 2) (el := 63) (by simp only [push_cast, seval] <;> rfl) ?_
 (repeat apply zaa);refine zl5 ?_;simp only [push_cast, seval, hT.an];(repeat apply zaa);refine zag ?_;refine zaB ds.length (fun i : Nat => [(7, .sl i ((lockTo sm τ ds i).1.flatMap Band.l) (.opn N)), (8, iv i)]) (fun i => Gf (lockTo sm τ ds i).2 ++ [.tail i 2 63]) (fun i => True) (fun _ _ => rfl) (by simp only [push_cast, seval, List.forall_mem_cons, List.not_mem_nil, false_imp_iff, implies_true, List.forall_mem_nil]; simp [zaf, Wk.refl]; exact Wk.refl _) rfl (fun _ _ _ => by simp [hT.len]) trivial (fun hHs hLt i hin hi R hR => ?_);obtain ⟨hpl, hpo, hpb⟩ := zcw (sm := sm) hτ hds i hin;(repeat apply zaa);refine zl5 ?_;simp only [push_cast, seval];(repeat apply zaa);refine zae ?_;simp only [push_cast, seval];refine ⟨fun h => ?_, fun h => ?_⟩
 ·have hlt : i < ds.length := by omega
  obtain ⟨d, hd⟩ := zaE hlt;obtain ⟨hd0, hd3⟩ := hds d (zas hd);have hsucc := zez (sm := sm) (τ := τ) hd;have hw2 : IntKind.i64.wrap ((i : Int) + 1) = i + 1 := zau _ (by omega);generalize lockTo sm τ ds i = p at *;obtain ⟨bs, τ'⟩ := p;simp only at hpl hpo hpb;have hbl : (bs.flatMap Band.l).length = i * 2 := by rw [zld, hpl]
  (repeat apply zaa);refine zah ?_;simp only [push_cast, seval];(repeat apply zaa);refine zag ?_;(repeat apply zaa);refine zl5 ?_;simp only [push_cast, seval, hT.an];refine zl6 ((f126_c (hT.more _) hpo (by omega) (by omega) (by omega) ?_));(try simp only [push_cast, seval, Band.av, Band.l, hT.an]);(repeat apply zaa);refine zl5 ?_;simp only [push_cast, seval, hT.an];(repeat apply zaa);refine zae ?_;simp only [push_cast, seval];refine ⟨fun h2 => ?_, fun h2 => ?_⟩
  ·subst h2;(repeat apply zaa);refine zbE [5, 11, 13] [0, 1, 2, 3, 4, 5, 6, 7, 8, 9, 10, 11, 12, 13] [⟨0, false, [], []⟩, ⟨1, false, [], []⟩, ⟨2, false, [], []⟩, ⟨3, false, [], []⟩, ⟨4, false, [], []⟩, ⟨5, true, [5], []⟩, ⟨6, false, [5], [([], [])]⟩, ⟨7, false, [5], [([], [])]⟩, ⟨8, false, [5], [([], [])]⟩, ⟨9, false, [5], [([], [])]⟩, ⟨10, false, [5], [([], [])]⟩, ⟨11, true, [5, 11], []⟩, ⟨12, false, [5, 11], []⟩, ⟨13, true, [5, 11, 13], []⟩] (fun D => bif isDone 13 D then Gf (tick (tick (tick (tick τ')))) ++ [.tail i 2 63, .cells [iv (uptoT (tick (tick τ')) d), iv (withinT (tick (tick (tick τ'))) d 3)] 63] else bif isDone 11 D then Gf (tick (tick (tick (tick τ')))) ++ [.tail i 2 63, .cells [iv (bandT τ' 0 3).min, iv (bandT τ' 0 3).max] 63] else bif isDone 5 D then Gf (tick (tick (tick τ'))) ++ [.tail i 2 63, .cells [iv (bandT τ' 0 3).min, iv (bandT τ' 0 3).max] 63] else Gf (tick (tick τ')) ++ [.tail i 2 63, .cells [iv (bandT τ' 0 3).min, iv (bandT τ' 0 3).max] 63]) F.mixed (by kernel_rfl) (by kernel_rfl) (by first | rfl | simp only [push_cast, seval]) ?_;simp only [push_cast, seval, za2 hd, zaz hlt, hT.an];refine eCall (iv (uptoT (tick (tick τ')) d)) (Gf (tick (tick (tick τ'))) ++ [.tail i 2 63, .cells [iv (bandT τ' 0 3).min, iv (bandT τ' 0 3).max] 63]) (zad (by kernel_rfl) (f29_c (hT.more _) hpo.tick.tick (by omega) (by omega) ⟨rfl, rfl⟩)) ?_;(try simp only [push_cast, seval, za2 hd, zaz hlt, hT.an]);refine eCall (iv (withinT (tick (tick (tick τ'))) d 3)) (Gf (tick (tick (tick (tick τ')))) ++ [.tail i 2 63, .cells [iv (bandT τ' 0 3).min, iv (bandT τ' 0 3).max] 63]) (zad (by kernel_rfl) (f125_c (hT.more _) hpo.tick.tick.tick (by omega) (by omega) (by omega) ⟨rfl, rfl⟩)) ?_;(try simp only [push_cast, seval, hT.an]);have hlk : lockTo true τ ds (i + 1) = (bs ++ [⟨uptoT (tick (tick τ')) d, withinT (tick (tick (tick τ'))) d 3⟩], tick (tick (tick (tick τ')))) := (by rw [hsucc]; rfl);(repeat apply zaa);refine zl5 ?_;simp only [push_cast, seval, zb2, zes, hbl, hT.an];refine ⟨by omega, ?_⟩;(repeat apply zaa);refine zl5 ?_;simp only [push_cast, seval, hw2];refine hR _ ⟨hlt, trivial, ?_⟩;rw [hlk];refine zat (zam rfl rfl) (by rw [zgH]; simp only [push_cast, seval]; simp [zaf, Wk.refl]) (hokT _ _) (by simp only [List.forall_mem_cons, zap, zkv, iv]; simp [hT.len])
  ·have h2 : sm = false := (by simpa using h2);subst h2;(repeat apply zaa);refine zah ?_;simp only [push_cast, seval];have hlk : lockTo false τ ds (i + 1) = (bs ++ [bandT τ' 0 3], tick (tick τ')) := (by rw [hsucc]; rfl);(repeat apply zaa);refine zl5 ?_;simp only [push_cast, seval, zb2, zes, hbl, hT.an];refine ⟨by omega, ?_⟩;(repeat apply zaa);refine zl5 ?_;simp only [push_cast, seval, hw2];refine hR _ ⟨hlt, trivial, ?_⟩;rw [hlk];refine zat (zam rfl rfl) (by rw [zgH]; simp only [push_cast, seval]; simp [zaf, Wk.refl]) (hokT _ _) (by simp only [List.forall_mem_cons, zap, zkv, iv]; simp [hT.len])
 ·have hix : i = ds.length := by omega
  subst hix;(repeat apply zaa);refine zaq ?_;simp only [push_cast, seval];(repeat apply zaa);refine zl5 ?_;simp only [push_cast, seval];(repeat apply zaa);refine zai ?_;simp only [push_cast, seval];have e : lockTo sm τ ds ds.length = lockT sm τ ds := by unfold lockTo lockT; rw [List.take_length]
  rw [e] at hpl ⊢;rw [aBands, hpl] at hk;rw [← hT.len (lockT sm τ ds).2];exact endA (hT.hok hH _) (zaK _ _ _) (by rw [← hpl, ← aBands.eq_1, zfD]; trivial) hk
end
end Go.Gg
