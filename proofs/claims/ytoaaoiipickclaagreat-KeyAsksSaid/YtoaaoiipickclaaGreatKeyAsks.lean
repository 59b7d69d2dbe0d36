/- The law KeyAsks answers true at every ring, try, lock and list of numbers, on every schedule, and changes nothing. No condition. -/
import Derived.Test.YtoaaoiipickclaaGreatKeyAsks4
import Derived.Conc.LeavingOf
import Derived.Conc.Holds
import Derived.ProofKit
import Derived.Test.YtoaaoiipickclaaGreatChecked
import Derived.Test.YtoaaoiipickclaaGreatRows
set_option linter.all false
set_option maxRecDepth 4000
set_option maxHeartbeats 1000000
namespace Go.Gg
open Go.Conc Go.Proofs
def bkK : Option (Nat × Nat × Nat) -> Int
 | none => -1
 | some t => t.1
def bkL : Option (Nat × Nat × Nat) -> Int
 | none => -1
 | some t => t.2.1
def bkM (all : Nat) : Option (Nat × Nat × Nat) -> Nat
 | none => all
 | some t => t.2.2
def askA (x : Ring) : Int × Int × Int × Int :=
 if beginE x true ≠ 0 then (0, 0, 0, beginE x true) else match askR x with
 | none => (0, 0, 0, 11)
 | some t => (t.1, t.2.1, t.2.2, 0)
theorem zma (all : Nat) (s : Option (Nat × Nat × Nat)) (t : Nat × Nat × Nat) : bestStep all s t = if t.2.2 < bkM all s then some t else s := by
 cases s <;> rfl
theorem askB_00 (x : Ring) : askB x 0 0 = none := rfl
def addE (x : Ring) (t : Try) : Int := if openE x (addFl x t) ≠ 0 then openE x (addFl x t) else if truthsM x [] ≠ [] /\ truthsM (withT x t) [] = [] then 9 else 0
def addR (x : Ring) (t : Try) : Ring := if addE x t = 0 then withT x t else ⟨0, [], [], []⟩
theorem zl3 : Wk noRing (Ring.av ⟨0, [], [], []⟩) := zhX (.cons (Wk.refl _) (.cons (zaK _ _ _) (.cons (zaK _ _ _) (.cons (zaK _ _ _) .nil))))
theorem zmP {x : Ring} {t : Try} (hs : x.Small) : (addR x t).Small := by
 unfold addR;split
 ·rename_i h;have h0 : openE x (addFl x t) = 0 := by
   unfold addE at h;split at h
   ·rename_i h1; exact absurd h h1
   ·rename_i h1; simpa using h1
  exact (zl4 (zbp h0) (zaN.1 h0).2).small
 ·exact ⟨by simp, by simp, by simp, by simp, by simp⟩
section
variable {H : List AObj} {k kp : AV -> List AObj -> Prop}
theorem f55_d {x : Ring} (hmain : H[0]? = some .main) (hs : x.Small) (hk : k (.tup [iv (askA x).1, iv (askA x).2.1, iv (askA x).2.2.1, iv (askA x).2.2.2]) H) : FnC true Tryz.prog 55 H [x.av] k kp := by
 have e : openingE x none = beginE x true := zmc (by simp) (.inl rfl);unfold askA at hk;refine f55_c zaQ hmain hs (fun h => ?_) (fun h h2 => ?_) fun h a b c h2 => ?_
 ·rw [e] at h ⊢;rw [if_pos h] at hk; exact hk
 ·rw [e] at h;rw [if_neg (by simpa using h), h2] at hk; exact hk
 ·rw [e] at h;rw [if_neg (by simpa using h), h2] at hk; exact hk
theorem f73_d {x : Ring} {t : Try} (hmain : H[0]? = some .main) (hs : x.Small) (hk : k (.tup [(addR x t).av, iv (addE x t)]) H) : FnC true Tryz.prog 73 H [x.av, t.av] k kp := by
 unfold addR at hk;refine fnC_ret (f73_c zaQ hmain hs (fun h => ⟨_, zdC zl3 (Wk.refl _), ?_⟩) (fun h h1 h2 => ⟨_, zdC zl3 (Wk.refl _), ?_⟩) fun h h1 => ⟨_, Wk.refl _, ?_⟩)
 ·have e : addE x t = openE x (addFl x t) := by unfold addE; rw [if_pos h]
  rw [e, if_neg h] at hk; exact hk
 ·have e : addE x t = 9 := by unfold addE; rw [if_neg (by simpa using h), if_pos ⟨h1, h2⟩]
  rw [e, if_neg (by decide)] at hk; exact hk
 ·have e : addE x t = 0 := by
   unfold addE;rw [if_neg (by simpa using h), if_neg]
   rintro ⟨h2, h3⟩
   rcases h1 with h1 | h1
   ·exact h2 h1
   ·exact h1 h3
  rw [e, if_pos rfl] at hk; exact hk
end
section
variable {lv : Bool} {H : List AObj} {k kp : AV -> List AObj -> Prop}
theorem f72_c {x : Ring} (hs : x.Small) (hk : k (.tup [iv (askA x).1, iv (askA x).2.1, iv (askA x).2.2.1, iv (askA x).2.2.2]) H) : FnC lv Tryz.prog 72 H [x.av] k kp := by
 refine zlj (rs := [.tmp 2, .tmp 3, .tmp 4, .tmp 5]) (nt := 61) Tryz.f72 fun hH hA => ?_;simp only [argsT, Nat.reduceAdd, Ring.av, Ring.l];refine zl5 ?_;simp only [seval];refine zl5 ?_;simp only [seval];refine zl6 ((f103_c (x := x) (b := true) hs ?_));(try simp only [seval]);refine zl5 ?_;simp only [seval];refine zfK ?_;simp only [seval];refine ⟨fun h => ?_, fun h => ?_⟩
 ·
  have e : askA x = (0, 0, 0, beginE x true) := by unfold askA; rw [if_pos h]
  rw [e] at hk;refine zl5 ?_;simp only [seval];refine zkY ?_;simp only [seval];exact endA (b := .tup [iv 0, iv 0, iv 0, iv _]) hH (Wk.refl _) (by simp [zaD, zap, iv]) hk
 ·
  have h : beginE x true = 0 := by simpa using h
  obtain ⟨hx, _, hne⟩ := zm1 h;have eT : beginT x true = truthsL x := by unfold beginT; rw [if_pos h]
  have hx4 := hx.keys;have hx5 := hx.locks;have htl : (truthsL x).length <= 256 := zlJ hx;have hrow := zhQ hx;have hlen := zlQ hx;refine zhC ?_;simp only [seval];refine zl5 ?_;simp only [seval, eT, aRows];refine zl5 ?_;simp only [seval];refine zlu ?_;refine zaB x.keys.length (fun i : Nat => [(8, iv (bkK (askB x i 0))), (9, iv (bkL (askB x i 0))), (10, iv (bkM (truthsL x).length (askB x i 0) : Nat)), (11, iv i)]) (fun _ => _) (fun i => True) (fun _ _ => rfl) (by rw [askB_00]; simp only [seval]; simp [zaf, Wk.refl]; simp only [bkK, bkL, bkM]; exact ⟨Wk.refl _, Wk.refl _, Wk.refl _⟩) rfl (fun _ _ _ => rfl) trivial (fun hHs hLt i hin hi R hR => ?_);clear hHs hLt;refine zl5 ?_;simp only [seval, aKeys];refine zfK ?_;simp only [seval];refine ⟨fun h2 => ?_, fun h2 => ?_⟩
  ·
   have hil : i < x.keys.length := (by omega);have hw1 : IntKind.i64.wrap ((i : Int) + 1) = i + 1 := zau _ (by omega);refine zhC ?_;simp only [seval];refine zl5 ?_;simp only [seval];refine zlu ?_;refine zaB x.locks.length (fun j : Nat => [(8, iv (bkK (askB x i j))), (9, iv (bkL (askB x i j))), (10, iv (bkM (truthsL x).length (askB x i j) : Nat)), (12, iv j)]) (fun _ => _) (fun i => True) (fun _ _ => rfl) (by simp only [seval]; simp [zaf, Wk.refl]; try exact Wk.refl _) rfl (fun _ _ _ => rfl) trivial (fun hHs hLt j hjn hj R2 hR2 => ?_);clear hHs hLt;refine zl5 ?_;simp only [seval, aLocks];refine zfK ?_;simp only [seval];refine ⟨fun h3 => ?_, fun h3 => ?_⟩
   ·
    have hjl : j < x.locks.length := (by omega);have hw2 : IntKind.i64.wrap ((j : Int) + 1) = j + 1 := zau _ (by omega);have hst := zm3 x i j;have hsl := zmG x (truthsL x) i j;have hsw := some_law hx hil hjl;have hw3 : IntKind.i64.wrap (((truthsL x).length : Int) - (someW x (truthsL x) i j : Nat)) = ((truthsL x).length : Int) - (someW x (truthsL x) i j : Nat) := zau _ (by omega);have hmx : (if ((someW x (truthsL x) i j : Nat) : Int) < ((truthsL x).length : Int) - (someW x (truthsL x) i j : Nat) then ((truthsL x).length : Int) - (someW x (truthsL x) i j : Nat) else (someW x (truthsL x) i j : Nat)) = ((testM x i j).2.2 : Nat) := by
     have : (testM x i j).2.2 = max (someW x (truthsL x) i j) ((truthsL x).length - someW x (truthsL x) i j) := (by rw [<- hsw, <- hlen]; rfl);rw [this];split <;> omega
    refine zhC ?_;simp only [seval];refine zl5 ?_;simp only [seval];refine zl6 ((f106_c (x := x) hx hil hjl ?_));(try simp only [seval]);refine zl5 ?_;simp only [seval, hw3, hmx];refine zl5 ?_;simp only [seval];refine zfK ?_;simp only [seval];refine ⟨fun h4 => ?_, fun h4 => ?_⟩
    ·
     have h4 : (testM x i j).2.2 < bkM (truthsL x).length (askB x i j) := (by simpa using h4);rw [zma, hlen, if_pos h4] at hst;refine zl5 ?_;simp only [seval];refine zl5 ?_;simp only [seval, hw2];refine hR2 _ ⟨hjl, trivial, ?_⟩;rw [hst];exact (zax (zam rfl rfl) (by simp only [seval]; simp [zaf, Wk.refl]; exact ⟨Wk.refl _, Wk.refl _, Wk.refl _⟩))
    ·
     have h4 : ¬ (testM x i j).2.2 < bkM (truthsL x).length (askB x i j) := (by simpa using h4);rw [zma, hlen, if_neg h4] at hst;refine zhC ?_;simp only [seval];refine zl5 ?_;simp only [seval, hw2];refine hR2 _ ⟨hjl, trivial, ?_⟩;rw [hst];exact zlz
   ·
    have hjx : j = x.locks.length := (by omega);subst hjx;clear hR2;refine zly ?_;simp only [seval];refine zl5 ?_;simp only [seval, hw1];refine hR _ ⟨hil, trivial, ?_⟩;rw [zm4];exact zlz
  ·
   have hix : i = x.keys.length := (by omega);subst hix;clear hR;rw [askB_all];refine zly ?_;simp only [seval];refine zl5 ?_;simp only [seval];have e : askA x = match askR x with
    | none => (0, 0, 0, 11)
    | some t => (t.1, t.2.1, t.2.2, 0) := by unfold askA; rw [if_neg (by simpa using h)]
   cases ha : askR x with
   | none =>
    rw [ha] at e;rw [e] at hk;refine zfK ?_;simp only [seval];(try simp only [seval, bkK]);refine zl5 ?_;simp only [seval];refine zkY ?_;simp only [seval];exact endA (b := .tup [iv 0, iv 0, iv 0, iv 11]) hH (Wk.refl _) (by simp [zaD, zap, iv]) hk
   | some t =>
    rw [ha] at e;rw [e] at hk;refine zfK ?_;simp only [seval];refine ⟨fun h6 => ?_, fun _ => ?_⟩
    ·exact absurd h6 (by show ¬ ((t.1 : Int) < 0); omega)
    refine zhC ?_;simp only [seval];refine zl5 ?_;simp only [seval];refine zkY ?_;simp only [seval];exact endA (b := .tup [iv t.1, iv t.2.1, iv t.2.2, iv 0]) hH (Wk.refl _) (by simp [zaD, zap, iv]) hk
theorem f74_c {x : Ring} {t : Try} (hs : x.Small) (hk : k (.tup [(addR x t).av, iv (addE x t)]) H) : FnC lv Tryz.prog 74 H [x.av, t.av] k kp := by
 refine zlj (rs := [.cell 4 26, .tmp 5]) (nt := 47) Tryz.f74 fun hH hA => ?_;simp only [argsT, Nat.reduceAdd, Ring.av, Ring.l, Try.av, Try.l];unfold addR at hk;have hno : ∀ {L : List AObj} {e : Int}, addE x t = e -> e ≠ 0 -> EndOf H.length (H ++ L) (.tup [.agg [iv 0, .sl 0 [] .exact, .sl 0 [] .exact, .sl 0 [] .exact], iv e]) k := fun {L e} h h0 => by
  rw [h, if_neg h0] at hk;exact endA (b := .tup [_, iv _]) hH (zdC zl3 (Wk.refl _)) (by simp [zaD, zap, iv, zfC]) hk
 refine zl5 ?_;simp only [seval];refine zl5 ?_;simp only [seval];refine zl6 ((f36_c (x := x) hs ?_));(try simp only [seval]);refine zl5 ?_;simp only [seval];refine zfK ?_;simp only [seval];refine ⟨fun h => ?_, fun h => ?_⟩
 ·
  have e : addE x t = checkM x := by unfold addE openE; rw [if_pos h, if_pos h]
  refine zl5 ?_;simp only [seval];refine zkY ?_;simp only [seval];exact hno e h
 ·
  have h : checkM x = 0 := by simpa using h
  have hx := zbH.1 h;have e0 : openE x (addFl x t) = flE (addFl x t) := by unfold openE; rw [if_neg (by simpa using h)]
  have hxt := hx.tries;refine zhC ?_;simp only [seval];refine zl5 ?_;simp only [seval, aTries];refine zfK ?_;simp only [seval];refine ⟨fun h1 => ?_, fun h1 => ?_⟩
  ·
   have h1 : x.tries.length = 6 := by
    have : (x.tries.length : Int) = 6 := (by simpa using h1);omega
   have e1 : addFl x t = some 3 := (by unfold addFl; rw [if_neg (by omega)]);have e : addE x t = 6 := (by unfold addE; rw [e0, e1]; rfl);refine zl5 ?_;simp only [seval];refine zkY ?_;simp only [seval];exact hno e (by decide)
  ·
   have h1 : x.tries.length < 6 := by
    have : (x.tries.length : Int) ≠ 6 := (by simpa using h1);omega
   have e1 : addFl x t = if inM t.key 0 (x.keys.length - 1) then (if inM t.lock 0 (x.locks.length - 1) then none else some 1) else some 0 := (by unfold addFl; rw [if_pos h1]);have hno3 : ∀ {L : List AObj}, (inM t.key 0 (x.keys.length - 1) = false \/ inM t.lock 0 (x.locks.length - 1) = false) -> EndOf H.length (H ++ L) (.tup [.agg [iv 0, .sl 0 [] .exact, .sl 0 [] .exact, .sl 0 [] .exact], iv 3]) k := fun {L} h2 => by
    refine hno ?_ (by decide);have : flE (addFl x t) = 3 := by
     rw [e1];cases hb1 : inM t.key 0 (x.keys.length - 1) with
     | false => rfl
     | true =>
      rcases h2 with h2 | h2
      ·rw [hb1] at h2; cases h2
      ·rw [h2]; rfl
    unfold addE; rw [e0, this]; rfl
   refine zhC ?_;simp only [seval];cases hb1 : inM t.key 0 (x.keys.length - 1) with
   | false =>
    refine zl5 ?_;simp only [seval];refine zl6 ((f96_c (x := x) (by have := hx.keys; omega) ?_));(try simp only [seval, hb1]);refine zfK ?_;simp only [seval];refine zl5 ?_;simp only [seval];refine zkY ?_;simp only [seval];exact hno3 (.inl hb1)
   | true =>
    refine zl5 ?_;simp only [seval];refine zl6 ((f96_c (x := x) (by have := hx.keys; omega) ?_));(try simp only [seval, hb1]);refine zl6 ((f104_c (x := x) (by have := hx.locks; omega) ?_));cases hb2 : inM t.lock 0 (x.locks.length - 1) with
    | false =>
     (try simp only [seval, hb2]);refine zfK ?_;simp only [seval];refine zl5 ?_;simp only [seval];refine zkY ?_;simp only [seval];exact hno3 (.inr hb2)
    | true =>
     have hn : addFl x t = none := (by rw [e1, hb1, hb2]; rfl);rw [hn] at e0;have hy := zl4 hx hn;(try simp only [seval, hb2]);refine zfK ?_;simp only [seval];refine zhC ?_;simp only [seval];refine zl5 ?_;simp only [seval];refine zl6 ((f56_c (x := x) (t := t) (by omega) ?_));(try simp only [seval, Ring.av, Ring.l]);refine zl5 ?_;simp only [seval];refine zl6 ((f140_c hx ?_));(try simp only [seval, aRows]);have ea : addE x t = if truthsL x ≠ [] /\ truthsL (withT x t) = [] then 9 else 0 := by
      unfold addE;rw [hn, e0, if_neg (by simp [flE])];by_cases h9 : truthsM x [] ≠ [] /\ truthsM (withT x t) [] = []
      ·rw [if_pos h9, if_pos ⟨fun e => h9.1 ((zlL hx).2 e), (zlL hy).1 h9.2⟩]
      ·rw [if_neg h9, if_neg fun h8 => h9 ⟨fun e => h8.1 ((zlL hx).1 e), (zlL hy).2 h8.2⟩]
     by_cases hz : truthsL x = []
     ·have hd : decide (((truthsL x).length : Int) > 0) = false := (by rw [hz]; rfl);have e : addE x t = 0 := (by rw [ea, if_neg fun h8 => h8.1 hz]);rw [e, if_pos rfl] at hk;(try simp only [seval, hd]);refine zfK ?_;simp only [seval];refine zhC ?_;simp only [seval];refine zl5 ?_;simp only [seval];refine zkY ?_;simp only [seval];exact endA (b := .tup [(withT x t).av, iv 0]) hH (Wk.refl _) (by simp [zaD, zap, iv, zfC]) hk
     ·have hd : decide (((truthsL x).length : Int) > 0) = true := decide_eq_true (by have := List.length_pos_iff.2 hz; omega);(try simp only [seval, hd]);refine zl6 ((f140_c hy ?_));(try simp only [seval, aRows]);refine zfK ?_;simp only [seval];refine ⟨fun h5 => ?_, fun h5 => ?_⟩
      ·have hz2 : truthsL (withT x t) = [] := by
        have : ((truthsL (withT x t)).length : Int) = 0 := (by simpa using h5);exact List.length_eq_zero_iff.1 (by omega)
       have e : addE x t = 9 := (by rw [ea, if_pos ⟨hz, hz2⟩]);refine zl5 ?_;simp only [seval];refine zkY ?_;simp only [seval];exact hno e (by decide)
      ·have e : addE x t = 0 := by
        rw [ea, if_neg]
        rintro ⟨_, h8⟩
        rw [h8] at h5; simp at h5
       rw [e, if_pos rfl] at hk;refine zhC ?_;simp only [seval];refine zl5 ?_;simp only [seval];refine zkY ?_;simp only [seval];exact endA (b := .tup [(withT x t).av, iv 0]) hH (Wk.refl _) (by simp [zaD, zap, iv, zfC]) hk
end
theorem zt6 : zeroRow (.agg #[.int .i64 0, .int .i64 0, .bool false]) 6 = [iv 0, iv 0, bv false, iv 0, iv 0, bv false] := rfl
theorem p24_6 : (6 <= 2 ^ 24) = True := by simp
section
variable {H : List AObj} {k kp : AV -> List AObj -> Prop}
set_option maxRecDepth 4000 in
set_option maxHeartbeats 1000000 in
theorem f18_c {x0 : Ring} {t0 : Try} {l0 : List Band} {nums : List Int} (hmain : H[0]? = some .main) (hn : nums.length <= 2 ^ 50) (hk : k (bv true) H) : FnC true Tryz.prog 18 H [x0.av, t0.av, aBands l0, aInts nums] k kp := by
 have hmn : ∀ L : List AObj, (H ++ L)[0]? = some .main := fun L => zay hmain;refine zlj (rs := [.tmp 8]) (nt := 141) Tryz.f18 fun hH hA => ?_;simp only [argsT, Nat.reduceAdd, Ring.av, Ring.l, Try.av, Try.l];have d1 : decide ((l0.length : Int) > 20) = decide (20 < l0.length) := by rw [decide_eq_decide]; omega
 refine zl5 ?_;simp only [seval, Ring.l, Try.l];cases hb1 : longM x0 with
 | true =>
  refine zl5 ?_;simp only [seval];refine zl6 ((f24_c (x := x0) ?_));(try simp only [seval, hb1]);refine zfK ?_;simp only [seval];refine zl5 ?_;simp only [seval];refine zl6 ((f25_c (hmn _) ?_));(try simp only [seval]);refine zkY ?_;simp only [seval];exact endV hH hk
 | false =>
  cases hb2 : decide (20 < l0.length) with
  | true =>
   refine zl5 ?_;simp only [seval];refine zl6 ((f24_c (x := x0) ?_));(try simp only [seval, hb1, aBands, d1, hb2]);refine zfK ?_;simp only [seval];refine zl5 ?_;simp only [seval];refine zl6 ((f25_c (hmn _) ?_));(try simp only [seval]);refine zkY ?_;simp only [seval];exact endV hH hk
  | false =>
   obtain ⟨hs0, _⟩ := zmA hb1;have hl0 : ¬ 20 < l0.length := (by simpa using hb2);refine zl5 ?_;simp only [seval];refine zl6 ((f24_c (x := x0) ?_));(try simp only [seval, hb1, aBands, d1, hb2]);refine zfK ?_;simp only [seval];refine zhC ?_;simp only [seval];refine zl5 ?_;simp only [seval];refine zl6 ((f26_c ?_));(try simp only [seval]);refine zl5 ?_;simp only [seval];generalize hc1 : AObj.cells [AV.val (Value.int IntKind.i64 x0.cuts), aKeys x0.keys, aLocks x0.locks, aTries x0.tries] 26 = c1;generalize hc2 : AObj.cells [AV.val (Value.int IntKind.i64 t0.key), AV.val (Value.int IntKind.i64 t0.lock), AV.val (Value.bool t0.opens)] 28 = c2;have hT : TinAt (fun τ => H ++ [c1, c2, tinO τ]) (H.length + 2) (H.length + 3) := by
    have := zjT (H ++ [c1, c2]);simpa using this
   have hT4 : ∀ o : AObj, TinAt (fun τ => H ++ [c1, c2, tinO τ, o]) (H.length + 2) (H.length + 4) := fun o => by
    have := hT.more [o];simpa using this
   refine zl6 ((f27_c (x := x0) (r := t0) (l := l0) hT (tinOk0 hn _) (by decide) hs0 (by omega) fun y z ws τ hP hz hto => ?_));have hy := hP.ok (by decide) (by decide) (by decide);have hRS : x0.l ++ y.l ++ z.l = ([x0, y, z] : List Ring).flatMap Ring.l := (by simp);have hRn : ([x0, y, z] : List Ring).length = 3 := rfl;have hRs : ∀ r ∈ ([x0, y, z] : List Ring), r.Small := fun r hr => by
    simp only [List.mem_cons, List.not_mem_nil, or_false] at hr;rcases hr with rfl | rfl | rfl
    ·exact hs0
    ·exact hy.small
    ·exact hz
   rw [hRS];generalize ([x0, y, z] : List Ring) = RS at hRn hRs ⊢;clear hRS hP hz hy;have hto := hto.mono (b' := 2000) (by decide);(try simp only [seval, Ring.av, Ring.l, Try.av, Try.l]);have w1 : ∀ i : Nat, i <= 1000 -> IntKind.i64.wrap ((i : Int) + 1) = i + 1 := fun i _ => zau _ (by omega);subst hc2;refine zlE [2, 4, 6] [0, 1, 2, 3, 4, 5, 6, 7, 8, 9] [⟨0, false, [], [([2], [2]), ([2, 4], [2, 4]), ([2, 4, 6], [2, 4, 6])]⟩, ⟨1, false, [], []⟩, ⟨2, true, [2], []⟩, ⟨3, false, [2], [([], [])]⟩, ⟨4, true, [2, 4], []⟩, ⟨5, false, [2, 4], [([], []), ([2], [2])]⟩, ⟨6, true, [2, 4, 6], []⟩, ⟨7, false, [2, 4, 6], []⟩, ⟨8, false, [2, 4, 6], []⟩, ⟨9, false, [2, 4, 6], []⟩] (fun D => H ++ [c1, .cells [iv t0.key, iv t0.lock, bv t0.opens] 28, tinO (bif isDone 6 D then tick (tick (tick τ)) else bif isDone 4 D then tick (tick τ) else bif isDone 2 D then tick τ else τ)]) ?_;simp only [seval, zt6, p24_6];refine eCall _ _ (zlC (f29_c (n := 2) hT hto (by omega) (by decide) ⟨rfl, rfl⟩)) ?_;(try simp only [seval, zt6, p24_6]);refine eCall _ _ (zlC (f29_c (n := 2) hT hto.tick (by omega) (by decide) ⟨rfl, rfl⟩)) ?_;(try simp only [seval, zt6, p24_6]);refine eCall _ _ (zlC (f44_c (n := 2) hT hto.tick.tick (by omega) (by decide) ⟨rfl, rfl⟩)) ?_;(try simp only [seval, zt6, p24_6]);generalize uptoT τ 2 = u1;generalize uptoT (tick τ) 2 = u2;generalize rarelyT (tick (tick τ)) 2 = u3;generalize tick (tick (tick τ)) = τ2;have hmn3 : ∀ L : List AObj, (H ++ L)[0]? = some .main := hmn;generalize hc2 : AObj.cells [iv t0.key, iv t0.lock, bv t0.opens] 28 = c2;generalize hc3 : tinO τ2 = c3;rw [show ([AV.val (Value.int IntKind.i64 t0.key), AV.val (Value.int IntKind.i64 t0.lock), AV.val (Value.bool t0.opens), AV.val (Value.int IntKind.i64 u1), AV.val (Value.int IntKind.i64 u2), AV.val (Value.bool u3)] : List AV) = ([t0, ⟨u1, u2, u3⟩] : List Try).flatMap Try.l by simp [Try.l, iv, bv]];have hTn : ([t0, ⟨u1, u2, u3⟩] : List Try).length = 2 := rfl;generalize ([t0, ⟨u1, u2, u3⟩] : List Try) = TS at hTn ⊢;refine zl5 ?_;simp only [seval];refine zlu ?_;refine zlD 3 (fun i : Nat => [(12, iv i)]) (fun _ => _) (fun _ => True) trivial (fun hHs hLt i hin hi R hR => ?_);clear hLt;refine zl5 ?_;simp only [seval];refine zfK ?_;simp only [seval];refine ⟨fun h => ?_, fun h => ?_⟩
   ·have hil : i < RS.length := (by omega);obtain ⟨x, hx⟩ := zaE hil;have hxs := hRs x (zas hx);have hb3 : (0 <= (i : Int) /\ (i : Int) < 3) = True := (by simp; omega);refine zhC ?_;simp only [seval];refine zl5 ?_;simp only [seval, zl2 hx, hb3];refine zl6 ((f28_c (x := x) hxs ?_));(try simp only [seval, Ring.av, Ring.l]);refine zl5 ?_;simp only [seval];refine zl6 ((f55_d (x := x) (hmn _) hxs ?_));(try simp only [seval]);refine zl5 ?_;simp only [seval, zl2 hx, hb3];refine zl6 ((f72_c (x := x) hxs ?_));(try simp only [seval]);refine zl5 ?_;simp only [seval, bne_self_eq_false];refine zfK ?_;simp only [seval];refine zhC ?_;simp only [seval];refine zl5 ?_;simp only [seval];refine zlu ?_;refine zlD 2 (fun j : Nat => [(22, iv j)]) (fun _ => _) (fun _ => True) trivial (fun hHs2 hLt j hjn hj R2 hR2 => ?_);clear hLt;refine zl5 ?_;simp only [seval];refine zfK ?_;simp only [seval];refine ⟨fun h2 => ?_, fun h2 => ?_⟩
    ·have hjl : j < TS.length := (by omega);obtain ⟨y, hy⟩ := zaE hjl;have hbj : (0 <= (j : Int) /\ (j : Int) < 2) = True := (by simp; omega);have hzs := zmP (t := y) hxs;refine zhC ?_;simp only [seval];refine zlu ?_;refine zlE [9, 10] [0, 1, 2, 3, 4, 5, 6, 7, 8, 9, 10, 11] [⟨0, false, [], [([9], [9])]⟩, ⟨1, false, [], [([9], [9])]⟩, ⟨2, false, [], [([9], [9])]⟩, ⟨3, false, [], [([9], [9])]⟩, ⟨4, false, [], [([9], [9])]⟩, ⟨5, false, [], [([9], [9])]⟩, ⟨6, false, [], [([9], [9])]⟩, ⟨7, false, [], [([9], [9])]⟩, ⟨8, false, [], [([9], [9]), ([9, 10], [9, 10])]⟩, ⟨9, true, [9], []⟩, ⟨10, true, [9, 10], []⟩, ⟨11, false, [9, 10], []⟩] (fun D => H ++ (c1 :: c2 :: c3 :: .cells [iv x.cuts, aKeys x.keys, aLocks x.locks, aTries x.tries] 26 :: (bif isDone 10 D then [.cells [iv (addR x y).cuts, aKeys (addR x y).keys, aLocks (addR x y).locks, aTries (addR x y).tries] 26] else bif isDone 9 D then [.cells [iv 0, .sl 0 [] .exact, .sl 0 [] .exact, .sl 0 [] .exact] 26] else []))) ?_;simp only [seval, zh6 hy, hbj];refine qCall _ (zlC (f73_d (x := x) (t := y) (hmn _) hxs ⟨rfl, rfl⟩)) ⟨qCall _ (zlC (f73_d (x := x) (t := y) (hmn _) hxs ⟨rfl, rfl⟩)) rfl, ?_⟩;(try simp only [seval, Ring.av, Ring.l]);refine zlE [12, 13] [0, 1, 2, 3, 4, 5, 6, 7, 8, 9, 10, 11, 12, 13, 14] [⟨0, false, [], [([12], [12])]⟩, ⟨1, false, [], [([12], [12])]⟩, ⟨2, false, [], [([12], [12])]⟩, ⟨3, false, [], [([12], [12])]⟩, ⟨4, false, [], [([12], [12])]⟩, ⟨5, false, [], [([12], [12])]⟩, ⟨6, false, [], [([12], [12])]⟩, ⟨7, false, [], [([12], [12])]⟩, ⟨8, false, [], [([12], [12])]⟩, ⟨9, false, [], [([12], [12])]⟩, ⟨10, false, [], [([12], [12])]⟩, ⟨11, false, [], [([12], [12]), ([12, 13], [12, 13])]⟩, ⟨12, true, [12], []⟩, ⟨13, true, [12, 13], []⟩, ⟨14, false, [12, 13], []⟩] (fun D => H ++ (c1 :: c2 :: c3 :: .cells [iv x.cuts, aKeys x.keys, aLocks x.locks, aTries x.tries] 26 :: .cells [iv (addR x y).cuts, aKeys (addR x y).keys, aLocks (addR x y).locks, aTries (addR x y).tries] 26 :: (bif isDone 13 D then [.cells [iv (addR x y).cuts, aKeys (addR x y).keys, aLocks (addR x y).locks, aTries (addR x y).tries] 26] else bif isDone 12 D then [.cells [iv 0, .sl 0 [] .exact, .sl 0 [] .exact, .sl 0 [] .exact] 26] else []))) ?_;simp only [seval, zh6 hy, hbj, zl2 hx, hb3];refine qCall _ (zlC (f74_c (x := x) (t := y) hxs ⟨rfl, rfl⟩)) ⟨qCall _ (zlC (f74_c (x := x) (t := y) hxs ⟨rfl, rfl⟩)) rfl, ?_⟩;(try simp only [seval, Ring.av, Ring.l]);refine zl5 ?_;simp only [seval, bne_self_eq_false];refine zl6 ((f37_same (x := addR x y) hzs ?_));(try simp only [seval]);refine zfK ?_;simp only [seval];refine zhC ?_;simp only [seval];refine zl5 ?_;simp only [seval, w1 j (by omega)];refine hR2 _ ⟨by omega, trivial, ?_⟩;exact zat (L := [c1, c2, c3, .cells [iv x.cuts, aKeys x.keys, aLocks x.locks, aTries x.tries] 26]) (zam rfl rfl) (by simp only [seval]; simp [zaf, Wk.refl]) hHs2 (by simp [zap])
    ·have hjx : j = 2 := (by omega);clear hR2;refine zly ?_;simp only [seval];refine zlA 5 ?_;simp only [seval, zl2 hx, hb3];refine zl6 ((f37_same (x := x) hxs ?_));(try simp only [seval]);refine zfK ?_;simp only [seval];refine zhC ?_;simp only [seval];refine zl5 ?_;simp only [seval, w1 i (by omega)];refine hR _ ⟨by omega, trivial, ?_⟩;exact zat (L := [c1, c2, c3]) (zam rfl rfl) (by simp only [seval]; simp [zaf, Wk.refl]) hHs (by simp [zap])
   ·clear hR;refine zly ?_;simp only [seval];refine zl5 ?_;simp only [seval];refine zl6 ((f25_c (hmn _) ?_));(try simp only [seval]);refine zkY ?_;simp only [seval];exact endV hH hk
end
open Go.ChangeShapes Go.WideShapes Go.ChangeAt Go.RowKit
def view0 (W : World) : View := ⟨fun b o => W.cell? ⟨b, o, none⟩, fun _ => none, 0, .plain⟩
def env0 (W : World) : Env := ⟨(view0 W).imm, 1, fun _ => 0, fun _ _ => (none, 0), fun _ => 0, fun _ => none, true⟩
theorem sat0 (W : World) : Sat (view0 W) W := ⟨fun _ _ _ h => h, fun _ _ h => by cases h⟩
theorem conc0 (W : World) : Conc (env0 W) (view0 W) [.main] where
 I := rfl
 n := rfl
 obj := fun k x h => by
  match k, h with
  | 0, h => cases h; exact rfl
  | k + 1, h => cases h
 inj := fun i j x y b hi hj h1 h2 => by
  match i, hi with
  | 0, hi => cases hi; cases h1
  | i + 1, hi => cases hi
 group := fun g h => by cases h
 chan := fun c h => by cases h
 top := fun _ => ⟨rfl, rfl⟩
 fr := fun b y h => by cases h
theorem zjf {f : FuncId} {W : World} {args : Array Value} {avs : List AV} {Q : Value -> Prop} (hi : Tryz.prog.inits.idxOf? f = none) (hd : Denl (env0 W) avs args) (h : FnC true Tryz.prog f [.main] avs (fun a _ => ∀ E v, Den E a v -> Q v) (fun _ _ => False)) :
  ∃ M last o w' t', runNT Tryz.prog (M + 1) (solo (G (Frame.enter Tryz.prog f args .normal) []) W) #[] = (.ended o w', t') /\ runN Tryz.prog M (solo (G (Frame.enter Tryz.prog f args .normal) []) W) = .next last /\ step Tryz.prog last = .ended o w' /\ Conc.Good Tryz.prog (fun v w => Q v /\ Left W.heap.size W w) last o w' t' :=
 zgE hi (V := view0 W) rfl rfl rfl (sat0 W) (h (env0 W) (view0 W) args (conc0 W) hd) fun o V' r => by
  cases o with
  | ret v =>
   obtain ⟨av, E', H', _, hro, _, hden, _, hk⟩ := r;exact ⟨hro, v, rfl, fun w _ hl => ⟨hk _ _ hden, hl⟩⟩
  | panic ch =>
   obtain ⟨pv, v, E', H', _, _, _, _, _, _, hf⟩ := r;exact hf.elim
theorem Left.below {W w : World} (h : Left W.heap.size W w) : Below W.heap.size W w := ⟨h.os, h.tape, h.out, h.size, h.old⟩
theorem Tz.own : ownKnob Tryz.prog.godebug = none := by kernel_rfl
theorem Tz.laidOut : laidOutB Tryz.prog = true := by kernel_rfl
theorem Tz.u30 : Tryz.prog.underlying 30 = some (.slice 3) := by kernel_rfl
theorem Tz.u3 : Tryz.prog.underlying 3 = some (.int .i64) := by kernel_rfl
theorem Tz.u4 : Tryz.prog.underlying 4 = some .bool := by kernel_rfl
theorem Tz.c3 : Tryz.prog.cellsOf 3 = 1 := by kernel_rfl
theorem Tz.b3 : Tryz.prog.bytesOf 3 = 8 := by kernel_rfl
structure Rd (W : World) (e : TypeId) {α : Type} (f : α -> List AV) (n : Nat) : Prop where
 cells : Tryz.prog.cellsOf e = n
 len : ∀ a, (f a).length = n
 rd : ∀ {H : Type} {enc : TypeId × Value -> H} {fuel : Nat} {cs : List Value} {x : DataW H × List MemPlace}, DataW.trod enc Tryz.prog W 0 (fun _ => true) true fuel e cs = some x -> ∃ a, Denl (env0 W) (f a) cs.toArray
section
variable {W : World}
theorem zlX {E : Env} {a : AV} {v : Value} (h : Den E a v) : Denl E [a] [v].toArray := ⟨rfl, fun i x e => by
 match i, e with
 | 0, e => cases e; exact h⟩
theorem zlM {E : Env} {l m : List AV} {xs ys : List Value} (h : Denl E l xs.toArray) (k : Denl E m ys.toArray) : Denl E (l ++ m) (xs ++ ys).toArray := by
 have := zcN h k;simpa using this
theorem rd_int {e : TypeId} {k : IntKind} (hu : Tryz.prog.underlying e = some (.int k)) (hc : Tryz.prog.cellsOf e = 1) : Rd W e (fun z : Int => [AV.val (.int k z)]) 1 where
 cells := hc
 len := fun _ => rfl
 rd := fun h => by
  obtain ⟨n, rfl, _, _⟩ := DataW.trod_int hu h;exact ⟨n, zlX (.val _)⟩
theorem rd_bool {e : TypeId} (hu : Tryz.prog.underlying e = some .bool) (hc : Tryz.prog.cellsOf e = 1) : Rd W e (fun z : Bool => [bv z]) 1 where
 cells := hc
 len := fun _ => rfl
 rd := fun h => by
  obtain ⟨n, rfl, _⟩ := DataW.trod_bool hu h;exact ⟨n, zlX (.val _)⟩
theorem zmW {α : Type} {Q : Nat -> α -> Prop} : ∀ n, (∀ i, i < n -> ∃ a, Q i a) -> ∃ l : List α, l.length = n /\ ∀ (i : Nat) a, l[i]? = some a -> Q i a
 | 0, _ => ⟨[], rfl, fun i a e => by simp at e⟩
 | n + 1, h => by
  obtain ⟨l, hl, hq⟩ := zmW n fun i hi => h i (by omega);obtain ⟨a, ha⟩ := h n (by omega);refine ⟨l ++ [a], by simp [hl], fun i b e => ?_⟩;by_cases hi : i < n
  ·rw [List.getElem?_append_left (by omega)] at e; exact hq i b e
  ·have hi2 : i = n := (by have := get_lt e; simp at this; omega);subst hi2;rw [List.getElem?_append_right (by omega), hl, Nat.sub_self] at e;cases e; exact ha
theorem zmK {α : Type} {f : α -> List AV} {n : Nat} (hf : ∀ a, (f a).length = n) : ∀ (l : List α) (q r : Nat), r < n -> (l.flatMap f)[q * n + r]? = (l[q]?).bind fun a => (f a)[r]?
 | [], q, r, _ => by simp
 | a :: l, 0, r, h => by
  rw [List.flatMap_cons, Nat.zero_mul, Nat.zero_add, List.getElem?_append_left (by rw [hf]; exact h)]; rfl
 | a :: l, q + 1, r, h => by
  rw [List.flatMap_cons, List.getElem?_append_right (by rw [hf, Nat.succ_mul]; omega), hf, List.getElem?_cons_succ, <- zmK hf l q r h];congr 1;rw [Nat.succ_mul]; omega
theorem zmJ {α : Type} {f : α -> List AV} {n : Nat} (hf : ∀ a, (f a).length = n) : ∀ l : List α, (l.flatMap f).length = l.length * n
 | [] => by simp
 | a :: l => by rw [List.flatMap_cons, List.length_append, hf, zmJ hf l, List.length_cons, Nat.succ_mul]; omega
theorem zm0 {a : Addr} {v : Value} (h : W.cell? a = some v) : a.spot = none := by
 unfold World.cell? at h;split at h
 ·split at h
  ·cases h
  ·rename_i hs; simpa using hs
 ·cases h
theorem add_zero (a : Addr) : a.add 0 = a := by unfold Addr.add; simp
theorem zlV {α : Type} {t e : TypeId} {f : α -> List AV} {n : Nat} (hu : Tryz.prog.underlying t = some (.slice e)) (hc : Tryz.prog.cellsOf t = 1) (hR : Rd W e f n) (hn : 0 < n) : Rd W t (fun l : List α => [AV.sl l.length (l.flatMap f) .shut]) 1 where
 cells := hc
 len := fun _ => rfl
 rd := fun {H enc fuel cs x} h => by
  rcases DataW.trod_slice hu h with ⟨rfl, _⟩ | ⟨a, len, cap, elems, rest, m, _, rfl, _, _, hl, _, hlen, hel, hsp, _⟩
  ·exact ⟨[], zlX (.nil trivial)⟩
  ·have hrest := (hsp rfl).2;have hrl := (hsp rfl).1;have each : ∀ i, i < len -> ∃ y cs', W.cells? 0 (a.add (i * n)) n = some cs' /\ Denl (env0 W) (f y) cs'.toArray := fun i hi => by
    have h1 := hel i hi;rw [hR.cells] at h1;obtain ⟨z, hz⟩ := zaE (xs := elems) (i := i) (by omega);rw [hz] at h1;obtain ⟨cs', hcs, hy⟩ := Option.bind_eq_some_iff.1 h1;obtain ⟨y, hd⟩ := hR.rd hy;exact ⟨y, cs', hcs, hd⟩
   by_cases hcap : cap = 0
   ·subst hcap;have : len = 0 := (by omega);subst this;exact ⟨[], zlX (.nil trivial)⟩
   ·have hspot : a.spot = none := by
     have one : ∀ cs', W.cells? 0 a n = some cs' -> a.spot = none := fun cs' hcs => by
      obtain ⟨_, hcl, hcell⟩ := World.cells?_some hcs;obtain ⟨v, hv⟩ := zaE (xs := cs') (i := 0) (by omega);have := hcell 0 hn;rw [hv, add_zero] at this;exact zm0 this
     by_cases hz : len = 0
     ·have h1 := hrest 0 (by omega);rw [hR.cells, hz, Nat.zero_add, Nat.zero_mul, add_zero] at h1;obtain ⟨z, hz⟩ := zaE (xs := rest) (i := 0) (by omega);rw [hz] at h1;obtain ⟨cs', hcs, _⟩ := Option.bind_eq_some_iff.1 h1;exact one cs' hcs
     ·obtain ⟨y, cs', hcs, _⟩ := each 0 (by omega);rw [Nat.zero_mul, add_zero] at hcs;exact one cs' hcs
    obtain ⟨b, o, sp⟩ := a;simp only at hspot;subst hspot;obtain ⟨l, hll, hq⟩ := zmW (Q := fun i y => ∃ cs', W.cells? 0 ((⟨b, o, none⟩ : Addr).add (i * n)) n = some cs' /\ Denl (env0 W) (f y) cs'.toArray) len each;have at2 : ∀ (q r : Nat), q < len -> r < n -> ∃ (y : α) (cs' : List Value), l[q]? = some y /\ cs'.length = n /\ Denl (env0 W) (f y) cs'.toArray /\ W.cell? ⟨b, o + (q * n + r), none⟩ = cs'[r]? := fun q r hq1 hr => by
     obtain ⟨y, hy⟩ := zaE (xs := l) (i := q) (by omega);obtain ⟨cs', hcs, hd⟩ := hq q y hy;obtain ⟨_, hcl, hcell⟩ := World.cells?_some hcs;refine ⟨y, cs', hy, hcl, hd, ?_⟩;have := hcell r hr;rw [zbr, zbr, Nat.add_assoc] at this;exact this
    refine ⟨l, zlX ?_⟩;have hfl := zmJ hR.len l;have hdiv : ∀ i, i < len * n -> i / n < len /\ i % n < n /\ i / n * n + i % n = i := fun i hi => ⟨by rw [Nat.div_lt_iff_lt_mul hn]; exact hi, Nat.mod_lt _ hn, by rw [Nat.mul_comm]; exact Nat.div_add_mod i n⟩;rw [hll] at hfl ⊢;refine .sl b o cap (fun i => (W.cell? ⟨b, o + i, none⟩).getD undef) hl trivial (fun i hi => ?_) fun i x hx => ?_
    ·rw [hfl] at hi;obtain ⟨h1, h2, h3⟩ := hdiv i hi;obtain ⟨y, cs', _, hcl, _, hcell⟩ := at2 _ _ h1 h2;rw [h3] at hcell;obtain ⟨v, hv⟩ := zaE (xs := cs') (i := i % n) (by omega);rw [hv] at hcell;show W.cell? ⟨b, o + i, none⟩ = _;rw [hcell]; rfl
    ·have hi := get_lt hx;rw [hfl] at hi;obtain ⟨h1, h2, h3⟩ := hdiv i hi;obtain ⟨y, cs', hy, hcl, hd, hcell⟩ := at2 _ _ h1 h2;rw [<- h3, zmK hR.len l _ _ h2, hy] at hx;have hx : (f y)[i % n]? = some x := hx;rw [h3] at hcell;obtain ⟨v, hv⟩ := zaE (xs := cs') (i := i % n) (by omega);rw [hv] at hcell;rw [hcell];have := hd.2 _ x hx;rw [Array.getD_eq_getD_getElem?] at this;simpa [hv] using this
def fieldAt (P : Program) (t i : Nat) : Option (TypeId × Nat) := match P.underlying t with
 | some (.struct fs) => (fs[i]?).map fun f => (f.type, f.offset)
 | _ => none
theorem zlH {H : Type} {enc : TypeId × Value -> H} {t i ft off fuel : Nat} {cs : List Value} {x : DataW H × List MemPlace} (hf : fieldAt Tryz.prog t i = some (ft, off)) (h : DataW.trod enc Tryz.prog W 0 (fun _ => true) true fuel t cs = some x) : cs.length = Tryz.prog.cellsOf t /\ ∃ m y, DataW.trod enc Tryz.prog W 0 (fun _ => true) true m ft ((cs.drop off).take (Tryz.prog.cellsOf ft)) = some y := by
 unfold fieldAt at hf;split at hf
 ·rename_i fs hu;obtain ⟨xs, n, _, _, hl, hxl, hfs⟩ := DataW.trod_struct hu h;obtain ⟨fd, hfd, e⟩ := Option.map_eq_some_iff.1 hf;cases e;refine ⟨hl, n, ?_⟩;have := hfs i fd hfd;obtain ⟨y, hy⟩ := zaE (xs := xs) (i := i) (by rw [hxl]; exact (Array.getElem?_eq_some_iff.1 hfd).1);exact ⟨y, by rw [this, hy]⟩
 ·cases hf
theorem rd_two {α β γ : Type} {t ta tb na nb : Nat} {f : α -> List AV} {g : β -> List AV} {h : γ -> List AV} (fa : fieldAt Tryz.prog t 0 = some (ta, 0)) (fb : fieldAt Tryz.prog t 1 = some (tb, na)) (hc : Tryz.prog.cellsOf t = na + nb) (ha : Rd W ta f na) (hb : Rd W tb g nb) (mk : α -> β -> γ) (hmk : ∀ a b, h (mk a b) = f a ++ g b) (hl : ∀ c, (h c).length = na + nb) : Rd W t h (na + nb) where
 cells := hc
 len := hl
 rd := fun {H enc fuel cs x} hd => by
  obtain ⟨hcl, m, y, hy⟩ := zlH fa hd;obtain ⟨_, m2, y2, hy2⟩ := zlH fb hd;rw [ha.cells, List.drop_zero] at hy;rw [hb.cells] at hy2;obtain ⟨a, hda⟩ := ha.rd hy;obtain ⟨b, hdb⟩ := hb.rd hy2;refine ⟨mk a b, ?_⟩;rw [hmk];have e : cs = cs.take na ++ (cs.drop na).take nb := by
   rw [List.take_of_length_le (l := cs.drop na) (by rw [List.length_drop, hcl, hc]; omega), List.take_append_drop]
  rw [e];exact zlM hda hdb
theorem rd_three {α β γ δ : Type} {t ta tb tc na nb nc : Nat} {f : α -> List AV} {g : β -> List AV} {g3 : γ -> List AV} {h : δ -> List AV} (fa : fieldAt Tryz.prog t 0 = some (ta, 0)) (fb : fieldAt Tryz.prog t 1 = some (tb, na)) (fc : fieldAt Tryz.prog t 2 = some (tc, na + nb)) (hc : Tryz.prog.cellsOf t = na + nb + nc) (ha : Rd W ta f na) (hb : Rd W tb g nb) (hc3 : Rd W tc g3 nc) (mk : α -> β -> γ -> δ) (hmk : ∀ a b c, h (mk a b c) = f a ++ g b ++ g3 c) (hl : ∀ c, (h c).length = na + nb + nc) : Rd W t h (na + nb + nc) where
 cells := hc
 len := hl
 rd := fun {H enc fuel cs x} hd => by
  obtain ⟨hcl, m, y, hy⟩ := zlH fa hd;obtain ⟨_, m2, y2, hy2⟩ := zlH fb hd;obtain ⟨_, m3, y3, hy3⟩ := zlH fc hd;rw [ha.cells, List.drop_zero] at hy;rw [hb.cells] at hy2;rw [hc3.cells] at hy3;obtain ⟨a, hda⟩ := ha.rd hy;obtain ⟨b, hdb⟩ := hb.rd hy2;obtain ⟨c, hdc⟩ := hc3.rd hy3;refine ⟨mk a b c, ?_⟩;rw [hmk];have e : cs = cs.take na ++ (cs.drop na).take nb ++ (cs.drop (na + nb)).take nc := by
   rw [List.take_of_length_le (l := cs.drop (na + nb)) (by rw [List.length_drop, hcl, hc]; omega), List.append_assoc, <- List.drop_drop, List.take_append_drop, List.take_append_drop]
  rw [e];exact zlM (zlM hda hdb) hdc
theorem rd_four {α β γ γ' δ : Type} {t ta tb tc td na nb nc nd : Nat} {f : α -> List AV} {g : β -> List AV} {g3 : γ -> List AV} {g4 : γ' -> List AV} {h : δ -> List AV} (fa : fieldAt Tryz.prog t 0 = some (ta, 0)) (fb : fieldAt Tryz.prog t 1 = some (tb, na)) (fc : fieldAt Tryz.prog t 2 = some (tc, na + nb)) (fd : fieldAt Tryz.prog t 3 = some (td, na + nb + nc)) (hc : Tryz.prog.cellsOf t = na + nb + nc + nd) (ha : Rd W ta f na) (hb : Rd W tb g nb) (hc3 : Rd W tc g3 nc) (hd4 : Rd W td g4 nd) (mk : α -> β -> γ -> γ' -> δ) (hmk : ∀ a b c d, h (mk a b c d) = f a ++ g b ++ g3 c ++ g4 d) (hl : ∀ c, (h c).length = na + nb + nc + nd) : Rd W t h (na + nb + nc + nd) where
 cells := hc
 len := hl
 rd := fun {H enc fuel cs x} hd => by
  obtain ⟨hcl, m, y, hy⟩ := zlH fa hd;obtain ⟨_, m2, y2, hy2⟩ := zlH fb hd;obtain ⟨_, m3, y3, hy3⟩ := zlH fc hd;obtain ⟨_, m4, y4, hy4⟩ := zlH fd hd;rw [ha.cells, List.drop_zero] at hy;rw [hb.cells] at hy2;rw [hc3.cells] at hy3;rw [hd4.cells] at hy4;obtain ⟨a, hda⟩ := ha.rd hy;obtain ⟨b, hdb⟩ := hb.rd hy2;obtain ⟨c, hdc⟩ := hc3.rd hy3;obtain ⟨d, hdd⟩ := hd4.rd hy4;refine ⟨mk a b c d, ?_⟩;rw [hmk];have e : cs = cs.take na ++ (cs.drop na).take nb ++ (cs.drop (na + nb)).take nc ++ (cs.drop (na + nb + nc)).take nd := by
   rw [List.take_of_length_le (l := cs.drop (na + nb + nc)) (by rw [List.length_drop, hcl, hc]; omega), List.append_assoc, List.append_assoc, <- List.drop_drop (i := nc), List.take_append_drop, <- List.drop_drop, List.take_append_drop, List.take_append_drop]
  rw [e];exact zlM (zlM (zlM hda hdb) hdc) hdd
end
theorem zmu {H : Type} {enc : TypeId × Value -> H} {W W' : World} (hb : Below W.heap.size W W') : ∀ (ts : List TypeId) (vs : List Value) (ds : List (DataW H)) (ps : List MemPlace), (∀ t ∈ ts, Tryz.prog.readableRec t = true /\ t < Tryz.prog.types.size) -> DataW.TrodAll enc Tryz.prog W 0 (fun _ => true) true ts vs ds ps -> (∀ x ∈ ps, x.block < W.heap.size) ->
  DataW.TrodAll enc Tryz.prog W' 0 (fun b => decide (b < W.heap.size)) true ts vs ds ps
 | [], vs, ds, ps, _, h, _ => by
  obtain ⟨rfl, rfl, rfl⟩ := trodAll_nil h;exact trodAll_mk0
 | t :: ts, vs, ds, ps, ht, h, hlt => by
  obtain ⟨v, vs', d, ds', p, q, rfl, rfl, rfl, h1, h2⟩ := trodAll_cons h;have h0 := ht t List.mem_cons_self;exact ⟨p, q, Below.trod Tz.laidOut h0.1 h0.2 h1 hb fun x hx => hlt x (List.mem_append_left _ hx), zmu hb ts vs' ds' q (fun t h => ht t (List.mem_cons_of_mem _ h)) h2 fun x hx => hlt x (List.mem_append_right _ hx), rfl⟩
theorem zmg {H : Type} {enc : TypeId × Value -> H} {W : World} : ∀ (ts : List TypeId) (vs : List Value) (ds : List (DataW H)) (ps : List MemPlace), DataW.TrodAll enc Tryz.prog W 0 (fun _ => true) true ts vs ds ps -> ds.length = ts.length
 | [], vs, ds, ps, h => by obtain ⟨rfl, rfl, rfl⟩ := trodAll_nil h; rfl
 | t :: ts, vs, ds, ps, h => by
  obtain ⟨v, vs', d, ds', p, q, rfl, rfl, rfl, h1, h2⟩ := trodAll_cons h;rw [List.length_cons, List.length_cons, zmg ts vs' ds' q h2]
def LawArgs (f : FuncId) (ts : List TypeId) : Prop := ∀ (W : World) {H : Type} (enc : TypeId × Value -> H) (args : Array Value) (ds : List (DataW H)) (ps : List MemPlace) (base : Nat) (ws : List TypeId), (∀ (j : Nat) t v, ts[j]? = some t -> args[j]? = some v -> Value.okWide Tryz.prog W .any base t v) ->
 DataW.TrodAll enc Tryz.prog W 0 (fun _ => true) true ts args.toList ds ps -> (DataW.weightsEach Tryz.prog (ts ++ ws) ds).all (· <= reachBytes) = true -> ∃ avs, Denl (env0 W) avs args /\ FnC true Tryz.prog f [.main] avs (fun a _ => a = bv true) (fun _ _ => False)
set_option maxRecDepth 100000 in
theorem zmE {f : FuncId} {fn : Func} {s : ChangeSpec} {ts : List TypeId} (hf : Tryz.prog.funcs[f]? = some fn) (hp : fn.params = ts.toArray) (hr : fn.resultTypes = #[4]) (hv : s.vars = []) (hs : ∀ (H : Type) (ds : List (DataW H)), ds.length = ts.length -> s.fn H ds = { results := [.lit (.bool true)], args := ds }) (hi : Tryz.prog.inits.idxOf? f = none)
  (hread : ∀ t ∈ ts, Tryz.prog.readableRec t = true /\ t < Tryz.prog.types.size) (hlaw : LawArgs f ts)
  (os : Os) (started : os.Started) (H : Type) (enc : TypeId × Value -> H)
  (hwit : ∃ (w : World) (tape : Tape) (i : Input), w.os = os /\ (w.forCall tape i).Shaped Tryz.checked.prog /\ i.vars = [] /\ Input.okWide Tryz.checked.prog (w.forCall tape i) .any w.heap.size f i /\
   s.pre6 enc Tryz.checked.prog fn [] false (w.forCall tape i).memory i.args /\ ({} : Assume).holds Tryz.checked.prog (lone (Frame.enter Tryz.checked.prog f i.args .normal) [] (w.forCall tape i))) :
  ReturnsInLeavingWide {} Tryz.checked os f .any (s.pre6 enc Tryz.prog fn [] false) (s.post enc Tryz.prog fn false true false false) := by
 refine returnsInLeavingWide_of_change_sized (C := Tryz.checked) Tz.own started hf hwit ?_;intro W base args ds gs before hval0 hW _ hsz0 _;have hval : ∀ (j : Nat) t v, ts[j]? = some t -> args[j]? = some v -> Value.okWide Tryz.prog W .any base t v := fun j t v e => hval0 j t v (by rw [hp]; simpa using e);have hW' := hW;obtain ⟨p, q, hA0, hV, rfl, _, _⟩ := hW;have hA : DataW.TrodAll enc Tryz.prog W 0 (fun _ => true) true ts args.toList ds p := by
  have : DataW.TrodAll enc Tryz.prog W 0 (fun _ => true) true fn.params.toList args.toList ds p := hA0;rw [hp] at this;simpa using this
 have hdl := zmg _ _ _ _ hA;rw [hv] at hV;obtain ⟨rfl, rfl⟩ := trodVars_none hV;have hsz : (DataW.weightsEach Tryz.prog (ts ++ s.plain.varTypes Tryz.prog) ds).all (· <= reachBytes) = true := by
  have h : (DataW.weightsEach Tryz.prog (fn.params.toList ++ s.plain.varTypes Tryz.prog) (ds ++ [])).all (· <= reachBytes) = true := hsz0;rw [List.append_nil, hp] at h;simpa using h
 simp only [List.append_nil] at hW';have hlt : ∀ x ∈ p, x.block < W.heap.size := fun x hx => by simpa using hW'.lt x hx
 obtain ⟨avs, hden, hfn⟩ := hlaw W enc args ds p base _ hval hA hsz;obtain ⟨M, last, o, w', t', h1, h2, h3, h4⟩ := zjf (Q := fun v => v = .bool true) (args := args) (avs := avs) hi hden (hfn.mono (fun a H' e E v hden => by subst e; cases hden; rfl) fun _ _ h => h);refine ⟨M, last, o, w', t', h1, h2, h3, h4.mono fun v ⟨hQ, hL⟩ => ?_⟩;subst hQ;have hb := hL.below;refine ⟨ds, [], _, [], p, [], hW', ?_, ?_, by rw [hv]; exact (by rw [List.append_nil, hs H ds hdl]; rfl), hb.frame _, fun h => by cases h⟩
 ·rw [List.append_nil, hs H ds hdl, hr];exact trodAll_mk1 (shut_bool Tz.u4 true)
 ·rw [List.append_nil, hs H ds hdl, hp];have e : ts.toArray.toList = ts := by simp
  rw [e];exact zmu hb ts _ _ _ hread hA hlt
end Go.Gg
set_option maxRecDepth 100000
namespace Go.Gg
open Go.Conc Go.Proofs Go.ChangeShapes Go.WideShapes Go.ChangeAt Go.RowKit
theorem Rd.as {W : World} {e : TypeId} {α : Type} {f g : α -> List AV} {n : Nat} (h : Rd W e f n) (he : ∀ a, f a = g a) : Rd W e g n := by
 have : f = g := funext he;subst this; exact h
section
variable {W : World}
theorem rdInt : Rd W 3 (fun z : Int => [iv z]) 1 := rd_int (by kernel_rfl) (by kernel_rfl)
theorem rdBool : Rd W 4 (fun z : Bool => [bv z]) 1 := rd_bool (by kernel_rfl) (by kernel_rfl)
theorem zmZ (xs : List Int) : (xs.flatMap fun z => [iv z]) = xs.map iv := by
 induction xs with
 | nil => rfl
 | cons x xs ih => rw [List.flatMap_cons, ih]; rfl
theorem zmO (ls : List (List Band)) : (ls.flatMap fun l => [aBands l]) = ls.map aBands := by
 induction ls with
 | nil => rfl
 | cons x xs ih => rw [List.flatMap_cons, ih]; rfl
theorem rdInts : Rd W 30 (fun xs : List Int => [aInts xs]) 1 := (zlV (by kernel_rfl) (by kernel_rfl) rdInt (by decide)).as fun xs => by rw [zmZ]; rfl
theorem rdBand : Rd W 63 Band.l 2 := rd_two (na := 1) (nb := 1) (by kernel_rfl) (by kernel_rfl) (by kernel_rfl) rdInt rdInt Band.mk (fun _ _ => rfl) (fun _ => rfl)
theorem rdBands : Rd W 29 (fun xs : List Band => [aBands xs]) 1 := zlV (by kernel_rfl) (by kernel_rfl) rdBand (by decide)
theorem rdKey : Rd W 65 Key.l 3 := rd_two (na := 1) (nb := 2) (by kernel_rfl) (by kernel_rfl) (by kernel_rfl) rdInts rdBand Key.mk (fun _ _ => rfl) (fun _ => rfl)
theorem rdTry : Rd W 28 Try.l 3 := rd_three (na := 1) (nb := 1) (nc := 1) (by kernel_rfl) (by kernel_rfl) (by kernel_rfl) (by kernel_rfl) rdInt rdInt rdBool Try.mk (fun _ _ _ => rfl) (fun _ => rfl)
theorem rdKeys : Rd W 22 (fun xs : List Key => [aKeys xs]) 1 := zlV (by kernel_rfl) (by kernel_rfl) rdKey (by decide)
theorem rdLocks : Rd W 23 (fun xs : List (List Band) => [aLocks xs]) 1 := (zlV (by kernel_rfl) (by kernel_rfl) rdBands (by decide)).as fun xs => by rw [zmO]; rfl
theorem rdTries : Rd W 24 (fun xs : List Try => [aTries xs]) 1 := zlV (by kernel_rfl) (by kernel_rfl) rdTry (by decide)
theorem rdRing : Rd W 26 Ring.l 4 := rd_four (na := 1) (nb := 1) (nc := 1) (nd := 1) (by kernel_rfl) (by kernel_rfl) (by kernel_rfl) (by kernel_rfl) (by kernel_rfl) rdInt rdKeys rdLocks rdTries Ring.mk (fun _ _ _ _ => rfl) (fun _ => rfl)
section
variable {H : Type} {enc : TypeId × Value -> H} {base : Nat} {t : TypeId} {v : Value} {d : DataW H} {p : List MemPlace}
theorem zmt {α : Type} {e : TypeId} {f : α -> AV} (hu : Tryz.prog.underlying t = some (.slice e)) (hR : Rd W t (fun a => [f a]) 1) (hok : Value.okWide Tryz.prog W .any base t v) (h : DataW.Trod enc Tryz.prog W 0 (fun _ => true) true t v d p) : ∃ a, Den (env0 W) (f a) v := by
 obtain ⟨a, len, cap, rfl⟩ := okWide_slice hu hok;obtain ⟨fuel, h⟩ := h;obtain ⟨x, hx⟩ := hR.rd h;exact ⟨x, hx.2 0 _ rfl⟩
theorem zmf {α : Type} {fs : Array Field} {f : α -> List AV} {n : Nat} (hu : Tryz.prog.underlying t = some (.struct fs)) (hR : Rd W t f n) (hok : Value.okWide Tryz.prog W .any base t v) (h : DataW.Trod enc Tryz.prog W 0 (fun _ => true) true t v d p) : ∃ a, Den (env0 W) (.agg (f a)) v := by
 obtain ⟨cs, rfl, _⟩ := okWide_struct hu hok;obtain ⟨fuel, h⟩ := h;obtain ⟨x, hx⟩ := hR.rd h;exact ⟨x, .agg (by simpa [Value.cells] using hx.1) fun i a e => by simpa [Value.cells] using hx.2 i a e⟩
def isStruct (P : Program) (t : TypeId) : Bool := match P.underlying t with
 | some (.struct _) => true
 | _ => false
theorem isStruct.out {P : Program} {t : TypeId} (h : isStruct P t = true) : ∃ fs, P.underlying t = some (.struct fs) := by
 unfold isStruct at h;split at h
 ·exact ⟨_, by assumption⟩
 ·cases h
theorem arg_ring (hok : Value.okWide Tryz.prog W .any base 26 v) (h : DataW.Trod enc Tryz.prog W 0 (fun _ => true) true 26 v d p) : ∃ x : Ring, Den (env0 W) x.av v := by
 obtain ⟨fs, hu⟩ := isStruct.out (P := Tryz.prog) (t := 26) (by kernel_rfl);exact zmf hu rdRing hok h
theorem arg_try (hok : Value.okWide Tryz.prog W .any base 28 v) (h : DataW.Trod enc Tryz.prog W 0 (fun _ => true) true 28 v d p) : ∃ x : Try, Den (env0 W) x.av v := by
 obtain ⟨fs, hu⟩ := isStruct.out (P := Tryz.prog) (t := 28) (by kernel_rfl);exact zmf hu rdTry hok h
theorem arg_nums {ds : List (DataW H)} {ts : List TypeId} {j : Nat} (hok : Value.okWide Tryz.prog W .any base 30 v) (h : DataW.Trod enc Tryz.prog W 0 (fun _ => true) true 30 v d p) (hsz : (DataW.weightsEach Tryz.prog ts ds).all (· <= reachBytes) = true) (ht : ts[j]? = some 30) (hd : ds[j]? = some d) : ∃ zs, zs.length <= 2 ^ 50 /\ Den (env0 W) (aInts zs) v := by
 obtain ⟨zs, hz⟩ := zmt Tz.u30 rdInts hok h;refine ⟨zs, ?_, hz⟩;obtain ⟨a, len, cap, rfl⟩ := okWide_slice Tz.u30 hok;have hzl : zs.length = len := by
  unfold aInts at hz;generalize zs.length = m at hz ⊢;generalize zs.map iv = l at hz;cases hz with
  | sl => rfl
  | nil => rfl
 obtain ⟨fuel, h⟩ := h;rcases DataW.trod_slice Tz.u30 h with ⟨e, _⟩ | ⟨a', len', cap', elems, rest, n, _, e, ex, _, _, _, hlen, _⟩
 ·simp [Value.cells] at e;obtain ⟨_, rfl, _⟩ := e;rw [hzl]; exact Nat.zero_le _
 ·simp [Value.cells] at e;obtain ⟨_, rfl, _⟩ := e;simp only [Prod.mk.injEq] at ex;obtain ⟨rfl, _⟩ := ex;have := sized_slice hsz ht hd Tz.u30;rw [Tz.b3] at this;simp only [List.length_map, reachBytes] at this;omega
end
end
def ioNums : List (List Nat) := [99,117,116] :: [97,116] :: [[67,104,101,99,107,115],[67,111,118,101,114,115],[66,97,103,115],[87,111,114,110],[87,114,111,110,103],[65,115,107],[67,111,118,101,114],[65,108,105,107,101],[84,101,108,108],[66,97,103],[67,117,116],[78,117,109,98,101,114,101,100],[67,111,117,110,116,115],[65,108,108],[84,114,117,101],[65,115,107,115],[78,101,119,115],[77,97,115,116,101,114],[77,111,114,101],[84,117,114,110,101,100],[75,110,111,119,110]].map ([103,108,97,100,115,116,111,110,101,47,103,108,97,100,115,116,111,110,101,108,97,119,48,56,46,75,101,121] ++ ·)
def ioCodes : List Nat := [104,97,114,110,101,115,115,32,99,51,50,57,53,49,56,50,100,99,53,57,97,55,97,98,51,48,51,102,54,57,97,97,100,57,54,56,102,52,99,57,49,98,53,97,48,49,101,51,101,101,55,53,50,49,99,100,54,56,54,49,50,99,48,52,54,49,101,48,97,49,50,98] ++ ioNums.flatMap (32 :: ·)
set_option maxRecDepth 100000 in
theorem ioL : Tryz.prog.initOrder.toList = ioCodes.map Char.ofNat := by
 have h : Tryz.prog.initOrder = String.ofList (ioCodes.map Char.ofNat) := by kernel_rfl
 rw [h, String.toList_ofList]
def ioWords : List (List Char) := ioNums.map fun l => l.map Char.ofNat
set_option maxRecDepth 100000 in
theorem ioW : behindMainWord (wordsSigns Tryz.prog.initOrder.toList) = ioWords := by
 rw [ioL]
 kernel_rfl
section
variable {P : Program} {c : List Char} {rest : List (List Char)}
theorem zhx (h : behindMainWord (wordsSigns P.initOrder.toList) = c :: rest) (hc : c = "cut".toList) (h1 : stripLifts liftWords (c :: rest) = ([], c :: rest)) (h2 : P.laysLater = false) (h3 : P.bearsReflect = false) (h4 : P.doorFits [] = true) : P.mayEnter = true := by
 unfold Program.mayEnter;rw [h];subst hc;simp only [h1, h2, h3, h4, List.head?_cons, beq_self_eq_true, List.contains_nil, Bool.not_false, Bool.false_or, Bool.or_true, Bool.and_self, Bool.true_and]
theorem zgB (h : behindMainWord (wordsSigns P.initOrder.toList) = c :: rest) (hc : c = "cut".toList) (h1 : stripLifts liftWords (c :: rest) = ([], c :: rest)) : P.headLifts = [] := by
 unfold Program.headLifts;rw [h];simp only [h1, ite_self]
theorem lifts_of (h : behindMainWord (wordsSigns P.initOrder.toList) = c :: rest) (hc : c = "cut".toList) (h1 : stripLifts liftWords (c :: rest) = ([], c :: rest)) : P.liftsFinal = false := by
 unfold Program.liftsFinal;rw [zgB h hc h1, h];subst hc;simp only [List.head?_cons, List.contains_nil, Bool.or_false];have : (some "cut".toList == some "carried".toList) = false := by decide +kernel
 rw [this, Bool.false_and]
theorem make_of (h : behindMainWord (wordsSigns P.initOrder.toList) = c :: rest) (hc : c = "cut".toList) : P.make = some .cut := by
 unfold Program.make;rw [h];subst hc;have e1 : ("cut".toList == "gc".toList) = false := by decide +kernel
 have e2 : ("cut".toList == "spec".toList) = false := by decide +kernel
 simp only [e1, e2, Bool.or_self, Bool.false_eq_true, if_false, beq_self_eq_true, Bool.true_or, if_true]
end
def ioHead : List Char := ioWords.headD []
def ioTail : List (List Char) := ioWords.tail
theorem ioW2 : behindMainWord (wordsSigns Tryz.prog.initOrder.toList) = ioHead :: ioTail := ioW.trans (by kernel_rfl)
theorem ioC : ioHead = "cut".toList := by kernel_rfl
theorem ioS : stripLifts liftWords (ioHead :: ioTail) = ([], ioHead :: ioTail) := by kernel_rfl
theorem Tz.mayEnter : Tryz.prog.mayEnter = true := zhx ioW2 ioC ioS (by kernel_rfl) (by kernel_rfl) (by kernel_rfl)
theorem Tz.lifts : Tryz.prog.liftsFinal = false := lifts_of ioW2 ioC ioS
theorem Tz.make : Tryz.prog.make = some .cut := make_of ioW2 ioC
theorem zkH {P : Program} {f : FuncId} {fn : Func} {s : ChangeSpec} {c : OpenClaim}
  (k0 : (c.wf (OpenSpec.ofChange s)) = true)
  (k1 : (laidOutB P) = true)
  (k2 : (mapsRowed P) = true)
  (k3 : (fn.params.all (P.readableRec ·)) = true)
  (k4 : (namedTie P c.named s.vars) = true)
  (k5 : ((c.stops == [])) = true)
  (k6 : ((P.stops == [])) = true)
  (k7 : ((c.knobs == [])) = true)
  (k8 : ((P.stopKnobs == [])) = true)
  (k9 : ((c.inPlace == P.inPlace f)) = true)
  (k10 : ((c.unfollowed == P.unfollowed f)) = true)
  (k11 : ((c.recurses == P.recurses f)) = true)
  (k12 : ((c.named == P.varsNamed f)) = true)
  (k13 : ((c.maps == (fn.params.toList ++ s.plain.varTypes P).any (P.mapsRec ·))) = true)
  (k14 : ((c.ifaces == (fn.params.toList ++ s.plain.varTypes P).any (P.ifacesRec ·))) = true)
  (k15 : ((c.mapsOut == P.mapsAmong fn.resultTypes.toList)) = true)
  (k16 : ((c.loops == (fn.params.toList ++ s.plain.varTypes P).any (P.loopsFrom ·))) = true)
  (k17 : ((c.wideKeys == (fn.params.toList ++ s.plain.varTypes P ++ fn.resultTypes.toList).any (P.wideKeysFrom ·))) = true)
  (k18 : (s.vars.all (P.varReadable ·)) = true)
  (k19 : (fn.resultTypes.all (fun t => P.readableRec t && decide (t < P.types.size))) = true)
  (k20 : ((c.ifacesOut == fn.resultTypes.toList.any (P.ifacesRec ·))) = true)
  (k21 : ((c.loopsOut == fn.resultTypes.toList.any (P.loopsFrom ·))) = true)
  (k22 : ((c.plainKeys == P.plainKeys)) = true)
  (k23 : (c.shortTexts.isNone) = true)
  (k24 : (P.stopsHeard) = true)
  (k25 : (P.mayEnter) = true)
  (k26 : ((c.lifted == P.liftsFinal)) = true)
  (k27 : ((P.make == some c.make)) = true)
  (k28 : c.domain.isEmpty = true) (k28' : c.kinds = [])
  (k29 : ((c.pinned == c.pinnedBy)) = true)
  (k30 : ((c.veiled == (fn.params.toList ++ s.plain.varTypes P ++ fn.resultTypes.toList).any (P.veiledRec ·))) = true)
  (k31 : (c.veiledFits P fn.params.toList (fn.params.toList ++ s.plain.varTypes P ++ fn.resultTypes.toList)) = true) : joinedFacts P f fn s c = true := by
 simp only [joinedFacts, k0, k1, k2, k3, k4, k5, k6, k7, k8, k9, k10, k11, k12, k13, k14, k15, k16, k17, k18, k19, k20, k21, k22, k23, k24, k25, k26, k27, k28, k28', if_true, beq_self_eq_true, k29, k30, k31, Bool.and_self]
theorem zkB {c : OpenClaim} (h : c.lifted = false) : (c.lifted == Tryz.prog.liftsFinal) = true := by rw [Tz.lifts, h]; rfl
theorem make_of' {c : OpenClaim} (h : c.make = .cut) : (Tryz.prog.make == some c.make) = true := by rw [Tz.make, h]; rfl
end Go.Gg
namespace Go.Proofs.YtoaaoiipickclaaGreat
open Go.Conc Go.Proofs Go.Gg Go.ChangeShapes
theorem kas18Name : Tryz.prog.funcNamed Rows.keyAsksRow.func = some 18 := by kernel_rfl
theorem kas18Joined : joinedFacts Tryz.prog 18 Tryz.f18 Rows.keyAsksSpec Rows.keyAsksRow = true :=
 zkH (by kernel_rfl) Tz.laidOut (by kernel_rfl) (by kernel_rfl) (by kernel_rfl) (by kernel_rfl) (by kernel_rfl) (by kernel_rfl) (by kernel_rfl) (by kernel_rfl) (by kernel_rfl) (by kernel_rfl) (by kernel_rfl) (by kernel_rfl) (by kernel_rfl) (by kernel_rfl) (by kernel_rfl) (by kernel_rfl) (by kernel_rfl) (by kernel_rfl) (by kernel_rfl) (by kernel_rfl) (by kernel_rfl) (by kernel_rfl) (by kernel_rfl) Tz.mayEnter (zkB (by kernel_rfl)) (make_of' (by kernel_rfl)) (by kernel_rfl) (by kernel_rfl) (by kernel_rfl) (by kernel_rfl) (by kernel_rfl)
theorem kas18Inst : Tryz.f18.isInstance Tryz.prog Rows.keyAsksRow.origin Rows.keyAsksRow.targs := of_decide_eq_true (by kernel_rfl)
theorem kas18Wrap : Tryz.f18.isWrapper Tryz.prog Rows.keyAsksRow.wrapper Rows.keyAsksRow.mainSum := by unfold Func.isWrapper; first | (rw [if_pos (by decide +kernel)]; kernel_rfl) | (rw [if_neg (by decide +kernel)]; exact ⟨rfl, rfl⟩)
theorem zmB : LawArgs 18 [26, 28, 29, 30] := fun W {H} enc args ds ps base ws hval hA hsz => by
 obtain ⟨v0, r0, d0, e0, p0, q0, ha, rfl, rfl, h0, hA⟩ := trodAll_cons hA;obtain ⟨v1, r1, d1, e1, p1, q1, rfl, rfl, rfl, h1, hA⟩ := trodAll_cons hA;obtain ⟨v2, r2, d2, e2, p2, q2, rfl, rfl, rfl, h2, hA⟩ := trodAll_cons hA;obtain ⟨v3, r3, d3, e3, p3, q3, rfl, rfl, rfl, h3, hA⟩ := trodAll_cons hA;obtain ⟨rfl, rfl, rfl⟩ := trodAll_nil hA;have hargs : args = #[v0, v1, v2, v3] := by
  have := congrArg List.toArray ha;simpa using this
 subst hargs;obtain ⟨x0, g0⟩ := arg_ring (hval 0 26 v0 rfl rfl) h0;obtain ⟨x1, g1⟩ := arg_try (hval 1 28 v1 rfl rfl) h1;obtain ⟨x2, g2⟩ := zmt (t := 29) (e := 63) (by kernel_rfl) rdBands (hval 2 29 v2 rfl rfl) h2;obtain ⟨x3, hn, g3⟩ := arg_nums (j := 3) (hval 3 30 v3 rfl rfl) h3 hsz rfl rfl;refine ⟨[x0.av, x1.av, aBands x2, aInts x3], ⟨rfl, fun i a e => ?_⟩, f18_c rfl hn rfl⟩
 match i, e with
 | 0, e => cases e; exact g0
 | 1, e => cases e; exact g1
 | 2, e => cases e; exact g2
 | 3, e => cases e; exact g3
theorem zmd (os : Os) (started : os.Started) (H : Type) (enc : TypeId × Value -> H) :
  ReturnsInLeavingWide {} Tryz.checked os 18 .any (Rows.keyAsksSpec.pre6 enc Tryz.prog Tryz.f18 Rows.keyAsksRow.domain false) (Rows.keyAsksSpec.post enc Tryz.prog Tryz.f18 false true false false) :=
 zmE (f := 18) (fn := Tryz.f18) (s := Rows.keyAsksSpec) (ts := [26, 28, 29, 30]) Tryz.func18 rfl rfl rfl (fun H ds h => by
   match ds, h with
   | [a, b, c, d], _ => rfl) (by kernel_rfl) (fun t ht => ⟨List.all_eq_true.1 (by kernel_rfl : [26, 28, 29, 30].all Tryz.prog.readableRec = true) t (by revert ht; simp), of_decide_eq_true (List.all_eq_true.1 (by kernel_rfl : [26, 28, 29, 30].all (fun t => decide (t < Tryz.prog.types.size)) = true) t (by revert ht; simp))⟩) zmB os started H enc
  (ChangeSpec.witness6 (enc := enc) (C := Tryz.checked) false ⟨#[], #[.agg #[.int .i64 0, .slice none 0 0, .slice none 0 0, .slice none 0 0], .agg #[.int .i64 0, .int .i64 0, .bool false], .slice none 0 0, .slice none 0 0], []⟩ 8 (by kernel_rfl) (by kernel_rfl) (by kernel_rfl) (by kernel_rfl))
theorem keyAsks_holds : Rows.KeyAsksSaid :=
 OpenClaim.holds_of_wide_leaving 18 Tryz.f18 rfl rfl rfl rfl rfl rfl rfl ⟨rfl, rfl, rfl, rfl, rfl⟩ rfl rfl rfl rfl rfl kas18Name Tryz.func18 kas18Joined kas18Inst kas18Wrap
  (fun os started H enc _ => zmd os started H enc)
end Go.Proofs.YtoaaoiipickclaaGreat
