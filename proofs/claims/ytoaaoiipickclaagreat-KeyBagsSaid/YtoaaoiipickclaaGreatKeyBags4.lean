/- A part of the proof. -/
import Derived.Test.YtoaaoiipickclaaGreatKeyBags3
import Derived.Conc.LeavingOf
import Derived.Conc.Holds
import Derived.ProofKit
import Derived.Test.YtoaaoiipickclaaGreatChecked
set_option linter.all false
set_option maxRecDepth 4000
set_option maxHeartbeats 1000000
namespace Go.Gg
open Go.Conc Go.Proofs
def askR (x : Ring) : Option (Nat × Nat × Nat) := (askM x).filter fun t => decide (t.2.2 < (truthsM x []).length)
section
variable {lv : Bool} {H : List AObj} {k kp : AV -> List AObj -> Prop}
theorem cnt_le (x : Ring) (k n : Nat) (ts : List (List Int × Nat)) : cntM x k n ts <= ts.length := List.length_filter_le _ _
theorem f55_c {x : Ring} (hnr : NewRingC lv) (hmain : H[0]? = some .main) (hs : x.Small) (h1 : openingE x none ≠ 0 -> k (.tup [iv 0, iv 0, iv 0, iv (openingE x none)]) H) (h2 : openingE x none = 0 -> askR x = none -> k (.tup [iv 0, iv 0, iv 0, iv 11]) H) (h3 : openingE x none = 0 -> ∀ a b c : Nat, askR x = some (a, b, c) -> k (.tup [iv a, iv b, iv c, iv 0]) H) : FnC lv Tryz.prog 55 H [x.av] k kp := by
 have hmn : ∀ L : List AObj, (H ++ L)[0]? = some .main := fun L => zay hmain;refine zlu (rs := [.tmp 2, .tmp 3, .tmp 4, .tmp 5]) (nt := 81) Tryz.f55 fun hH hA => ?_;simp only [argsT, Nat.reduceAdd, Ring.av];refine zl5 ?_;simp only [seval, Ring.l];refine zfK ?_;refine zl6 ((f99_c hnr (hmn _) hs zbA (fun hz => ?_) (fun hz => ?_)))
 ·(try simp only [seval]);refine zfK ?_;refine zhC ?_;refine ⟨fun h => ?_, fun h => absurd (by simpa using h) hz⟩;refine zfK ?_;refine zlj ?_;exact endA hH (Wk.refl _) (by simp [zap, zaD]) (h1 hz)
 ·(try simp only [seval]);refine zfK ?_;obtain ⟨ho, hne⟩ := zaP.1 hz;have hx := zbp ho;have hx4 := hx.keys;have hx5 := hx.locks;have hle := zbl hx [];have hlk : x.l ++ opensL x = iv x.cuts :: aKeys x.keys :: aLocks x.locks :: aTries x.tries :: opensL x := rfl;refine zhC ?_;refine zkY ?_;refine zfK ?_;refine zl5 ?_;simp only [seval, List.mapM_cons, List.mapM_nil, Option.pure_def, Option.bind_eq_bind];refine zl5 ?_;simp only [seval, hlk, aKeys];have hsz : ((List.map setEntry (truthsM x [])).toArray.size : Int) = ((truthsM x []).length : Nat) := by simp
  refine zly ?_;refine zaB x.keys.length (fun i : Nat => [(31, iv i)]) (fun i => H ++ [.cells x.l 26, .cells x.l 26, setObj (truthsM x []) (wears0 x).length, bestObj (askAt x i 0)]) (fun _ => True) (fun _ _ => rfl) (by simp only [seval]; simp [zaf, Wk.refl]) rfl (fun _ _ _ => by simp) trivial (fun hHs hLt i hin hi R hR => ?_);refine zfK ?_;refine zhC ?_;refine ⟨fun h => ?_, fun h => ?_⟩
  ·
   refine zkY ?_;refine zfK ?_;refine zl5 ?_;simp only [seval, aLocks];refine zly ?_;refine zaB x.locks.length (fun j : Nat => [(40, iv j)]) (fun j => H ++ [.cells x.l 26, .cells x.l 26, setObj (truthsM x []) (wears0 x).length, bestObj (askAt x i j)]) (fun _ => True) (fun _ _ => rfl) (by simp only [seval]; simp [zaf, Wk.refl]) rfl (fun _ _ _ => by simp) trivial (fun hHs2 hLt2 j hjn hj R2 hR2 => ?_);refine zfK ?_;refine zhC ?_;refine ⟨fun h2 => ?_, fun h2 => ?_⟩
   ·
    have hil : i < x.keys.length := (by omega);have hjl : j < x.locks.length := (by omega);refine zkY ?_;refine zfK ?_;refine zfK ?_;refine zl6 ((f102_c (x := x) (ts := truthsM x []) (ck := (wears0 x).length) (by simp only [seval] <;> rfl) (zbm x []) (zba x []) (by omega) (by omega) (by omega) (zbt hx []) ?_));(try simp only [seval]);have hcl := cnt_le x i j (truthsM x []);have hw : IntKind.i64.wrap (((truthsM x []).length : Int) - (cntM x i j (truthsM x []) : Nat)) = ((truthsM x []).length : Int) - (cntM x i j (truthsM x []) : Nat) := zau _ (by omega);have hmx : (if ((cntM x i j (truthsM x []) : Nat) : Int) < ((truthsM x []).length : Int) - (cntM x i j (truthsM x []) : Nat) then ((truthsM x []).length : Int) - (cntM x i j (truthsM x []) : Nat) else ((cntM x i j (truthsM x []) : Nat) : Int)) = (((testM x i j).2.2 : Nat) : Int) := by
     simp only [testM];split <;> omega
    refine zl5 ?_;simp only [seval, zaL, hsz, hw, hmx];refine zl6 ((f133_c (id := H.length + 3) (o := askAt x i j) (a := i) (b := j) (c := (testM x i j).2.2) (by simp only [seval] <;> rfl) ?_));have hj1 : IntKind.i64.wrap ((j : Int) + 1) = ((j + 1 : Nat) : Int) := (by rw [zau _ (by omega)]; rfl);rw [zbR H _ 3, <- show testM x i j = (i, j, (testM x i j).2.2) from rfl, <- zjC];(try simp only [seval]);refine zl5 ?_;simp only [seval, hj1];refine hR2 _ ⟨hjl, trivial, ?_⟩;exact zlA
   ·
    have hjx : j = x.locks.length := (by omega);subst hjx;refine zlz ?_;have hi1 : IntKind.i64.wrap ((i : Int) + 1) = ((i + 1 : Nat) : Int) := (by rw [zau _ (by omega)]; rfl);refine zl5 ?_;simp only [seval, hi1];refine hR _ ⟨by omega, trivial, ?_⟩;rw [<- zjD];exact zlA
  ·
   have hix : i = x.keys.length := (by omega);subst hix;refine zlz ?_;rw [show askAt x x.keys.length 0 = askM x from rfl];cases hm : askM x with
   | none =>
    simp only [bestObj];refine zfK ?_;refine zhC ?_;refine zfK ?_;refine zlj ?_;exact endA hH (Wk.refl _) (by simp [zap, zaD]) (h2 hz (by simp [askR, hm]))
   | some u =>
    obtain ⟨a, b, c⟩ := u;simp only [bestObj];refine zl5 ?_;simp only [seval, zaL, hsz];refine zhC ?_;refine ⟨fun h5 => ?_, fun h5 => ?_⟩
    ·have hc : (truthsM x []).length <= c := (by simpa using h5);refine zfK ?_;refine zlj ?_;exact endA hH (Wk.refl _) (by simp [zap, zaD]) (h2 hz (by simp [askR, hm]; omega))
    ·have hc : c < (truthsM x []).length := (by simpa using h5);refine zkY ?_;refine zlC 11 ?_;simp only [seval];refine zlj ?_;exact endA hH (Wk.refl _) (by simp [zap, zaD]) (h3 hz a b c (by simp [askR, hm]; omega))
theorem zfj {P : Program} {t : TypeId} {op : BinOp} (hop : op = .eql \/ op = .neq) (ht : P.underlying t = some .bool) (hg : P.eqGuardType P.depth t = false) (x y : Bool) (k : AV -> Prop) : ABin P op t (.val (.bool x)) (.val (.bool y)) k = k (.val (.bool (if op == .neq then !(x == y) else (x == y)))) := by
 have hsure : Sure P (Op.equal t (.bool x) (.bool y)) (x == y) := zjZ (d := 9999) ht;have e : ABin P op t (.val (.bool x)) (.val (.bool y)) k = ((op = .eql \/ op = .neq) /\ one1 (AV.raw (.val (.bool x))) fun X => one1 (AV.raw (.val (.bool y))) fun Y => eqKind X Y = true /\ P.eqGuardType P.depth t = false /\ ∃ e, Sure P (Op.equal t X Y) e /\ k (.val (.bool (if op == .neq then !e else e)))) := rfl;rw [e];apply propext;constructor
 ·rintro ⟨_, _, _, b, h1, h2⟩
  rw [hsure.uniq h1]; exact h2
 ·intro h;exact ⟨hop, rfl, hg, _, hsure, h⟩
theorem F.u4 : Tryz.prog.underlying 4 = some .bool := by kernel_rfl
theorem F.g4 : Tryz.prog.eqGuardType Tryz.prog.depth 4 = false := by kernel_rfl
theorem B4.eql (x y : Bool) (k : AV -> Prop) : ABin Tryz.prog .eql 4 (.val (.bool x)) (.val (.bool y)) k = k (.val (.bool (x == y))) := zfj (.inl rfl) F.u4 F.g4 x y k
theorem B4.neq (x y : Bool) (k : AV -> Prop) : ABin Tryz.prog .neq 4 (.val (.bool x)) (.val (.bool y)) k = k (.val (.bool (x != y))) := zfj (.inr rfl) F.u4 F.g4 x y k
attribute [seval] B4.eql B4.neq
theorem zdk {ts vs : List (List Int × Nat)} {y : List Int × Nat} (h : (vs.map (·.2)).Nodup /\ ∀ z ∈ vs, z ∈ ts) (hy : y ∈ ts) (hn : y.2 ∉ vs.map (·.2)) : ((vs ++ [y]).map (·.2)).Nodup /\ ∀ z ∈ vs ++ [y], z ∈ ts := by
 refine ⟨?_, fun z hz => ?_⟩
 ·rw [List.map_append, List.nodup_append];refine ⟨h.1, by simp, fun a ha b hb => ?_⟩;simp at hb; subst hb;intro e; subst e; exact hn ha
 ·rcases List.mem_append.1 hz with h' | h'
  ·exact h.2 z h'
  ·rw [List.mem_singleton.1 h']; exact hy
theorem zdl {ts vs : List (List Int × Nat)} {y : List Int × Nat} (h : ((vs ++ [y]).map (·.2)).Nodup /\ ∀ z ∈ vs ++ [y], z ∈ ts) : ts.length - (vs ++ [y]).length < ts.length - vs.length := by
 have h1 : (vs ++ [y]).Nodup := zbo _ h.1;have := h1.length_le_of_subset h.2;simp at this ⊢; omega
theorem zdm (vs : List (List Int × Nat)) (y : List Int × Nat) : ((vs.map (·.2)).toArray.push y.2) = ((vs ++ [y]).map (·.2)).toArray := by simp
theorem u8z (t : List Int) (k : Nat) {w : Int} (h : t[k]? = some w) : t.getD k 0 = w := by rw [List.getD_eq_getElem?_getD, h]; rfl
def inTruth (x : Ring) (t : List Int) (k : Nat) : Nat := opensM x k (t.getD k 0).toNat
theorem zdn {x : Ring} (hl4 : x.locks.length <= 8) (k w : Nat) : opensM x k w < 256 := by
 unfold opensM;split
 ·exact u8_of (zb5 _ _ _ _) hl4
 ·decide
def apartM (x : Ring) (t : List Int) (keys : List Int) (a b : Nat) : Bool := keys.any fun k => (inTruth x t k.toNat).testBit a != (inTruth x t k.toNat).testBit b
theorem zmn {α : Type} {f : α -> Bool} {l : List α} {i : Nat} {a : α} (h : l[i]? = some a) : (l.take (i + 1)).any f = ((l.take i).any f || f a) := by
 obtain ⟨hj, rfl⟩ := List.getElem?_eq_some_iff.1 h;rw [List.take_succ_eq_append_getElem hj, List.any_append]; simp
theorem any_of {α : Type} {f : α -> Bool} {l : List α} {i : Nat} {a : α} (h : l[i]? = some a) (hf : f a = true) : l.any f = true := List.any_eq_true.2 ⟨a, zas h, hf⟩
theorem f117_c {x : Ring} {t keys : List Int} {e : End} {a b : Nat} (hl4 : x.locks.length <= 8) (ht : t.length = 4) (htb : ∀ w ∈ t, 0 <= w /\ w <= 2) (hkeys : ∀ q ∈ keys, 0 <= q /\ q < 4) (hkl : keys.length < 2 ^ 30) (hk : k (bv (apartM x t keys a b)) H) : FnC lv Tryz.prog 117 H [.rp (x.l ++ opensL x), .agg (t.map iv), .sl keys.length (keys.map iv) e, iv a, iv b] k kp := by
 refine zlu (rs := [.tmp 10]) (nt := 38) Tryz.f117 fun hH hA => ?_;simp only [argsT, Nat.reduceAdd];refine zfK ?_;refine zfK ?_;refine zly ?_;refine zlE keys.length (fun i : Nat => [(16, iv i)]) (fun _ => H ++ [.cells (t.map iv) 132]) (fun i => (keys.take i).any (fun q => (inTruth x t q.toNat).testBit a != (inTruth x t q.toNat).testBit b) = false) (by simp) (fun hHs hLt i hin hi R hR => ?_);refine zfK ?_;refine zhC ?_;refine ⟨fun h => ?_, fun h => ?_⟩
 ·
  have hil : i < keys.length := by omega
  obtain ⟨q, hq⟩ := zaE hil;obtain ⟨hq0, hq4⟩ := hkeys q (zas hq);obtain ⟨kn, rfl⟩ : ∃ m : Nat, q = m := ⟨q.toNat, by omega⟩;obtain ⟨w, hw⟩ := zaE (xs := t) (i := kn) (by omega);have hwb := htb w (zas hw);obtain ⟨wn, rfl⟩ : ∃ n : Nat, w = n := ⟨w.toNat, by omega⟩;have b4 : (0 <= (kn : Int) /\ (kn : Int) < 4) = True := by simp; omega
  have b3 : (0 <= (wn : Int) /\ (wn : Int) < 3) = True := by simp; omega
  have hm := zdn hl4 kn wn;have hin : inTruth x t (kn : Int).toNat = opensM x kn wn := by unfold inTruth; rw [Int.toNat_natCast, u8z t kn hw]; rfl
  have sh4 : AV.shift 4 (.rp (x.l ++ opensL x)) = some (.rp (opensL x)) := by simp [Ring.l, zdf, zdg]
  refine zkY ?_;refine zl5 ?_;simp only [seval, za2 hq, zaz hil];refine zlC 10 ?_;simp only [seval, b4, b3, zbf hw, sh4, zcH x (show kn < 4 by omega), zb0 x (show kn < 4 by omega) (show wn < 3 by omega)];refine zfK ?_;refine zl6 ((f135_c hm ?_));(try simp only [seval]);refine zl6 ((f135_c hm ?_));(try simp only [seval]);refine zhC ?_;refine ⟨fun h2 => ?_, fun h2 => ?_⟩
  ·
   refine zfK ?_;refine zlj ?_;have hr : apartM x t keys a b = true := any_of hq (by rw [hin]; simpa using h2);rw [hr] at hk;exact endA hH (Wk.refl _) (by simp [zap]) hk
  ·
   refine zkY ?_;have hi1 : IntKind.i64.wrap ((i : Int) + 1) = ((i + 1 : Nat) : Int) := (by rw [zau _ (by omega)]; rfl);refine zl5 ?_;simp only [seval, hi1];refine hR _ ⟨hil, ?_, ?_⟩
   ·rw [zmn hq, hi, hin]; simpa using h2
   ·exact zlA
 ·
  have hix : i = keys.length := by omega
  subst hix;refine zlz ?_;refine zfK ?_;refine zlj ?_;rw [List.take_length] at hi;have hr : apartM x t keys a b = false := hi;rw [hr] at hk;exact endA hH (Wk.refl _) (by simp [zap]) hk
theorem or_u8 {a b : Nat} (ha : a < 256) (hb : b < 256) : IntKind.u8.wrap (BitVec.ofInt IntKind.u8.bits (a : Int) ||| BitVec.ofInt IntKind.u8.bits (b : Int)).toNat = ((a ||| b : Nat) : Int) := by
 rw [BitVec.toNat_or, zk8 ha, zk8 hb];exact zfk (Nat.or_lt_two_pow (n := 8) ha hb)
theorem mask_u8 {n : Nat} (h : n <= 4) : IntKind.u8.wrap (IntKind.u8.wrap (1 * 2 ^ (min n IntKind.u8.bits)) - 1) = ((2 ^ n - 1 : Nat) : Int) := by
 have : n = 0 \/ n = 1 \/ n = 2 \/ n = 3 \/ n = 4 := by omega
 rcases this with rfl | rfl | rfl | rfl | rfl <;> decide
def orM (x : Ring) (t : List Int) (keys : List Int) : Nat := keys.foldl (fun a q => a ||| inTruth x t q.toNat) 0
theorem orM_take {x : Ring} {t keys : List Int} {i : Nat} {q : Int} (h : keys[i]? = some q) : orM x t (keys.take (i + 1)) = orM x t (keys.take i) ||| inTruth x t q.toNat := by
 obtain ⟨hj, rfl⟩ := List.getElem?_eq_some_iff.1 h;unfold orM;rw [List.take_succ_eq_append_getElem hj, List.foldl_append]; rfl
theorem orM_lt {x : Ring} (hl4 : x.locks.length <= 8) (t keys : List Int) : orM x t keys < 256 := by
 unfold orM;have : ∀ (l : List Int) (a : Nat), a < 256 -> l.foldl (fun a q => a ||| inTruth x t q.toNat) a < 256 := by
  intro l;induction l with
  | nil => exact fun a h => h
  | cons y l ih => exact fun a h => ih _ (Nat.or_lt_two_pow (n := 8) h (zdn hl4 _ _))
 exact this keys 0 (by decide)
def coverB (x : Ring) (ts : List (List Int × Nat)) (keys : List Int) : Bool := ts.all fun y => orM x y.1 keys == 2 ^ x.locks.length - 1
def coverM (x : Ring) : Option (List Int) := fewestM x.keys.length (coverB x (truthsM x []))
theorem f114_c {x : Ring} {keys : List Int} {e : End} {l r id ck : Nat} {ts : List (List Int × Nat)} (hl : H[l]? = some (.cells [.mp id] 118)) (hr : H[r]? = some (.cells [.rp (x.l ++ opensL x)] 100)) (hid : H[id]? = some (setObj ts ck)) (hb : ∀ y ∈ ts, y.2 < ck) (hnd : (ts.map (·.2)).Nodup) (hl4 : x.locks.length <= 4) (h4 : ∀ y ∈ ts, y.1.length = 4 /\ ∀ w ∈ y.1, 0 <= w /\ w <= 2) (hkeys : ∀ q ∈ keys, 0 <= q /\ q < 4) (hkl : keys.length < 2 ^ 30) (hk : k (bv (coverB x ts keys)) H) : FnC lv Tryz.prog 114 H [.sl keys.length (keys.map iv) e, .op l 0, .op r 0] k kp := by
 refine zlu (rs := [.tmp 4]) (nt := 44) Tryz.f114 fun hH hA => ?_;simp only [argsT, Nat.reduceAdd];rw [setObj] at hid;refine zfK ?_;refine zl5 ?_;simp only [seval, hl, hid];have hid' : ∀ L : List AObj, (H ++ L)[id]? = some (AObj.obj (Obj.map (List.map setEntry ts).toArray ck)) := fun L => zay hid;have hr' : ∀ L : List AObj, (H ++ L)[r]? = some (.cells [.rp (x.l ++ opensL x)] 100) := fun L => zay hr;have hall := zcO ts ck hb;have hokI : ∀ sn, HOk (H ++ [AObj.iter id ck sn ck]) := fun sn z hz => by
  have hl := get_lt hid;rcases List.mem_append.1 hz with h | h
  ·exact (hH z h).mono (by simp)
  ·rw [List.mem_singleton.1 h]; show id < _; simp; omega
 refine zly ?_;refine za9 (measure fun vs : List (List Int × Nat) => ts.length - vs.length).wf (fun vs => []) (fun vs => H ++ [.iter id ck (vs.map (·.2)).toArray ck]) (fun vs => ((vs.map (·.2)).Nodup /\ ∀ y ∈ vs, y ∈ ts) /\ ∀ y ∈ vs, (orM x y.1 keys == 2 ^ x.locks.length - 1) = true) [] (fun _ _ => rfl) (by simp) (by simp) (fun _ _ => by simp) ⟨⟨by simp, by simp⟩, by simp⟩ (fun hHs hLt vs hok R hR => ?_);refine zl5 ?_;simp only [seval, hid'];refine ⟨hall.elim .inl (fun h => .inr (.inl h)), fun e he hn => ?_, fun hs => ?_⟩
 ·obtain ⟨y, hy, rfl⟩ : ∃ y ∈ ts, setEntry y = e := by simpa using he
  have hyn : y.2 ∉ vs.map (·.2) := by simpa [setEntry] using hn
  have hok' := zdk hok.1 hy hyn;have hrel := zdl hok';refine zhC ?_;refine zkY ?_;refine zly ?_;obtain ⟨h41, h42⟩ := h4 y hy;have hborn : (setEntry y).born = y.2 := rfl;have hlen : (y.1.map iv).length = 4 := by simp [h41]
  have hdrop : List.drop 4 [AV.val (Value.int IntKind.i64 0), AV.val (Value.int IntKind.i64 0), AV.val (Value.int IntKind.i64 0), AV.val (Value.int IntKind.i64 0)] = [] := rfl;refine zl5 ?_;simp only [seval, hid', Array.back?_push, hborn, zcL hnd hy, zb7, h41, hlen, hdrop];refine zfK ?_;refine zfK ?_;refine zly ?_;rw [zdm];have hokC : HOk (H ++ [AObj.iter id ck ((vs ++ [y]).map (·.2)).toArray ck, .cells (y.1.map iv) 132]) := by
   have h1 : (H ++ [AObj.iter id ck ((vs ++ [y]).map (·.2)).toArray ck, .cells (y.1.map iv) 132]) = (H ++ [AObj.iter id ck ((vs ++ [y]).map (·.2)).toArray ck]) ++ [.cells (y.1.map iv) 132] := (by simp);rw [h1];refine zc6 (hokI _) fun z hz n => ?_;rw [List.mem_singleton.1 hz];intro a ha;obtain ⟨w, _, rfl⟩ := List.mem_map.1 ha;exact .val _
  refine zaB keys.length (fun i : Nat => [(6, uv (orM x y.1 (keys.take i))), (17, iv i)]) (fun _ => H ++ [.iter id ck ((vs ++ [y]).map (·.2)).toArray ck, .cells (y.1.map iv) 132]) (fun i => True) (fun _ _ => rfl) (by simp only [seval]; simp [zaf, Wk.refl]; exact Wk.refl _) rfl (fun _ _ _ => rfl) trivial (fun hHs2 hLt2 i hin hi R2 hR2 => ?_);refine zfK ?_;refine zhC ?_;refine ⟨fun h => ?_, fun h => ?_⟩
  ·
   have hil : i < keys.length := (by omega);obtain ⟨q, hq⟩ := zaE hil;obtain ⟨hq0, hq4⟩ := hkeys q (zas hq);obtain ⟨kn, rfl⟩ : ∃ m : Nat, q = m := ⟨q.toNat, by omega⟩;obtain ⟨w, hw⟩ := zaE (xs := y.1) (i := kn) (by omega);have hwb := h42 w (zas hw);obtain ⟨wn, rfl⟩ : ∃ n : Nat, w = n := ⟨w.toNat, by omega⟩;have b4 : (0 <= (kn : Int) /\ (kn : Int) < 4) = True := (by simp; omega);have b3 : (0 <= (wn : Int) /\ (wn : Int) < 3) = True := (by simp; omega);have hm := zdn (x := x) (by omega) kn wn;have ho := orM_lt (x := x) (by omega) y.1 (keys.take i);have hin : inTruth x y.1 (kn : Int).toNat = opensM x kn wn := (by unfold inTruth; rw [Int.toNat_natCast, u8z y.1 kn hw]; rfl);have sh4 : AV.shift 4 (.rp (x.l ++ opensL x)) = some (.rp (opensL x)) := (by simp [Ring.l, zdf, zdg]);have hi1 : IntKind.i64.wrap ((i : Int) + 1) = ((i + 1 : Nat) : Int) := (by rw [zau _ (by omega)]; rfl);refine zkY ?_;refine zl5 ?_;simp only [seval, za2 hq, zaz hil];refine zlC 12 ?_;simp only [seval, b4, b3, hr', zbf hw, sh4, zcH x (show kn < 4 by omega), zb0 x (show kn < 4 by omega) (show wn < 3 by omega), zlp, or_u8 ho hm];refine zl5 ?_;simp only [seval, hi1];refine hR2 _ ⟨hil, trivial, ?_⟩;rw [orM_take hq, hin];exact zlA
  ·
   have hix : i = keys.length := (by omega);subst hix;refine zlz ?_;rw [List.take_length];refine zl5 ?_;simp only [seval, hr', Ring.l, aLocks, ziv, mask_u8 hl4];refine zhC ?_;refine ⟨fun h2 => ?_, fun h2 => ?_⟩
   ·
    have hne : ¬ orM x y.1 keys = 2 ^ x.locks.length - 1 := by
     intro e2;rw [e2] at h2;simp at h2
    have hr : coverB x ts keys = false := by
     apply Bool.eq_false_iff.2;intro hc;exact hne (by simpa using List.all_eq_true.1 hc y hy)
    refine zfK ?_;refine zlj ?_;rw [hr] at hk;exact endV hH hk
   ·
    have heq : orM x y.1 keys = 2 ^ x.locks.length - 1 := by
     have h3 : ((orM x y.1 keys : Nat) : Int) = ((2 ^ x.locks.length - 1 : Nat) : Int) := (by simpa using h2);exact Int.ofNat_inj.1 h3
    refine zkY ?_;refine hR _ ⟨vs ++ [y], hrel, ⟨hok', fun z hz => ?_⟩, ?_⟩
    ·rcases List.mem_append.1 hz with h | h
     ·exact hok.2 z h
     ·rw [List.mem_singleton.1 h]; simpa using heq
    ·exact zat (zam rfl rfl) (by simp) (hokI _) (by simp)
 ·have hp : vs.Perm ts := zct hok.1.1 hnd hok.1.2 fun y hy => by
   have := hs (setEntry y) (by simp; exact ⟨y.1, y.2, hy, rfl⟩) (hb y hy);simpa [setEntry] using this
  have hr : coverB x ts keys = true := List.all_eq_true.2 fun y hy => hok.2 y (hp.mem_iff.2 hy);refine zhC ?_;refine zlz ?_;refine zfK ?_;refine zlj ?_;rw [hr] at hk;exact endV hH hk
theorem so_cover {l r id ck : Nat} {x : Ring} {ts : List (List Int × Nat)} (hl : H[l]? = some (.cells [.mp id] 118)) (hr : H[r]? = some (.cells [.rp (x.l ++ opensL x)] 100)) (hid : H[id]? = some (setObj ts ck)) (hb : ∀ y ∈ ts, y.2 < ck) (hnd : (ts.map (·.2)).Nodup) (hl4 : x.locks.length <= 4) (h4 : ∀ y ∈ ts, y.1.length = 4 /\ ∀ w ∈ y.1, 0 <= w /\ w <= 2) : SoC lv H (.fn (.func 114) [] [.op l 0, .op r 0]) (coverB x ts) (fun xs => (∀ q ∈ xs, 0 <= q /\ q < 4) /\ xs.length <= 6) := fun L xs e k kp hp h =>
 zlD (f114_c (zay hl) (zay hr) (zay hid) hb hnd hl4 h4 hp.1 (Nat.lt_of_le_of_lt hp.2 (by decide)) h)
theorem keysP {n : Nat} (hn : n <= 4) : ∀ k, k <= n -> ∀ y ∈ levelM n k, (∀ q ∈ y, 0 <= q /\ q < 4) /\ y.length <= 6 := fun k hk y hy => by
 obtain ⟨h1, h2⟩ := zfE n (by omega) k (by omega) y hy;refine ⟨fun q hq => ?_, by omega⟩;have := h2 q hq;omega
theorem f38_c {x : Ring} (hnr : NewRingC lv) (hmain : H[0]? = some .main) (hs : x.Small) (h1 : openingE x none ≠ 0 -> k (.tup [.sl 0 [] .exact, iv (openingE x none)]) H) (h2 : openingE x none = 0 -> coverM x = none -> k (.tup [.sl 0 [] .exact, iv 11]) H) (h3 : openingE x none = 0 -> ∀ xs, coverM x = some xs -> k (.tup [aInts xs, iv 0]) H) : FnC lv Tryz.prog 38 H [x.av] k kp := by
 have hmn : ∀ L : List AObj, (H ++ L)[0]? = some .main := fun L => zay hmain;refine zlu (rs := [.tmp 2, .tmp 3]) (nt := 33) Tryz.f38 fun hH hA => ?_;simp only [argsT, Nat.reduceAdd, Ring.av];refine zl5 ?_;simp only [seval, Ring.l];refine zfK ?_;refine zl6 ((f99_c hnr (hmn _) hs zbA (fun hz => ?_) (fun hz => ?_)))
 ·(try simp only [seval]);refine zfK ?_;refine zhC ?_;refine ⟨fun h => ?_, fun h => absurd (by simpa using h) hz⟩;refine zfK ?_;refine zlj ?_;exact endA hH (Wk.refl _) (by simp [zap, zaD, zbh]) (h1 hz)
 ·(try simp only [seval]);refine zfK ?_;obtain ⟨ho, hne⟩ := zaP.1 hz;have hx := zbp ho;have hx4 := hx.keys;have hx5 := hx.locks;have hle := zbl hx [];have hlk : x.l ++ opensL x = iv x.cuts :: aKeys x.keys :: aLocks x.locks :: aTries x.tries :: opensL x := rfl;refine zhC ?_;refine zkY ?_;refine zl5 ?_;simp only [seval, List.mapM_cons, List.mapM_nil, Option.pure_def, Option.bind_eq_bind, hlk, aKeys];refine zl6 ((f115_c (by omega) ?_));(try simp only [seval]);refine zl6 ((f113_c (P := fun xs => (∀ q ∈ xs, 0 <= q /\ q < 4) /\ xs.length <= 6) (by omega) (so_cover (l := H.length + 4) (r := H.length + 3) (id := H.length + 2) (by simp only [seval] <;> rfl) (by simp only [seval] <;> rfl) (by simp only [seval] <;> rfl) (zbm x []) (zba x []) hx5 (zbt hx [])) (keysP hx4) ?_));(try simp only [seval]);rw [show fewestM x.keys.length (coverB x (truthsM x [])) = coverM x from rfl];refine zfK ?_;refine zhC ?_;cases hm : coverM x with
  | none =>
   refine ⟨fun h => ?_, fun h => by simp at h⟩;refine zfK ?_;refine zlj ?_;exact endA hH (Wk.refl _) (by simp [zap, zaD, zbh]) (h2 hz hm)
  | some xs =>
   refine ⟨fun h => by simp at h, fun h => ?_⟩;refine zkY ?_;refine zfK ?_;refine zlj ?_;exact endA hH (Wk.refl _) (by simp [zap, zaD, zbi]) (h3 hz xs hm)
def pairsB (x : Ring) (t keys : List Int) : Bool := (List.range x.locks.length).all fun b => (List.range b).all fun a => apartM x t keys a b
def tellB (x : Ring) (ts : List (List Int × Nat)) (keys : List Int) : Bool := ts.all fun y => pairsB x y.1 keys
def tellM (x : Ring) : Option (List Int) := fewestM x.keys.length (tellB x (truthsM x []))
theorem f120_c {x : Ring} {keys : List Int} {e : End} {l r id ck : Nat} {ts : List (List Int × Nat)} (hl : H[l]? = some (.cells [.mp id] 118)) (hr : H[r]? = some (.cells [.rp (x.l ++ opensL x)] 100)) (hid : H[id]? = some (setObj ts ck)) (hb : ∀ y ∈ ts, y.2 < ck) (hnd : (ts.map (·.2)).Nodup) (hl4 : x.locks.length <= 4) (h4 : ∀ y ∈ ts, y.1.length = 4 /\ ∀ w ∈ y.1, 0 <= w /\ w <= 2) (hkeys : ∀ q ∈ keys, 0 <= q /\ q < 4) (hkl : keys.length < 2 ^ 30) (hk : k (bv (tellB x ts keys)) H) : FnC lv Tryz.prog 120 H [.sl keys.length (keys.map iv) e, .op l 0, .op r 0] k kp := by
 refine zlu (rs := [.tmp 4]) (nt := 36) Tryz.f120 fun hH hA => ?_;simp only [argsT, Nat.reduceAdd];rw [setObj] at hid;refine zfK ?_;refine zl5 ?_;simp only [seval, hl, hid];have hid' : ∀ L : List AObj, (H ++ L)[id]? = some (AObj.obj (Obj.map (List.map setEntry ts).toArray ck)) := fun L => zay hid;have hr' : ∀ L : List AObj, (H ++ L)[r]? = some (.cells [.rp (x.l ++ opensL x)] 100) := fun L => zay hr;have hall := zcO ts ck hb;have hokI : ∀ sn, HOk (H ++ [AObj.iter id ck sn ck]) := fun sn z hz => by
  have hl := get_lt hid;rcases List.mem_append.1 hz with h | h
  ·exact (hH z h).mono (by simp)
  ·rw [List.mem_singleton.1 h]; show id < _; simp; omega
 refine zly ?_;refine za9 (measure fun vs : List (List Int × Nat) => ts.length - vs.length).wf (fun vs => []) (fun vs => H ++ [.iter id ck (vs.map (·.2)).toArray ck]) (fun vs => ((vs.map (·.2)).Nodup /\ ∀ y ∈ vs, y ∈ ts) /\ ∀ y ∈ vs, pairsB x y.1 keys = true) [] (fun _ _ => rfl) (by simp) (by simp) (fun _ _ => by simp) ⟨⟨by simp, by simp⟩, by simp⟩ (fun hHs hLt vs hok R hR => ?_);refine zl5 ?_;simp only [seval, hid'];refine ⟨hall.elim .inl (fun h => .inr (.inl h)), fun e he hn => ?_, fun hs => ?_⟩
 ·obtain ⟨y, hy, rfl⟩ : ∃ y ∈ ts, setEntry y = e := by simpa using he
  have hyn : y.2 ∉ vs.map (·.2) := by simpa [setEntry] using hn
  have hok' := zdk hok.1 hy hyn;have hrel := zdl hok';refine zhC ?_;refine zkY ?_;refine zly ?_;obtain ⟨h41, h42⟩ := h4 y hy;have hborn : (setEntry y).born = y.2 := rfl;have hlen : (y.1.map iv).length = 4 := by simp [h41]
  have hdrop : List.drop 4 [AV.val (Value.int IntKind.i64 0), AV.val (Value.int IntKind.i64 0), AV.val (Value.int IntKind.i64 0), AV.val (Value.int IntKind.i64 0)] = [] := rfl;refine zl5 ?_;simp only [seval, hid', Array.back?_push, hborn, zcL hnd hy, zb7, h41, hlen, hdrop];rw [zdm];have hokC : HOk (H ++ [AObj.iter id ck ((vs ++ [y]).map (·.2)).toArray ck, .cells (y.1.map iv) 132]) := by
   have h1 : (H ++ [AObj.iter id ck ((vs ++ [y]).map (·.2)).toArray ck, .cells (y.1.map iv) 132]) = (H ++ [AObj.iter id ck ((vs ++ [y]).map (·.2)).toArray ck]) ++ [.cells (y.1.map iv) 132] := (by simp);rw [h1];refine zc6 (hokI _) fun z hz n => ?_;rw [List.mem_singleton.1 hz];intro a ha;obtain ⟨w, _, rfl⟩ := List.mem_map.1 ha;exact .val _
  refine zl5 ?_;simp only [seval, hr', Ring.l, aLocks];refine zly ?_;refine zlE x.locks.length (fun b : Nat => [(20, iv b)]) (fun _ => H ++ [.iter id ck ((vs ++ [y]).map (·.2)).toArray ck, .cells (y.1.map iv) 132]) (fun b => ∀ b' < b, ∀ a < b', apartM x y.1 keys a b' = true) (fun b hb => by omega) (fun hHs2 hLt2 b hbn hbo R2 hR2 => ?_);refine zfK ?_;refine zhC ?_;refine ⟨fun h => ?_, fun h => ?_⟩
  ·
   have hbl : b < x.locks.length := (by omega);refine zkY ?_;refine zfK ?_;refine zfK ?_;refine zly ?_;refine zlE b (fun a : Nat => [(24, iv a)]) (fun _ => H ++ [.iter id ck ((vs ++ [y]).map (·.2)).toArray ck, .cells (y.1.map iv) 132]) (fun a => ∀ a' < a, apartM x y.1 keys a' b = true) (fun a ha => by omega) (fun hHs3 hLt3 a han hao R3 hR3 => ?_);refine zfK ?_;refine zhC ?_;refine ⟨fun h2 => ?_, fun h2 => ?_⟩
   ·
    have hab : a < b := (by omega);refine zkY ?_;refine zfK ?_;have htk : List.take 4 (y.1.map iv) = y.1.map iv := List.take_of_length_le (by omega);refine zl5 ?_;simp only [seval, hr', hlen, htk];refine zl6 ((f117_c (x := x) (by omega) h41 h42 hkeys hkl ?_));(try simp only [seval]);refine zhC ?_;refine ⟨fun h3 => ?_, fun h3 => ?_⟩
    ·
     have hr : tellB x ts keys = false := by
      apply Bool.eq_false_iff.2;intro hc;have h4 := List.all_eq_true.1 hc y hy;have h5 := List.all_eq_true.1 h4 b (List.mem_range.2 hbl);have h6 := List.all_eq_true.1 h5 a (List.mem_range.2 hab);rw [h6] at h3; simp at h3
     refine zfK ?_;refine zlj ?_;rw [hr] at hk;exact endV hH hk
    ·
     have ha1 : IntKind.i64.wrap ((a : Int) + 1) = ((a + 1 : Nat) : Int) := (by rw [zau _ (by omega)]; rfl);refine zkY ?_;refine zl5 ?_;simp only [seval, ha1];refine hR3 _ ⟨hab, fun a' ha' => ?_, ?_⟩
     ·by_cases e3 : a' = a
      ·subst e3; simpa using h3
      ·exact hao a' (by omega)
     ·exact zlA
   ·
    have hax : a = b := (by omega);subst hax;refine zlz ?_;have hb1 : IntKind.i64.wrap ((a : Int) + 1) = ((a + 1 : Nat) : Int) := (by rw [zau _ (by omega)]; rfl);refine zl5 ?_;simp only [seval, hb1];refine hR2 _ ⟨hbl, fun b' hb' a' ha' => ?_, ?_⟩
    ·by_cases e3 : b' = a
     ·subst e3; exact hao a' ha'
     ·exact hbo b' (by omega) a' ha'
    ·exact zlA
  ·
   have hbx : b = x.locks.length := (by omega);subst hbx;refine zlz ?_;have heq : pairsB x y.1 keys = true := List.all_eq_true.2 fun b hb => List.all_eq_true.2 fun a ha => hbo b (List.mem_range.1 hb) a (List.mem_range.1 ha);refine hR _ ⟨vs ++ [y], hrel, ⟨hok', fun z hz => ?_⟩, ?_⟩
   ·rcases List.mem_append.1 hz with h | h
    ·exact hok.2 z h
    ·rw [List.mem_singleton.1 h]; exact heq
   ·exact zat (zam rfl rfl) (by simp) (hokI _) (by simp)
 ·have hp : vs.Perm ts := zct hok.1.1 hnd hok.1.2 fun y hy => by
   have := hs (setEntry y) (by simp; exact ⟨y.1, y.2, hy, rfl⟩) (hb y hy);simpa [setEntry] using this
  have hr : tellB x ts keys = true := List.all_eq_true.2 fun y hy => hok.2 y (hp.mem_iff.2 hy);refine zhC ?_;refine zlz ?_;refine zfK ?_;refine zlj ?_;rw [hr] at hk;exact endV hH hk
theorem so_tell {l r id ck : Nat} {x : Ring} {ts : List (List Int × Nat)} (hl : H[l]? = some (.cells [.mp id] 118)) (hr : H[r]? = some (.cells [.rp (x.l ++ opensL x)] 100)) (hid : H[id]? = some (setObj ts ck)) (hb : ∀ y ∈ ts, y.2 < ck) (hnd : (ts.map (·.2)).Nodup) (hl4 : x.locks.length <= 4) (h4 : ∀ y ∈ ts, y.1.length = 4 /\ ∀ w ∈ y.1, 0 <= w /\ w <= 2) : SoC lv H (.fn (.func 120) [] [.op l 0, .op r 0]) (tellB x ts) (fun xs => (∀ q ∈ xs, 0 <= q /\ q < 4) /\ xs.length <= 6) := fun L xs e k kp hp h =>
 zlD (f120_c (zay hl) (zay hr) (zay hid) hb hnd hl4 h4 hp.1 (Nat.lt_of_le_of_lt hp.2 (by decide)) h)
theorem f42_c {x : Ring} (hnr : NewRingC lv) (hmain : H[0]? = some .main) (hs : x.Small) (h1 : openingE x none ≠ 0 -> k (.tup [.sl 0 [] .exact, iv (openingE x none)]) H) (h2 : openingE x none = 0 -> tellM x = none -> k (.tup [.sl 0 [] .exact, iv 11]) H) (h3 : openingE x none = 0 -> ∀ xs, tellM x = some xs -> k (.tup [aInts xs, iv 0]) H) : FnC lv Tryz.prog 42 H [x.av] k kp := by
 have hmn : ∀ L : List AObj, (H ++ L)[0]? = some .main := fun L => zay hmain;refine zlu (rs := [.tmp 2, .tmp 3]) (nt := 33) Tryz.f42 fun hH hA => ?_;simp only [argsT, Nat.reduceAdd, Ring.av];refine zl5 ?_;simp only [seval, Ring.l];refine zfK ?_;refine zl6 ((f99_c hnr (hmn _) hs zbA (fun hz => ?_) (fun hz => ?_)))
 ·(try simp only [seval]);refine zfK ?_;refine zhC ?_;refine ⟨fun h => ?_, fun h => absurd (by simpa using h) hz⟩;refine zfK ?_;refine zlj ?_;exact endA hH (Wk.refl _) (by simp [zap, zaD, zbh]) (h1 hz)
 ·(try simp only [seval]);refine zfK ?_;obtain ⟨ho, hne⟩ := zaP.1 hz;have hx := zbp ho;have hx4 := hx.keys;have hx5 := hx.locks;have hle := zbl hx [];have hlk : x.l ++ opensL x = iv x.cuts :: aKeys x.keys :: aLocks x.locks :: aTries x.tries :: opensL x := rfl;refine zhC ?_;refine zkY ?_;refine zl5 ?_;simp only [seval, List.mapM_cons, List.mapM_nil, Option.pure_def, Option.bind_eq_bind, hlk, aKeys];refine zl6 ((f115_c (by omega) ?_));(try simp only [seval]);refine zl6 ((f113_c (P := fun xs => (∀ q ∈ xs, 0 <= q /\ q < 4) /\ xs.length <= 6) (by omega) (so_tell (l := H.length + 4) (r := H.length + 3) (id := H.length + 2) (by simp only [seval] <;> rfl) (by simp only [seval] <;> rfl) (by simp only [seval] <;> rfl) (zbm x []) (zba x []) hx5 (zbt hx [])) (keysP hx4) ?_));(try simp only [seval]);rw [show fewestM x.keys.length (tellB x (truthsM x [])) = tellM x from rfl];refine zfK ?_;refine zhC ?_;cases hm : tellM x with
  | none =>
   refine ⟨fun h => ?_, fun h => by simp at h⟩;refine zfK ?_;refine zlj ?_;exact endA hH (Wk.refl _) (by simp [zap, zaD, zbh]) (h2 hz hm)
  | some xs =>
   refine ⟨fun h => by simp at h, fun h => ?_⟩;refine zkY ?_;refine zfK ?_;refine zlj ?_;exact endA hH (Wk.refl _) (by simp [zap, zaD, zbi]) (h3 hz xs hm)
def sameB (x : Ring) (ts : List (List Int × Nat)) (keys : List Int) (a b : Nat) : Bool := ts.all fun y => !apartM x y.1 keys a b
def alikeTo (x : Ring) (ts : List (List Int × Nat)) (keys : List Int) : Nat -> List Int × Nat
 | 0 => ([], 0)
 | b + 1 => match (List.range b).find? fun a => sameB x ts keys a b with
  | some a => ((alikeTo x ts keys b).1 ++ [(alikeTo x ts keys b).1.getD a 0], (alikeTo x ts keys b).2)
  | none => ((alikeTo x ts keys b).1 ++ [((alikeTo x ts keys b).2 : Int)], (alikeTo x ts keys b).2 + 1)
def alikeM (x : Ring) : List Int := (alikeTo x (truthsM x []) (belowM x.keys.length) x.locks.length).1
theorem zeV (x : Ring) (ts : List (List Int × Nat)) (keys : List Int) : ∀ b, (alikeTo x ts keys b).1.length = b
 | 0 => rfl
 | b + 1 => by
  unfold alikeTo;split <;> simp [zeV x ts keys b]
theorem zfi (x : Ring) (ts : List (List Int × Nat)) (keys : List Int) : ∀ b, (alikeTo x ts keys b).2 <= b
 | 0 => Nat.le_refl _
 | b + 1 => by
  have := zfi x ts keys b;unfold alikeTo;split <;> simp <;> omega
theorem zjl {f : Nat -> Bool} {a b : Nat} (hab : a < b) (hf : f a = true) (h : ∀ a' < a, f a' = false) : (List.range b).find? f = some a :=
 zfN (j := a) (by simp [hab]) hf fun y hy => by
  have : List.take a (List.range b) = List.range a := by rw [List.take_range, Nat.min_eq_left (by omega)]
  rw [this] at hy;exact h y (List.mem_range.1 hy)
theorem zeF {f : Nat -> Bool} {b : Nat} (h : ∀ a' < b, f a' = false) : (List.range b).find? f = none := zdt fun y hy => h y (List.mem_range.1 hy)
theorem f40_c {x : Ring} (hnr : NewRingC lv) (hmain : H[0]? = some .main) (hs : x.Small) (h1 : openingE x none ≠ 0 -> k (.tup [.sl 0 [] .exact, iv (openingE x none)]) H) (h2 : openingE x none = 0 -> k (.tup [aInts (alikeM x), iv 0]) H) : FnC lv Tryz.prog 40 H [x.av] k kp := by
 have hmn : ∀ L : List AObj, (H ++ L)[0]? = some .main := fun L => zay hmain;refine zlu (rs := [.tmp 2, .tmp 3]) (nt := 70) Tryz.f40 fun hH hA => ?_;simp only [argsT, Nat.reduceAdd, Ring.av];refine zl5 ?_;simp only [seval, Ring.l];(repeat apply zaa);refine zcb ?_;refine zfK ?_;refine zl6 ((f99_c hnr (hmn _) hs zbA (fun hz => ?_) (fun hz => ?_)))
 ·(try simp only [seval]);refine zfK ?_;refine zhC ?_;refine ⟨fun h => ?_, fun h => absurd (by simpa using h) hz⟩;refine zfK ?_;refine zlj ?_;exact endA hH (Wk.refl _) (by simp [zap, zaD, zbh]) (h1 hz)
 ·(try simp only [seval]);refine zfK ?_;obtain ⟨ho, hne⟩ := zaP.1 hz;have hx := zbp ho;have hx4 := hx.keys;have hx5 := hx.locks;have hle := zbl hx [];have hlk : x.l ++ opensL x = iv x.cuts :: aKeys x.keys :: aLocks x.locks :: aTries x.tries :: opensL x := rfl;have hkeys : ∀ q ∈ belowM x.keys.length, 0 <= q /\ q < 4 := fun q hq => by
   obtain ⟨m, hm, rfl⟩ := List.mem_map.1 hq;have := List.mem_range.1 hm;omega
  refine zhC ?_;refine zkY ?_;refine zl5 ?_;simp only [seval, hlk, aKeys];refine zl6 ((f115_c (by omega) ?_));(try simp only [seval]);refine zfK ?_
  (repeat apply zaa); refine zbV (t := 8) (sz := 1) (el := 3) (by simp only [seval] <;> rfl) ?_
  refine zfK ?_;(repeat apply zaa);refine zbQ ?_;simp only [seval];refine zl5 ?_;simp only [seval, aLocks];refine zly ?_;let ts := truthsM x [];let keys := belowM x.keys.length;let al := alikeTo x ts keys;have hal : ∀ b, (al b).1.length = b := zeV x ts keys;have hb := zbm x [];have hnd := zba x [];have h4 := zbt hx [];have hall := zcO (truthsM x []) (wears0 x).length hb;refine zaB x.locks.length (fun b : Nat => [(8, .sl b ((al b).1.map iv) (.opn (H.length + 3))), (9, iv (al b).2), (35, iv b)]) (fun b => H ++ [.cells x.l 26, .cells x.l 26, setObj (truthsM x []) (wears0 x).length, .tail b 1 3]) (fun _ => True) (fun _ _ => rfl) (by simp only [seval]; simp [zaf, Wk.refl]; first | exact Wk.refl _ | exact ⟨Wk.refl _, Wk.refl _⟩) rfl (fun _ _ _ => by simp) trivial (fun hHs hLt b hbn hbo R hR => ?_);refine zfK ?_;refine zhC ?_;refine ⟨fun h => ?_, fun h => ?_⟩
  ·
   have hbl : b < x.locks.length := (by omega);have hb1 : IntKind.i64.wrap ((b : Int) + 1) = ((b + 1 : Nat) : Int) := (by rw [zau _ (by omega)]; rfl);have hml : (al b).2 <= b := zfi x ts keys b;have hm1 : IntKind.i64.wrap (((al b).2 : Int) + 1) = (((al b).2 + 1 : Nat) : Int) := (by rw [zau _ (by omega)]; rfl);refine zkY ?_;refine zfK ?_;(repeat apply zaa);refine zcb ?_;(repeat apply zaa);refine zbQ ?_;simp only [seval];refine zfK ?_;refine zly ?_;refine zlE b (fun a : Nat => [(39, iv a)]) (fun _ => H ++ [.cells x.l 26, .cells x.l 26, setObj (truthsM x []) (wears0 x).length, .tail b 1 3]) (fun a => ∀ a' < a, sameB x ts keys a' b = false) (fun a ha => by omega) (fun hHs2 hLt2 a han hao R2 hR2 => ?_);refine zfK ?_;refine zhC ?_;refine ⟨fun h2 => ?_, fun h2 => ?_⟩
   ·
    have hab : a < b := (by omega);have ha1 : IntKind.i64.wrap ((a : Int) + 1) = ((a + 1 : Nat) : Int) := (by rw [zau _ (by omega)]; rfl);have hokB : HOk (H ++ [AObj.cells x.l 26, .cells x.l 26, setObj (truthsM x []) (wears0 x).length, .tail b 1 3]) := hHs2;have hokT : ∀ m, HOk (H ++ [AObj.cells x.l 26, .cells x.l 26, setObj (truthsM x []) (wears0 x).length, .tail m 1 3]) := fun m => by
     have h1 := zec (H := H ++ [AObj.cells x.l 26, .cells x.l 26, setObj (truthsM x []) (wears0 x).length]) (L := []) (o := .tail b 1 3) (o' := .tail m 1 3) (by simpa using hokB) (fun _ => trivial);simpa using h1
    have hokI : ∀ sn, HOk (H ++ [AObj.cells x.l 26, .cells x.l 26, setObj (truthsM x []) (wears0 x).length, .tail b 1 3, .iter (H.length + 1 + 1) (wears0 x).length sn (wears0 x).length]) := fun sn => by
     have h1 : (H ++ [AObj.cells x.l 26, .cells x.l 26, setObj (truthsM x []) (wears0 x).length, .tail b 1 3, .iter (H.length + 1 + 1) (wears0 x).length sn (wears0 x).length]) = (H ++ [AObj.cells x.l 26, .cells x.l 26, setObj (truthsM x []) (wears0 x).length, .tail b 1 3]) ++ [.iter (H.length + 1 + 1) (wears0 x).length sn (wears0 x).length] := (by simp);rw [h1];intro z hz;rcases List.mem_append.1 hz with h | h
     ·exact (hokB z h).mono (by simp)
     ·rw [List.mem_singleton.1 h]; show H.length + 1 + 1 < _; simp
    refine zkY ?_;refine zfK ?_;refine zl5 ?_;simp only [seval, zaL];refine zly ?_;refine za9 (measure fun vs : List (List Int × Nat) => (truthsM x []).length - vs.length).wf (fun vs => []) (fun vs => H ++ [.cells x.l 26, .cells x.l 26, setObj (truthsM x []) (wears0 x).length, .tail b 1 3, .iter (H.length + 1 + 1) (wears0 x).length (vs.map (·.2)).toArray (wears0 x).length]) (fun vs => ((vs.map (·.2)).Nodup /\ ∀ y ∈ vs, y ∈ truthsM x []) /\ ∀ y ∈ vs, apartM x y.1 keys a b = false) [] (fun _ _ => rfl) (by simp) (by simp [zaL]) (fun _ _ => by simp) ⟨⟨by simp, by simp⟩, by simp⟩ (fun hHs3 hLt3 vs hok R3 hR3 => ?_);refine zl5 ?_;simp only [seval, zaL];refine ⟨hall.elim .inl (fun h => .inr (.inl h)), fun e he hn => ?_, fun hs => ?_⟩
    ·obtain ⟨y, hy, rfl⟩ : ∃ y ∈ truthsM x [], setEntry y = e := (by simpa using he);have hyn : y.2 ∉ vs.map (·.2) := (by simpa [setEntry] using hn);have hok' := zdk hok.1 hy hyn;have hrel := zdl hok';refine zhC ?_;refine zkY ?_;refine zly ?_;obtain ⟨h41, h42⟩ := h4 y hy;have hborn : (setEntry y).born = y.2 := rfl;have hlen : (y.1.map iv).length = 4 := (by simp [h41]);have hdrop : List.drop 4 [AV.val (Value.int IntKind.i64 0), AV.val (Value.int IntKind.i64 0), AV.val (Value.int IntKind.i64 0), AV.val (Value.int IntKind.i64 0)] = [] := rfl;have htk : List.take 4 (y.1.map iv) = y.1.map iv := List.take_of_length_le (by omega);refine zl5 ?_;simp only [seval, zaL, Array.back?_push, hborn, zcL hnd hy, zb7, h41, hlen, hdrop];refine zl5 ?_;simp only [seval, hlen, htk];refine zl6 ((f117_c (x := x) (t := y.1) (keys := belowM x.keys.length) (e := .shut) (a := a) (b := b) (by omega) h41 h42 hkeys (by rw [zca]; omega) ?_));(try simp only [seval]);refine zhC ?_;refine ⟨fun h3 => ?_, fun h3 => ?_⟩
     ·
      refine zlz ?_;refine zl5 ?_;simp only [seval, ha1];have hf : sameB x ts keys a b = false := by
       apply Bool.eq_false_iff.2;intro hc;have h5 := List.all_eq_true.1 hc y hy;have h6 : apartM x y.1 keys a b = true := h3;rw [h6] at h5; simp at h5
      refine hR2 _ ⟨hab, fun a' ha' => ?_, ?_⟩
      ·by_cases e3 : a' = a
       ·subst e3; exact hf
       ·exact hao a' (by omega)
      ·exact zat (zam rfl rfl) (by simp only [seval]; simp [zaf, Wk.refl]) hokB (by simp [zap])
     ·
      refine zkY ?_;rw [zdm];refine hR3 _ ⟨vs ++ [y], hrel, ⟨hok', fun z hz => ?_⟩, ?_⟩
      ·rcases List.mem_append.1 hz with h | h
       ·exact hok.2 z h
       ·rw [List.mem_singleton.1 h]; exact h3
      ·exact zat (zam rfl rfl) (by simp) (hokI _) (by simp)
    ·have hp : vs.Perm (truthsM x []) := zct hok.1.1 hnd hok.1.2 fun y hy => by
      have := hs (setEntry y) (by simp; exact ⟨y.1, y.2, hy, rfl⟩) (hb y hy);simpa [setEntry] using this
     have hf : sameB x ts keys a b = true := List.all_eq_true.2 fun y hy => by
      rw [hok.2 y (hp.mem_iff.2 hy)]; rfl
     have hfd := zjl hab hf hao;have hsucc : al (b + 1) = ((al b).1 ++ [(al b).1.getD a 0], (al b).2) := by
      show alikeTo x ts keys (b + 1) = _;rw [alikeTo, hfd]
     obtain ⟨v, hv⟩ := zaE (xs := (al b).1) (i := a) (by rw [hal]; exact hab);have hgv := u8z (al b).1 a hv;refine zhC ?_;refine zlz ?_;refine zl5 ?_;simp only [seval, za2 hv, zaz hab, z1, pow24, hal];refine ⟨by omega, ?_⟩;refine zlz ?_;refine zl5 ?_;simp only [seval, hb1];refine hR _ ⟨hbl, trivial, ?_⟩;rw [hsucc, hgv, List.map_append];exact zat (zam rfl rfl) (by simp only [seval]; simp [zaf, Wk.refl]) (hokT (b + 1)) (by simp [zap, zdq]; rintro a (⟨w, _, rfl⟩ | rfl) <;> exact .val _)
   ·
    have hax : a = b := (by omega);subst hax;refine zlz ?_;refine zl5 ?_;simp only [seval, z1, pow24, hal];refine ⟨by omega, ?_⟩;refine zl5 ?_;simp only [seval, hm1];refine zl5 ?_;simp only [seval, hb1];have hfd := zeF hao;have hsucc : al (a + 1) = ((al a).1 ++ [((al a).2 : Int)], (al a).2 + 1) := by
     show alikeTo x ts keys (a + 1) = _;rw [alikeTo, hfd]
    refine hR _ ⟨hbl, trivial, ?_⟩;rw [hsucc, List.map_append];exact zlA
  ·
   have hbx : b = x.locks.length := (by omega);subst hbx;refine zlz ?_;refine zfK ?_;refine zlj ?_;have ea : aInts (alikeM x) = .sl x.locks.length ((al x.locks.length).1.map iv) .shut := by
    unfold aInts;rw [show (alikeM x).length = x.locks.length from hal _]; rfl
   rw [ea] at h2;exact endA hH (zdC (zaK _ _ _) (Wk.refl _)) (by simp [zap, zaD, za3]) (h2 hz)
def whichFl (x : Ring) (us : List Turn) : Option Int := if us.length <= 6 then (if us.all fun u => inM u.key 0 (x.keys.length - 1) then none else some 0) else some 3
theorem zf3 {x : Ring} {us : List Turn} : whichFl x us = none <-> us.length <= 6 /\ ∀ u ∈ us, 0 <= u.key /\ u.key <= x.keys.length - 1 := by
 unfold whichFl;split
 ·split
  ·rename_i h1 h2;simp only [true_iff];refine ⟨h1, fun u hu => zbU.1 (List.all_eq_true.1 h2 u hu)⟩
  ·rename_i h1 h2;simp only [reduceCtorEq, false_iff];intro h;exact h2 (List.all_eq_true.2 fun u hu => zbU.2 (h.2 u hu))
 ·rename_i h1;simp only [reduceCtorEq, false_iff];intro h; exact h1 h.1
theorem f121_c {r i : Nat} {x : Ring} {us : List Turn} (hx : x.Small) (hul : us.length < 2 ^ 30) (hr : H[r]? = some (.cells [aTurns us] 50)) (hi : H[i]? = some (.cells x.l 26)) (hk : whichFl x us = none -> k (.tup []) H) (hp : ∀ f, whichFl x us = some f -> kp (.ifc 106 (iv f)) H) : FnC lv Tryz.prog 121 H [.op r 0, .op i 0] k kp := by
 refine zlu (rs := []) (nt := 20) Tryz.f121 fun hH hA => ?_;simp only [argsT, Nat.reduceAdd];have hi2 := hi;rw [Ring.l] at hi2;refine zl5 ?_;simp only [seval, hr, aTurns];refine zl6 ((f90_c (fun h => ?_) (fun h => ?_)))
 ·have h5 : (us.length : Int) <= 6 := by simpa using h
  have h6 : us.length <= 6 := by omega
  (try simp only [seval]);refine zl5 ?_;simp only [seval, hr, aTurns];refine zly ?_;refine zlE us.length (fun i : Nat => [(10, iv i)]) (fun _ => H) (fun i => (us.take i).all (fun u => inM u.key 0 (x.keys.length - 1)) = true) (by simp) (fun hHs hLt j hjn hj R hR => ?_);refine zfK ?_;refine zhC ?_;refine ⟨fun h2 => ?_, fun h2 => ?_⟩
  ·have hjl : j < us.length := (by omega);obtain ⟨u, hu⟩ := zaE hjl;have hj1 : IntKind.i64.wrap ((j : Int) + 1) = ((j + 1 : Nat) : Int) := (by rw [zau _ (by omega)]; rfl);have htk : (us.take (j + 1)).all (fun u => inM u.key 0 (x.keys.length - 1)) = ((us.take j).all (fun u => inM u.key 0 (x.keys.length - 1)) && inM u.key 0 (x.keys.length - 1)) := by
    obtain ⟨hj', rfl⟩ := List.getElem?_eq_some_iff.1 hu;rw [List.take_succ_eq_append_getElem hj', List.all_append]; simp
   refine zkY ?_;refine zl5 ?_;simp only [seval, zh5 hu, zaz hjl];refine zl5 ?_;simp only [seval, zay hi2];refine zl6 ((f89_c (x := x) ?_));(try simp only [seval]);refine zl6 ((f152_c hx (by simp only [seval] <;> rfl) (by simp only [seval] <;> rfl) (fun hin => ?_) (fun hin => ?_)))
   ·(try simp only [seval]);refine zl5 ?_;simp only [seval, hj1];refine hR _ ⟨hjl, by rw [htk, hj, hin]; rfl, ?_⟩;exact (zlF hHs)
   ·(try simp only [seval]);have hw : whichFl x us = some 0 := by
     unfold whichFl;rw [if_pos h6, if_neg];intro hc;have := List.all_eq_true.1 hc u (zas hu);rw [hin] at this; cases this
    exact zaJ (Wk.refl _) rfl (Nat.le_refl _) hH (by simp [zap, zey]) (hp 0 hw)
  ·have hjx : j = us.length := (by omega);subst hjx;rw [List.take_length] at hj;refine zlz ?_;have hw : whichFl x us = none := by
    unfold whichFl;rw [if_pos h6, if_pos hj]
   exact zao (hk hw)
 ·have h5 : ¬ (us.length : Int) <= 6 := by simpa using h
  have h6 : ¬ us.length <= 6 := by omega
  exact zao (hp 3 (by unfold whichFl; rw [if_neg h6]))
theorem zlg {r i : Nat} {x : Ring} {us : List Turn} (hx : x.Small) (hul : us.length < 2 ^ 30) (hr : H[r]? = some (.cells [aTurns us] 50)) (hi : H[i]? = some (.cells x.l 26)) : AskC lv H (.fn (.func 121) [] [.op r 0, .op i 0]) (whichFl x us) := fun L k kp h1 h2 =>
 zlD (f121_c hx hul (zay hr) (zay hi) h1 h2)
def fitsB (x : Ring) (t : List Int) (n : Nat) (u : Turn) : Bool := (inTruth x t u.key.toNat).testBit n == u.opens
def bagB (x : Ring) (ts : List (List Int × Nat)) (us : List Turn) (n : Nat) : Bool := ts.any fun y => us.all (fitsB x y.1 n)
def whichTo (x : Ring) (us : List Turn) (n : Nat) : List Int := ((List.range n).filter (bagB x (truthsM x []) us)).map fun i : Nat => (i : Int)
def whichM (x : Ring) (us : List Turn) : List Int := whichTo x us x.locks.length
theorem ziB (x : Ring) (us : List Turn) (n : Nat) : (whichTo x us n).length <= n := by
 unfold whichTo;rw [List.length_map];have := List.length_filter_le (bagB x (truthsM x []) us) (List.range n);simpa using this
theorem zdS (x : Ring) (us : List Turn) (n : Nat) : whichTo x us (n + 1) = whichTo x us n ++ (if bagB x (truthsM x []) us n then [(n : Int)] else []) := by
 unfold whichTo;rw [List.range_succ, List.filter_append, List.map_append];congr 1;by_cases h : bagB x (truthsM x []) us n = true <;> simp [h]
theorem f46_c {x : Ring} {us : List Turn} (hnr : NewRingC lv) (hmain : H[0]? = some .main) (hs : x.Small) (hul : us.length < 2 ^ 30) (h1 : openingE x (whichFl x us) ≠ 0 -> k (.tup [.sl 0 [] .exact, iv (openingE x (whichFl x us))]) H) (h2 : openingE x (whichFl x us) = 0 -> k (.tup [aInts (whichM x us), iv 0]) H) : FnC lv Tryz.prog 46 H [x.av, aTurns us] k kp := by
 have hmn : ∀ L : List AObj, (H ++ L)[0]? = some .main := fun L => zay hmain;refine zlu (rs := [.tmp 4, .tmp 5]) (nt := 81) Tryz.f46 fun hH hA => ?_;simp only [argsT, Nat.reduceAdd, Ring.av];refine zl5 ?_;simp only [seval, Ring.l, aTurns];(repeat apply zaa);refine zcb ?_;refine zl5 ?_;simp only [seval, List.mapM_cons, List.mapM_nil, Option.pure_def, Option.bind_eq_bind];have hask : AskC lv (H ++ [.cells x.l 26, .cells [aTurns us] 50]) _ (whichFl x us) := zlg (r := H.length + 1) (i := H.length) hs hul (by simp only [seval]) (by simp only [seval]);refine zl6 ((f99_c hnr (hmn _) hs hask (fun hz => ?_) (fun hz => ?_)))
 ·(try simp only [seval]);refine zfK ?_;refine zhC ?_;refine ⟨fun h => ?_, fun h => absurd (by simpa using h) hz⟩;refine zfK ?_;refine zlj ?_;exact endA hH (Wk.refl _) (by simp [zap, zaD, zbh]) (h1 hz)
 ·(try simp only [seval]);refine zfK ?_;obtain ⟨ho, hne⟩ := zaP.1 hz;have hx := zbp ho;have hx4 := hx.keys;have hx5 := hx.locks;have hle := zbl hx [];have hlk : x.l ++ opensL x = iv x.cuts :: aKeys x.keys :: aLocks x.locks :: aTries x.tries :: opensL x := rfl;obtain ⟨hu6, hus⟩ := zf3.1 (zaN.1 ho).2;refine zhC ?_;refine zkY ?_;refine zfK ?_
  (repeat apply zaa); refine zbV (t := 9) (sz := 1) (el := 3) (by simp only [seval] <;> rfl) ?_
  (repeat apply zaa);refine zbQ ?_;simp only [seval];refine zl5 ?_;simp only [seval, hlk, aLocks];refine zly ?_;have hb := zbm x [];have hnd := zba x [];have h4 := zbt hx [];have hall := zcO (truthsM x []) (wears0 x).length hb;have hg3 : ∀ L : List AObj, (H ++ L)[H.length + 2 + 1]? = L[3]? := fun L => zbD H L 3;refine zaB x.locks.length (fun n : Nat => [(9, .sl (whichTo x us n).length ((whichTo x us n).map iv) (.opn (H.length + 4))), (31, iv n)]) (fun n => H ++ [AObj.cells x.l 26, .cells [aTurns us] 50, .cells x.l 26, setObj (truthsM x []) (wears0 x).length, .tail (whichTo x us n).length 1 3]) (fun _ => True) (fun _ _ => rfl) (by simp only [seval]; simp [zaf, Wk.refl]; first | exact Wk.refl _ | exact ⟨Wk.refl _, Wk.refl _⟩) rfl (fun _ _ _ => by simp) trivial (fun hHs hLt n hnn hno R hR => ?_);refine zfK ?_;refine zhC ?_;refine ⟨fun h => ?_, fun h => ?_⟩
  ·
   have hnl : n < x.locks.length := (by omega);have hn1 : IntKind.i64.wrap ((n : Int) + 1) = ((n + 1 : Nat) : Int) := (by rw [zau _ (by omega)]; rfl);have hwl := ziB x us n;have hokB0 : HOk (H ++ [AObj.cells x.l 26, .cells [aTurns us] 50, .cells x.l 26, setObj (truthsM x []) (wears0 x).length, .tail 0 1 3]) := hHs;have hokB : ∀ m, HOk (H ++ [AObj.cells x.l 26, .cells [aTurns us] 50, .cells x.l 26, setObj (truthsM x []) (wears0 x).length, .tail m 1 3]) := fun m => by
    have h1 := zec (H := H ++ [AObj.cells x.l 26, .cells [aTurns us] 50, .cells x.l 26, setObj (truthsM x []) (wears0 x).length]) (L := []) (o := .tail 0 1 3) (o' := .tail m 1 3) (by simpa using hokB0) (fun _ => trivial);simpa using h1
   have hokI : ∀ m sn, HOk (H ++ [AObj.cells x.l 26, .cells [aTurns us] 50, .cells x.l 26, setObj (truthsM x []) (wears0 x).length, .tail m 1 3, .iter (H.length + 2 + 1) (wears0 x).length sn (wears0 x).length]) := fun m sn => by
    have h1 : (H ++ [AObj.cells x.l 26, .cells [aTurns us] 50, .cells x.l 26, setObj (truthsM x []) (wears0 x).length, .tail m 1 3, .iter (H.length + 2 + 1) (wears0 x).length sn (wears0 x).length]) = (H ++ [AObj.cells x.l 26, .cells [aTurns us] 50, .cells x.l 26, setObj (truthsM x []) (wears0 x).length, .tail m 1 3]) ++ [.iter (H.length + 2 + 1) (wears0 x).length sn (wears0 x).length] := (by simp);rw [h1];intro z hz;rcases List.mem_append.1 hz with h | h
    ·exact (hokB m z h).mono (by simp)
    ·rw [List.mem_singleton.1 h]; show H.length + 2 + 1 < _; simp
   have hokC : ∀ m sn (t : List Int), HOk (H ++ [AObj.cells x.l 26, .cells [aTurns us] 50, .cells x.l 26, setObj (truthsM x []) (wears0 x).length, .tail m 1 3, .iter (H.length + 2 + 1) (wears0 x).length sn (wears0 x).length, .cells (t.map iv) 132]) := fun m sn t => by
    have h1 : (H ++ [AObj.cells x.l 26, .cells [aTurns us] 50, .cells x.l 26, setObj (truthsM x []) (wears0 x).length, .tail m 1 3, .iter (H.length + 2 + 1) (wears0 x).length sn (wears0 x).length, .cells (t.map iv) 132]) = (H ++ [AObj.cells x.l 26, .cells [aTurns us] 50, .cells x.l 26, setObj (truthsM x []) (wears0 x).length, .tail m 1 3, .iter (H.length + 2 + 1) (wears0 x).length sn (wears0 x).length]) ++ [.cells (t.map iv) 132] := (by simp);rw [h1];refine zc6 (hokI m sn) fun z hz n => ?_;rw [List.mem_singleton.1 hz];intro a ha;obtain ⟨w, _, rfl⟩ := List.mem_map.1 ha;exact .val _
   refine zkY ?_;refine zfK ?_;(repeat apply zaa);refine zcb ?_;(repeat apply zaa);refine zbQ ?_;simp only [seval];refine zl5 ?_;simp only [seval, zaL, hg3];refine zly ?_;refine za9 (measure fun vs : List (List Int × Nat) => (truthsM x []).length - vs.length).wf (fun vs => []) (fun vs => H ++ [AObj.cells x.l 26, .cells [aTurns us] 50, .cells x.l 26, setObj (truthsM x []) (wears0 x).length, .tail (whichTo x us n).length 1 3, .iter (H.length + 2 + 1) (wears0 x).length (vs.map (·.2)).toArray (wears0 x).length]) (fun vs => ((vs.map (·.2)).Nodup /\ ∀ y ∈ vs, y ∈ truthsM x []) /\ ∀ y ∈ vs, us.all (fitsB x y.1 n) = false) [] (fun _ _ => rfl) (by simp) (by simp [zaL, aTurns]) (fun _ _ => by simp) ⟨⟨by simp, by simp⟩, by simp⟩ (fun hHs3 hLt3 vs hok R3 hR3 => ?_);refine zl5 ?_;simp only [seval, zaL, hg3];refine ⟨hall.elim .inl (fun h => .inr (.inl h)), fun e he hn => ?_, fun hs => ?_⟩
   ·obtain ⟨y, hy, rfl⟩ : ∃ y ∈ truthsM x [], setEntry y = e := (by simpa using he);have hyn : y.2 ∉ vs.map (·.2) := (by simpa [setEntry] using hn);have hok' := zdk hok.1 hy hyn;have hrel := zdl hok';refine zhC ?_;refine zkY ?_;refine zly ?_;obtain ⟨h41, h42⟩ := h4 y hy;have hborn : (setEntry y).born = y.2 := rfl;have hlen : (y.1.map iv).length = 4 := (by simp [h41]);have hdrop : List.drop 4 [AV.val (Value.int IntKind.i64 0), AV.val (Value.int IntKind.i64 0), AV.val (Value.int IntKind.i64 0), AV.val (Value.int IntKind.i64 0)] = [] := rfl;refine zl5 ?_;simp only [seval, zaL, hg3, Array.back?_push, hborn, zcL hnd hy, zb7, h41, hlen, hdrop];refine zl5 ?_;simp only [seval, aTurns];refine zly ?_;rw [zdm];refine zlE us.length (fun j : Nat => [(42, iv j)]) (fun _ => H ++ [AObj.cells x.l 26, .cells [aTurns us] 50, .cells x.l 26, setObj (truthsM x []) (wears0 x).length, .tail (whichTo x us n).length 1 3, .iter (H.length + 2 + 1) (wears0 x).length ((vs ++ [y]).map (·.2)).toArray (wears0 x).length, .cells (y.1.map iv) 132]) (fun j => (us.take j).all (fitsB x y.1 n) = true) (by simp) (fun hHs4 hLt4 j hjn hj R4 hR4 => ?_);refine zfK ?_;refine zhC ?_;refine ⟨fun h2 => ?_, fun h2 => ?_⟩
    ·
     have hjl : j < us.length := (by omega);obtain ⟨u, hu⟩ := zaE hjl;obtain ⟨hk0, hk1⟩ := hus u (zas hu);obtain ⟨uk, uo⟩ := u;simp only at hk0 hk1;obtain ⟨kn, rfl⟩ : ∃ m : Nat, uk = m := ⟨uk.toNat, by omega⟩;have hkn : kn < 4 := (by omega);have hj1 : IntKind.i64.wrap ((j : Int) + 1) = ((j + 1 : Nat) : Int) := (by rw [zau _ (by omega)]; rfl);have htk : (us.take (j + 1)).all (fitsB x y.1 n) = ((us.take j).all (fitsB x y.1 n) && fitsB x y.1 n ⟨kn, uo⟩) := by
      obtain ⟨hj', e5⟩ := List.getElem?_eq_some_iff.1 hu;rw [List.take_succ_eq_append_getElem hj', List.all_append, e5]; simp
     obtain ⟨w, hw⟩ := zaE (xs := y.1) (i := kn) (by omega);have hwb := h42 w (zas hw);obtain ⟨wn, rfl⟩ : ∃ n : Nat, w = n := ⟨w.toNat, by omega⟩;have b4 : (0 <= (kn : Int) /\ (kn : Int) < 4) = True := (by simp; omega);have b3 : (0 <= (wn : Int) /\ (wn : Int) < 3) = True := (by simp; omega);have hm := zdn (x := x) (by omega) kn wn;have hfit : fitsB x y.1 n ⟨kn, uo⟩ = ((opensM x kn wn).testBit n == uo) := by
      unfold fitsB inTruth;rw [Int.toNat_natCast, u8z y.1 kn hw]; rfl
     have hne0 : ((n : Int) != (n : Int)) = false := (by simp);refine zkY ?_;refine zl5 ?_;simp only [seval, zh5 hu, zaz hjl];refine zfK ?_;refine zl6 ((f122_c ?_));(try simp only [seval]);refine zlC 23 ?_;simp only [seval, b4, b3, zbf hw, zcH x hkn, zb0 x hkn (show wn < 3 by omega), zfz, List.mapM_cons, List.mapM_nil, Option.pure_def, Option.bind_eq_bind];refine qCall (iv n) (zlD (f123_c ⟨rfl, rfl⟩)) ?_;(try simp only [seval, hne0, b4, b3, zbf hw, zcH x hkn, zb0 x hkn (show wn < 3 by omega), zfz, List.mapM_cons, List.mapM_nil, Option.pure_def, Option.bind_eq_bind]);refine qInv (bv ((opensM x kn wn).testBit n == uo)) (zii hm ⟨rfl, rfl⟩) ?_;(try simp only [seval]);refine zhC ?_;refine ⟨fun h3 => ?_, fun h3 => ?_⟩
     ·
      have hff : fitsB x y.1 n ⟨kn, uo⟩ = false := (by rw [hfit]; simpa using h3);have hf : us.all (fitsB x y.1 n) = false := by
       apply Bool.eq_false_iff.2;intro hc;have h5 := List.all_eq_true.1 hc _ (zas hu);rw [hff] at h5; cases h5
      refine zlz ?_;refine hR3 _ ⟨vs ++ [y], hrel, ⟨hok', fun z hz => ?_⟩, ?_⟩
      ·rcases List.mem_append.1 hz with h | h
       ·exact hok.2 z h
       ·rw [List.mem_singleton.1 h]; exact hf
      ·exact zat (zam rfl rfl) (by simp) (hokI _ _) (by simp)
     ·
      have hff : fitsB x y.1 n ⟨kn, uo⟩ = true := (by rw [hfit]; simpa using h3);refine zkY ?_;refine zl5 ?_;simp only [seval, hj1];refine hR4 _ ⟨hjl, by rw [htk, hj, hff]; rfl, ?_⟩;exact zat (zam rfl rfl) (by simp only [seval]; simp [zaf, Wk.refl]) (hokC _ _ _) (by simp [zap])
    ·
     have hjx : j = us.length := (by omega);subst hjx;rw [List.take_length] at hj;have hbag : bagB x (truthsM x []) us n = true := List.any_eq_true.2 ⟨y, hy, hj⟩;have hsucc : whichTo x us (n + 1) = whichTo x us n ++ [(n : Int)] := (by rw [zdS, if_pos hbag]);have hsl : (whichTo x us n ++ [(n : Int)]).length = (whichTo x us n).length + 1 := (by simp);refine zlz ?_;refine zl5 ?_;simp only [seval, z1, pow24];refine ⟨by omega, ?_⟩;refine zlz ?_;refine zl5 ?_;simp only [seval, hn1];refine hR _ ⟨hnl, trivial, ?_⟩;rw [hsucc, hsl, List.map_append];exact zat (zam rfl rfl) (by simp only [seval]; simp [zaf, Wk.refl]) (hokB _) (by simp [zap, zdq]; rintro a (⟨w, _, rfl⟩ | rfl) <;> exact .val _)
   ·have hp : vs.Perm (truthsM x []) := zct hok.1.1 hnd hok.1.2 fun y hy => by
     have := hs (setEntry y) (by simp; exact ⟨y.1, y.2, hy, rfl⟩) (hb y hy);simpa [setEntry] using this
    have hbag : bagB x (truthsM x []) us n = false := by
     apply Bool.eq_false_iff.2;intro hc;obtain ⟨y, hy, hf⟩ := List.any_eq_true.1 hc;rw [hok.2 y (hp.mem_iff.2 hy)] at hf; cases hf
    have hsucc : whichTo x us (n + 1) = whichTo x us n := (by rw [zdS, hbag]; simp);refine zhC ?_;refine zlz ?_;refine zl5 ?_;simp only [seval, hn1];refine hR _ ⟨hnl, trivial, ?_⟩;rw [hsucc];exact zat (zam rfl rfl) (by simp only [seval]; simp [zaf, Wk.refl]) (hokB _) (by simp [zap, zdq])
  ·
   have hnx : n = x.locks.length := (by omega);subst hnx;refine zlz ?_;refine zfK ?_;refine zlj ?_;exact endA hH (zdC (zaK _ _ _) (Wk.refl _)) (by simp [zap, zaD, za3]) (h2 hz)
def digs (c j : Nat) : List Int := (List.range 4).map fun p => if p < c then (((j / 4 ^ (c - 1 - p)) % 4 : Nat) : Int) else 0
def zeroed (c j t : Nat) : List Int := (List.range 4).map fun p => if c - t <= p then 0 else (digs c j).getD p 0
def threes (c j t : Nat) : Bool := (List.range c).all fun p => p < c - t || (digs c j).getD p 0 == 3
theorem zdu (c j : Nat) : (digs c j).length = 4 := by simp [digs]
theorem zcC (c j t : Nat) : (zeroed c j t).length = 4 := by simp [zeroed]
theorem zjp : ∀ c, c < 5 -> ∀ j, j < 4 ^ c -> zeroed c j 0 = digs c j /\ (threes c j c = true -> j + 1 = 4 ^ c) /\ (∀ w ∈ digs c j, 0 <= w /\ w <= 3) /\ threes c j 0 = true := by decide +kernel
theorem digs_s1 : ∀ c, c < 5 -> ∀ j, j < 4 ^ c -> ∀ t, t < c -> (zeroed c j t)[c - 1 - t]? = some ((digs c j).getD (c - 1 - t) 0) /\ (zeroed c j t).set (c - 1 - t) 0 = zeroed c j (t + 1) := by decide +kernel
theorem digs_s2 : ∀ c, c < 5 -> ∀ j, j < 4 ^ c -> ∀ t, t < c -> threes c j t = true -> (digs c j).getD (c - 1 - t) 0 = 3 -> threes c j (t + 1) = true := by decide +kernel
theorem digs_s3 : ∀ c, c < 5 -> ∀ j, j < 4 ^ c -> ∀ t, t < c -> threes c j t = true -> (digs c j).getD (c - 1 - t) 0 = 3 \/ (zeroed c j t).set (c - 1 - t) ((digs c j).getD (c - 1 - t) 0 + 1) = digs c (j + 1) := by decide +kernel
theorem digs_s4 : ∀ c, c < 5 -> ∀ j, j < 4 ^ c -> ∀ t, t < c -> threes c j t = true -> (digs c j).getD (c - 1 - t) 0 = 3 \/ j + 1 < 4 ^ c := by decide +kernel
theorem zkT (c : Nat) : digs c 0 = [0, 0, 0, 0] := by simp [digs, List.range_succ]
def firstM (c : Nat) (f : List Int -> Bool) : Option (List Int) := (((List.range (4 ^ c)).map (digs c)).find? f).map fun d => d.take c
theorem zh2 {T T' : List (Nat × AV)} (h : ∀ p ∈ T', ∃ b, look T p.1 = some b /\ Wk b p.2) {t : Nat} {a : AV} (e : look T' t = some a) : ∃ b, look T t = some b /\ Wk b a := h _ (zbB e)
def DoC (lv : Bool) (H : List AObj) (so : AV) (f : List Int -> Bool) : Prop := ∀ (L : List AObj) (ds : List Int) (k kp : AV -> List AObj -> Prop), ds.length = 4 -> (∀ w ∈ ds, 0 <= w /\ w <= 3) -> k (bv (f ds)) (H ++ L) -> CallC lv Tryz.prog so (H ++ L) [.agg (ds.map iv)] k kp
def firstS (H : List AObj) (x : Ring) (so : AV) (c j : Nat) : AS := ⟨[(0, .rp (x.l ++ opensL x)), (1, so), (6, .op H.length 0)], H ++ [.cells ((digs c j).map iv) 108]⟩
theorem f137_c {x : Ring} {so : AV} {f : List Int -> Bool} (hx : x.Ok) (hso : DoC lv H so f) (hk : k (.tup [aInts ((firstM x.cuts.toNat f).getD []), bv (firstM x.cuts.toNat f).isSome]) H) : FnC lv Tryz.prog 137 H [.rp (x.l ++ opensL x), so] k kp := by
 refine zlu (rs := [.tmp 4, .tmp 5]) (nt := 43) Tryz.f137 fun hH hA => ?_;simp only [argsT, Nat.reduceAdd];obtain ⟨hc1, hc4⟩ := hx.cuts;obtain ⟨c, hc⟩ : ∃ c : Nat, x.cuts = c := ⟨x.cuts.toNat, by omega⟩;have hcl : c < 5 := by omega
 have hp : 0 < 4 ^ c := Nat.pow_pos (by decide);have hlk : x.l ++ opensL x = iv x.cuts :: aKeys x.keys :: aLocks x.locks :: aTries x.tries :: opensL x := rfl;refine zfK ?_;(repeat apply zaa);refine zjB (fun m => firstS H x so c (4 ^ c - 1 - m)) (fun m => m < 4 ^ c /\ ∀ j < 4 ^ c - 1 - m, f (digs c j) = false) (l := 0) rfl (fun m hm => ?_) (fun hb => ⟨4 ^ c - 1, ?_⟩)
 ·obtain ⟨hm, hbef⟩ := hm;generalize hj : 4 ^ c - 1 - m = j at hbef ⊢;have hjl : j < 4 ^ c := by omega
  obtain ⟨hz0, hall3, hdb, ht0⟩ := zjp c hcl j hjl;have hdl : ((digs c j).map iv).length = 4 := by simp [zdu]
  have htk : List.take 4 ((digs c j).map iv) = (digs c j).map iv := List.take_of_length_le (by omega);unfold firstS;refine zl5 ?_;simp only [seval, hdl, htk];refine callG (hso _ _ _ _ (zdu c j) hdb ?_);(try simp only [seval]);refine zhC ?_;refine ⟨fun h => ?_, fun h => ?_⟩
  ·
   have hcn : x.cuts.toNat = c := (by omega);have hfi : firstM x.cuts.toNat f = some ((digs c j).take c) := by
    rw [hcn];unfold firstM;rw [zfN (j := j) (x := digs c j) (by simp [hjl]) h fun y hy => by
     rw [<- List.map_take, List.take_range, Nat.min_eq_left (by omega)] at hy;obtain ⟨j', hj', rfl⟩ := List.mem_map.1 hy;exact hbef j' (List.mem_range.1 hj')]
    rfl
   refine zl5 ?_;simp only [seval, hlk];refine ⟨by omega, by omega, ?_⟩;refine zl6 ((f94_o (xs := (digs c j).take c) (by simp only [seval] <;> rfl) (by rw [List.length_take, zdu]; omega) (by rw [List.map_take, hcn]; rfl) (by rw [List.length_take, zdu]; omega) ?_));(try simp only [seval]);refine zlj ?_;rw [hfi] at hk;exact endA hH (Wk.refl _) (by simp [zap, zaD, zbi]) hk
  ·
   have hw1 : IntKind.i64.wrap (x.cuts - 1) = (c : Int) - 1 := (by rw [zau _ (by omega), hc]);refine zkY ?_;refine zl5 ?_;simp only [seval, hlk];refine zly ?_;refine zaB c (fun t : Nat => [(7, iv ((c : Int) - 1 - (t : Int)))]) (fun t => H ++ [.cells ((zeroed c j t).map iv) 108]) (fun t => threes c j t = true) (fun _ _ => rfl) (by simp only [seval]; simp [zaf, Wk.refl]; rw [hw1]; exact Wk.refl _) (by rw [hz0]) (fun _ _ _ => by simp) ht0 (fun hHs hLt t htn hto R hR => ?_);by_cases htc : t < c
   ·have hat : (c : Int) - 1 - (t : Int) = ((c - 1 - t : Nat) : Int) := (by omega);have hge : decide (((c - 1 - t : Nat) : Int) >= 0) = true := (by simp);obtain ⟨hg, hset⟩ := digs_s1 c hcl j hjl t htc;have b4 : (0 <= ((c - 1 - t : Nat) : Int) /\ ((c - 1 - t : Nat) : Int) < 4) = True := (by simp; omega);rw [hat];refine zl5 ?_;simp only [seval, hge, decide_false, b4, zbf hg];refine zhC ?_;refine ⟨fun h2 => ?_, fun h2 => ?_⟩
    ·
     have h3 : (digs c j).getD (c - 1 - t) 0 = 3 := (by simpa using h2);have hl4 : ((zeroed c j t).map iv).length = 4 := (by simp [zcC]);have hlt4 : c - 1 - t < (zeroed c j t).length := (by rw [zcC]; omega);have hoff : (c - 1 - t + 1 <= 4) = True := (by simp; omega);have hw2 : IntKind.i64.wrap (((c - 1 - t : Nat) : Int) - 1) = (c : Int) - 1 - ((t + 1 : Nat) : Int) := (by rw [zau _ (by omega)]; omega);refine zkY ?_;refine zl5 ?_;simp only [seval, b4, hl4, hoff, zfv hlt4, hset];refine ⟨by omega, ?_⟩;refine zl5 ?_;simp only [seval, hw2];refine hR _ ⟨htc, digs_s2 c hcl j hjl t htc hto h3, ?_⟩;rw [<- hat];exact zlA
    ·have h3 : ¬ (digs c j).getD (c - 1 - t) 0 = 3 := (by simpa using h2);have h4 := (digs_s3 c hcl j hjl t htc hto).resolve_left h3;have h5 := (digs_s4 c hcl j hjl t htc hto).resolve_left h3;have hl4 : ((zeroed c j t).map iv).length = 4 := (by simp [zcC]);have hlt4 : c - 1 - t < (zeroed c j t).length := (by rw [zcC]; omega);have hoff : (c - 1 - t + 1 <= 4) = True := (by simp; omega);have hdg : 0 <= (digs c j).getD (c - 1 - t) 0 /\ (digs c j).getD (c - 1 - t) 0 <= 3 := by
      obtain ⟨w, hw⟩ := zaE (xs := digs c j) (i := c - 1 - t) (by rw [zdu]; omega);rw [u8z _ _ hw]; exact hdb w (zas hw)
     have hw3 : IntKind.i64.wrap ((digs c j).getD (c - 1 - t) 0 + 1) = (digs c j).getD (c - 1 - t) 0 + 1 := zau _ (by omega);refine zlz ?_;refine zl5 ?_;simp only [seval, hge, decide_false];refine zhC ?_;refine zl5 ?_;simp only [seval, b4, hl4, hoff, zbf hg, hw3, zfv hlt4, h4];refine zm4 ?_;simp only [seval];refine ⟨rfl, m - 1, by omega, ⟨by omega, fun j' hj' => ?_⟩, ?_⟩
     ·by_cases e : j' = j
      ·rw [e]; exact h
      ·exact hbef j' (by omega)
     ·have e : 4 ^ c - 1 - (m - 1) = j + 1 := (by omega);show AS.Sub _ (firstS H x so c (4 ^ c - 1 - (m - 1)));rw [e];exact ⟨fun t' a e' => zh2 (by unfold firstS; simp only [seval]; simp [zaf, Wk.refl]; exact Wk.refl _) e', rfl⟩
   ·have htx : t = c := (by omega);subst htx;have hat : (t : Int) - 1 - (t : Int) = -1 := (by omega);have hge : decide ((-1 : Int) >= 0) = false := (by decide);rw [hat];refine zl5 ?_;simp only [seval, hge, decide_false];refine zhC ?_;refine zlz ?_;refine zl5 ?_;simp only [seval, hge, decide_false];refine zhC ?_;refine zkY ?_;refine zfK ?_;refine zlj ?_;have hje := hall3 hto;have hcn : x.cuts.toNat = t := (by omega);have hfi : firstM x.cuts.toNat f = none := by
     rw [hcn];unfold firstM;rw [zdt fun y hy => by
      obtain ⟨j', hj', rfl⟩ := List.mem_map.1 hy;have := List.mem_range.1 hj';by_cases e : j' = j
      ·rw [e]; exact h
      ·exact hbef j' (by omega)]
     rfl
    rw [hfi] at hk;have hk : k (.tup [.sl 0 [] .shut, bv false]) H := hk;exact endA hH (zdC (zaK _ _ _) (Wk.refl _)) (by simp [zap, zaD, za3]) hk
 ·refine zfK ?_;refine zfK ?_;(repeat apply zaa);refine zbQ ?_;simp only [seval];refine ziu ?_ (hb (4 ^ c - 1) ⟨by omega, fun j hj => by omega⟩);have e : 4 ^ c - 1 - (4 ^ c - 1) = 0 := by omega
  show AS.Sub _ (firstS H x so c (4 ^ c - 1 - (4 ^ c - 1)));rw [e];refine ⟨fun t' a e' => zh2 (by unfold firstS; simp only [seval]; simp [zaf, Wk.refl]) e', ?_⟩;show _ = H ++ [AObj.cells ((digs c 0).map iv) 108];rw [zkT]; rfl
def cutS (x : Ring) : List Int -> Nat -> Nat × Option Int
 | [], due => (due, none)
 | n :: l, due => if inM n 0 (x.locks.length - 1) then (if due.testBit n.toNat then (due, some 2) else cutS x l (due ||| 2 ^ n.toNat)) else (due, some 1)
theorem zkZ {x : Ring} {l : List Int} {i : Nat} {n : Int} (h : l[i]? = some n) : ∀ due, cutS x (l.drop i) due = cutS x (n :: l.drop (i + 1)) due := fun due => by
 obtain ⟨hj, rfl⟩ := List.getElem?_eq_some_iff.1 h;rw [List.drop_eq_getElem_cons hj]
theorem f138_c {r d : Nat} {x : Ring} {ds : List Int} {due : Nat} (hx : x.Ok) (hds : ds.length = 4) (hdue : due < 256) (hr : H[r]? = some (.cells [.rp (x.l ++ opensL x)] 100)) (hd : H[d]? = some (.cells [uv due] 110)) (hk : k (bv (openedM x.cuts ds x.locks x.locks.length == due)) H) : FnC lv Tryz.prog 138 H [.agg (ds.map iv), .op r 0, .op d 0] k kp := by
 refine zlu (rs := [.tmp 4]) (nt := 10) Tryz.f138 fun hH hA => ?_;simp only [argsT, Nat.reduceAdd];have hdl : (ds.map iv).length = 4 := by simp [hds]
 have htk : List.take 4 (ds.map iv) = ds.map iv := List.take_of_length_le (by omega);have hc := hx.cuts;have hl := hx.locks;refine zfK ?_;refine zlC 5 ?_;simp only [seval, zay hr, zay hd, hdl, htk];refine qCall (uv (openedM x.cuts ds x.locks x.locks.length)) (zlD (f139_c hds (by omega) hl (fun l hl => by have := (hx.lock l hl).1; omega) ⟨rfl, rfl⟩)) ?_;(try simp only [seval]);refine zlj ?_;exact endA hH (Wk.refl _) (by simp [zap]) (by rw [show (((openedM x.cuts ds x.locks x.locks.length : Nat) : Int) == (due : Int)) = (openedM x.cuts ds x.locks x.locks.length == due) from by rw [Bool.eq_iff_iff]; simp only [beq_iff_eq]; omega]; exact hk)
def dueF (l : List Int) : Nat := l.foldl (fun due n => due ||| 2 ^ n.toNat) 0
theorem zkO {l : List Int} {i : Nat} {n : Int} (h : l[i]? = some n) : dueF (l.take (i + 1)) = dueF (l.take i) ||| 2 ^ n.toNat := by
 obtain ⟨hj, rfl⟩ := List.getElem?_eq_some_iff.1 h;unfold dueF;rw [List.take_succ_eq_append_getElem hj, List.foldl_append]; rfl
theorem f134_c {a b d : Nat} {x : Ring} {l : List Int} (hx : x.Ok) (hll : l.length < 2 ^ 30) (hl : H[a]? = some (.cells [aInts l] 30)) (hr : H[b]? = some (.cells x.l 26)) (hd : H[d]? = some (.cells [uv 0] 110)) (had : a ≠ d) (hbd : b ≠ d) (hk : (cutS x l 0).2 = none -> k (.tup []) (H.set d (.cells [uv (cutS x l 0).1] 110))) (hp : ∀ f, (cutS x l 0).2 = some f -> kp (.ifc 106 (iv f)) (H.set d (.cells [uv (cutS x l 0).1] 110))) : FnC lv Tryz.prog 134 H [.op a 0, .op b 0, .op d 0] k kp := by
 refine zlu (rs := []) (nt := 27) Tryz.f134 fun hH hA => ?_;simp only [argsT, Nat.reduceAdd];have hr2 := hr;rw [Ring.l] at hr2;have hx5 := hx.locks;have hw : IntKind.i64.wrap ((x.locks.length : Int) - 1) = x.locks.length - 1 := zau _ (by omega);have gx : ∀ z, (H.set d z)[b]? = some (.cells [iv x.cuts, aKeys x.keys, aLocks x.locks, aTries x.tries] 26) := fun z => by rw [List.getElem?_set_ne (Ne.symm hbd)]; exact hr2
 have gd : ∀ z, (H.set d z)[d]? = some z := fun z => List.getElem?_set_self (get_lt hd);have gs : ∀ z z', (H.set d z).set d z' = H.set d z' := fun z z' => List.set_set ..;have hokb : ∀ m, HOk (H.set d (.cells [uv m] 110)) := fun m y hy => by
  rw [List.length_set];rcases List.mem_or_eq_of_mem_set hy with h | h
  ·exact hH y h
  ·rw [h]; intro a ha; simp at ha; subst ha; exact .val _
 refine zl5 ?_;simp only [seval, hl, aInts];refine zly ?_;refine zaB l.length (fun i : Nat => [(7, iv i)]) (fun i => H.set d (.cells [uv (dueF (l.take i))] 110)) (fun i => cutS x l 0 = cutS x (l.drop i) (dueF (l.take i)) /\ dueF (l.take i) < 256) (fun _ _ => rfl) (by simp only [seval]; simp [zaf, Wk.refl]) (by exact zh7 hd) (fun _ _ _ => by simp) ⟨by simp [dueF], by simp [dueF]⟩ (fun hHs hLt i hin hi R hR => ?_);refine zfK ?_;refine zhC ?_;refine ⟨fun h => ?_, fun h => ?_⟩
 ·have hil : i < l.length := by omega
  obtain ⟨n, hn⟩ := zaE hil;have hi1 : IntKind.i64.wrap ((i : Int) + 1) = ((i + 1 : Nat) : Int) := by rw [zau _ (by omega)]; rfl
  refine zkY ?_;refine zl5 ?_;simp only [seval, za2 hn, zaz hil];refine zl5 ?_;simp only [seval, gx, aLocks, hw];obtain ⟨hcut, hdl⟩ := hi;rw [zkZ hn] at hcut;refine zl6 ((f91_c ?_));(try simp only [seval]);refine zl6 ((f90_c (fun h2 => ?_) (fun h2 => ?_)))
  ·have h3 : inM n 0 (x.locks.length - 1) = true := (by simpa [inM] using h2);obtain ⟨hn0, hn1⟩ := zbU.1 h3;obtain ⟨nn, rfl⟩ : ∃ m : Nat, n = m := ⟨n.toNat, by omega⟩;rw [cutS, if_pos h3, Int.toNat_natCast] at hcut;(try simp only [seval]);refine zl5 ?_;simp only [seval, gd];refine zl6 ((f135_c hdl ?_));(try simp only [seval]);refine zl6 ((f90_c (fun h4 => ?_) (fun h4 => ?_)))
   ·have h5 : (dueF (l.take i)).testBit nn = false := (by simpa using h4);rw [h5] at hcut;simp only [Bool.false_eq_true, if_false] at hcut;(try simp only [seval]);refine zl5 ?_;simp only [seval, gd];refine zl6 ((f136_c hdl (by omega) ?_));(try simp only [seval, gd, gs]);refine zl5 ?_;simp only [seval, hi1];have hdt := zkO hn;rw [Int.toNat_natCast] at hdt;refine hR _ ⟨hil, ⟨by rw [hdt]; exact hcut, ?_⟩, ?_⟩
    ·rw [hdt]; exact Nat.or_lt_two_pow (n := 8) hdl (Nat.pow_lt_pow_right (by decide) (by omega))
    ·rw [hdt]; exact zlA
   ·have h5 : (dueF (l.take i)).testBit nn = true := (by simpa using h4);rw [h5, if_pos rfl] at hcut;have hp := hp 2 (by rw [hcut]);rw [hcut] at hp;exact zaJ (H' := H.set d (.cells [uv (dueF (l.take i))] 110)) (G := []) (Wk.refl _) (by simp) (by simp) (hokb _) (by simp [zap, zey]) hp
  ·have h3 : ¬ inM n 0 (x.locks.length - 1) = true := (by simpa [inM] using h2);rw [cutS, if_neg h3] at hcut;have hp := hp 1 (by rw [hcut]);rw [hcut] at hp;exact zaJ (H' := H.set d (.cells [uv (dueF (l.take i))] 110)) (G := []) (Wk.refl _) (by simp) (by simp) (hokb _) (by simp [zap, zey]) hp
 ·have hix : i = l.length := by omega
  subst hix;obtain ⟨hcut, hdl⟩ := hi;rw [List.drop_length, cutS, List.take_length] at hcut;refine zlz ?_;rw [List.take_length];have hk := hk (by rw [hcut]);rw [hcut] at hk;exact zaJ (H' := H.set d (.cells [uv (dueF l)] 110)) (G := []) (Wk.refl _) (by simp) (by simp) (hokb _) (by simp [zaD]) hk
theorem zk0 {x : Ring} (hl : x.locks.length <= 4) : ∀ (l : List Int) (due : Nat), due < 256 -> (cutS x l due).1 < 256
 | [], due, h => h
 | n :: l, due, h => by
  rw [cutS];split
  ·rename_i h2;have := zbU.1 h2;split
   ·exact h
   ·exact zk0 hl l _ (Nat.or_lt_two_pow (n := 8) h (Nat.pow_lt_pow_right (by decide) (by omega)))
  ·exact h
def newCutM (x : Ring) (l : List Int) : Option (List Int) := firstM x.cuts.toNat fun ds => openedM x.cuts ds x.locks x.locks.length == (cutS x l 0).1
theorem ask_cut {a b d : Nat} {x : Ring} {l : List Int} (hx : x.Ok) (hll : l.length < 2 ^ 30) (hl : H[a]? = some (.cells [aInts l] 30)) (hr : H[b]? = some (.cells x.l 26)) (hd : H[d]? = some (.cells [uv 0] 110)) (had : a ≠ d) (hbd : b ≠ d) : AskT lv H (H.set d (.cells [uv (cutS x l 0).1] 110)) (.fn (.func 134) [] [.op a 0, .op b 0, .op d 0]) (cutS x l 0).2 := fun L k kp h1 h2 => by
 have e : (H ++ L).set d (.cells [uv (cutS x l 0).1] 110) = H.set d (.cells [uv (cutS x l 0).1] 110) ++ L := List.set_append_left _ _ (get_lt hd);rw [<- e] at h1 h2;exact zlD (f134_c hx hll (zay hl) (zay hr) (zay hd) had hbd h1 h2)
theorem so_cut {r d : Nat} {x : Ring} {due : Nat} (hx : x.Ok) (hdue : due < 256) (hr : H[r]? = some (.cells [.rp (x.l ++ opensL x)] 100)) (hd : H[d]? = some (.cells [uv due] 110)) : DoC lv H (.fn (.func 138) [] [.op r 0, .op d 0]) (fun ds => openedM x.cuts ds x.locks x.locks.length == due) := fun L ds k kp h1 h2 h =>
 zlD (f138_c hx h1 hdue (zay hr) (zay hd) h)
theorem f62_c {x : Ring} {l : List Int} (hnr : NewRingC lv) (hmain : H[0]? = some .main) (hs : x.Small) (hll : l.length < 2 ^ 30) (h1 : openE x (cutS x l 0).2 ≠ 0 -> k (.tup [.sl 0 [] .exact, iv (openE x (cutS x l 0).2)]) H) (h2 : openE x (cutS x l 0).2 = 0 -> newCutM x l = none -> k (.tup [.sl 0 [] .exact, iv 11]) H) (h3 : openE x (cutS x l 0).2 = 0 -> ∀ xs, newCutM x l = some xs -> k (.tup [aInts xs, iv 0]) H) : FnC lv Tryz.prog 62 H [x.av, aInts l] k kp := by
 have hmn : ∀ L : List AObj, (H ++ L)[0]? = some .main := fun L => zay hmain;refine zlu (rs := [.tmp 4, .tmp 5]) (nt := 29) Tryz.f62 fun hH hA => ?_;simp only [argsT, Nat.reduceAdd, Ring.av];refine zl5 ?_;simp only [seval, Ring.l];refine zfK ?_;refine zl5 ?_;simp only [seval, List.mapM_cons, List.mapM_nil, Option.pure_def, Option.bind_eq_bind];have hask : checkM x = 0 -> AskT lv (H ++ [.cells x.l 26, .cells [aInts l] 30, .cells [.val (.int .u8 0)] 110]) (H ++ [.cells x.l 26, .cells [aInts l] 30, .cells [uv (cutS x l 0).1] 110]) (.fn (.func 134) [] [.op (H.length + 1) 0, .op H.length 0, .op (H.length + 2) 0]) (cutS x l 0).2 := fun hc => by
  have h := ask_cut (lv := lv) (H := H ++ [.cells x.l 26, .cells [aInts l] 30, .cells [.val (.int .u8 0)] 110]) (a := H.length + 1) (b := H.length) (d := H.length + 2) (zbH.1 hc) hll (by simp only [seval]) (by simp only [seval]) (by simp only [seval] <;> rfl) (by omega) (by omega);rwa [show (H ++ [AObj.cells x.l 26, .cells [aInts l] 30, .cells [.val (.int .u8 0)] 110]).set (H.length + 2) (.cells [uv (cutS x l 0).1] 110) = H ++ [.cells x.l 26, .cells [aInts l] 30, .cells [uv (cutS x l 0).1] 110] from zbR H _ 2 _] at h
 refine zl6 ((f87_t hnr (H' := H ++ [AObj.cells x.l 26, AObj.cells [aInts l] 30, AObj.cells [uv (cutS x l 0).1] 110]) (hmn _) (by simp) (fun h => zc6 hH ?_) hs hask (fun hc => ?_) (fun hc hz => ?_) (fun hz => ?_)))
 ·intro z hz n;simp only [List.mem_cons, List.not_mem_nil, or_false] at hz;rcases hz with rfl | rfl | rfl
  ·intro a ha;simp only [Ring.l, List.mem_cons, List.not_mem_nil, or_false] at ha;rcases ha with rfl | rfl | rfl | rfl
   ·exact .val _
   ·rw [zc5]; trivial
   ·rw [zci]; trivial
   ·rw [zch]; trivial
  ·intro a ha; simp at ha; subst ha; rw [zbi]; trivial
  ·intro a ha; simp at ha; subst ha; exact .val _
 ·(try simp only [seval]);refine zfK ?_;have hz : openE x (cutS x l 0).2 ≠ 0 := fun e => hc (zaN.1 e).1;refine zhC ?_;refine ⟨fun h => ?_, fun h => absurd (by simpa using h) hz⟩;refine zfK ?_;refine zlj ?_;exact endA hH (Wk.refl _) (by simp [zap, zaD, zbh]) (h1 hz)
 ·(try simp only [seval]);refine zfK ?_;refine zhC ?_;refine ⟨fun h => ?_, fun h => absurd (by simpa using h) hz⟩;refine zfK ?_;refine zlj ?_;exact endA hH (Wk.refl _) (by simp [zap, zaD, zbh]) (h1 hz)
 ·(try simp only [seval]);refine zfK ?_;have hx := zbp hz;refine zhC ?_;refine zkY ?_;refine zl5 ?_;simp only [seval, List.mapM_cons, List.mapM_nil, Option.pure_def, Option.bind_eq_bind];refine zl6 ((f137_c hx (so_cut (r := H.length + 3) (d := H.length + 2) hx (zk0 hx.locks l 0 (by decide)) (by simp only [seval] <;> rfl) (by simp only [seval] <;> rfl)) ?_));(try simp only [seval]);rw [show firstM x.cuts.toNat (fun ds => openedM x.cuts ds x.locks x.locks.length == (cutS x l 0).1) = newCutM x l from rfl];refine zfK ?_;refine zhC ?_;cases hm : newCutM x l with
  | none =>
   refine ⟨fun h => ?_, fun h => by simp at h⟩;refine zfK ?_;refine zlj ?_;exact endA hH (Wk.refl _) (by simp [zap, zaD, zbh]) (h2 hz hm)
  | some xs =>
   refine ⟨fun h => by simp at h, fun h => ?_⟩;refine zkY ?_;refine zfK ?_;refine zlj ?_;exact endA hH (Wk.refl _) (by simp [zap, zaD, zbi]) (h3 hz xs hm)
end
def exR (ts : List Try) : Ring := ⟨2, [⟨[3, 1], ⟨0, 1⟩⟩, ⟨[2, 2], ⟨0, 0⟩⟩, ⟨[1, 3], ⟨0, 2⟩⟩], [[⟨2, 3⟩, ⟨0, 1⟩], [⟨2, 2⟩, ⟨1, 2⟩], [⟨0, 1⟩, ⟨2, 3⟩]], ts⟩
def exLast : Try := ⟨2, 2, true⟩
def exNever : Try := ⟨1, 1, false⟩
def exOne : Ring := ⟨2, [⟨[2, 2], ⟨0, 0⟩⟩], [[⟨2, 3⟩, ⟨0, 1⟩], [⟨2, 2⟩, ⟨1, 2⟩], [⟨0, 1⟩, ⟨2, 3⟩]], []⟩
theorem zbq {ts : List Try} (h : ts.length < 2 ^ 30) : (exR ts).Small := ⟨by show 3 < 2 ^ 30; decide, by show 3 < 2 ^ 30; decide, h, fun x hx => by simp only [exR, List.mem_cons, List.not_mem_nil, or_false] at hx; rcases hx with rfl | rfl | rfl <;> decide, fun x hx => by simp only [exR, List.mem_cons, List.not_mem_nil, or_false] at hx; rcases hx with rfl | rfl | rfl <;> decide⟩
theorem zhI : exOne.Small := ⟨by decide, by decide, by decide, by decide, by decide⟩
section
variable {H : List AObj} {k kp : AV -> List AObj -> Prop}
theorem ex_worn (hmain : H[0]? = some .main) (hk : k (.tup [aInts [0, 1], iv 0]) H) : FnC true Tryz.prog 30 H [(exR []).av, iv 2, iv 2] k kp :=
 f30_c zaQ hmain (zbq (by decide)) (fun h => absurd (by decide +kernel) h) fun _ => by
  rw [show wornOf (exR []) (2 : Int).toNat (2 : Int).toNat = [0, 1] by decide +kernel]; exact hk
theorem ex_opens (hmain : H[0]? = some .main) (hk : k (.tup [iv 3, iv 0]) H) : FnC true Tryz.prog 32 H [(exR []).av, iv 2, iv 2] k kp :=
 f32_c zaQ hmain (zbq (by decide)) (fun h => absurd (by decide +kernel) h) fun _ => by
  rw [show verdictM (cntM (exR []) (2 : Int).toNat (2 : Int).toNat (truthsM (exR []) [])) (truthsM (exR []) []).length = 3 by decide +kernel]; exact hk
theorem ex_count (hmain : H[0]? = some .main) (hk : k (.tup [iv 4, iv 0]) H) : FnC true Tryz.prog 53 H [(exR [exLast]).av] k kp :=
 f53_c zaQ hmain (zbq (by decide)) (fun h => absurd (by decide +kernel) h) fun _ => by
  rw [show (truthsM (exR [exLast]) []).length = 4 by decide +kernel]; exact hk
theorem ex_ask (hmain : H[0]? = some .main) (hk : k (.tup [iv 2, iv 2, iv 4, iv 0]) H) : FnC true Tryz.prog 55 H [(exR []).av] k kp :=
 f55_c zaQ hmain (zbq (by decide)) (fun h => absurd (by decide +kernel) h) (fun _ h => absurd h (by decide +kernel)) fun _ a b c h => by
  rw [show askR (exR []) = some (2, 2, 4) by decide +kernel] at h; cases h; exact hk
theorem ex_cover (hmain : H[0]? = some .main) (hk : k (.tup [aInts [0, 1, 2], iv 0]) H) : FnC true Tryz.prog 38 H [(exR [exLast]).av] k kp :=
 f38_c zaQ hmain (zbq (by decide)) (fun h => absurd (by decide +kernel) h) (fun _ h => absurd h (by decide +kernel)) fun _ xs h => by
  rw [show coverM (exR [exLast]) = some [0, 1, 2] by decide +kernel] at h; cases h; exact hk
theorem ex_alike (hmain : H[0]? = some .main) (hk : k (.tup [aInts [0, 1, 0], iv 0]) H) : FnC true Tryz.prog 40 H [exOne.av] k kp :=
 f40_c zaQ hmain zhI (fun h => absurd (by decide +kernel) h) fun _ => by
  rw [show alikeM exOne = [0, 1, 0] by decide +kernel]; exact hk
theorem ex_which (hmain : H[0]? = some .main) (hk : k (.tup [aInts [1, 2], iv 0]) H) : FnC true Tryz.prog 46 H [(exR []).av, aTurns [⟨0, false⟩]] k kp :=
 f46_c zaQ hmain (zbq (by decide)) (by decide) (fun h => absurd (by decide +kernel) h) fun _ => by
  rw [show whichM (exR []) [⟨0, false⟩] = [1, 2] by decide +kernel]; exact hk
theorem ex_cut (hmain : H[0]? = some .main) (hk : k (.tup [aInts [2, 1], iv 0]) H) : FnC true Tryz.prog 62 H [(exR []).av, aInts [0, 1]] k kp :=
 f62_c zaQ hmain (zbq (by decide)) (by decide) (fun h => absurd (by decide +kernel) h) (fun _ h => absurd h (by decide +kernel)) fun _ xs h => by
  rw [show newCutM (exR []) [0, 1] = some [2, 1] by decide +kernel] at h; cases h; exact hk
theorem ex_wrong (hmain : H[0]? = some .main) (hk : k (.tup [aInts [0], iv 0]) H) : FnC true Tryz.prog 51 H [(exR [exNever]).av] k kp :=
 f51_c zaQ hmain (zbq (by decide)) (fun h => absurd (by decide +kernel) h) fun _ => by
  rw [show wrongM (exR [exNever]) = [0] by decide +kernel]; exact hk
theorem ex_tell (hmain : H[0]? = some .main) (hk : k (.tup [aInts [0, 1], iv 0]) H) : FnC true Tryz.prog 42 H [(exR []).av] k kp :=
 f42_c zaQ hmain (zbq (by decide)) (fun h => absurd (by decide +kernel) h) (fun _ h => absurd h (by decide +kernel)) fun _ xs h => by
  rw [show tellM (exR []) = some [0, 1] by decide +kernel] at h; cases h; exact hk
end
structure TinS where
 nums : List Int
 g : Int
 s : Int
def tinO (τ : TinS) : AObj := .cells [aInts τ.nums, .val (.int .i64 τ.g), .val (.int .u64 τ.s)] 98
def xorU (a b : Int) : Int := IntKind.u64.wrap (BitVec.ofInt IntKind.u64.bits a ^^^ BitVec.ofInt IntKind.u64.bits b).toNat
def word0 (g : Int) : Int := IntKind.u64.wrap (IntKind.u64.wrap (IntKind.u64.wrap g * 15074714826142052245) + 11400714819323198485)
def wordT (τ : TinS) : Int := match τ.nums[τ.g.toNat]? with
 | some x => xorU (word0 τ.g) (IntKind.u64.wrap (IntKind.u64.wrap x * 12620523164723586485))
 | none => word0 τ.g
def mix1 (s w : Int) : Int := IntKind.u64.wrap (IntKind.u64.wrap (s + w) * 13787848793156543929)
def mix2 (s : Int) : Int := xorU s (s.fdiv (2 ^ min 31 IntKind.u64.bits))
def out1 (s : Int) : Int := (xorU s (s.fdiv (2 ^ min 27 IntKind.u64.bits))).fdiv (2 ^ min 9 IntKind.u64.bits)
def tick (τ : TinS) : TinS := ⟨τ.nums, τ.g + 1, mix2 (mix1 τ.s (wordT τ))⟩
def outT (τ : TinS) : Int := out1 (IntKind.u64.wrap ((tick τ).s * 10723151780598845931))
theorem u64_in (n : Int) (h0 : 0 <= n) (h : n < 2 ^ 64) : IntKind.u64.wrap n = n := by
 have h1 : IntKind.u64.bits = 64 := rfl;have h2 : IntKind.u64.signed = false := rfl;unfold IntKind.wrap;rw [h1, h2];simp;omega
theorem zjS (n : Int) : 0 <= IntKind.u64.wrap n /\ IntKind.u64.wrap n < 2 ^ 64 := by
 have h1 : IntKind.u64.bits = 64 := rfl;have h2 : IntKind.u64.signed = false := rfl;unfold IntKind.wrap;rw [h1, h2];simp;omega
theorem ze9 (s : Int) : 0 <= out1 s /\ out1 s < 2 ^ 55 := by
 unfold out1 xorU;have h := zjS (BitVec.ofInt IntKind.u64.bits s ^^^ BitVec.ofInt IntKind.u64.bits (s.fdiv (2 ^ min 27 IntKind.u64.bits))).toNat;have e : (2 : Int) ^ min 9 IntKind.u64.bits = 512 := by decide
 rw [e, Int.fdiv_eq_ediv_of_nonneg _ (show (0 : Int) <= 512 by decide)];omega
def uptoT (τ : TinS) (n : Int) : Int := if n < 1 then 0 else (outT τ).tmod (n + 1)
theorem zaX (τ : TinS) (n : Int) : 0 <= uptoT τ n /\ (uptoT τ n <= n \/ uptoT τ n = 0) := by
 unfold uptoT;split
 ·omega
 ·have h := (ze9 (IntKind.u64.wrap ((tick τ).s * 10723151780598845931))).1;have h1 := Int.tmod_nonneg (n + 1) h;have h2 := Int.tmod_lt_of_pos (outT τ) (show 0 < n + 1 by omega);unfold outT at h2 ⊢;omega
def withinT (τ : TinS) (lo hi : Int) : Int := lo + uptoT τ (hi - lo)
theorem za1 (τ : TinS) {lo hi : Int} (h : lo <= hi) : lo <= withinT τ lo hi /\ withinT τ lo hi <= hi := by
 have := zaX τ (hi - lo);unfold withinT;omega
def rarelyT (τ : TinS) (n : Int) : Bool := uptoT τ (n - 1) == 0
def bandT (τ : TinS) (lo hi : Int) : Band := ⟨withinT τ lo hi, withinT (tick τ) (withinT τ lo hi) hi⟩
theorem zir (τ : TinS) {lo hi : Int} (h : lo <= hi) : lo <= (bandT τ lo hi).min /\ (bandT τ lo hi).min <= (bandT τ lo hi).max /\ (bandT τ lo hi).max <= hi := by
 have h1 := za1 τ h;have h2 := za1 (tick τ) h1.2;exact ⟨h1.1, h2.1, h2.2⟩
structure TinAt (Gf : TinS -> List AObj) (t N : Nat) : Prop where
 len : ∀ τ, (Gf τ).length = N
 get : ∀ τ, (Gf τ)[t]? = some (tinO τ)
 set : ∀ τ τ', (Gf τ).set t (tinO τ') = Gf τ'
 ok : ∀ m τ τ', (∀ z ∈ Gf τ, OLt m z) -> ∀ z ∈ Gf τ', OLt m z
theorem TinAt.more {Gf : TinS -> List AObj} {t N : Nat} (h : TinAt Gf t N) (L : List AObj) : TinAt (fun τ => Gf τ ++ L) t (N + L.length) where
 len := fun τ => by simp [h.len]
 get := fun τ => zay (h.get τ)
 set := fun τ τ' => by show (Gf τ ++ L).set t _ = _; rw [List.set_append_left _ _ (get_lt (h.get τ)), h.set]
 ok := fun m τ τ' hk z hz => (List.mem_append.1 hz).elim (fun hz => h.ok m τ τ' (fun v hv => hk v (List.mem_append_left _ hv)) z hz) (fun hz => hk z (List.mem_append_right _ hz))
theorem TinAt.hok {Gf : TinS -> List AObj} {t N : Nat} (h : TinAt Gf t N) {τ : TinS} (hH : HOk (Gf τ)) (τ' : TinS) : HOk (Gf τ') := fun z hz => by
 have := h.ok N τ τ' (fun w hw => by have := hH w hw; rwa [h.len] at this) z hz;rwa [h.len]
section
variable {Gf : TinS -> List AObj} {t N : Nat} (h : TinAt Gf t N)
include h
theorem TinAt.g0 (τ : TinS) (L : List AObj) : (Gf τ ++ L)[N]? = L[0]? := by have := zco (Gf τ) L 0; rwa [h.len] at this
theorem TinAt.g1 (τ : TinS) (L : List AObj) : (Gf τ ++ L)[N + 1]? = L[1]? := by have := zco (Gf τ) L 1; rwa [h.len] at this
theorem TinAt.g2 (τ : TinS) (L : List AObj) : (Gf τ ++ L)[N + 1 + 1]? = L[2]? := by have := zco (Gf τ) L 2; rwa [h.len] at this
theorem TinAt.g3 (τ : TinS) (L : List AObj) : (Gf τ ++ L)[N + 1 + 1 + 1]? = L[3]? := by have := zco (Gf τ) L 3; rwa [h.len] at this
theorem TinAt.h2 (τ : TinS) (L : List AObj) : (Gf τ ++ L)[N + 2]? = L[2]? := h.g2 τ L
theorem TinAt.h3 (τ : TinS) (L : List AObj) : (Gf τ ++ L)[N + 3]? = L[3]? := h.g3 τ L
theorem TinAt.s0 (τ : TinS) (L : List AObj) (x : AObj) : (Gf τ ++ L).set N x = Gf τ ++ L.set 0 x := by have := zbR (Gf τ) L 0 x; rwa [h.len] at this
theorem TinAt.s1 (τ : TinS) (L : List AObj) (x : AObj) : (Gf τ ++ L).set (N + 1) x = Gf τ ++ L.set 1 x := by have := zbR (Gf τ) L 1 x; rwa [h.len] at this
theorem TinAt.s2 (τ : TinS) (L : List AObj) (x : AObj) : (Gf τ ++ L).set (N + 1 + 1) x = Gf τ ++ L.set 2 x := by have := zbR (Gf τ) L 2 x; rwa [h.len] at this
theorem TinAt.s3 (τ : TinS) (L : List AObj) (x : AObj) : (Gf τ ++ L).set (N + 1 + 1 + 1) x = Gf τ ++ L.set 3 x := by have := zbR (Gf τ) L 3 x; rwa [h.len] at this
theorem TinAt.t2 (τ : TinS) (L : List AObj) (x : AObj) : (Gf τ ++ L).set (N + 2) x = Gf τ ++ L.set 2 x := h.s2 τ L x
theorem TinAt.t3 (τ : TinS) (L : List AObj) (x : AObj) : (Gf τ ++ L).set (N + 3) x = Gf τ ++ L.set 3 x := h.s3 τ L x
end
theorem TinAt.an {Gf : TinS -> List AObj} {t N : Nat} (h : TinAt Gf t N) : (type_of% h.len) /\ (type_of% h.g0) /\ (type_of% h.g1) /\ (type_of% h.g2) /\ (type_of% h.g3) /\ (type_of% h.h2) /\ (type_of% h.h3) /\ (type_of% h.s0) /\ (type_of% h.s1) /\ (type_of% h.s2) /\ (type_of% h.s3) /\ (type_of% h.t2) /\ (type_of% h.t3) := ⟨h.len, h.g0, h.g1, h.g2, h.g3, h.h2, h.h3, h.s0, h.s1, h.s2, h.s3, h.t2, h.t3⟩
theorem olt_tin (m : Nat) (τ : TinS) : OLt m (tinO τ) := by
 intro a ha;simp only [List.mem_cons, List.not_mem_nil, or_false] at ha;rcases ha with rfl | rfl | rfl
 ·rw [zbi]; trivial
 ·exact .val _
 ·exact .val _
theorem zjT (H : List AObj) : TinAt (fun τ => H ++ [tinO τ]) H.length (H.length + 1) where
 len := fun τ => by simp
 get := fun τ => by simp
 set := fun τ τ' => by simp
 ok := fun m τ τ' hk z hz => by
  rcases List.mem_append.1 hz with hz | hz
  ·exact hk z (List.mem_append_left _ hz)
  ·rw [List.mem_singleton.1 hz]; exact olt_tin _ _
structure TinS.Ok (τ : TinS) (b : Int) : Prop where
 g0 : 0 <= τ.g
 g : τ.g <= b
 len : τ.nums.length <= 2 ^ 50
section
variable {lv : Bool} {H : List AObj} {k kp : AV -> List AObj -> Prop} {Gf : TinS -> List AObj} {t N : Nat} {τ : TinS} {b : Int}
theorem f26_c {nums : List Int} (hk : k (.op H.length 0) (H ++ [tinO ⟨nums, 0, 7640891576956012809⟩])) : FnC lv Tryz.prog 26 H [aInts nums] k kp := by
 refine zlu (rs := [.tmp 2]) (nt := 6) Tryz.f26 fun hH hA => ?_;simp only [argsT, Nat.reduceAdd];refine zfK ?_;refine zfK ?_;refine zlj ?_;exact zao hk
theorem TinS.Ok.tick (h : τ.Ok b) : (tick τ).Ok (b + 1) := ⟨by have := h.g0; show 0 <= τ.g + 1; omega, by have := h.g; show τ.g + 1 <= b + 1; omega, h.len⟩
theorem TinS.Ok.mono {b' : Int} (h : τ.Ok b) (hb : b <= b') : τ.Ok b' := ⟨h.g0, by have := h.g; omega, h.len⟩
theorem f86_c (hT : TinAt Gf t N) (hτ : τ.Ok b) (hb : b < 2 ^ 60) (hk : k (.val (.int .u64 (outT τ))) (Gf (tick τ))) : FnC lv Tryz.prog 86 (Gf τ) [.op t 0] k kp := by
 obtain ⟨nums, g, s⟩ := τ;obtain ⟨hg0, hgb, hln⟩ := hτ;simp only at hg0 hgb hln;refine zlu (rs := [.tmp 2]) (nt := 76) Tryz.f86 fun hH hA => ?_;simp only [argsT, Nat.reduceAdd];have hg : ∀ τ, (Gf τ)[t]? = some (.cells [.sl τ.nums.length (τ.nums.map iv) .shut, .val (.int .i64 τ.g), .val (.int .u64 τ.s)] 98) := hT.get;have hs : ∀ τ (nums' : List Int) g' s', (Gf τ).set t (.cells [.sl nums'.length (nums'.map iv) .shut, .val (.int .i64 g'), .val (.int .u64 s')] 98) = Gf ⟨nums', g', s'⟩ := fun τ nums' g' s' => hT.set τ ⟨nums', g', s'⟩;obtain ⟨n, rfl⟩ : ∃ n : Nat, g = n := ⟨g.toNat, by omega⟩;have hw : IntKind.i64.wrap ((n : Int) + 1) = n + 1 := zau _ (by omega);refine zfK ?_;refine zl5 ?_;simp only [seval, hg];refine zlC 9 ?_;simp only [seval, hg];refine zhC ?_;refine ⟨fun h => ?_, fun h => ?_⟩
 ·have hnl : n < nums.length := by simpa using h
  obtain ⟨x, hx⟩ := zaE hnl;refine zlC 13 ?_;simp only [seval, hg, za2 hx, zaz hnl, zdy];refine zl5 ?_;simp only [seval, hg, hw, hs];refine zl5 ?_;simp only [seval, hg, hs];refine zlC 11 ?_;simp only [seval, hg, hs, zdz, zdy];refine zl5 ?_;simp only [seval, hg];refine zl5 ?_;simp only [seval, zdz, zdy];refine zlj ?_;refine zao ?_;unfold outT tick wordT at hk;simp only [Int.toNat_natCast, hx] at hk;exact hk
 ·have hnl : ¬ n < nums.length := by simpa using h
  have hx : nums[n]? = none := by rw [List.getElem?_eq_none]; omega
  refine zkY ?_;refine zl5 ?_;simp only [seval, hg, hw, hs];refine zl5 ?_;simp only [seval, hg, hs];refine zlC 11 ?_;simp only [seval, hg, hs, zdz, zdy];refine zl5 ?_;simp only [seval, hg];refine zl5 ?_;simp only [seval, zdz, zdy];refine zlj ?_;refine zao ?_;unfold outT tick wordT at hk;simp only [Int.toNat_natCast, hx] at hk;exact hk
theorem f29_c {n : Int} (hT : TinAt Gf t N) (hτ : τ.Ok b) (hb : b < 2 ^ 60) (hn : n < 2 ^ 60) (hk : k (iv (uptoT τ n)) (Gf (tick τ))) : FnC lv Tryz.prog 29 (Gf τ) [.op t 0, iv n] k kp := by
 refine zlu (rs := [.tmp 4]) (nt := 16) Tryz.f29 fun hH hA => ?_;simp only [argsT, Nat.reduceAdd];refine zfK ?_;refine zfK ?_;refine zl6 ((f86_c hT hτ hb ?_));(try simp only [seval]);refine zfK ?_;refine zhC ?_;refine ⟨fun h => ?_, fun h => ?_⟩
 ·have h : n < 1 := by simpa using h
  refine zfK ?_;refine zlj ?_;rw [uptoT, if_pos h] at hk;exact zao hk
 ·have h : ¬ n < 1 := by simpa using h
  have ho := ze9 (IntKind.u64.wrap ((tick τ).s * 10723151780598845931));have hw1 : IntKind.u64.wrap n = n := u64_in n (by omega) (by omega);have hw2 : IntKind.u64.wrap (n + 1) = n + 1 := u64_in _ (by omega) (by omega);have hn0 : n + 1 ≠ 0 := by omega
  have hr := zaX τ n;rw [uptoT, if_neg h] at hk hr;have hw3 : IntKind.i64.wrap ((outT τ).tmod (n + 1)) = (outT τ).tmod (n + 1) := zau _ (by omega);refine zkY ?_;refine zl5 ?_;simp only [seval, abin_rem, hw1, hw2, hw3, hn0];refine zlj ?_;exact zao hk
theorem f125_c {lo hi : Int} (hT : TinAt Gf t N) (hτ : τ.Ok b) (hb : b < 2 ^ 60) (hlo : 0 <= lo /\ lo < 2 ^ 20) (hhi : -1 <= hi /\ hi < 2 ^ 20) (hk : k (iv (withinT τ lo hi)) (Gf (tick τ))) : FnC lv Tryz.prog 125 (Gf τ) [.op t 0, iv lo, iv hi] k kp := by
 refine zlu (rs := [.tmp 6]) (nt := 14) Tryz.f125 fun hH hA => ?_;simp only [argsT, Nat.reduceAdd];have hw1 : IntKind.i64.wrap (hi - lo) = hi - lo := zau _ (by omega);have hr := zaX τ (hi - lo);have hw2 : IntKind.i64.wrap (lo + uptoT τ (hi - lo)) = lo + uptoT τ (hi - lo) := zau _ (by omega);refine zfK ?_;refine zl5 ?_;simp only [seval, hw1];refine zl6 ((f29_c hT hτ hb (by omega) ?_));(try simp only [seval, hw2]);refine zlj ?_;exact zao hk
theorem f44_c {n : Int} (hT : TinAt Gf t N) (hτ : τ.Ok b) (hb : b < 2 ^ 60) (hn : 0 <= n /\ n < 2 ^ 20) (hk : k (bv (rarelyT τ n)) (Gf (tick τ))) : FnC lv Tryz.prog 44 (Gf τ) [.op t 0, iv n] k kp := by
 refine zlu (rs := [.tmp 4]) (nt := 10) Tryz.f44 fun hH hA => ?_;simp only [argsT, Nat.reduceAdd];have hw1 : IntKind.i64.wrap (n - 1) = n - 1 := zau _ (by omega);refine zfK ?_;refine zl5 ?_;simp only [seval, hw1];refine zl6 ((f29_c hT hτ hb (by omega) ?_));(try simp only [seval]);refine zlj ?_;exact zao hk
theorem f126_c {lo hi : Int} (hT : TinAt Gf t N) (hτ : τ.Ok b) (hb : b < 2 ^ 50) (hlo : 0 <= lo /\ lo <= hi) (hhi : hi < 2 ^ 20) (hk : k (bandT τ lo hi).av (Gf (tick (tick τ)))) : FnC lv Tryz.prog 126 (Gf τ) [.op t 0, iv lo, iv hi] k kp := by
 refine zlu (rs := [.cell 6 63]) (nt := 18) Tryz.f126 fun hH hA => ?_;simp only [argsT, Nat.reduceAdd];have hr := za1 τ hlo.2;refine zl5 ?_;simp only [seval, hT.an];refine zl5 ?_;simp only [seval, hT.an];refine zl6 ((f125_c (hT.more _) hτ (by omega) (by omega) (by omega) ?_));(try simp only [seval, hT.an]);refine zl5 ?_;simp only [seval, hT.an];refine zl6 ((f125_c (hT.more _) hτ.tick (by omega) (by omega) (by omega) ?_));(try simp only [seval, hT.an]);refine zlR ?_;simp only [seval, hT.an];rw [<- hT.len (tick (tick τ))];exact endA (b := (bandT τ lo hi).av) (hT.hok hH _) (Wk.refl _) (by simp [zap, zfa, Band.av, Band.l, iv]) hk
end
theorem zfA {xs : List Int} {i : Nat} {x : Int} (f : Int -> AV) (h : xs[i]? = some x) : (xs.take (i + 1)).map f = (xs.take i).map f ++ [f x] := by
 obtain ⟨hj, rfl⟩ := List.getElem?_eq_some_iff.1 h;rw [List.take_succ_eq_append_getElem hj, List.map_append]; rfl
theorem zgb {xs ys : List Int} {i : Nat} {x y : Int} (hx : xs[i]? = some x) (hy : ys[i]? = some y) (h : xs.take i = ys.take i) (e : x = y) : xs.take (i + 1) = ys.take (i + 1) := by
 obtain ⟨hj, rfl⟩ := List.getElem?_eq_some_iff.1 hx;obtain ⟨hk, rfl⟩ := List.getElem?_eq_some_iff.1 hy;rw [List.take_succ_eq_append_getElem hj, List.take_succ_eq_append_getElem hk, h, e]
section
variable {lv : Bool} {H : List AObj} {k kp : AV -> List AObj -> Prop}
theorem f34_c {xs ys : List Int} {e e' : End} (hx : xs.length < 2 ^ 60) (hk : k (bv (decide (xs = ys))) H) : FnC lv Tryz.prog 34 H [.sl xs.length (xs.map iv) e, .sl ys.length (ys.map iv) e'] k kp := by
 refine zlu (rs := [.tmp 4]) (nt := 26) Tryz.f34 fun hH hA => ?_;simp only [argsT, Nat.reduceAdd];refine zfK ?_;refine zfK ?_;refine zhC ?_;refine ⟨fun h => ?_, fun h => ?_⟩
 ·have h : xs ≠ ys := fun e => by subst e; simp at h
  refine zfK ?_;refine zlj ?_;rw [decide_eq_false h] at hk;exact zao hk
 ·have h : xs.length = ys.length := by
   have h : (xs.length : Int) = ys.length := (by simpa using h);omega
  refine zkY ?_;refine zfK ?_;refine zly ?_;refine zlE xs.length (fun i : Nat => [(5, iv i)]) (fun _ => _) (fun i => xs.take i = ys.take i) (by simp) (fun hHs hLt i hin hi R hR => ?_);refine zfK ?_;refine zhC ?_;refine ⟨fun h2 => ?_, fun h2 => ?_⟩
  ·have hlt : i < xs.length := (by omega);obtain ⟨x, hx1⟩ := zaE hlt;obtain ⟨y, hy1⟩ := zaE (xs := ys) (i := i) (by omega);refine zkY ?_;refine zly ?_;refine zlC 8 ?_;simp only [seval, za2 hx1, za2 hy1, zaz hlt, zaz (get_lt hy1)];refine zhC ?_;refine ⟨fun h3 => ?_, fun h3 => ?_⟩
   ·have h3 : xs ≠ ys := fun e => (by subst e; rw [hx1] at hy1; cases hy1; simp at h3);refine zfK ?_;refine zlj ?_;rw [decide_eq_false h3] at hk;exact zao hk
   ·have h3 : x = y := (by simpa using h3);refine zkY ?_;refine zfK ?_;refine hR _ ⟨hlt, zgb hx1 hy1 hi h3, ?_⟩;rw [zau _ (by omega)];exact zlA
  ·have hix : i = xs.length := (by omega);refine zlz ?_;refine zfK ?_;refine zlj ?_;have h3 : xs = ys := by
    rw [hix, List.take_length] at hi;rw [hi, h, List.take_length]
   rw [decide_eq_true h3] at hk;exact zao hk
theorem f78_c {xs : List Int} {n : Int} (hb : ∀ x ∈ xs, 0 <= x /\ x <= 3) (hn : 0 <= n /\ n <= 3) (hl : xs.length <= 2 ^ 20) (hk : k (aInts (wornM n xs)) H) : FnC lv Tryz.prog 78 H [aInts xs, iv n] k kp := by
 refine zlu (rs := [.tmp 4]) (nt := 24) Tryz.f78 fun hH hA => ?_;simp only [argsT, Nat.reduceAdd, aInts];refine zfK ?_;refine zfK ?_
 (repeat apply zaa); refine zbV (t := 5) (sz := 1) (el := 3) (by simp only [seval] <;> rfl) ?_
 refine zfK ?_;refine zly ?_;refine zaB xs.length (fun i : Nat => [(5, .sl i ((wornM n (xs.take i)).map iv) (.opn H.length)), (6, iv i)]) (fun i => H ++ [.tail i 1 3]) (fun i => True) (fun _ _ => rfl) (by simp only [seval]; simp [zaf, Wk.refl]; exact Wk.refl _) rfl (fun _ _ _ => by simp) trivial (fun hHs hLt i hin hi R hR => ?_);refine zfK ?_;refine zhC ?_;refine ⟨fun h => ?_, fun h => ?_⟩
 ·have hlt : i < xs.length := by omega
  obtain ⟨x, hx⟩ := zaE hlt;have hxb := hb x (zas hx);have hw : IntKind.i64.wrap (x - n) = x - n := zau _ (by omega);have hw2 : IntKind.i64.wrap ((i : Int) + 1) = i + 1 := zau _ (by omega);have hmax : (if 0 < x - n then x - n else 0) = max 0 (x - n) := by omega
  have hwl : ((wornM n (xs.take i)).map iv).length = i := by simp [wornM]; omega
  have hnext : (wornM n (xs.take (i + 1))).map iv = (wornM n (xs.take i)).map iv ++ [.val (.int .i64 (max 0 (x - n)))] := by
   unfold wornM;rw [List.map_map, zfA _ hx, List.map_map]; rfl
  refine zkY ?_;refine zl5 ?_;simp only [seval, z1, za2 hx, zaz hlt, hw, hmax, hwl]
  first | refine ⟨by omega, by omega, ?_⟩ | refine ⟨by omega, ?_⟩
  refine zl5 ?_;simp only [seval, hw2];refine hR _ ⟨hlt, trivial, ?_⟩;rw [hnext];exact zlA
 ·have hix : i = xs.length := by omega
  subst hix;refine zlz ?_;refine zfK ?_;refine zlj ?_;rw [List.take_length];have hwl : (wornM n xs).length = xs.length := by simp [wornM]
  rw [aInts, hwl] at hk;exact endA hH (zaK _ _ _) (by simp [za3, zap]) hk
theorem f64_c {ds : List Int} {bs : List Band} (hlen : ds.length <= bs.length) (hsz : ds.length < 2 ^ 60) (hk : k (bv (fitsM ds bs)) H) : FnC lv Tryz.prog 64 H [aInts ds, aBands bs] k kp := by
 refine zlu (rs := [.tmp 4]) (nt := 34) Tryz.f64 fun hH hA => ?_;simp only [argsT, Nat.reduceAdd, aInts, aBands];refine zfK ?_;refine zfK ?_;refine zly ?_;refine zlE ds.length (fun i : Nat => [(5, iv i)]) (fun _ => _) (fun i => fitsM ds bs = fitsM (ds.drop i) (bs.drop i)) rfl (fun hHs hLt i hin hi R hR => ?_);refine zfK ?_;refine zhC ?_;refine ⟨fun h => ?_, fun h => ?_⟩
 ·have hlt : i < ds.length := by omega
  obtain ⟨d, hd⟩ := zaE hlt;obtain ⟨b, hb⟩ := zaE (xs := bs) (i := i) (by omega);refine zkY ?_;refine zly ?_;refine zlC 20 ?_;simp only [seval, za2 hd, zdh hb, zaz hlt, zaz (get_lt hb)];refine guardI (fun h2 => ?_) (fun h2 => ?_)
  ·have h2 : b.min <= d := (by simpa using h2);(try simp only [seval, za2 hd, zdh hb, zaz hlt, zaz (get_lt hb)]);refine zhC ?_;refine ⟨fun h3 => ?_, fun h3 => ?_⟩
   ·have h3 : ¬ d <= b.max := (by simpa using h3);refine zfK ?_;refine zlj ?_;rw [hi, zcK hd hb, decide_eq_false h3, Bool.and_false, Bool.false_and] at hk;exact zao hk
   ·have h3 : d <= b.max := (by simpa using h3);refine zkY ?_;refine zfK ?_;refine hR _ ⟨hlt, ?_, ?_⟩
    ·rw [hi, zcK hd hb, decide_eq_true h2, decide_eq_true h3]; rfl
    ·rw [zau _ (by omega)];exact zlA
  ·have h2 : ¬ b.min <= d := (by simpa using h2);(try simp only [seval, za2 hd, zdh hb, zaz hlt, zaz (get_lt hb)]);refine zhC ?_;refine zfK ?_;refine zlj ?_;rw [hi, zcK hd hb, decide_eq_false h2, Bool.false_and, Bool.false_and] at hk;exact zao hk
 ·have hix : i = ds.length := by omega
  subst hix;refine zlz ?_;refine zfK ?_;refine zlj ?_;rw [hi, List.drop_length, fitsM] at hk;exact zao hk
inductive Wks : List AV -> List AV -> Prop
 | nil : Wks [] []
 | cons {a b : AV} {l m : List AV} (h : Wk a b) (t : Wks l m) : Wks (a :: l) (b :: m)
theorem Wks.len {l m : List AV} (h : Wks l m) : l.length = m.length := by
 induction h with
 | nil => rfl
 | cons _ _ ih => simp [ih]
theorem Wks.at {l m : List AV} (h : Wks l m) : ∀ (i : Nat) (a b : AV), m[i]? = some a -> l[i]? = some b -> Wk b a := by
 induction h with
 | nil => intro i a b h; simp at h
 | cons h _ ih =>
  intro i a b h1 h2
  match i with
  | 0 => cases h1; cases h2; exact h
  | i + 1 => exact ih i a b h1 h2
theorem zhX {l l' : List AV} (h : Wks l l') : Wk (.agg l) (.agg l') := fun E v hd => by
 cases hd with
 | agg hs h1 =>
  refine .agg (by rw [hs, h.len]) fun i x hx => ?_;obtain ⟨y, hy⟩ := zaE (xs := l) (i := i) (by rw [h.len]; exact get_lt hx);exact h.at i x y hx hy E _ (h1 i y hy)
theorem wk_sl {n : Nat} {l l' : List AV} {e : End} (h : Wks l l') : Wk (.sl n l e) (.sl n l' .shut) := zhW (zeg h.len h.at) (zaK _ _ _)
theorem zr2 : zeroRow (Value.int .i64 0) 2 = [iv 0, iv 0] := rfl
theorem zr3 : zeroRow (Value.int .i64 0) 3 = [iv 0, iv 0, iv 0] := rfl
theorem zk3 : zeroRow (.agg #[.slice none 0 0, .int .i64 0, .int .i64 0]) 3 = [.sl 0 [] .exact, iv 0, iv 0] := rfl
theorem zk9 : zeroRow (.agg #[.slice none 0 0, .int .i64 0, .int .i64 0]) 9 = [.sl 0 [] .exact, iv 0, iv 0, .sl 0 [] .exact, iv 0, iv 0, .sl 0 [] .exact, iv 0, iv 0] := rfl
theorem zb2 : zeroRow (.agg #[.int .i64 0, .int .i64 0]) 2 = [iv 0, iv 0] := rfl
theorem zb4 : zeroRow (.agg #[.int .i64 0, .int .i64 0]) 4 = [iv 0, iv 0, iv 0, iv 0] := rfl
theorem zs3 : zeroRow (Value.slice none 0 0) 3 = [.sl 0 [] .exact, .sl 0 [] .exact, .sl 0 [] .exact] := rfl
theorem zt3 : zeroRow (.agg #[.int .i64 0, .int .i64 0, .bool false]) 3 = [iv 0, iv 0, bv false] := rfl
theorem zu2 : zeroRow (.agg #[.int .i64 0, .bool false]) 2 = [iv 0, bv false] := rfl
theorem p24_4 : (4 <= 2 ^ 24) = True := by simp
theorem p24_9 : (9 <= 2 ^ 24) = True := by simp
theorem zhq : (1 <= 2 ^ 24) = True := by simp
theorem zes : (2 <= 2 ^ 24) = True := by simp
theorem zd5 : (3 <= 2 ^ 24) = True := by simp
theorem p24_0 : (0 <= 2 ^ 24) = True := by simp
theorem zkE (x : List Int) : (aInts x).leaf = true := rfl
theorem zfd (x : List Band) : (aBands x).leaf = true := rfl
theorem zkC (x : List Key) : (aKeys x).leaf = true := rfl
theorem zjd (x : List (List Band)) : (aLocks x).leaf = true := rfl
theorem zjc (x : List Try) : (aTries x).leaf = true := rfl
attribute [seval] zkE zfd zkC zjd zjc
theorem zfC (n : Nat) (x : Ring) : Lt n x.av = True := by simp [Ring.av, Ring.l, zfa, zc5, zci, zch, zap, iv]
theorem f81_c {lo hi : Int} (hk : k (Band.mk lo hi).av H) : FnC lv Tryz.prog 81 H [iv lo, iv hi] k kp := by
 refine zlu (rs := [.cell 4 63]) (nt := 8) Tryz.f81 fun hH hA => ?_;simp only [argsT, Nat.reduceAdd];refine zfK ?_;refine zfK ?_;refine zlj ?_;exact endA (b := (Band.mk lo hi).av) hH (Wk.refl _) (by simp [zap, zfa, Band.av, Band.l, iv]) hk
theorem f149_c {lo hi : Int} {xs : List Int} {e : End} (hk : k (Key.mk xs ⟨lo, hi⟩).av H) : FnC lv Tryz.prog 149 H [iv lo, iv hi, .sl xs.length (xs.map iv) e] k kp := by
 refine zlu (rs := [.cell 6 65]) (nt := 12) Tryz.f149 fun hH hA => ?_;simp only [argsT, Nat.reduceAdd];refine zfK ?_;refine zfK ?_;refine zl6 ((f81_c ?_));(try simp only [seval, Band.av, Band.l]);refine zlj ?_;exact endA (b := (Key.mk xs ⟨lo, hi⟩).av) hH (zhX (.cons (zaK _ _ _) (.cons (Wk.refl _) (.cons (Wk.refl _) .nil)))) (by simp [zap, zfa, Key.av, Key.l, iv, zbi]) hk
theorem f80_c {ts : List Try} {e : End} (hts : ts.length < 2 ^ 30) (hk : k (exR ts).av H) : FnC lv Tryz.prog 80 H [.sl ts.length (ts.flatMap Try.l) e] k kp := by
 refine zlu (rs := [.cell 2 26]) (nt := 22) Tryz.f80 fun hH hA => ?_;simp only [argsT, Nat.reduceAdd];refine zfK ?_;refine zl5 ?_;simp only [seval, zr2, zes];refine zl6 ((f149_c (xs := [3, 1]) ?_));(try simp only [seval, Key.av, Key.l, zr2, zes]);refine zl6 ((f149_c (xs := [2, 2]) ?_));(try simp only [seval, Key.av, Key.l, zr2, zes]);refine zl6 ((f149_c (xs := [1, 3]) ?_));(try simp only [seval, Key.av, Key.l, zk9, p24_9]);refine zl6 ((f81_c ?_));(try simp only [seval, Band.av, Band.l]);refine zl6 ((f81_c ?_));(try simp only [seval, Band.av, Band.l, zb4, p24_4]);refine zl6 ((f81_c ?_));(try simp only [seval, Band.av, Band.l]);refine zl6 ((f81_c ?_));(try simp only [seval, Band.av, Band.l, zb4, p24_4]);refine zl6 ((f81_c ?_));(try simp only [seval, Band.av, Band.l]);refine zl6 ((f81_c ?_));(try simp only [seval, Band.av, Band.l, zb4, zs3, p24_4, zd5]);refine zlj ?_;exact endA (b := (exR ts).av) hH (zhX (.cons (Wk.refl _) (.cons (zaK _ _ _) (.cons (wk_sl (.cons (zaK _ _ _) (.cons (zaK _ _ _) (.cons (zaK _ _ _) .nil)))) (.cons (zaK _ _ _) .nil))))) (by rw [zfC]; trivial) hk
theorem f82_c (hk : k exLast.av H) : FnC lv Tryz.prog 82 H [] k kp := by
 refine zlu (rs := [.cell 0 28]) (nt := 2) Tryz.f82 fun hH hA => ?_;simp only [argsT, Nat.reduceAdd];refine zfK ?_;refine zfK ?_;refine zlj ?_;exact endA (b := exLast.av) hH (Wk.refl _) (by simp [zap, zfa, Try.av, Try.l, exLast, iv, bv]) hk
theorem f83_c (hk : k exNever.av H) : FnC lv Tryz.prog 83 H [] k kp := by
 refine zlu (rs := [.cell 0 28]) (nt := 2) Tryz.f83 fun hH hA => ?_;simp only [argsT, Nat.reduceAdd];refine zfK ?_;refine zfK ?_;refine zlj ?_;exact endA (b := exNever.av) hH (Wk.refl _) (by simp [zap, zfa, Try.av, Try.l, exNever, iv, bv]) hk
theorem f34_same {xs : List Int} {e e' : End} (hx : xs.length < 2 ^ 60) (hk : k (bv true) H) : FnC lv Tryz.prog 34 H [.sl xs.length (xs.map iv) e, .sl xs.length (xs.map iv) e'] k kp :=
 f34_c hx (by rw [decide_eq_true rfl]; exact hk)
theorem f84_c (hk : k exOne.av H) : FnC lv Tryz.prog 84 H [] k kp := by
 refine zlu (rs := [.cell 0 26]) (nt := 8) Tryz.f84 fun hH hA => ?_;simp only [argsT, Nat.reduceAdd];refine zfK ?_;refine zfK ?_;refine zl6 ((f80_c (ts := []) (by decide) ?_));(try simp only [seval, Ring.av, Ring.l, exR]);refine zl5 ?_;simp only [seval, aKeys, List.flatMap_cons, List.flatMap_nil, Key.l, Bool.false_and, ite_self];refine zfK ?_;refine zlj ?_;exact endA (b := exOne.av) hH (Wk.refl _) (by rw [zfC]; trivial) hk
end
def lockStep (sm : Bool) (p : List Band × TinS) (d : Int) : List Band × TinS :=
 if sm then (p.1 ++ [⟨uptoT (tick (tick p.2)) d, withinT (tick (tick (tick p.2))) d 3⟩], tick (tick (tick (tick p.2)))) else (p.1 ++ [bandT p.2 0 3], tick (tick p.2))
def lockTo (sm : Bool) (τ : TinS) (ds : List Int) (i : Nat) : List Band × TinS := (ds.take i).foldl (lockStep sm) ([], τ)
def lockT (sm : Bool) (τ : TinS) (ds : List Int) : List Band × TinS := ds.foldl (lockStep sm) ([], τ)
theorem zez {sm : Bool} {τ : TinS} {ds : List Int} {i : Nat} {d : Int} (h : ds[i]? = some d) : lockTo sm τ ds (i + 1) = lockStep sm (lockTo sm τ ds i) d := by
 obtain ⟨hj, rfl⟩ := List.getElem?_eq_some_iff.1 h;unfold lockTo;rw [List.take_succ_eq_append_getElem hj, List.foldl_append]; rfl
theorem zcw {sm : Bool} {τ : TinS} {ds : List Int} {b : Int} (hτ : τ.Ok b) (hds : ∀ d ∈ ds, 0 <= d /\ d <= 3) : ∀ i, i <= ds.length -> (lockTo sm τ ds i).1.length = i /\ (lockTo sm τ ds i).2.Ok (b + 4 * i) /\ ∀ y ∈ (lockTo sm τ ds i).1, y.Ok 3
 | 0, _ => ⟨rfl, by have := hτ.mono (b' := b + 4 * (0 : Nat)) (by omega); exact this, by simp [lockTo]⟩
 | i + 1, h => by
  obtain ⟨d, hd⟩ := zaE (xs := ds) (i := i) (by omega);obtain ⟨h1, h2, h3⟩ := zcw (sm := sm) hτ hds i (by omega);obtain ⟨hd0, hd3⟩ := hds d (zas hd);rw [zez hd];unfold lockStep;cases sm with
  | true =>
   simp only [if_true];refine ⟨by simp [h1], h2.tick.tick.tick.tick.mono (by omega), fun y hy => ?_⟩;rcases List.mem_append.1 hy with hy | hy
   ·exact h3 y hy
   ·rw [List.mem_singleton.1 hy];have e1 := zaX (tick (tick (lockTo true τ ds i).2)) d;have e2 := za1 (tick (tick (tick (lockTo true τ ds i).2))) hd3;exact ⟨e1.1, e2.2, by show uptoT _ d <= withinT _ d 3; omega⟩
  | false =>
   simp only [Bool.false_eq_true, if_false];refine ⟨by simp [h1], h2.tick.tick.mono (by omega), fun y hy => ?_⟩;rcases List.mem_append.1 hy with hy | hy
   ·exact h3 y hy
   ·rw [List.mem_singleton.1 hy];have e := zir (lockTo false τ ds i).2 (show (0 : Int) <= 3 by decide);exact ⟨e.1, e.2.2, e.2.1⟩
theorem zld (bs : List Band) : (bs.flatMap Band.l).length = bs.length * 2 := by
 induction bs with
 | nil => rfl
 | cons b bs ih => rw [List.flatMap_cons, List.length_append, ih]; simp [Band.l]; omega
theorem zgH (bs : List Band) (b : Band) : (bs ++ [b]).flatMap Band.l = bs.flatMap Band.l ++ [iv b.min, iv b.max] := by simp [Band.l]
theorem zkv (n m k : Nat) (bs : List Band) : Lt n (.sl m (bs.flatMap Band.l) (.opn k)) = (k < n) := by
 rw [zdq, eq_iff_iff];refine ⟨fun h => h.1, fun h => ⟨h, fun a ha => ?_⟩⟩;have := zfD n bs;rw [aBands, za3] at this;exact this.mpr trivial a ha
section
variable {lv : Bool} {k kp : AV -> List AObj -> Prop} {Gf : TinS -> List AObj} {t N : Nat} {τ : TinS} {b : Int}
theorem f127_c {ds : List Int} {sm : Bool} (hT : TinAt Gf t N) (hτ : τ.Ok b) (hb : b < 2 ^ 40) (hds : ∀ d ∈ ds, 0 <= d /\ d <= 3) (hl : ds.length <= 4) (hk : k (aBands (lockT sm τ ds).1) (Gf (lockT sm τ ds).2)) : FnC lv Tryz.prog 127 (Gf τ) [.op t 0, aInts ds, bv sm] k kp := by
 refine zlu (rs := [.tmp 6]) (nt := 37) Tryz.f127 fun hH hA => ?_;simp only [argsT, Nat.reduceAdd, aInts];have hokT : ∀ τ' n, HOk (Gf τ' ++ [.tail n 2 63]) := fun τ' n => zc6 (hT.hok hH τ') fun z hz m => by rw [List.mem_singleton.1 hz]; trivial
 refine zfK ?_;refine zfK ?_
 (repeat apply zaa); refine zbV (t := 7) (sz := 2) (el := 63) (by simp only [seval] <;> rfl) ?_
 refine zl5 ?_;simp only [seval, hT.an];refine zly ?_;refine zaB ds.length (fun i : Nat => [(7, .sl i ((lockTo sm τ ds i).1.flatMap Band.l) (.opn N)), (8, iv i)]) (fun i => Gf (lockTo sm τ ds i).2 ++ [.tail i 2 63]) (fun i => True) (fun _ _ => rfl) (by simp only [seval]; simp [zaf, Wk.refl]; exact Wk.refl _) rfl (fun _ _ _ => by simp [hT.len]) trivial (fun hHs hLt i hin hi R hR => ?_);obtain ⟨hpl, hpo, hpb⟩ := zcw (sm := sm) hτ hds i hin;refine zfK ?_;refine zhC ?_;refine ⟨fun h => ?_, fun h => ?_⟩
 ·have hlt : i < ds.length := by omega
  obtain ⟨d, hd⟩ := zaE hlt;obtain ⟨hd0, hd3⟩ := hds d (zas hd);have hsucc := zez (sm := sm) (τ := τ) hd;have hw2 : IntKind.i64.wrap ((i : Int) + 1) = i + 1 := zau _ (by omega);generalize lockTo sm τ ds i = p at *;obtain ⟨bs, τ'⟩ := p;simp only at hpl hpo hpb;have hbl : (bs.flatMap Band.l).length = i * 2 := by rw [zld, hpl]
  refine zkY ?_;refine zl5 ?_;simp only [seval, hT.an];refine zl6 ((f126_c (hT.more _) hpo (by omega) (by omega) (by omega) ?_));(try simp only [seval, Band.av, Band.l, hT.an]);refine zl5 ?_;simp only [seval, hT.an];refine zhC ?_;refine ⟨fun h2 => ?_, fun h2 => ?_⟩
  ·subst h2;refine zlH [5, 11, 13] [0, 1, 2, 3, 4, 5, 6, 7, 8, 9, 10, 11, 12, 13] [⟨0, false, [], []⟩, ⟨1, false, [], []⟩, ⟨2, false, [], []⟩, ⟨3, false, [], []⟩, ⟨4, false, [], []⟩, ⟨5, true, [5], []⟩, ⟨6, false, [5], [([], [])]⟩, ⟨7, false, [5], [([], [])]⟩, ⟨8, false, [5], [([], [])]⟩, ⟨9, false, [5], [([], [])]⟩, ⟨10, false, [5], [([], [])]⟩, ⟨11, true, [5, 11], []⟩, ⟨12, false, [5, 11], []⟩, ⟨13, true, [5, 11, 13], []⟩] (fun D => bif isDone 13 D then Gf (tick (tick (tick (tick τ')))) ++ [.tail i 2 63, .cells [iv (uptoT (tick (tick τ')) d), iv (withinT (tick (tick (tick τ'))) d 3)] 63] else bif isDone 11 D then Gf (tick (tick (tick (tick τ')))) ++ [.tail i 2 63, .cells [iv (bandT τ' 0 3).min, iv (bandT τ' 0 3).max] 63] else bif isDone 5 D then Gf (tick (tick (tick τ'))) ++ [.tail i 2 63, .cells [iv (bandT τ' 0 3).min, iv (bandT τ' 0 3).max] 63] else Gf (tick (tick τ')) ++ [.tail i 2 63, .cells [iv (bandT τ' 0 3).min, iv (bandT τ' 0 3).max] 63]) ?_;simp only [seval, za2 hd, zaz hlt, hT.an];refine eCall (iv (uptoT (tick (tick τ')) d)) (Gf (tick (tick (tick τ'))) ++ [.tail i 2 63, .cells [iv (bandT τ' 0 3).min, iv (bandT τ' 0 3).max] 63]) (zlD (f29_c (hT.more _) hpo.tick.tick (by omega) (by omega) ⟨rfl, rfl⟩)) ?_;(try simp only [seval, za2 hd, zaz hlt, hT.an]);refine eCall (iv (withinT (tick (tick (tick τ'))) d 3)) (Gf (tick (tick (tick (tick τ')))) ++ [.tail i 2 63, .cells [iv (bandT τ' 0 3).min, iv (bandT τ' 0 3).max] 63]) (zlD (f125_c (hT.more _) hpo.tick.tick.tick (by omega) (by omega) (by omega) ⟨rfl, rfl⟩)) ?_;(try simp only [seval, za2 hd, zaz hlt, hT.an]);have hlk : lockTo true τ ds (i + 1) = (bs ++ [⟨uptoT (tick (tick τ')) d, withinT (tick (tick (tick τ'))) d 3⟩], tick (tick (tick (tick τ')))) := (by rw [hsucc]; rfl);refine zl5 ?_;simp only [seval, zb2, zes, hbl, hT.an];refine ⟨by omega, ?_⟩;refine zl5 ?_;simp only [seval, hw2];refine hR _ ⟨hlt, trivial, ?_⟩;rw [hlk];refine zat (zam rfl rfl) (by rw [zgH]; simp only [seval]; simp [zaf, Wk.refl]) (hokT _ _) (by simp only [List.forall_mem_cons, zap, zkv, iv]; simp [hT.len])
  ·have h2 : sm = false := (by simpa using h2);subst h2;refine zkY ?_;have hlk : lockTo false τ ds (i + 1) = (bs ++ [bandT τ' 0 3], tick (tick τ')) := (by rw [hsucc]; rfl);refine zl5 ?_;simp only [seval, zb2, zes, hbl, hT.an];refine ⟨by omega, ?_⟩;refine zl5 ?_;simp only [seval, hw2];refine hR _ ⟨hlt, trivial, ?_⟩;rw [hlk];refine zat (zam rfl rfl) (by rw [zgH]; simp only [seval]; simp [zaf, Wk.refl]) (hokT _ _) (by simp only [List.forall_mem_cons, zap, zkv, iv]; simp [hT.len])
 ·have hix : i = ds.length := by omega
  subst hix;refine zlz ?_;refine zfK ?_;refine zlj ?_;have e : lockTo sm τ ds ds.length = lockT sm τ ds := by unfold lockTo lockT; rw [List.take_length]
  rw [e] at hpl ⊢;rw [aBands, hpl] at hk;rw [<- hT.len (lockT sm τ ds).2];exact endA (hT.hok hH _) (zaK _ _ _) (by rw [<- hpl, <- aBands.eq_1, zfD]; trivial) hk
end
section
variable {Gf : TinS -> List AObj} {t N : Nat} (h : TinAt Gf t N)
include h
theorem TinAt.hi (i : Nat) (τ : TinS) (L : List AObj) : (Gf τ ++ L)[N + i]? = L[i]? := by have := zco (Gf τ) L i; rwa [h.len] at this
theorem TinAt.ti (i : Nat) (τ : TinS) (L : List AObj) (x : AObj) : (Gf τ ++ L).set (N + i) x = Gf τ ++ L.set i x := by have := zbR (Gf τ) L i x; rwa [h.len] at this
theorem TinAt.h4 : type_of% (h.hi 4) := h.hi 4
theorem TinAt.h5 : type_of% (h.hi 5) := h.hi 5
theorem TinAt.h6 : type_of% (h.hi 6) := h.hi 6
theorem TinAt.h7 : type_of% (h.hi 7) := h.hi 7
theorem TinAt.h8 : type_of% (h.hi 8) := h.hi 8
theorem TinAt.t4 : type_of% (h.ti 4) := h.ti 4
theorem TinAt.t5 : type_of% (h.ti 5) := h.ti 5
theorem TinAt.t6 : type_of% (h.ti 6) := h.ti 6
theorem TinAt.t7 : type_of% (h.ti 7) := h.ti 7
theorem TinAt.t8 : type_of% (h.ti 8) := h.ti 8
end
theorem TinAt.am {Gf : TinS -> List AObj} {t N : Nat} (h : TinAt Gf t N) : (type_of% h.len) /\ (type_of% h.g0) /\ (type_of% h.g1) /\ (type_of% h.h2) /\ (type_of% h.h3) /\ (type_of% h.h4) /\ (type_of% h.h5) /\ (type_of% h.h6) /\ (type_of% h.h7) /\ (type_of% h.h8) /\ (type_of% h.s0) /\ (type_of% h.s1) /\ (type_of% h.t2) /\ (type_of% h.t3) /\ (type_of% h.t4) /\ (type_of% h.t5) /\ (type_of% h.t6) /\ (type_of% h.t7) /\ (type_of% h.t8) := ⟨h.len, h.g0, h.g1, h.h2, h.h3, h.h4, h.h5, h.h6, h.h7, h.h8, h.s0, h.s1, h.t2, h.t3, h.t4, h.t5, h.t6, h.t7, h.t8⟩
theorem zho (bs : List Band) : (aBands bs).parts = some [aBands bs] := rfl
structure KeysP (c : Int) (ks : List Key) (ws : List Int) : Prop where
 len : ws.length = ks.length
 key : ∀ y ∈ ks, (y.cuts.length : Int) = c /\ (∀ n ∈ y.cuts, 0 <= n /\ n <= 3) /\ y.wear.Ok 2
 worn : ∀ (i : Nat) y w, ks[i]? = some y -> ws[i]? = some w -> y.wear.min <= w /\ w <= y.wear.max
theorem KeysP.snoc {c : Int} {ks : List Key} {ws : List Int} (h : KeysP c ks ws) {y : Key} {w : Int} (hc : (y.cuts.length : Int) = c) (hn : ∀ n ∈ y.cuts, 0 <= n /\ n <= 3) (hb : y.wear.Ok 2) (hw : y.wear.min <= w /\ w <= y.wear.max) : KeysP c (ks ++ [y]) (ws ++ [w]) where
 len := by simp [h.len]
 key := fun z hz => by
  rcases List.mem_append.1 hz with hz | hz
  ·exact h.key z hz
  ·rw [List.mem_singleton.1 hz]; exact ⟨hc, hn, hb⟩
 worn := fun i z v h1 h2 => by
  by_cases hi : i < ks.length
  ·rw [List.getElem?_append_left hi] at h1;rw [List.getElem?_append_left (by rw [h.len]; exact hi)] at h2;exact h.worn i z v h1 h2
  ·have hi2 : i = ks.length := (by have := get_lt h1; simp at this; omega);subst hi2;rw [List.getElem?_append_right (Nat.le_refl _)] at h1;rw [<- h.len, List.getElem?_append_right (Nat.le_refl _)] at h2;simp at h1 h2;subst h1 h2;exact hw
def opensW (ks : List Key) (ws : List Int) (ls : List (List Band)) (k l : Int) : Bool := fitsM (wornM (ws.getD k.toNat 0) ((ks[k.toNat]?).map (·.cuts) |>.getD [])) (ls.getD l.toNat [])
structure RingP (K L T : Nat) (wr : Bool) (x : Ring) (ws : List Int) : Prop where
 cuts : 1 <= x.cuts /\ x.cuts <= 3
 keys : 1 <= x.keys.length /\ x.keys.length <= K
 kp : KeysP x.cuts x.keys ws
 locks : x.locks.length <= L
 lock : ∀ l ∈ x.locks, (l.length : Int) = x.cuts /\ ∀ b ∈ l, b.Ok 3
 tries : x.tries.length <= T
 tried : ∀ t ∈ x.tries, (0 <= t.key /\ t.key < x.keys.length) /\ 0 <= t.lock /\ t.lock < x.locks.length
 told : wr = false -> ∀ t ∈ x.tries, t.opens = opensW x.keys ws x.locks t.key t.lock
theorem zmG (ks : List Key) : (ks.flatMap Key.l).length = ks.length * 3 := by
 induction ks with
 | nil => rfl
 | cons b bs ih => rw [List.flatMap_cons, List.length_append, ih]; simp [Key.l]; omega
theorem zf5 (ks : List Try) : (ks.flatMap Try.l).length = ks.length * 3 := by
 induction ks with
 | nil => rfl
 | cons b bs ih => rw [List.flatMap_cons, List.length_append, ih]; simp [Try.l]; omega
theorem lt_opnk (n m k : Nat) (bs : List Key) : Lt n (.sl m (bs.flatMap Key.l) (.opn k)) = (k < n) := by
 rw [zdq, eq_iff_iff];refine ⟨fun h => h.1, fun h => ⟨h, fun a ha => ?_⟩⟩;have := zc5 n bs;rw [aKeys, za3] at this;exact this.mpr trivial a ha
theorem lt_opnt (n m k : Nat) (bs : List Try) : Lt n (.sl m (bs.flatMap Try.l) (.opn k)) = (k < n) := by
 rw [zdq, eq_iff_iff];refine ⟨fun h => h.1, fun h => ⟨h, fun a ha => ?_⟩⟩;have := zch n bs;rw [aTries, za3] at this;exact this.mpr trivial a ha
theorem lt_opnl (n m k : Nat) (bs : List (List Band)) : Lt n (.sl m (bs.map aBands) (.opn k)) = (k < n) := by
 rw [zdq, eq_iff_iff];refine ⟨fun h => h.1, fun h => ⟨h, fun a ha => ?_⟩⟩;have := zci n bs;rw [aLocks, za3] at this;exact this.mpr trivial a ha
theorem lt_opni (n m k : Nat) (bs : List Int) : Lt n (.sl m (bs.map iv) (.opn k)) = (k < n) := by
 rw [zdq, eq_iff_iff];refine ⟨fun h => h.1, fun h => ⟨h, fun a ha => ?_⟩⟩;have := zbi n bs;rw [aInts, za3] at this;exact this.mpr trivial a ha
def roL (N : Nat) (c : Int) (ks : List Key) (ls : List (List Band)) (ts : List Try) : List AObj :=
 [.cells [iv 0, .sl 0 [] .exact, .sl 0 [] .exact, .sl 0 [] .exact] 26, .cells [iv c, .sl ks.length (ks.flatMap Key.l) (.opn (N + 2)), .sl ls.length (ls.map aBands) (.opn (N + 3)), .sl ts.length (ts.flatMap Try.l) (.opn (N + 4))] 26, .tail ks.length 3 65, .tail ls.length 1 29, .tail ts.length 3 28, .tail ks.length 1 3]
def roE (N : Nat) (c : Int) (ks : List Key) (ls : List (List Band)) (ts : List Try) : List AObj := .cells [iv c, .sl ks.length (ks.flatMap Key.l) (.opn (N + 2)), .sl ls.length (ls.map aBands) (.opn (N + 3)), .sl ts.length (ts.flatMap Try.l) (.opn (N + 4))] 26 :: (roL N c ks ls ts).tail
def roK (N : Nat) (c : Int) (ks : List Key) (cs : List Int) : List AObj := roL N c ks [] [] ++ [.cells [.sl cs.length (cs.map iv) (.opn (N + 7)), iv 0, iv 0] 65, .tail cs.length 1 3]
theorem roK_snoc (N : Nat) (c : Int) (ks : List Key) (cs : List Int) (v : Int) : roK N c ks (cs ++ [v]) = roL N c ks [] [] ++ [.cells [.sl (cs.length + 1) (cs.map iv ++ [iv v]) (.opn (N + 7)), iv 0, iv 0] 65, .tail (cs.length + 1) 1 3] := by simp [roK]
def roM (N : Nat) (c : Int) (nk : Nat) (kl : List AV) (n1 n2 : Nat) (cs : List Int) (bd : Band) : List AObj := [.cells [iv 0, .sl 0 [] .exact, .sl 0 [] .exact, .sl 0 [] .exact] 26, .cells [iv c, .sl nk kl (.opn (N + 2)), .sl 0 [] (.opn (N + 3)), .sl 0 [] (.opn (N + 4))] 26, .tail n1 3 65, .tail 0 1 29, .tail 0 3 28, .tail n2 1 3, .cells [.sl cs.length (cs.map iv) .shut, iv bd.min, iv bd.max] 65, .tail cs.length 1 3]
def roP (N : Nat) (c : Int) (ks : List Key) (nl : Nat) (ll : List AV) (n1 : Nat) : List AObj := [.cells [iv 0, .sl 0 [] .exact, .sl 0 [] .exact, .sl 0 [] .exact] 26, .cells [iv c, .sl ks.length (ks.flatMap Key.l) (.opn (N + 2)), .sl nl ll (.opn (N + 3)), .sl 0 [] (.opn (N + 4))] 26, .tail ks.length 3 65, .tail n1 1 29, .tail 0 3 28, .tail ks.length 1 3]
theorem zce {base Vi Vn T : List (Nat × AV)} {H H' : List AObj} (G : List AObj) (hk : Keeps T (Vi ++ base) Vn) (hv : ∀ p ∈ Vn, ∃ b, look T p.1 = some b /\ Wk b p.2) (hok : HOk H) (hlt : ∀ p ∈ Vn, Lt H.length p.2) (hG : H' = H ++ G) : RoundEnd base Vi Vn H ⟨T, H'⟩ := ⟨hk, hv, G, hG, .inr ⟨hok, hlt⟩⟩
theorem zh9 {Gf : TinS -> List AObj} {t N : Nat} (h : TinAt Gf t N) {τ : TinS} (hH : HOk (Gf τ)) (τ' : TinS) (c : Int) (ks : List Key) (ls : List (List Band)) (ts : List Try) : HOk (Gf τ' ++ roL N c ks ls ts) := fun z hz => by
 rcases List.mem_append.1 hz with hz | hz
 ·exact (h.hok hH τ' z hz).mono (by simp)
 ·simp only [roL, List.mem_cons, List.not_mem_nil, or_false] at hz;have hl : (Gf τ' ++ roL N c ks ls ts).length = N + 6 := by simp [h.len, roL]
  rw [hl];rcases hz with rfl | rfl | rfl | rfl | rfl | rfl
  ·intro a ha; simp [iv] at ha; rcases ha with rfl | rfl <;> simp [zap, zbh]
  ·intro a ha;simp only [List.mem_cons, List.not_mem_nil, or_false] at ha;rcases ha with rfl | rfl | rfl | rfl
   ·exact .val _
   ·rw [lt_opnk]; omega
   ·rw [lt_opnl]; omega
   ·rw [lt_opnt]; omega
  all_goals trivial
section
variable {lv : Bool} {k kp : AV -> List AObj -> Prop} {Gf : TinS -> List AObj} {t N : Nat} {τ : TinS} {b : Int}
set_option maxHeartbeats 2000000 in
theorem f49_g {K L T : Nat} {wr : Bool} (hT : TinAt Gf t N) (hτ : τ.Ok b) (hb : b < 2 ^ 30) (hK : 1 <= K /\ K <= 4) (hL : L <= 4) (hTn : T <= 6)
  (hk : ∀ x ws τ', RingP K L T wr x ws -> τ'.Ok (b + 1000) -> HOk (Gf τ') -> ws.length = x.keys.length -> EndOf N (Gf τ' ++ roE N x.cuts x.keys x.locks x.tries) (.tup [.agg [iv x.cuts, .sl x.keys.length (x.keys.flatMap Key.l) (.opn (N + 2)), .sl x.locks.length (x.locks.map aBands) (.opn (N + 3)), .sl x.tries.length (x.tries.flatMap Try.l) (.opn (N + 4))], .sl x.keys.length (ws.map iv) (.opn (N + 5))]) k) : FnC lv Tryz.prog 49 (Gf τ) [.op t 0, iv K, iv L, iv T, bv wr] k kp := by
 refine zlu (rs := [.cell 10 26, .tmp 11]) (nt := 162) Tryz.f49 fun hH hA => ?_;simp only [argsT, Nat.reduceAdd];refine zfK ?_;refine zl5 ?_;simp only [seval, hT.am];refine zl6 ((f125_c (hT.more _) hτ (by omega) (by omega) (by omega) ?_));try simp only [seval, hT.am]
 (repeat apply zaa); refine zdw (id := N + 1) (j := 1) (sz := 3) (el' := 65) (by simp only [seval, hT.am] <;> rfl) rfl ?_
 try simp only [seval, hT.am]
 (repeat apply zaa); refine zdw (id := N + 1) (j := 2) (sz := 1) (el' := 29) (by simp only [seval, hT.am] <;> rfl) rfl ?_
 try simp only [seval, hT.am]
 (repeat apply zaa); refine zdw (id := N + 1) (j := 3) (sz := 3) (el' := 28) (by simp only [seval, hT.am] <;> rfl) rfl ?_
 (try simp only [seval, hT.am]);refine zfK ?_
 (repeat apply zaa); refine zbV (t := 13) (sz := 1) (el := 3) (by simp only [seval] <;> rfl) ?_
 (try simp only [seval, hT.am]);have hc := za1 τ (show (1 : Int) <= 3 by decide);generalize hcd : withinT τ 1 3 = c at hc ⊢;refine zl5 ?_;simp only [seval, hT.am];refine zl6 ((f125_c (hT.more _) hτ.tick (by omega) (by omega) (by omega) ?_));(try simp only [seval, hT.am]);have ht := za1 (tick τ) (show (1 : Int) <= K by omega);generalize withinT (tick τ) 1 K = tot at ht;obtain ⟨tot, rfl⟩ : ∃ n : Nat, tot = n := ⟨tot.toNat, by omega⟩;refine zly ?_;refine za9 (measure fun m : List Key × List Int × TinS => tot - m.1.length).wf (fun m => [(14, iv ((tot : Int) - m.1.length)), (13, .sl m.1.length (m.2.1.map iv) (.opn (N + 5)))]) (fun m => Gf m.2.2 ++ roL N c m.1 [] []) (fun m => KeysP c m.1 m.2.1 /\ m.1.length <= tot /\ m.2.2.Ok (b + 2 + 10 * m.1.length)) ([], [], tick (tick τ)) (fun _ _ => rfl) (by simp only [seval]; simp [zaf, Wk.refl]) rfl (fun _ _ => by simp [hT.len, roL]) ⟨⟨rfl, by simp, by simp⟩, by simp, hτ.tick.tick.mono (by simp only [List.length_nil]; omega)⟩ (fun hHs hLt m hok R hR => ?_);clear hHs hLt;obtain ⟨ks, ws, τ'⟩ := m;obtain ⟨hkp, hkt, hto⟩ := hok;simp only at hkp hkt hto;refine zl5 ?_;simp only [seval, roL, List.flatMap_nil, hT.am];refine zhC ?_;refine ⟨fun h => ?_, fun h => ?_⟩
 ·have hlt : ks.length < tot := by omega
  refine zkY ?_;refine zl5 ?_;simp only [seval, hT.am]
  (repeat apply zaa); refine zdw (id := N + 6) (j := 0) (sz := 1) (el' := 3) (by simp only [seval, hT.am] <;> rfl) rfl ?_
  (try simp only [seval, hT.am]);refine zl5 ?_;simp only [seval, hT.am];refine zly ?_;refine za9 (measure fun m : List Int × TinS => c.toNat - m.1.length).wf (fun m => [(16, iv m.1.length)]) (fun m => Gf m.2 ++ roK N c ks m.1) (fun m => m.1.length <= c.toNat /\ (∀ n ∈ m.1, 0 <= n /\ n <= 3) /\ m.2.Ok (b + 2 + 10 * ks.length + m.1.length)) ([], τ') (fun _ _ => rfl) (by simp only [seval]; simp [zaf, Wk.refl]) rfl (fun _ _ => by simp [hT.len, roK, roL]) ⟨by simp, by simp, hto.mono (by simp)⟩ (fun hHs2 hLt2 m2 hok2 R2 hR2 => ?_);clear hHs2 hLt2;obtain ⟨cs, τ''⟩ := m2;obtain ⟨hcl, hcb, hto2⟩ := hok2;simp only at hcl hcb hto2;refine zl5 ?_;simp only [seval, roK, roL, List.flatMap_nil, hT.am];refine zhC ?_;refine ⟨fun h2 => ?_, fun h2 => ?_⟩
  ·have hw2 : IntKind.i64.wrap ((cs.length : Int) + 1) = cs.length + 1 := zau _ (by omega);have hv := zaX τ'' 3;refine zkY ?_;refine zly ?_;refine zlH [3, 5, 7] [0, 1, 2, 3, 4, 5, 6, 7] [⟨0, false, [], [([3], [3])]⟩, ⟨1, false, [], [([3], [3])]⟩, ⟨2, false, [], []⟩, ⟨3, true, [3], []⟩, ⟨4, false, [3], []⟩, ⟨5, true, [3, 5], []⟩, ⟨6, false, [3, 5], []⟩, ⟨7, true, [3, 5, 7], []⟩] (fun D => bif isDone 7 D then Gf (tick τ'') ++ (roL N c ks [] [] ++ [.cells [.sl (cs.length + 1) (cs.map iv ++ [iv (uptoT τ'' 3)]) (.opn (N + 7)), iv 0, iv 0] 65, .tail (cs.length + 1) 1 3]) else bif isDone 5 D then Gf (tick τ'') ++ (roL N c ks [] [] ++ [.cells [.sl cs.length (cs.map iv) (.opn (N + 7)), iv 0, iv 0] 65, .tail (cs.length + 1) 1 3]) else bif isDone 3 D then Gf (tick τ'') ++ (roL N c ks [] [] ++ [.cells [.sl cs.length (cs.map iv) (.opn (N + 7)), iv 0, iv 0] 65, .tail cs.length 1 3]) else Gf τ'' ++ (roL N c ks [] [] ++ [.cells [.sl cs.length (cs.map iv) (.opn (N + 7)), iv 0, iv 0] 65, .tail cs.length 1 3])) ?_;simp only [seval, z1, zhq, roL, List.flatMap_nil, hT.am];refine eCall _ _ (zlD (f29_c (hT.more _) hto2 (by omega) (by omega) ⟨rfl, rfl⟩)) ?_;(try simp only [seval, z1, zhq, roL, List.flatMap_nil, hT.am]);refine ⟨by omega, ?_⟩;refine zl5 ?_;simp only [seval, hw2];refine hR2 _ ⟨(cs ++ [uptoT τ'' 3], tick τ''), by show c.toNat - (cs ++ [_]).length < c.toNat - cs.length; simp; omega, ⟨by simp; omega, fun n hn => ?_, hto2.tick.mono (by simp; omega)⟩, ?_⟩
   ·rcases List.mem_append.1 hn with hn | hn
    ·exact hcb n hn
    ·rw [List.mem_singleton.1 hn]; exact ⟨hv.1, hv.2.elim id fun h => by rw [h]; decide⟩
   ·simp only [roK_snoc, List.length_append];exact zlA
  ·have hcc : (cs.length : Int) = c := (by omega);refine zlz ?_
   (repeat apply zaa); refine awp_wkO (id := N + 6) (j := 0) (by simp only [seval, hT.am] <;> rfl) rfl (zaK _ _ _) ?_
   simp only [seval, hT.am];refine zl5 ?_;simp only [seval, hT.am];refine zl6 ((f126_c (hT.more _) hto2 (by omega) (by omega) (by omega) ?_));(try simp only [seval, Band.av, Band.l, hT.am]);have hbd := zir τ'' (show (0 : Int) <= 2 by decide);have hto3 := hto2.tick.tick;generalize bandT τ'' 0 2 = bd at hbd ⊢;generalize tick (tick τ'') = τ3 at hto3 ⊢;obtain ⟨hbd0, hbd1, hbd2⟩ := hbd;have hww := za1 τ3 hbd1;have hkl := zmG ks;have hwl := hkp.len;refine zlH [4, 13, 15, 17] [0, 1, 2, 3, 4, 5, 6, 7, 8, 9, 10, 11, 12, 13, 14, 15, 16, 17, 18] [⟨0, false, [], []⟩, ⟨1, false, [], []⟩, ⟨2, false, [], []⟩, ⟨3, false, [], []⟩, ⟨4, true, [4], []⟩, ⟨5, false, [4], [([], []), ([4, 13], [4, 13])]⟩, ⟨6, false, [4], [([], [])]⟩, ⟨7, false, [4], [([], [])]⟩, ⟨8, false, [4], [([], [])]⟩, ⟨9, false, [4], [([], [])]⟩, ⟨10, false, [4], [([], [])]⟩, ⟨11, false, [4], [([], [])]⟩, ⟨12, false, [4], [([], [])]⟩, ⟨13, true, [4, 13], []⟩, ⟨14, false, [4, 13], []⟩, ⟨15, true, [4, 13, 15], []⟩, ⟨16, false, [4, 13, 15], [([4], [4]), ([4, 13], [4, 13])]⟩, ⟨17, true, [4, 13, 15, 17], []⟩, ⟨18, false, [4, 13, 15, 17], []⟩] (fun D => bif isDone 17 D then Gf (tick τ3) ++ roM N c (ks.length + 1) (ks.flatMap Key.l ++ [.sl cs.length (cs.map iv) .shut, iv bd.min, iv bd.max]) (ks.length + 1) (ks.length + 1) cs bd else bif isDone 15 D then Gf (tick τ3) ++ roM N c ks.length (ks.flatMap Key.l) (ks.length + 1) (ks.length + 1) cs bd else bif isDone 13 D then Gf (tick τ3) ++ roM N c ks.length (ks.flatMap Key.l) (ks.length + 1) ks.length cs bd else bif isDone 4 D then Gf τ3 ++ roM N c ks.length (ks.flatMap Key.l) (ks.length + 1) ks.length cs bd else Gf τ3 ++ roM N c ks.length (ks.flatMap Key.l) ks.length ks.length cs bd) ?_;simp only [seval, z1, zk3, zhq, zd5, hkl, hwl, roM, hT.am];refine ⟨by omega, ?_⟩;refine eCall _ _ (zlD (f125_c (hT.more _) hto3 (by omega) (by omega) (by omega) ⟨rfl, rfl⟩)) ?_;(try simp only [seval, z1, zk3, zhq, zd5, hkl, hwl, roM, hT.am]);have hw3 : IntKind.i64.wrap ((tot : Int) - ks.length - 1) = tot - (ks.length + 1) := (by rw [zau _ (by omega)]; omega);refine ⟨by omega, ?_⟩;refine zl5 ?_;simp only [seval, hw3];refine hR _ ⟨(ks ++ [⟨cs, bd⟩], ws ++ [withinT τ3 bd.min bd.max], tick τ3), by show tot - (ks ++ [_]).length < tot - ks.length; simp; omega, ⟨hkp.snoc hcc hcb ⟨hbd0, hbd2, hbd1⟩ hww, by simp; omega, hto3.tick.mono (by simp; omega)⟩, ?_⟩;refine zce [.cells [.sl cs.length (cs.map iv) .shut, iv bd.min, iv bd.max] 65, .tail cs.length 1 3] (zam rfl rfl) (by simp only [seval, List.length_append, List.map_append]; simp [zaf, Wk.refl]) (zh9 hT hH _ _ _ _ _) (by simp only [List.forall_mem_cons, zap, lt_opni, iv]; simp [hT.len, roL]) (by simp [roL, Key.l, aInts])
 ·have hkn : 1 <= ks.length /\ ks.length <= K := by omega
  have hwl := hkp.len;refine zlz ?_;refine zl5 ?_;simp only [seval, hT.am];refine zl6 ((f29_c (hT.more _) hto (by omega) (by omega) ?_));(try simp only [seval, hT.am]);have htl := zaX τ' L;generalize uptoT τ' L = totl at htl ⊢;obtain ⟨totl, rfl⟩ : ∃ n : Nat, totl = n := ⟨totl.toNat, by omega⟩;have htl2 : totl <= L := by omega
  clear htl;have hto1 := hto.tick.mono (b' := b + 100) (by omega);generalize tick τ' = τ4 at hto1 ⊢;refine zly ?_;refine za9 (measure fun m : List (List Band) × TinS => totl - m.1.length).wf (fun m => [(17, iv ((totl : Int) - m.1.length))]) (fun m => Gf m.2 ++ roL N c ks m.1 []) (fun m => (∀ l ∈ m.1, (l.length : Int) = c /\ ∀ b ∈ l, b.Ok 3) /\ m.1.length <= totl /\ m.2.Ok (b + 100 + 20 * m.1.length)) ([], τ4) (fun _ _ => rfl) (by simp only [seval]; simp [zaf, Wk.refl]) (by simp [roL]) (fun _ _ => by simp [hT.len, roL]) ⟨by simp, by simp, hto1.mono (by simp)⟩ (fun hHs hLt m hok R2 hR2 => ?_);clear hHs hLt hR hto1 hto;obtain ⟨ls, τ5⟩ := m;obtain ⟨hlk, hlt, hto⟩ := hok;simp only at hlk hlt hto;refine zl5 ?_;simp only [seval, roL, List.flatMap_nil, hT.am];refine zhC ?_;refine ⟨fun h2 => ?_, fun h2 => ?_⟩
  ·have hllt : ls.length < totl := (by omega);refine zkY ?_;refine zly ?_;have hw4 : IntKind.i64.wrap ((ks.length : Int) - 1) = ks.length - 1 := zau _ (by omega);refine zl5 ?_;simp only [seval, hw4, hT.am];refine zl6 ((f29_c (hT.more _) hto (by omega) (by omega) ?_));(try simp only [seval, hT.am]);have hkr := zaX τ5 ((ks.length : Int) - 1);generalize uptoT τ5 ((ks.length : Int) - 1) = kx at hkr ⊢;obtain ⟨kn, rfl⟩ : ∃ n : Nat, kx = n := ⟨kx.toNat, by omega⟩;have hknl : kn < ks.length := (by omega);obtain ⟨y, hy⟩ := zaE hknl;obtain ⟨w, hw⟩ := zaE (xs := ws) (i := kn) (by omega);obtain ⟨hyc, hyb, hyw⟩ := hkp.key y (zas hy);have hwb := hkp.worn kn y w hy hw;have hw0 := hyw.min;have hw2' := hyw.max;have hto6 := hto.tick;generalize tick τ5 = τ6 at hto6 ⊢;have hds : ∀ d ∈ wornM w y.cuts, 0 <= d /\ d <= 3 := fun d hd => by
    unfold wornM at hd;obtain ⟨x, hx, rfl⟩ := List.mem_map.1 hd;have := hyb x hx;omega
   have hdl : (wornM w y.cuts).length = y.cuts.length := (by simp [wornM]);obtain ⟨hf1, hf2, hf3⟩ := zcw (sm := !rarelyT τ6 3) hto6.tick hds _ (Nat.le_refl _);have hfe : lockTo (!rarelyT τ6 3) (tick τ6) (wornM w y.cuts) (wornM w y.cuts).length = lockT (!rarelyT τ6 3) (tick τ6) (wornM w y.cuts) := (by unfold lockTo lockT; rw [List.take_length]);rw [hfe] at hf1 hf2 hf3;have hml : (ls.map aBands).length = ls.length := List.length_map ..;have hzs1 : zeroRow (Value.slice none 0 0) 1 = [.sl 0 [] .exact] := rfl;refine zlH [15, 17, 19, 21] [0, 1, 2, 3, 4, 5, 6, 7, 8, 9, 10, 11, 12, 13, 14, 15, 16, 17, 18, 19, 20, 21] [⟨0, false, [], [([15], [15]), ([15, 17], [15, 17])]⟩, ⟨1, false, [], [([15], [15]), ([15, 17], [15, 17])]⟩, ⟨2, false, [], [([15], [15])]⟩, ⟨3, false, [], []⟩, ⟨4, false, [], []⟩, ⟨5, false, [], []⟩, ⟨6, false, [], []⟩, ⟨7, false, [], []⟩, ⟨8, false, [], []⟩, ⟨9, false, [], []⟩, ⟨10, false, [], []⟩, ⟨11, false, [], []⟩, ⟨12, false, [], []⟩, ⟨13, false, [], []⟩, ⟨14, false, [], []⟩, ⟨15, true, [15], []⟩, ⟨16, false, [15], []⟩, ⟨17, true, [15, 17], []⟩, ⟨18, false, [15, 17], []⟩, ⟨19, true, [15, 17, 19], []⟩, ⟨20, false, [15, 17, 19], []⟩, ⟨21, true, [15, 17, 19, 21], []⟩] (fun D => bif isDone 21 D then Gf (lockT (!rarelyT τ6 3) (tick τ6) (wornM w y.cuts)).2 ++ roP N c ks (ls.length + 1) (ls.map aBands ++ [aBands (lockT (!rarelyT τ6 3) (tick τ6) (wornM w y.cuts)).1]) (ls.length + 1) else bif isDone 19 D then Gf (lockT (!rarelyT τ6 3) (tick τ6) (wornM w y.cuts)).2 ++ roP N c ks ls.length (ls.map aBands) (ls.length + 1) else bif isDone 17 D then Gf (lockT (!rarelyT τ6 3) (tick τ6) (wornM w y.cuts)).2 ++ roP N c ks ls.length (ls.map aBands) ls.length else bif isDone 15 D then Gf (tick τ6) ++ roP N c ks ls.length (ls.map aBands) ls.length else Gf τ6 ++ roP N c ks ls.length (ls.map aBands) ls.length) ?_;simp only [seval, zc2 hy, zaz hknl, za2 hw, zaz (get_lt hw), hwl, hml, hzs1, zhq, roP, hT.am];refine qCall _ (zlD (f78_c hyb ⟨by omega, by omega⟩ (by omega) ⟨rfl, rfl⟩)) ?_;refine eCall _ _ (zlD (f44_c (hT.more _) hto6 (by omega) (by omega) ⟨rfl, rfl⟩)) ?_;(try simp only [seval, hT.am]);refine eCall _ _ (zlD (f127_c (hT.more _) hto6.tick (by omega) hds (by omega) ⟨rfl, rfl⟩)) ?_;(try simp only [seval, hwl, hml, hzs1, zhq, roP, hT.am, zho]);generalize lockT (!rarelyT τ6 3) (tick τ6) (wornM w y.cuts) = q at hf1 hf2 hf3 ⊢;obtain ⟨lk, τ7⟩ := q;simp only at hf1 hf2 hf3;have hw5 : IntKind.i64.wrap ((totl : Int) - ls.length - 1) = totl - (ls.length + 1) := (by rw [zau _ (by omega)]; omega);refine ⟨by omega, ?_⟩;refine zl5 ?_;simp only [seval, hw5];refine hR2 _ ⟨(ls ++ [lk], τ7), by show totl - (ls ++ [_]).length < totl - ls.length; simp; omega, ⟨fun l hl => ?_, by simp; omega, hf2.mono (by simp; omega)⟩, ?_⟩
   ·rcases List.mem_append.1 hl with hl | hl
    ·exact hlk l hl
    ·rw [List.mem_singleton.1 hl]; exact ⟨by omega, hf3⟩
   ·have e : roL N c ks (ls ++ [lk]) [] = roP N c ks (ls.length + 1) (ls.map aBands ++ [aBands lk]) (ls.length + 1) := (by simp [roL, roP]);rw [e];simp only [roP];refine zax (zam rfl rfl) (by simp only [seval, List.length_append]; simp [zaf, Wk.refl])
  ·have hll : ls.length <= 4 := (by omega);refine zlz ?_;refine zl5 ?_;simp only [seval, hT.am];refine zl6 ((f29_c (hT.more _) hto (by omega) (by omega) ?_));(try simp only [seval, hT.am]);have htl := zaX τ5 T;generalize uptoT τ5 T = tott at htl ⊢;obtain ⟨tott, rfl⟩ : ∃ n : Nat, tott = n := ⟨tott.toNat, by omega⟩;have htl2 : tott <= T := (by omega);clear htl;have hto1 := hto.tick.mono (b' := b + 200) (by omega);generalize tick τ5 = τ8 at hto1 ⊢;refine zly ?_;refine za9 (measure fun m : List Try × TinS => tott - m.1.length).wf (fun m => [(19, iv ((tott : Int) - m.1.length))]) (fun m => Gf m.2 ++ roL N c ks ls m.1) (fun m => ((∀ t ∈ m.1, (0 <= t.key /\ t.key < ks.length) /\ 0 <= t.lock /\ t.lock < ls.length) /\ (wr = false -> ∀ t ∈ m.1, t.opens = opensW ks ws ls t.key t.lock)) /\ m.1.length <= tott /\ m.2.Ok (b + 200 + 20 * m.1.length)) ([], τ8) (fun _ _ => rfl) (by simp only [seval]; simp [zaf, Wk.refl]) (by simp [roL]) (fun _ _ => by simp [hT.len, roL]) ⟨by simp, by simp, hto1.mono (by simp)⟩ (fun hHs hLt m hok R hR => ?_);clear hHs hLt hR2 hto1 hto;obtain ⟨ts, τ9⟩ := m;obtain ⟨⟨htr, htd⟩, htl3, hto⟩ := hok;simp only at htr htd htl3 hto;have hend : EndOf N (Gf τ9 ++ roE N c ks ls ts) (.tup [.agg [iv c, .sl ks.length (ks.flatMap Key.l) (.opn (N + 2)), .sl ls.length (ls.map aBands) (.opn (N + 3)), .sl ts.length (ts.flatMap Try.l) (.opn (N + 4))], .sl ks.length (ws.map iv) (.opn (N + 5))]) k := hk ⟨c, ks, ls, ts⟩ ws τ9 ⟨hc, hkn, hkp, by show ls.length <= L; omega, hlk, by show ts.length <= T; omega, htr, htd⟩ (hto.mono (by omega)) (hT.hok hH _) hwl;refine zl5 ?_;simp only [seval, roL, hT.am];refine guardI (fun h3 => ?_) (fun h3 => ?_)
   ·have htlt : ts.length < tott := by
     have : (0 : Int) < tott - ts.length := (by simpa using h3);omega
    (try simp only [seval, roL, hT.am]);refine zhC ?_;refine ⟨fun h4 => ?_, fun h4 => ?_⟩
    ·have hll1 : 1 <= ls.length := (by omega);refine zkY ?_;refine zly ?_;have hw4 : IntKind.i64.wrap ((ks.length : Int) - 1) = ks.length - 1 := zau _ (by omega);have hw6 : IntKind.i64.wrap ((ls.length : Int) - 1) = ls.length - 1 := zau _ (by omega);have hkr := zaX τ9 ((ks.length : Int) - 1);have hlr := zaX (tick τ9) ((ls.length : Int) - 1);refine zlH [5, 11, 13, 14] [0, 1, 2, 3, 4, 5, 6, 7, 8, 9, 10, 11, 12, 13, 14] [⟨0, false, [], [([13], [13])]⟩, ⟨1, false, [], [([13], [13])]⟩, ⟨2, false, [], [([13], [13])]⟩, ⟨3, false, [], [([13], [13])]⟩, ⟨4, false, [], [([13], [13])]⟩, ⟨5, true, [5], [([13], [5, 13])]⟩, ⟨6, false, [5], [([], []), ([13], [13]), ([5, 13], [5, 13])]⟩, ⟨7, false, [5], [([], []), ([13], [13]), ([5, 13], [5, 13])]⟩, ⟨8, false, [5], [([], []), ([13], [13]), ([5, 13], [5, 13])]⟩, ⟨9, false, [5], [([], []), ([13], [13]), ([5, 13], [5, 13])]⟩, ⟨10, false, [5], [([], []), ([13], [13]), ([5, 13], [5, 13])]⟩, ⟨11, true, [5, 11], [([5, 13], [5, 11, 13])]⟩, ⟨12, false, [5, 11], [([5, 11, 13], [5, 11, 13])]⟩, ⟨13, true, [5, 11, 13], [([], [13]), ([5], [5, 13])]⟩, ⟨14, true, [5, 11, 13, 14], []⟩] (fun D => Gf (bif isDone 11 D then tick (tick τ9) else bif isDone 5 D then tick τ9 else τ9) ++ (roL N c ks ls ts ++ (bif isDone 14 D then [.cells [iv (uptoT τ9 ((ks.length : Int) - 1)), iv (uptoT (tick τ9) ((ls.length : Int) - 1)), bv false] 28] else bif isDone 13 D then [.cells [iv 0, iv 0, bv false] 28] else []))) ?_;simp only [seval, hw4, hw6, roL, hT.am];refine eCall _ _ (zlD (f29_c (hT.more _) hto (by omega) (by omega) ⟨rfl, rfl⟩)) ?_;(try simp only [seval, hw4, hw6, roL, hT.am]);refine ⟨eCall _ _ (zlD (f29_c (hT.more _) hto (by omega) (by omega) ⟨rfl, rfl⟩)) ⟨rfl, rfl⟩, ?_⟩;refine eCall _ _ (zlD (f29_c (hT.more _) hto.tick (by omega) (by omega) ⟨rfl, rfl⟩)) ?_;(try simp only [seval, hw4, hw6, roL, hT.am]);refine ⟨eCall _ _ (zlD (f29_c (hT.more _) hto.tick (by omega) (by omega) ⟨rfl, rfl⟩)) ⟨rfl, rfl⟩, ?_⟩;have hto3 := hto.tick.tick;generalize uptoT τ9 ((ks.length : Int) - 1) = kx at hkr ⊢;generalize uptoT (tick τ9) ((ls.length : Int) - 1) = lx at hlr ⊢;generalize tick (tick τ9) = τa at hto3 ⊢;obtain ⟨kn, rfl⟩ : ∃ n : Nat, kx = n := ⟨kx.toNat, by omega⟩;obtain ⟨ln, rfl⟩ : ∃ n : Nat, lx = n := ⟨lx.toNat, by omega⟩;have hknl : kn < ks.length := (by omega);have hlnl : ln < ls.length := (by omega);obtain ⟨y, hy⟩ := zaE hknl;obtain ⟨w, hw⟩ := zaE (xs := ws) (i := kn) (by omega);obtain ⟨l, hl⟩ := zaE hlnl;obtain ⟨hyc, hyb, hyw⟩ := hkp.key y (zas hy);obtain ⟨hlc, hlb⟩ := hlk l (zas hl);have hwb := hkp.worn kn y w hy hw;have hw0 := hyw.min;have hw2' := hyw.max;have hdl : (wornM w y.cuts).length = y.cuts.length := (by simp [wornM]);have how : opensW ks ws ls kn ln = fitsM (wornM w y.cuts) l := by
      unfold opensW;simp only [Int.toNat_natCast, List.getD_eq_getElem?_getD, hy, hw, hl, Option.map_some, Option.getD_some]
     refine zlC 19 ?_;simp only [seval, zc2 hy, zaz hknl, za2 hw, zaz (get_lt hw), zfu hl, zaz hlnl, hwl, hT.am];refine qCall _ (zlD (f78_c hyb ⟨by omega, by omega⟩ (by omega) ⟨rfl, rfl⟩)) ?_;refine zl6 ((f64_c (by omega) (by omega) ?_));(try simp only [seval, hT.am]);have htln := zf5 ts;have hw7 : IntKind.i64.wrap ((tott : Int) - ts.length - 1) = tott - (ts.length + 1) := (by rw [zau _ (by omega)]; omega);have hnew : ∀ (o : Bool) (τb : TinS), τb.Ok (b + 200 + 20 * ts.length + 3) -> (wr = false -> o = fitsM (wornM w y.cuts) l) -> ((∀ t : Try, t ∈ ts ++ [⟨kn, ln, o⟩] -> (0 <= t.key /\ t.key < (ks.length : Int)) /\ 0 <= t.lock /\ t.lock < (ls.length : Int)) /\ (wr = false -> ∀ t : Try, t ∈ ts ++ [⟨kn, ln, o⟩] -> t.opens = opensW ks ws ls t.key t.lock)) /\ (ts ++ [(⟨kn, ln, o⟩ : Try)]).length <= tott /\ τb.Ok (b + 200 + 20 * ((ts ++ [(⟨kn, ln, o⟩ : Try)]).length : Nat)) := fun o τb hok ho => by
      refine ⟨⟨fun t ht => ?_, fun hwr t ht => ?_⟩, by simp; omega, hok.mono (by simp; omega)⟩
      ·rcases List.mem_append.1 ht with ht | ht
       ·exact htr t ht
       ·rw [List.mem_singleton.1 ht]; exact ⟨⟨by show (0 : Int) <= kn; omega, by show (kn : Int) < _; omega⟩, by show (0 : Int) <= ln; omega, by show (ln : Int) < _; omega⟩
      ·rcases List.mem_append.1 ht with ht | ht
       ·exact htd hwr t ht
       ·rw [List.mem_singleton.1 ht]; exact (ho hwr).trans how.symm
     refine zl5 ?_;simp only [seval, hT.am];refine guardI (fun h5 => ?_) (fun h5 => ?_)
     ·(try simp only [seval, hT.am]);refine zl6 ((f44_c (hT.more _) hto3 (by omega) (by omega) ?_));(try simp only [seval, hT.am]);refine zhC ?_;refine ⟨fun h6 => ?_, fun h6 => ?_⟩
      ·refine zl5 ?_;simp only [seval, hT.am];refine zl5 ?_;simp only [seval, zt3, zd5, htln, hT.am];refine ⟨by omega, ?_⟩;refine zl5 ?_;simp only [seval, hw7];refine hR _ ⟨(ts ++ [⟨kn, ln, !(fitsM (wornM w y.cuts) l)⟩], tick τa), by show tott - (ts ++ [_]).length < tott - ts.length; simp; omega, hnew _ _ (hto3.tick.mono (by omega)) (fun e => absurd (h5.symm.trans e) (by decide)), ?_⟩;refine zce [.cells [iv kn, iv ln, bv (!(fitsM (wornM w y.cuts) l))] 28] (zam rfl rfl) (by simp only [seval, List.length_append]; simp [zaf, Wk.refl]) (zh9 hT hH _ _ _ _ _) (by simp only [List.forall_mem_cons, zap, iv]; simp) (by simp [roL, Try.l])
      ·refine zkY ?_;refine zl5 ?_;simp only [seval, zt3, zd5, htln, hT.am];refine ⟨by omega, ?_⟩;refine zl5 ?_;simp only [seval, hw7];refine hR _ ⟨(ts ++ [⟨kn, ln, fitsM (wornM w y.cuts) l⟩], tick τa), by show tott - (ts ++ [_]).length < tott - ts.length; simp; omega, hnew _ _ (hto3.tick.mono (by omega)) (fun _ => rfl), ?_⟩;refine zce [.cells [iv kn, iv ln, bv (fitsM (wornM w y.cuts) l)] 28] (zam rfl rfl) (by simp only [seval, List.length_append]; simp [zaf, Wk.refl]) (zh9 hT hH _ _ _ _ _) (by simp only [List.forall_mem_cons, zap, iv]; simp) (by simp [roL, Try.l])
     ·(try simp only [seval, hT.am]);refine zhC ?_;refine zkY ?_;refine zl5 ?_;simp only [seval, zt3, zd5, htln, hT.am];refine ⟨by omega, ?_⟩;refine zl5 ?_;simp only [seval, hw7];refine hR _ ⟨(ts ++ [⟨kn, ln, fitsM (wornM w y.cuts) l⟩], τa), by show tott - (ts ++ [_]).length < tott - ts.length; simp; omega, hnew _ _ (hto3.mono (by omega)) (fun _ => rfl), ?_⟩;refine zce [.cells [iv kn, iv ln, bv (fitsM (wornM w y.cuts) l)] 28] (zam rfl rfl) (by simp only [seval, List.length_append]; simp [zaf, Wk.refl]) (zh9 hT hH _ _ _ _ _) (by simp only [List.forall_mem_cons, zap, iv]; simp) (by simp [roL, Try.l])
    ·refine zlz ?_;refine zl5 ?_;simp only [seval, hT.am];refine zlR ?_;simp only [seval, hT.am];exact hend
   ·have h3 : ¬ (0 : Int) < tott - ts.length := (by simpa using h3);(try simp only [seval, roL, hT.am]);refine zhC ?_;refine zlz ?_;refine zl5 ?_;simp only [seval, hT.am];refine zlR ?_;simp only [seval, hT.am];exact hend
theorem f49_c {K L T : Nat} {wr : Bool} (hT : TinAt Gf t N) (hτ : τ.Ok b) (hb : b < 2 ^ 30) (hK : 1 <= K /\ K <= 4) (hL : L <= 4) (hTn : T <= 6)
  (hk : ∀ x ws τ', RingP K L T wr x ws -> τ'.Ok (b + 1000) -> k (.tup [x.av, aInts ws]) (Gf τ')) : FnC lv Tryz.prog 49 (Gf τ) [.op t 0, iv K, iv L, iv T, bv wr] k kp :=
 f49_g hT hτ hb hK hL hTn fun x ws τ' hP hto hok hwl => by
  rw [<- hT.len τ'];exact endA (b := .tup [x.av, aInts ws]) hok (zdC (zhX (.cons (Wk.refl _) (.cons (zaK _ _ _) (.cons (zaK _ _ _) (.cons (zaK _ _ _) .nil))))) (by rw [<- hwl]; exact zaK _ _ _)) (by simp only [zaD, List.forall_mem_cons, zfC, zbi]; simp) (hk x ws τ' hP hto)
end
def withT (x : Ring) (t : Try) : Ring := ⟨x.cuts, x.keys, x.locks, x.tries ++ [t]⟩
theorem zmM (ts : List Try) (t : Try) : (ts ++ [t]).flatMap Try.l = ts.flatMap Try.l ++ [iv t.key, iv t.lock, bv t.opens] := by simp [Try.l]
section
variable {lv : Bool} {H : List AObj} {k kp : AV -> List AObj -> Prop}
theorem f56_c {x : Ring} {t : Try} (hl : x.tries.length < 2 ^ 20) (hk : k (withT x t).av H) : FnC lv Tryz.prog 56 H [x.av, t.av] k kp := by
 refine zlu (rs := [.cell 4 26]) (nt := 14) Tryz.f56 fun hH hA => ?_;simp only [argsT, Nat.reduceAdd, Ring.av, Ring.l, Try.av, Try.l];have htl := zf5 x.tries;have e0 : zeroRow (.agg #[.int .i64 0, .int .i64 0, .bool false]) 0 = [] := rfl;have htk : List.take (x.tries.length * 3) (x.tries.flatMap Try.l) = x.tries.flatMap Try.l := List.take_of_length_le (by omega);refine zfK ?_;refine zlH [3, 6, 8] [0, 1, 2, 3, 4, 5, 6, 7, 8] [⟨0, false, [], []⟩, ⟨1, false, [], []⟩, ⟨2, false, [], []⟩, ⟨3, true, [3], []⟩, ⟨4, false, [3], [([], [])]⟩, ⟨5, false, [3], [([], [])]⟩, ⟨6, true, [3, 6], []⟩, ⟨7, false, [3, 6], []⟩, ⟨8, true, [3, 6, 8], []⟩] (fun D => H ++ ([.cells [iv x.cuts, aKeys x.keys, aLocks x.locks, bif isDone 8 D then .sl (x.tries.length + 1) (x.tries.flatMap Try.l ++ [iv t.key, iv t.lock, bv t.opens]) (.opn (H.length + 3)) else aTries x.tries] 26, .cells [iv t.key, iv t.lock, bv t.opens] 28, .cells [iv 0, .sl 0 [] .exact, .sl 0 [] .exact, .sl 0 [] .exact] 26] ++ (bif isDone 6 D then [.tail (x.tries.length + 1) 3 28] else bif isDone 3 D then [.tail x.tries.length 3 28] else []))) ?_;simp only [seval, e0, zt3, p24_0, zd5, htl, htk, aTries];refine ⟨by omega, by omega, ?_⟩;refine zfK ?_;refine zlj ?_;exact endA (b := (withT x t).av) hH (zhX (.cons (Wk.refl _) (.cons (Wk.refl _) (.cons (Wk.refl _) (.cons (by rw [show (withT x t).tries = x.tries ++ [t] from rfl, aTries, zmM, List.length_append]; exact zaK _ _ _) .nil))))) (by rw [zfC]; trivial) hk
theorem tinOk0 {nums : List Int} (h : nums.length <= 2 ^ 50) (s : Int) : (⟨nums, 0, s⟩ : TinS).Ok 0 := ⟨Int.le_refl _, Int.le_refl _, h⟩
theorem RingP.ok {K L T : Nat} {wr : Bool} {x : Ring} {ws : List Int} (h : RingP K L T wr x ws) (hK : K <= 4) (hL : L <= 4) (hT : T <= 6) : x.Ok where
 cuts := ⟨h.cuts.1, by have := h.cuts.2; omega⟩
 keys := by have := h.keys.2; omega
 key := h.kp.key
 locks := by have := h.locks; omega
 lock := h.lock
 tries := by have := h.tries; omega
 tried := h.tried
theorem Ring.Ok.small {x : Ring} (h : x.Ok) : x.Small where
 keys := by have := h.keys; omega
 locks := by have := h.locks; omega
 tries := by have := h.tries; omega
 cuts := fun y hy => by have := (h.key y hy).1; have := h.cuts; omega
 bands := fun l hl => by have := (h.lock l hl).1; have := h.cuts; omega
theorem zmH {P : Program} {f : FuncId} {l l' : List AV} (h : Wks l l') (hf : FnC lv P f H l' k kp) : FnC lv P f H l k kp := fun E V vs hc hd => by
 refine hf E V vs hc ⟨by rw [hd.1, h.len], fun i a ha => ?_⟩;obtain ⟨b, hb⟩ := zaE (xs := l) (i := i) (by rw [h.len]; exact get_lt ha);exact h.at i a b ha hb E _ (hd.2 i b hb)
theorem f25_c (hmain : H[0]? = some .main) (hk : k (bv true) H) : FnC true Tryz.prog 25 H [] k kp := by
 refine zlu (rs := [.tmp 0]) (nt := 177) Tryz.f25 fun hH hA => ?_;simp only [argsT, Nat.reduceAdd];refine zfK ?_;refine zfK ?_;refine zl6 ((f80_c (ts := []) (by decide) ?_));(try simp only [seval]);refine zl6 ((ex_worn hmain ?_));(try simp only [seval]);refine zfK ?_;refine zl6 ((f80_c (ts := []) (by decide) ?_));(try simp only [seval]);refine zl6 ((ex_opens hmain ?_));(try simp only [seval]);refine zfK ?_;refine zl6 ((f82_c ?_));(try simp only [seval, Try.av, Try.l, exLast, zt3, zd5]);refine zl6 ((f80_c (ts := [exLast]) (by decide) ?_));(try simp only [seval]);refine zl6 ((ex_count hmain ?_));(try simp only [seval]);refine zfK ?_;refine zl6 ((f80_c (ts := []) (by decide) ?_));(try simp only [seval]);refine zl6 ((ex_ask hmain ?_));(try simp only [seval]);refine zfK ?_;refine zl6 ((f82_c ?_));(try simp only [seval, Try.av, Try.l, exLast, zt3, zd5]);refine zl6 ((f80_c (ts := [exLast]) (by decide) ?_));(try simp only [seval]);refine zl6 ((ex_cover hmain ?_));(try simp only [seval]);refine zfK ?_;refine zl6 ((f84_c ?_));(try simp only [seval]);refine zl6 ((ex_alike hmain ?_));(try simp only [seval]);refine zfK ?_;refine zl6 ((f80_c (ts := []) (by decide) ?_));(try simp only [seval, zu2, zes]);refine zl6 ((zmH (.cons (Wk.refl _) (.cons (zaK _ _ _) .nil)) (ex_which hmain ?_)));(try simp only [seval]);refine zfK ?_;refine zl6 ((f80_c (ts := []) (by decide) ?_));(try simp only [seval, zr2, zes]);refine zl6 ((zmH (.cons (Wk.refl _) (.cons (zaK _ _ _) .nil)) (ex_cut hmain ?_)));(try simp only [seval]);refine zfK ?_;refine zl6 ((f83_c ?_));(try simp only [seval, Try.av, Try.l, exNever, zt3, zd5]);refine zl6 ((f80_c (ts := [exNever]) (by decide) ?_));(try simp only [seval]);refine zl6 ((ex_wrong hmain ?_));(try simp only [seval]);refine zfK ?_;refine zl6 ((f80_c (ts := []) (by decide) ?_));(try simp only [seval]);refine zl6 ((ex_tell hmain ?_));(try simp only [seval]);refine zl5 ?_;simp only [seval, List.append_eq, beq_self_eq_true, zr2, zes];refine zl6 ((f34_same (xs := [0, 1]) (by decide) ?_));(try simp only [seval, List.append_eq, beq_self_eq_true, zr3, zd5]);refine zl6 ((f34_same (xs := [0, 1, 2]) (by decide) ?_));(try simp only [seval, List.append_eq, beq_self_eq_true, zr3, zd5]);refine zl6 ((f34_same (xs := [0, 1, 0]) (by decide) ?_));(try simp only [seval, List.append_eq, beq_self_eq_true, zr2, zes]);refine zl6 ((f34_same (xs := [1, 2]) (by decide) ?_));(try simp only [seval, List.append_eq, beq_self_eq_true, zr2, zes]);refine zl6 ((f34_same (xs := [2, 1]) (by decide) ?_));(try simp only [seval, List.append_eq, beq_self_eq_true, z1, zhq]);refine zl6 ((f34_same (xs := [0]) (by decide) ?_));(try simp only [seval, List.append_eq, beq_self_eq_true, zr2, zes]);refine zl6 ((f34_same (xs := [0, 1]) (by decide) ?_));(try simp only [seval]);refine zlj ?_;exact zao hk
theorem f155_c {n due : Int} (hk : k (iv (sizedM n due)) H) : FnC lv Tryz.prog 155 H [iv n, iv due] k kp := by
 refine zlu (rs := [.tmp 4]) (nt := 11) Tryz.f155 fun hH hA => ?_;simp only [argsT, Nat.reduceAdd];refine zfK ?_;refine zfK ?_;refine zhC ?_;refine ⟨fun h => ?_, fun h => ?_⟩
 ·refine zfK ?_;refine zlj ?_;refine zao ?_;simpa [sizedM, h] using hk
 ·refine zkY ?_;refine zfK ?_;refine zhC ?_;refine ⟨fun h2 => ?_, fun h2 => ?_⟩
  ·refine zfK ?_;refine zlj ?_;refine zao ?_;simpa [sizedM, h, h2] using hk
  ·refine zkY ?_;refine zfK ?_;refine zlj ?_;refine zao ?_;simpa [sizedM, h, h2] using hk
theorem f97_i {n lo hi : Int} (hk : k (bv (inM n lo hi)) H) : FnC lv Tryz.prog 97 H [iv n, iv lo, iv hi] k kp := f97_c hk
theorem f156_c {b : Band} {most : Int} (hk : k (iv (bandM b most)) H) : FnC lv Tryz.prog 156 H [b.av, iv most] k kp := by
 refine zlu (rs := [.tmp 4]) (nt := 22) Tryz.f156 fun hH hA => ?_;simp only [argsT, Nat.reduceAdd, Band.av, Band.l];refine zfK ?_;refine zfK ?_;refine zl6 ((f97_i ?_));(try simp only [seval]);unfold bandM at hk;refine guardI (fun h3 => ?_) (fun h3 => ?_)
 ·simp only [Bool.not_eq_false', Bool.not_eq_true', Bool.not_true, Bool.not_false] at h3;rw [h3] at hk;(try simp only [seval]);refine zl6 ((f97_i ?_));(try simp only [seval]);refine zhC ?_;refine ⟨fun h => ?_, fun h => ?_⟩
  ·refine zfK ?_;refine zlj ?_;exact endV hH (by simpa [h] using hk)
  ·rw [h] at hk;refine zkY ?_;refine zfK ?_;refine zhC ?_;refine ⟨fun h2 => ?_, fun h2 => ?_⟩
   ·refine zfK ?_;refine zlj ?_;exact endV hH (by simpa [h2] using hk)
   ·refine zkY ?_;refine zfK ?_;refine zlj ?_;exact endV hH (by simpa [h2] using hk)
 ·simp only [Bool.not_eq_false', Bool.not_eq_true', Bool.not_true, Bool.not_false] at h3;(try simp only [seval]);refine zhC ?_;refine zfK ?_;refine zlj ?_;exact endV hH (by simpa [h3] using hk)
theorem f109_c {x : Ring} {y : Key} (hsz : y.cuts.length < 2 ^ 62) (hk : k (iv (keyM x.cuts y)) H) : FnC lv Tryz.prog 109 H [x.av, y.av] k kp := by
 refine zlu (rs := [.tmp 4]) (nt := 33) Tryz.f109 fun hH hA => ?_;simp only [argsT, Nat.reduceAdd, Key.av, Key.l, aInts, Ring.av, Ring.l];refine zfK ?_;refine zfK ?_;refine zl6 ((f155_c ?_));(try simp only [seval]);refine zfK ?_;refine zhC ?_;refine ⟨fun h => ?_, fun h => ?_⟩
 ·refine zfK ?_;refine zlj ?_;refine endV hH ?_;rw [keyM, if_neg h] at hk; exact hk
 ·refine zkY ?_;refine zfK ?_;refine zly ?_;refine zlE y.cuts.length (fun i : Nat => [(6, iv i)]) (fun _ => _) (fun i => firstE cutM y.cuts = firstE cutM (y.cuts.drop i)) rfl (fun hHs hLt i hin hi R hR => ?_);refine zfK ?_;refine zhC ?_;refine ⟨fun h2 => ?_, fun h2 => ?_⟩
  ·have hlt : i < y.cuts.length := (by omega);obtain ⟨d, hd⟩ := zaE hlt;refine zkY ?_;refine zl5 ?_;simp only [seval, za2 hd, zaz hlt];refine zl6 ((f97_i ?_));(try simp only [seval]);refine zhC ?_;refine ⟨fun h3 => ?_, fun h3 => ?_⟩
   ·refine zfK ?_;refine zlj ?_;refine endV hH ?_;rw [keyM, if_pos h, if_neg ?_] at hk
    ·exact hk
    ·rw [hi, zaZ hd]; simp [cutM, h3]
   ·refine zkY ?_;refine zfK ?_;refine hR _ ⟨hlt, ?_, ?_⟩
    ·rw [hi, zaZ hd]; simp [cutM, h3]
    ·rw [zau _ (by omega)];exact zlA
  ·refine zlz ?_;refine zfK ?_;refine zl6 ((f156_c (b := y.wear) ?_));(try simp only [seval]);refine zlj ?_;refine endV hH ?_;rw [keyM, if_pos h, if_pos ?_] at hk
   ·exact hk
   ·have : i = y.cuts.length := (by omega);rw [hi, this]; simp [firstE]
theorem f110_c {x : Ring} {l : List Band} (hsz : l.length < 2 ^ 30) (hk : k (iv (lockM x.cuts l)) H) : FnC lv Tryz.prog 110 H [x.av, aBands l] k kp := by
 refine zlu (rs := [.tmp 4]) (nt := 30) Tryz.f110 fun hH hA => ?_;simp only [argsT, Nat.reduceAdd, aBands, Ring.av, Ring.l];refine zfK ?_;refine zfK ?_;refine zl6 ((f155_c ?_));(try simp only [seval]);refine zfK ?_;refine zhC ?_;refine ⟨fun h => ?_, fun h => ?_⟩
 ·refine zfK ?_;refine zlj ?_;refine endV hH ?_;rw [lockM, if_neg h] at hk; exact hk
 ·refine zkY ?_;refine zfK ?_;refine zly ?_;refine zlE l.length (fun i : Nat => [(6, iv i)]) (fun _ => _) (fun i => firstE (bandM · 3) l = firstE (bandM · 3) (l.drop i)) rfl (fun hHs hLt i hin hi R hR => ?_);refine zfK ?_;refine zhC ?_;refine ⟨fun h2 => ?_, fun h2 => ?_⟩
  ·have hlt : i < l.length := (by omega);obtain ⟨d, hd⟩ := zaE hlt;refine zkY ?_;refine zl5 ?_;simp only [seval, zdh hd, zaz hlt];refine zl6 ((f156_c (b := d) ?_));(try simp only [seval]);refine zfK ?_;refine zhC ?_;refine ⟨fun h3 => ?_, fun h3 => ?_⟩
   ·refine zfK ?_;refine zlj ?_;refine endV hH ?_;have e : firstE (bandM · 3) l = bandM d 3 := (by rw [hi, zaZ hd, if_neg h3]);rw [lockM, if_pos h, e] at hk; exact hk
   ·refine zkY ?_;refine zfK ?_;refine hR _ ⟨hlt, ?_, ?_⟩
    ·rw [hi, zaZ hd, if_pos h3]
    ·rw [zau _ (by omega)];exact zlA
  ·refine zlz ?_;refine zfK ?_;refine zlj ?_;refine endV hH ?_;have : i = l.length := (by omega);rw [lockM, if_pos h, hi, this] at hk;simpa [firstE] using hk
theorem f96_c {x : Ring} {n : Int} (hs : x.keys.length < 2 ^ 60) (hk : k (bv (inM n 0 (x.keys.length - 1))) H) : FnC lv Tryz.prog 96 H [x.av, iv n] k kp := by
 refine zlu (rs := [.tmp 4]) (nt := 11) Tryz.f96 fun hH hA => ?_;simp only [argsT, Nat.reduceAdd, Ring.av, Ring.l, aKeys];have w1 : IntKind.i64.wrap ((x.keys.length : Int) - 1) = x.keys.length - 1 := zau _ (by omega);refine zfK ?_;refine zl5 ?_;simp only [seval, w1];refine zl6 ((f97_i ?_));(try simp only [seval]);refine zlj ?_;exact endV hH hk
theorem f104_c {x : Ring} {n : Int} (hs : x.locks.length < 2 ^ 60) (hk : k (bv (inM n 0 (x.locks.length - 1))) H) : FnC lv Tryz.prog 104 H [x.av, iv n] k kp := by
 refine zlu (rs := [.tmp 4]) (nt := 11) Tryz.f104 fun hH hA => ?_;simp only [argsT, Nat.reduceAdd, Ring.av, Ring.l, aLocks];have w1 : IntKind.i64.wrap ((x.locks.length : Int) - 1) = x.locks.length - 1 := zau _ (by omega);refine zfK ?_;refine zl5 ?_;simp only [seval, w1];refine zl6 ((f97_i ?_));(try simp only [seval]);refine zlj ?_;exact endV hH hk
theorem zmq {x : Ring} {t : Try} (h : (inM t.key 0 (x.keys.length - 1) && inM t.lock 0 (x.locks.length - 1)) = false) : tryM x t = 3 := by unfold tryM; rw [h]; rfl
theorem zmR {x : Ring} {t : Try} (h : (inM t.key 0 (x.keys.length - 1) && inM t.lock 0 (x.locks.length - 1)) = true) : tryM x t = 0 := by unfold tryM; rw [h]; rfl
theorem f36_c {x : Ring} (hs : x.Small) (hk : k (iv (checkM x)) H) : FnC lv Tryz.prog 36 H [x.av] k kp := by
 refine zlu (rs := [.tmp 2]) (nt := 85) Tryz.f36 fun hH hA => ?_;simp only [argsT, Nat.reduceAdd, Ring.av, Ring.l, aKeys, aLocks, aTries];have hks := hs.keys;have hls := hs.locks;have hts := hs.tries;refine zfK ?_;refine zfK ?_;refine zl6 ((f97_i ?_));(try simp only [seval]);refine zhC ?_;refine ⟨fun h => ?_, fun h => ?_⟩
 ·refine zfK ?_;refine zlj ?_;refine endV hH ?_;rw [checkM, if_pos h] at hk; exact hk
 ·rw [checkM, if_neg (by rw [h]; simp)] at hk;refine zkY ?_;refine zfK ?_;refine zhC ?_;refine ⟨fun h => ?_, fun h => ?_⟩
  ·refine zfK ?_;refine zlj ?_;refine endV hH ?_;rw [if_pos (by omega)] at hk; exact hk
  ·rw [if_neg (by omega)] at hk;refine zkY ?_;refine zfK ?_;refine zly ?_;refine zlE x.keys.length (fun i : Nat => [(3, iv i)]) (fun _ => _) (fun i => firstE (keyM x.cuts) x.keys = firstE (keyM x.cuts) (x.keys.drop i)) rfl (fun hHs hLt i hin hi R hR => ?_);refine zfK ?_;refine zhC ?_;refine ⟨fun h2 => ?_, fun h2 => ?_⟩
   ·have hlt : i < x.keys.length := (by omega);obtain ⟨y, hy⟩ := zaE hlt;refine zkY ?_;refine zly ?_;refine zlC 6 ?_;simp only [seval, zc2 hy, zaz hlt, zh0, aInts];refine zl6 ((f109_c (x := x) (y := y) (Nat.lt_trans (hs.cuts y (zas hy)) (by decide)) ?_));(try simp only [seval]);refine zfK ?_;refine zhC ?_;refine ⟨fun h3 => ?_, fun h3 => ?_⟩
    ·refine zfK ?_;refine zlj ?_;refine endV hH ?_;have e : firstE (keyM x.cuts) x.keys = keyM x.cuts y := (by rw [hi, zaZ hy, if_neg h3]);rw [if_pos (by rw [e]; exact h3), e] at hk; exact hk
    ·refine zkY ?_;refine zfK ?_;refine hR _ ⟨hlt, ?_, ?_⟩
     ·rw [hi, zaZ hy, if_pos h3]
     ·rw [zau _ (by omega)];exact zlA
   ·have hz : firstE (keyM x.cuts) x.keys = 0 := by
     have : i = x.keys.length := (by omega);rw [hi, this]; simp [firstE]
    rw [if_neg (by rw [hz]; simp)] at hk;clear hR;refine zlz ?_;refine zfK ?_;refine zhC ?_;refine ⟨fun h => ?_, fun h => ?_⟩
    ·refine zfK ?_;refine zlj ?_;refine endV hH ?_;rw [if_pos (by omega)] at hk; exact hk
    ·rw [if_neg (by omega)] at hk;refine zkY ?_;refine zfK ?_;refine zly ?_;refine zlE x.locks.length (fun i : Nat => [(5, iv i)]) (fun _ => _) (fun i => firstE (lockM x.cuts) x.locks = firstE (lockM x.cuts) (x.locks.drop i)) rfl (fun hHs hLt i hin hi R hR => ?_);refine zfK ?_;refine zhC ?_;refine ⟨fun h2 => ?_, fun h2 => ?_⟩
     ·have hlt : i < x.locks.length := (by omega);obtain ⟨y, hy⟩ := zaE hlt;refine zkY ?_;refine zly ?_;refine zlC 6 ?_;simp only [seval, zfu hy, zaz hlt];refine zl6 ((f110_c (x := x) (l := y) (hs.bands y (zas hy)) ?_));(try simp only [seval]);refine zfK ?_;refine zhC ?_;refine ⟨fun h3 => ?_, fun h3 => ?_⟩
      ·refine zfK ?_;refine zlj ?_;refine endV hH ?_;have e : firstE (lockM x.cuts) x.locks = lockM x.cuts y := (by rw [hi, zaZ hy, if_neg h3]);rw [if_pos (by rw [e]; exact h3), e] at hk; exact hk
      ·refine zkY ?_;refine zfK ?_;refine hR _ ⟨hlt, ?_, ?_⟩
       ·rw [hi, zaZ hy, if_pos h3]
       ·rw [zau _ (by omega)];exact zlA
     ·have hz : firstE (lockM x.cuts) x.locks = 0 := by
       have : i = x.locks.length := (by omega);rw [hi, this]; simp [firstE]
      rw [if_neg (by rw [hz]; simp)] at hk;clear hR;refine zlz ?_;refine zfK ?_;refine zhC ?_;refine ⟨fun h => ?_, fun h => ?_⟩
      ·refine zfK ?_;refine zlj ?_;refine endV hH ?_;rw [if_pos (by omega)] at hk; exact hk
      ·rw [if_neg (by omega)] at hk;refine zkY ?_;refine zfK ?_;refine zly ?_;refine zlE x.tries.length (fun i : Nat => [(7, iv i)]) (fun _ => _) (fun i => firstE (tryM x) x.tries = firstE (tryM x) (x.tries.drop i)) rfl (fun hHs hLt i hin hi R hR => ?_);refine zfK ?_;refine zhC ?_;refine ⟨fun h2 => ?_, fun h2 => ?_⟩
       ·have hlt : i < x.tries.length := (by omega);obtain ⟨y, hy⟩ := zaE hlt;have bad : ∀ {K : Prop}, tryM x y = 3 -> (k (iv 3) H -> K) -> K := fun e hK => hK (by
         rw [hi, zaZ hy, e, if_neg (by decide)] at hk; exact hk)
        refine zkY ?_;refine zly ?_;refine zlC 17 ?_;simp only [seval, zh6 hy, zaz hlt];refine qCall _ (zlD (f96_c (x := x) (by omega) ⟨rfl, rfl⟩)) ?_;(try simp only [seval]);refine guardI (fun h3 => ?_) (fun h3 => ?_)
        ·simp only [Bool.not_eq_false', Bool.not_eq_true', Bool.not_true, Bool.not_false] at h3;(try simp only [seval, zh6 hy, zaz hlt]);refine zl6 ((f104_c (x := x) (by omega) ?_));(try simp only [seval]);refine zhC ?_;refine ⟨fun h4 => ?_, fun h4 => ?_⟩
         ·refine zfK ?_;refine zlj ?_;exact endV hH (bad (zmq (by rw [h3, h4]; rfl)) id)
         ·refine zkY ?_;refine zfK ?_;refine hR _ ⟨hlt, ?_, ?_⟩
          ·rw [hi, zaZ hy, if_pos (zmR (by rw [h3, h4]; rfl))]
          ·rw [zau _ (by omega)];exact zlA
        ·simp only [Bool.not_eq_false', Bool.not_eq_true', Bool.not_true, Bool.not_false] at h3;(try simp only [seval]);refine zhC ?_;refine zfK ?_;refine zlj ?_;exact endV hH (bad (zmq (by rw [h3]; rfl)) id)
       ·clear hR;refine zlz ?_;refine zfK ?_;refine zlj ?_;refine endV hH ?_;have : i = x.tries.length := (by omega);rw [hi, this] at hk;simpa [firstE] using hk
def knownE (x : Ring) (b : Bool) : Int := if checkM x ≠ 0 then checkM x else if b then 0 else 3
theorem f95_c {x : Ring} {b : Bool} (hs : x.Small) (hk : k (iv (knownE x b)) H) : FnC lv Tryz.prog 95 H [x.av, bv b] k kp := by
 refine zlu (rs := [.tmp 4]) (nt := 13) Tryz.f95 fun hH hA => ?_;simp only [argsT, Nat.reduceAdd, Ring.av, Ring.l];refine zfK ?_;refine zfK ?_;refine zl6 ((f36_c (x := x) hs ?_));(try simp only [seval]);refine zfK ?_;unfold knownE at hk;refine zhC ?_;refine ⟨fun h => ?_, fun h => ?_⟩
 ·rw [if_pos h] at hk;refine zfK ?_;refine zlj ?_;exact endV hH hk
 ·rw [if_neg (by simpa using h)] at hk;refine zkY ?_;refine zfK ?_;refine zhC ?_;refine ⟨fun h2 => ?_, fun h2 => ?_⟩
  ·refine zfK ?_;refine zlj ?_;exact endV hH (by simpa [h2] using hk)
  ·refine zkY ?_;refine zfK ?_;refine zlj ?_;exact endV hH (by simpa [h2] using hk)
end
theorem zlZ (n m k : Nat) (bs : List (List Int)) : Lt n (.sl m (bs.map aInts) (.opn k)) = (k < n) := by
 rw [zdq, eq_iff_iff];refine ⟨fun h => h.1, fun h => ⟨h, fun a ha => ?_⟩⟩;have := zlv n bs;rw [aRows, za3] at this;exact this.mpr trivial a ha
theorem zs1 : zeroRow (Value.slice none 0 0) 1 = [.sl 0 [] .exact] := rfl
section
variable {lv : Bool}
end
section
variable {lv : Bool} {H : List AObj} {k kp : AV -> List AObj -> Prop}
end
def listsM (n : Nat) : Nat -> List (List Int)
 | 0 => [[]]
 | k + 1 => (List.range n).flatMap fun i : Nat => (listsM n k).map ((i : Int) :: ·)
theorem zeh : ∀ n, n <= 4 -> ∀ k, k <= 4 -> (listsM n k).length <= 256 /\ ∀ r ∈ listsM n k, r.length = k /\ ∀ i ∈ r, 0 <= i /\ i < n := by decide +kernel
section
variable {lv : Bool}
end
section
variable {lv : Bool} {H : List AObj} {k kp : AV -> List AObj -> Prop}
def wearOk (x : Ring) (t : List Int) : Nat -> Bool
 | 0 => true
 | k + 1 => wearOk x t k && (match x.keys[k]?, t[k]? with | some y, some w => decide (y.wear.min <= w) && decide (w <= y.wear.max) | _, _ => true)
def triesOk (x : Ring) (t : List Int) : Nat -> Bool
 | 0 => true
 | i + 1 => triesOk x t i && (match x.tries[i]? with | some r => opensW x.keys t x.locks r.key r.lock == r.opens | none => true)
def fineW (x : Ring) (t : List Int) : Bool := wearOk x t x.keys.length && triesOk x t x.tries.length
def truthsL (x : Ring) : List (List Int) := (listsM 3 x.keys.length).filter (fineW x)
theorem zlS (t : List Int) : (aInts t).parts = some [aInts t] := rfl
theorem zgv {x : Ring} {t : List Int} {k : Nat} {y : Key} {w : Int} (hy : x.keys[k]? = some y) (hw : t[k]? = some w) : wearOk x t (k + 1) = (wearOk x t k && (decide (y.wear.min <= w) && decide (w <= y.wear.max))) := by rw [wearOk, hy, hw]
theorem zf9 {x : Ring} {t : List Int} {i : Nat} {r : Try} (hr : x.tries[i]? = some r) : triesOk x t (i + 1) = (triesOk x t i && (opensW x.keys t x.locks r.key r.lock == r.opens)) := by rw [triesOk, hr]
def rowOk (ks : List Key) (r : List Int) : Bool := (ks.zip r).all fun p => decide (p.1.wear.min <= p.2) && decide (p.2 <= p.1.wear.max)
theorem zlx (y : Key) (ks : List Key) (w : Int) (r : List Int) : rowOk (y :: ks) (w :: r) = (decide (y.wear.min <= w) && decide (w <= y.wear.max) && rowOk ks r) := by simp [rowOk]
theorem zlU {lo hi : Int} (h0 : 0 <= lo) (h1 : lo <= hi) (h2 : hi <= 2) {β : Type} (f : Int -> List β) : (rangeI lo hi).flatMap f = (List.range 3).flatMap fun i : Nat => if decide (lo <= (i : Int)) && decide ((i : Int) <= hi) then f i else [] := by
 have hr : List.range 3 = [0, 1, 2] := rfl;have hl : lo = 0 \/ lo = 1 \/ lo = 2 := by omega
 have hh : hi = 0 \/ hi = 1 \/ hi = 2 := by omega
 rw [hr];rcases hl with rfl | rfl | rfl <;> rcases hh with rfl | rfl | rfl <;> first | omega | (simp [rangeI, List.range_succ])
theorem zli : ∀ (ys : List Key) (pre : List Int) (m : Nat), (∀ y ∈ ys, y.wear.Ok 2) -> growM ys pre.length (pre ++ List.replicate (m + ys.length) 0) = ((listsM 3 ys.length).filter (rowOk ys)).map fun r => pre ++ r ++ List.replicate m 0
 | [], pre, m, _ => by simp [growM, listsM, rowOk]
 | y :: ys, pre, m, h => by
  have hy := h y List.mem_cons_self;rw [growM, zlU hy.min hy.le hy.max];show _ = (((List.range 3).flatMap fun i : Nat => (listsM 3 ys.length).map ((i : Int) :: ·)).filter (rowOk (y :: ys))).map _;rw [List.filter_flatMap, List.map_flatMap];congr 1;funext i;have hset : (pre ++ List.replicate (m + (y :: ys).length) 0).set pre.length (i : Int) = (pre ++ [(i : Int)]) ++ List.replicate (m + ys.length) 0 := by
   rw [List.set_append_right _ _ (Nat.le_refl _), Nat.sub_self, List.length_cons, <- Nat.add_assoc, List.replicate_succ, List.set_cons_zero, List.append_assoc]; rfl
  have ih := zli ys (pre ++ [(i : Int)]) m fun z hz => h z (List.mem_cons_of_mem _ hz);rw [List.length_append, List.length_singleton] at ih;rw [hset, ih];cases hc : (decide (y.wear.min <= (i : Int)) && decide ((i : Int) <= y.wear.max)) with
  | true =>
   rw [if_pos rfl, List.filter_map, List.map_map];have : (rowOk (y :: ys) ∘ fun x => (i : Int) :: x) = rowOk ys := (by funext r; simp only [Function.comp]; rw [zlx, hc, Bool.true_and]);rw [this];congr 1;funext r;simp
  | false =>
   rw [if_neg (by simp), List.filter_map, List.map_map];have : (rowOk (y :: ys) ∘ fun x => (i : Int) :: x) = fun _ => false := (by funext r; simp only [Function.comp]; rw [zlx, hc, Bool.false_and]);rw [this];simp
def padR (n : Nat) (r : List Int) : List Int := r ++ List.replicate (4 - n) 0
theorem zlG {x : Ring} (hx : x.Ok) : wears0 x = ((listsM 3 x.keys.length).filter (rowOk x.keys)).map (padR x.keys.length) := by
 have h4 := hx.keys;have h := zli x.keys [] (4 - x.keys.length) fun y hy => (hx.key y hy).2.2;rw [show 4 - x.keys.length + x.keys.length = 4 by omega] at h;exact h
theorem zlw (x : Ring) (t : List Int) : ∀ k, k <= x.keys.length -> k <= t.length -> wearOk x t k = ((x.keys.zip t).take k).all fun p => decide (p.1.wear.min <= p.2) && decide (p.2 <= p.1.wear.max)
 | 0, _, _ => rfl
 | k + 1, h, h' => by
  obtain ⟨y, hy⟩ := zaE (xs := x.keys) (i := k) (by omega);obtain ⟨w, hw⟩ := zaE (xs := t) (i := k) (by omega);have hz : (x.keys.zip t)[k]? = some (y, w) := by rw [List.getElem?_zip_eq_some]; exact ⟨hy, hw⟩
  rw [zgv hy hw, zlw x t k (by omega) (by omega)];obtain ⟨hj, hle⟩ := List.getElem?_eq_some_iff.1 hz;rw [List.take_succ_eq_append_getElem hj, hle, List.all_append];simp
theorem zlP {x : Ring} {t : List Int} (h : t.length = x.keys.length) : wearOk x t x.keys.length = rowOk x.keys t := by
 rw [zlw x t _ (Nat.le_refl _) (by omega), List.take_of_length_le (by simp [h])]; rfl
theorem ziC (cuts : Int) (ds : List Int) (ls : List (List Band)) (j : Nat) : ∀ i, (openedM cuts ds ls i).testBit j = (decide (j < i) && (match ls[j]? with | some l => fitsM (ds.take cuts.toNat) l | none => false))
 | 0 => by simp [openedM]
 | i + 1 => by
  have ih := ziC cuts ds ls j i;have hlt := zb5 cuts ds ls i;have hhi : (openedM cuts ds ls i).testBit i = false := Nat.testBit_lt_two_pow hlt;unfold openedM;by_cases hji : j = i
  ·subst hji;cases hl : ls[j]? with
   | none => simp [hhi]
   | some l =>
    simp only;split
    ·rename_i hf; simp [Nat.testBit_or, Nat.testBit_two_pow_self, hf]
    ·rename_i hf; simp [hhi, hf]
  ·have hd : decide (j < i + 1) = decide (j < i) := (by congr 1; simp; omega);rw [hd];cases hl : ls[i]? with
   | none => exact ih
   | some l =>
    simp only;split
    ·rw [Nat.testBit_or, ih, Nat.testBit_two_pow_of_ne (Ne.symm hji), Bool.or_false]
    ·exact ih
theorem zf8 {x : Ring} (hx : x.Ok) {t : List Int} (ht : t.length = x.keys.length) (hb : ∀ w ∈ t, 0 <= w /\ w <= 2) {k l : Nat} (hk : k < x.keys.length) (hl : l < x.locks.length) : (inTruth x (padR x.keys.length t) k).testBit l = opensW x.keys t x.locks k l := by
 obtain ⟨y, hy⟩ := zaE hk;obtain ⟨lk, hlk⟩ := zaE hl;obtain ⟨w, hw⟩ := zaE (xs := t) (i := k) (by omega);obtain ⟨hyc, hyb, hyw⟩ := hx.key y (zas hy);have hw0 := (hb w (zas hw)).1;have hc := hx.cuts;have hp : (padR x.keys.length t).getD k 0 = w := by
  unfold padR;rw [List.getD_eq_getElem?_getD, List.getElem?_append_left (by omega), hw]; rfl
 have how : opensW x.keys t x.locks k l = fitsM (wornM w y.cuts) lk := by
  unfold opensW;simp only [Int.toNat_natCast, List.getD_eq_getElem?_getD, hy, hw, hlk, Option.map_some, Option.getD_some]
 rw [how];unfold inTruth opensM;rw [hp, hy];simp only;rw [ziC, hlk];have hwn : ((w.toNat : Nat) : Int) = w := by omega
 have htk : (wornM (w.toNat : Nat) (depthsM y.cuts)).take x.cuts.toNat = wornM w y.cuts := by
  rw [hwn];unfold wornM depthsM;rw [List.take_of_length_le (show y.cuts.length <= 4 by omega), List.map_append, List.take_append_of_le_length (by simp; omega), List.take_of_length_le (by simp; omega)]
 rw [htk];simp [hl]
theorem zlN {x : Ring} (hx : x.Ok) {t : List Int} (ht : t.length = x.keys.length) (hb : ∀ w ∈ t, 0 <= w /\ w <= 2) : ∀ i, i <= x.tries.length -> okTo x [] (padR x.keys.length t) i = triesOk x t i
 | 0, _ => rfl
 | i + 1, h => by
  obtain ⟨r, hr⟩ := zaE (xs := x.tries) (i := i) (by omega);obtain ⟨⟨hk0, hk⟩, hl0, hl⟩ := hx.tried r (zas hr);rw [okTo, zlN hx ht hb i (by omega), zf9 hr, hr];have h1 := zf8 hx ht hb (k := r.key.toNat) (l := r.lock.toNat) (by omega) (by omega);have e1 : ((r.key.toNat : Nat) : Int) = r.key := by omega
  have e2 : ((r.lock.toNat : Nat) : Int) = r.lock := by omega
  rw [e1, e2] at h1;simp only [List.contains_nil, Bool.false_or];unfold triedM;rw [<- h1]; rfl
theorem zlO {α : Type} (l : List α) (p : α -> Bool) : ((l.zipIdx.filter fun y => p y.1).map (·.1)) = l.filter p := by
 have h := List.filter_map (f := fun y : α × Nat => y.1) (p := p) (l := l.zipIdx);rw [List.zipIdx_map_fst] at h;exact h.symm
theorem zgX {x : Ring} (hx : x.Ok) : (truthsM x []).map (·.1) = (truthsL x).map (padR x.keys.length) := by
 unfold truthsM truthsTo;rw [zlO (wears0 x) fun r => okTo x [] r x.tries.length, zlG hx, List.filter_map, List.filter_filter];congr 1;unfold truthsL;refine List.filter_congr fun t ht => ?_;obtain ⟨h1, h2⟩ := (zeh 3 (by omega) x.keys.length hx.keys).2 t ht;have hb : ∀ w ∈ t, 0 <= w /\ w <= 2 := fun w hw => by have := h2 w hw; omega
 simp only [Function.comp];rw [zlN hx h1 hb _ (Nat.le_refl _), fineW, zlP h1, Bool.and_comm]
theorem zlQ {x : Ring} (hx : x.Ok) : (truthsM x []).length = (truthsL x).length := by
 have := congrArg List.length (zgX hx);rwa [List.length_map, List.length_map] at this
theorem zmL {x : Ring} (hx : x.Ok) (f : List Int -> Bool) : ((truthsM x []).any fun y => f y.1) = (truthsL x).any fun t => f (padR x.keys.length t) := by
 have h := congrArg (fun l => List.any l f) (zgX hx);simp only [List.any_map] at h;exact h
theorem zhQ {x : Ring} (hx : x.Ok) : ∀ t ∈ truthsL x, t.length = x.keys.length /\ ∀ w ∈ t, 0 <= w /\ w <= 2 := fun t ht => by
 obtain ⟨h1, h2⟩ := (zeh 3 (by omega) x.keys.length hx.keys).2 t (List.mem_filter.1 ht).1;exact ⟨h1, fun w hw => by have := h2 w hw; omega⟩
theorem zlJ {x : Ring} (hx : x.Ok) : (truthsL x).length <= 256 := Nat.le_trans (List.length_filter_le _ _) (zeh 3 (by omega) x.keys.length hx.keys).1
end
section
variable {H : List AObj} {k kp : AV -> List AObj -> Prop}
end
section
variable {lv : Bool} {H : List AObj} {k kp : AV -> List AObj -> Prop}
end
theorem zmD {x : Ring} (hx : x.Ok) : truthsM x [] = [] <-> truthsL x = [] := by rw [<- List.length_eq_zero_iff, zlQ hx, List.length_eq_zero_iff]
section
variable {H : List AObj} {k kp : AV -> List AObj -> Prop}
end
section
variable {lv : Bool} {H : List AObj} {k kp : AV -> List AObj -> Prop}
theorem f98_c {xs : List Int} {n : Int} (hb : ∀ x ∈ xs, 0 <= x /\ x <= 3) (hn : 0 <= n /\ n <= 3) (hl : xs.length <= 2 ^ 20) (hk : k (aInts (wornM n xs)) H) : FnC lv Tryz.prog 98 H [aInts xs, iv n] k kp := by
 refine zlu (rs := [.tmp 4]) (nt := 24) Tryz.f98 fun hH hA => ?_;simp only [argsT, Nat.reduceAdd, aInts];refine zfK ?_;refine zfK ?_
 (repeat apply zaa); refine zbV (t := 5) (sz := 1) (el := 3) (by simp only [seval] <;> rfl) ?_
 refine zfK ?_;refine zly ?_;refine zaB xs.length (fun i : Nat => [(5, .sl i ((wornM n (xs.take i)).map iv) (.opn H.length)), (6, iv i)]) (fun i => H ++ [.tail i 1 3]) (fun i => True) (fun _ _ => rfl) (by simp only [seval]; simp [zaf, Wk.refl]; exact Wk.refl _) rfl (fun _ _ _ => by simp) trivial (fun hHs hLt i hin hi R hR => ?_);refine zfK ?_;refine zhC ?_;refine ⟨fun h => ?_, fun h => ?_⟩
 ·have hlt : i < xs.length := by omega
  obtain ⟨x, hx⟩ := zaE hlt;have hxb := hb x (zas hx);have hw : IntKind.i64.wrap (x - n) = x - n := zau _ (by omega);have hw2 : IntKind.i64.wrap ((i : Int) + 1) = i + 1 := zau _ (by omega);have hmax : (if 0 < x - n then x - n else 0) = max 0 (x - n) := by omega
  have hwl : ((wornM n (xs.take i)).map iv).length = i := by simp [wornM]; omega
  have hnext : (wornM n (xs.take (i + 1))).map iv = (wornM n (xs.take i)).map iv ++ [.val (.int .i64 (max 0 (x - n)))] := by
   unfold wornM;rw [List.map_map, zfA _ hx, List.map_map]; rfl
  refine zkY ?_;refine zl5 ?_;simp only [seval, z1, za2 hx, zaz hlt, hw, hmax, hwl]
  first | refine ⟨by omega, by omega, ?_⟩ | refine ⟨by omega, ?_⟩
  refine zl5 ?_;simp only [seval, hw2];refine hR _ ⟨hlt, trivial, ?_⟩;rw [hnext];exact zlA
 ·have hix : i = xs.length := by omega
  subst hix;refine zlz ?_;refine zfK ?_;refine zlj ?_;rw [List.take_length];have hwl : (wornM n xs).length = xs.length := by simp [wornM]
  rw [aInts, hwl] at hk;exact endA hH (zaK _ _ _) (by simp [za3, zap]) hk
theorem f124_c {x : Ring} {t : List Int} {e : End} {kn ln : Nat} (hx : x.Ok) (hkn : kn < x.keys.length) (hln : ln < x.locks.length) (htl : x.keys.length <= t.length) (htb : ∀ w ∈ t, 0 <= w /\ w <= 2) (hk : k (bv (opensW x.keys t x.locks kn ln)) H) : FnC lv Tryz.prog 124 H [x.av, .sl t.length (t.map iv) e, iv kn, iv ln] k kp := by
 refine zlu (rs := [.tmp 8]) (nt := 26) Tryz.f124 fun hH hA => ?_;simp only [argsT, Nat.reduceAdd, Ring.av, Ring.l];obtain ⟨y, hy⟩ := zaE hkn;obtain ⟨l, hl⟩ := zaE hln;obtain ⟨w, hw⟩ := zaE (xs := t) (i := kn) (by omega);obtain ⟨hyc, hyb, hyw⟩ := hx.key y (zas hy);obtain ⟨hlc, hlb⟩ := hx.lock l (zas hl);obtain ⟨hw0, hw2⟩ := htb w (zas hw);have hc := hx.cuts;have hdl : (wornM w y.cuts).length = y.cuts.length := by simp [wornM]
 have how : opensW x.keys t x.locks kn ln = fitsM (wornM w y.cuts) l := by
  unfold opensW;simp only [Int.toNat_natCast, List.getD_eq_getElem?_getD, hy, hw, hl, Option.map_some, Option.getD_some]
 rw [how] at hk;refine zfK ?_;refine zlC 16 ?_;simp only [seval, zc2 hy, zaz hkn, za2 hw, zaz (get_lt hw), zfu hl, zaz hln, aKeys, aLocks];refine qCall _ (zlD (f98_c hyb ⟨by omega, by omega⟩ (by omega) ⟨rfl, rfl⟩)) ?_;refine zl6 ((f146_c (by omega) (by omega) ?_));(try simp only [seval]);refine zlj ?_;exact endA hH (Wk.refl _) (by simp [zap]) hk
end
def wearsR : List Key -> List Int -> List (List Int)
 | [], t => [t]
 | y :: ys, t => (rangeI y.wear.min y.wear.max).flatMap fun w => wearsR ys (t ++ [w])
theorem zlK : ∀ (ys : List Key) (t : List Int), (∀ y ∈ ys, y.wear.Ok 2) -> wearsR ys t = ((listsM 3 ys.length).filter (rowOk ys)).map fun r => t ++ r
 | [], t, _ => by simp [wearsR, listsM, rowOk]
 | y :: ys, t, h => by
  obtain ⟨h0, h2, h1⟩ := h y List.mem_cons_self;rw [wearsR, zlU h0 h1 h2];simp only [List.length_cons, listsM];rw [List.filter_flatMap, List.map_flatMap];congr 1;funext i;rw [List.filter_map, List.map_map, zlK ys _ fun z hz => h z (List.mem_cons_of_mem _ hz)];have e : (rowOk (y :: ys) ∘ fun r => (i : Int) :: r) = fun r => decide (y.wear.min <= (i : Int)) && decide ((i : Int) <= y.wear.max) && rowOk ys r := by
   funext r; exact zlx y ys i r
  rw [e];cases hb : decide (y.wear.min <= (i : Int)) && decide ((i : Int) <= y.wear.max) with
  | false => simp
  | true => simp
theorem zlY (ys : List Key) (t : List Int) (h : ∀ y ∈ ys, y.wear.Ok 2) : (wearsR ys t).length <= 3 ^ ys.length := by
 rw [zlK ys t h, List.length_map];refine Nat.le_trans (List.length_filter_le _ _) ?_;have : ∀ n, (listsM 3 n).length = 3 ^ n := fun n => by
  induction n with
  | zero => rfl
  | succ n ih => simp [listsM, List.length_flatMap, List.range_succ, ih, Nat.pow_succ]; omega
 rw [this]; exact Nat.le_refl _
def wearsAt (y : Key) (ys : List Key) (t : List Int) (i : Nat) : List (List Int) := ((rangeI y.wear.min y.wear.max).take i).flatMap fun w => wearsR ys (t ++ [w])
theorem zl1 {y : Key} {ys : List Key} {t : List Int} {i : Nat} {w : Int} (h : (rangeI y.wear.min y.wear.max)[i]? = some w) : wearsAt y ys t (i + 1) = wearsAt y ys t i ++ wearsR ys (t ++ [w]) := by
 obtain ⟨hj, rfl⟩ := List.getElem?_eq_some_iff.1 h;unfold wearsAt;rw [List.take_succ_eq_append_getElem hj, List.flatMap_append]; simp
theorem zmw {y : Key} {ys : List Key} {t : List Int} (h : ∀ z ∈ ys, z.wear.Ok 2) : ∀ i, (wearsAt y ys t i).length <= i * 3 ^ ys.length := fun i => by
 induction i with
 | zero => simp [wearsAt]
 | succ i ih =>
  by_cases hi : i < (rangeI y.wear.min y.wear.max).length
  ·obtain ⟨w, hw⟩ := zaE hi;rw [zl1 hw, List.length_append, Nat.succ_mul];exact Nat.add_le_add ih (zlY ys (t ++ [w]) h)
  ·have e : wearsAt y ys t (i + 1) = wearsAt y ys t i := (by unfold wearsAt; rw [List.take_of_length_le (by omega), List.take_of_length_le (by omega)]);rw [e, Nat.succ_mul]; exact Nat.le_trans ih (Nat.le_add_right _ _)
section
variable {lv : Bool}
set_option maxRecDepth 4000 in
theorem f161_c {x : Ring} (hx : x.Ok) : ∀ (m : Nat) {t : List Int} {H : List AObj} {k kp : AV -> List AObj -> Prop}, t.length + m = x.keys.length -> k (aRows (wearsR (x.keys.drop t.length) t)) H -> FnC lv Tryz.prog 161 H [x.av, aInts t] k kp
 | 0, t, H, k, kp, hm, hk => by
  refine zlu (rs := [.tmp 4]) (nt := 42) Tryz.f161 fun hH hA => ?_;simp only [argsT, Nat.reduceAdd, Ring.av, Ring.l];have hm : t.length = x.keys.length := by omega
  have hq : ((t.length : Int) == x.keys.length) = true := by simp [hm]
  refine zfK ?_;refine zl5 ?_;simp only [seval, aKeys, aInts, hq];refine zhC ?_;refine zl5 ?_;simp only [seval, zs1, zhq, aKeys, aInts];refine zlj ?_;rw [hm, List.drop_length, wearsR] at hk;exact endA (b := aRows [t]) hH (zaK _ _ _) (by rw [zlv]; trivial) hk
 | m + 1, t, H, k, kp, hm, hk => by
  refine zlu (rs := [.tmp 4]) (nt := 42) Tryz.f161 fun hH hA => ?_;simp only [argsT, Nat.reduceAdd, Ring.av, Ring.l];have hkl := hx.keys;have hlt : t.length < x.keys.length := by omega
  obtain ⟨y, hy⟩ := zaE hlt;obtain ⟨hyc, hyb, hyw⟩ := hx.key y (zas hy);obtain ⟨hw0, hw2, hw1⟩ := hyw;have hdrop : x.keys.drop t.length = y :: x.keys.drop (t.length + 1) := by
   obtain ⟨hj, rfl⟩ := List.getElem?_eq_some_iff.1 hy;exact List.drop_eq_getElem_cons hj
  have hys : ∀ z ∈ x.keys.drop (t.length + 1), z.wear.Ok 2 := fun z hz => (hx.key z (List.mem_of_mem_drop hz)).2.2;have hq : ((t.length : Int) == x.keys.length) = false := by simp; omega
  have hrl : (rangeI y.wear.min y.wear.max).length = (y.wear.max - y.wear.min + 1).toNat := by simp [rangeI]
  have hpow : 3 ^ (x.keys.drop (t.length + 1)).length <= 27 := by
   have : (x.keys.drop (t.length + 1)).length <= 3 := (by rw [List.length_drop]; omega);exact Nat.pow_le_pow_right (by omega) this
  have hal : ∀ i, i <= 3 -> (wearsAt y (x.keys.drop (t.length + 1)) t i).length <= 81 := fun i hi => by
   refine Nat.le_trans (zmw hys i) (Nat.le_trans (Nat.mul_le_mul hi hpow) (by decide))
  refine zfK ?_;refine zl5 ?_;simp only [seval, aKeys, aInts, hq];refine zhC ?_;refine zkY ?_;refine zfK ?_;refine zl5 ?_;simp only [seval, zc2 hy, zaz hlt, aKeys, aInts]
  (repeat apply zaa); refine zbV (t := 5) (sz := 1) (el := 30) (by simp only [seval] <;> rfl) ?_
  (try simp only [seval]);refine zfK ?_;refine zly ?_;refine zaB (y.wear.max - y.wear.min + 1).toNat (fun i : Nat => [(5, .sl (wearsAt y (x.keys.drop (t.length + 1)) t i).length ((wearsAt y (x.keys.drop (t.length + 1)) t i).map aInts) (.opn (H.length + 2))), (7, iv (y.wear.min + i))]) (fun i => H ++ [.cells [iv x.cuts, aKeys x.keys, aLocks x.locks, aTries x.tries] 26, .cells [iv y.wear.min, iv y.wear.max] 63, .tail (wearsAt y (x.keys.drop (t.length + 1)) t i).length 1 30]) (fun i => True) (fun _ _ => rfl) (by simp only [Int.natCast_zero, Int.add_zero]; simp only [seval]; simp [zaf, Wk.refl]; try exact Wk.refl _) rfl (fun _ _ _ => by simp) trivial (fun hHs hLt i hin hi R hR => ?_);clear hHs hLt;refine zfK ?_;refine zhC ?_;refine ⟨fun h => ?_, fun h => ?_⟩
  ·have hil : i < (y.wear.max - y.wear.min + 1).toNat := (by omega);obtain ⟨w, hw⟩ := zaE (xs := rangeI y.wear.min y.wear.max) (i := i) (by omega);have hwe : w = y.wear.min + i := by
    unfold rangeI at hw;rw [List.getElem?_map, List.getElem?_range (by omega)] at hw;exact (Option.some.inj hw).symm
   have hsu := zl1 (ys := x.keys.drop (t.length + 1)) (t := t) hw;have hai := hal i (by omega);have hws : (wearsR (x.keys.drop (t.length + 1)) (t ++ [w])).length <= 81 := Nat.le_trans (zlY _ _ hys) (by omega);have hw3 : IntKind.i64.wrap (y.wear.min + (i : Int) + 1) = y.wear.min + ((i + 1 : Nat) : Int) := (by rw [zau _ (by omega)]; omega);generalize wearsAt y (x.keys.drop (t.length + 1)) t i = o at hsu hai hR ⊢;have htl : (t.map iv).length = t.length := List.length_map ..;have htk : (t.map iv).take t.length = t.map iv := List.take_of_length_le (by omega);have hol : (o.map aInts).length = o.length := List.length_map ..;have hfin : ∀ (G : List AObj), FnC lv Tryz.prog 161 G [x.av, aInts (t ++ [w])] (fun b H' => b = aRows (wearsR (x.keys.drop (t.length + 1)) (t ++ [w])) /\ H' = G) (fun _ _ => False) := fun G => f161_c hx m (by rw [List.length_append]; simp; omega) ⟨by rw [List.length_append, List.length_singleton], rfl⟩;refine zkY ?_;refine zly ?_;refine zlH [4, 7, 9] [0, 1, 2, 3, 4, 5, 6, 7, 8, 9, 10] [⟨0, false, [], [([4], [4]), ([4, 7], [4, 7])]⟩, ⟨1, false, [], [([4], [4]), ([4, 7], [4, 7])]⟩, ⟨2, false, [], []⟩, ⟨3, false, [], []⟩, ⟨4, true, [4], []⟩, ⟨5, false, [4], [([], [])]⟩, ⟨6, false, [4], [([], [])]⟩, ⟨7, true, [4, 7], []⟩, ⟨8, false, [4, 7], []⟩, ⟨9, true, [4, 7, 9], []⟩, ⟨10, false, [4, 7, 9], []⟩] (fun D => H ++ ([.cells [iv x.cuts, aKeys x.keys, aLocks x.locks, aTries x.tries] 26, .cells [iv y.wear.min, iv y.wear.max] 63, .tail (bif isDone 9 D then o.length + (wearsR (x.keys.drop (t.length + 1)) (t ++ [w])).length else o.length) 1 30] ++ (bif isDone 7 D then [.tail (t.length + 1) 1 3] else bif isDone 4 D then [.tail t.length 1 3] else []))) ?_;simp only [seval, z1, zhq, p24_0, htl, htk, hol, aInts];have hwk : Wk (.sl (t.length + 1) (t.map iv ++ [iv (y.wear.min + i)]) (.opn (H.length + 3))) (aInts (t ++ [w])) := by
    have e : aInts (t ++ [w]) = .sl (t.length + 1) (t.map iv ++ [iv (y.wear.min + i)]) .shut := (by rw [hwe]; simp [aInts]);rw [e]; exact zaK _ _ _
   generalize hq2 : wearsR (x.keys.drop (t.length + 1)) (t ++ [w]) = rs at hsu hws hfin ⊢;refine ⟨by omega, by omega, ?_⟩;refine qCall (aRows rs) (zlD (zmH (.cons (Wk.refl _) (.cons hwk .nil)) (hfin _))) ?_;have hrsl : (rs.map aInts).length = rs.length := List.length_map ..;have hrst : (rs.map aInts).take rs.length = rs.map aInts := List.take_of_length_le (by omega);(try simp only [seval, z1, zhq, p24_0, htl, htk, hol, hrsl, hrst, aRows]);refine ⟨by omega, fun a ha => ?_, ?_⟩
   ·obtain ⟨r, _, rfl⟩ := List.mem_map.1 ha;rfl
   refine zl5 ?_;simp only [seval, hw3];refine hR _ ⟨hil, trivial, ?_⟩;rw [hsu];refine zce [.tail (t.length + 1) 1 3] (zam rfl rfl) (by simp only [seval, List.length_append, List.map_append]; simp [zaf, Wk.refl]) ?_ ?_ (by simp)
   ·exact zc6 hH fun z hz n => by
     simp only [List.mem_cons, List.not_mem_nil, or_false] at hz;rcases hz with rfl | rfl | rfl
     ·exact fun a ha => by
       simp only [List.mem_cons, List.not_mem_nil, or_false] at ha;rcases ha with rfl | rfl | rfl | rfl
       ·exact .val _
       ·rw [zc5]; trivial
       ·rw [zci]; trivial
       ·rw [zch]; trivial
     ·exact fun a ha => by
       simp only [List.mem_cons, List.not_mem_nil, or_false] at ha;rcases ha with rfl | rfl <;> exact .val _
     ·trivial
   ·simp only [List.forall_mem_cons, zlZ, zap, iv]; simp
  ·have hix : i = (y.wear.max - y.wear.min + 1).toNat := (by omega);subst hix;clear hR;refine zlz ?_;refine zfK ?_;refine zlj ?_;have e : wearsAt y (x.keys.drop (t.length + 1)) t (y.wear.max - y.wear.min + 1).toNat = wearsR (x.keys.drop t.length) t := by
    rw [hdrop, wearsR, wearsAt, List.take_of_length_le (by omega)]
   rw [e];exact endA (b := aRows (wearsR (x.keys.drop t.length) t)) hH (zaK _ _ _) (by rw [zlv]; trivial) hk
end
section
variable {lv : Bool} {H : List AObj} {k kp : AV -> List AObj -> Prop}
end
section
variable {H : List AObj} {k kp : AV -> List AObj -> Prop}
end
theorem zmp {x : Ring} (hx : x.Ok) : ((wearsR x.keys []).filter fun t => triesOk x t x.tries.length) = truthsL x := by
 rw [zlK _ _ fun y hy => (hx.key y hy).2.2];simp only [List.nil_append, List.map_id'];unfold truthsL;rw [List.filter_filter];refine List.filter_congr fun t ht => ?_;have hl := ((zeh 3 (by decide) _ hx.keys).2 t ht).1;unfold fineW;rw [zlP hl, Bool.and_comm]
section
variable {lv : Bool} {H : List AObj} {k kp : AV -> List AObj -> Prop}
theorem f140_c {x : Ring} (hx : x.Ok) (hk : k (aRows (truthsL x)) H) : FnC lv Tryz.prog 140 H [x.av] k kp := by
 refine zlu (rs := [.tmp 2]) (nt := 54) Tryz.f140 fun hH hA => ?_;simp only [argsT, Nat.reduceAdd, Ring.av, Ring.l];have hkl := hx.keys;have htl := hx.tries;refine zfK ?_;refine zfK ?_
 (repeat apply zaa); refine zbV (t := 3) (sz := 1) (el := 30) (by simp only [seval] <;> rfl) ?_
 (try simp only [seval]);refine zfK ?_;refine zl6 ((zmH (.cons (Wk.refl _) (.cons (zaK _ _ _) .nil)) (f161_c (t := []) hx x.keys.length (by simp) ?_)));have hw := zmp hx;have hwl := zlY x.keys [] fun y hy => (hx.key y hy).2.2;have hL : (wearsR x.keys []).length <= 81 := Nat.le_trans hwl (Nat.le_trans (Nat.pow_le_pow_right (by omega) hkl) (by decide));have hLr : ∀ t ∈ wearsR x.keys [], t.length = x.keys.length /\ ∀ w ∈ t, 0 <= w /\ w <= 2 := fun t ht => by
  rw [zlK _ _ fun y hy => (hx.key y hy).2.2] at ht;simp only [List.nil_append, List.map_id'] at ht;have := (zeh 3 (by decide) _ hkl).2 t (List.mem_filter.1 ht).1;exact ⟨this.1, fun w hw => by have := this.2 w hw; omega⟩
 rw [show x.keys.drop ([] : List Int).length = x.keys from rfl];generalize wearsR x.keys [] = L at hw hL hLr ⊢;clear hwl;(try simp only [seval, aRows]);generalize hp : (fun t => triesOk x t x.tries.length) = p at hw;have hpt : ∀ t, triesOk x t x.tries.length = p t := fun t => by rw [<- hp]
 refine zfK ?_;refine zly ?_;have hfl : ∀ i, ((L.take i).filter p).length <= 81 := fun i => by
  have h1 := List.length_filter_le p (L.take i);have h3 : (L.take i).length <= L.length := by rw [List.length_take]; omega
  omega
 refine zaB L.length (fun i : Nat => [(3, .sl ((L.take i).filter p).length (((L.take i).filter p).map aInts) (.opn (H.length + 1))), (5, iv i)]) (fun i => H ++ [.cells [iv x.cuts, aKeys x.keys, aLocks x.locks, aTries x.tries] 26, .tail ((L.take i).filter p).length 1 30]) (fun i => True) (fun _ _ => rfl) (by simp only [seval]; simp [zaf, Wk.refl]; try exact Wk.refl _) rfl (fun _ _ _ => by simp) trivial (fun hHs0 hLt i hin hi R hR => ?_);clear hLt;refine zfK ?_;refine zhC ?_;refine ⟨fun h => ?_, fun h => ?_⟩
 ·have hil : i < L.length := by omega
  obtain ⟨t, ht⟩ := zaE hil;obtain ⟨htn, htb⟩ := hLr t (zas ht);have hw1 : IntKind.i64.wrap ((i : Int) + 1) = i + 1 := zau _ (by omega);have hfs : (L.take (i + 1)).filter p = (L.take i).filter p ++ (if p t then [t] else []) := by
   obtain ⟨hj, hle⟩ := List.getElem?_eq_some_iff.1 ht;rw [List.take_succ_eq_append_getElem hj, hle, List.filter_append];congr 1;cases hf : p t <;> simp [hf]
  have hfi := hfl i;generalize (L.take i).filter p = o at hfs hfi hR hHs0 ⊢;refine zkY ?_;refine zfK ?_;refine zfK ?_;refine zly ?_;refine zaB x.tries.length (fun j : Nat => [(6, bv (triesOk x t j)), (7, iv j)]) (fun _ => _) (fun j => True) (fun _ _ => rfl) (by simp only [seval]; simp [zaf, Wk.refl]; try exact Wk.refl _) rfl (fun _ _ _ => rfl) trivial (fun hHs hLt j hjn hj R2 hR2 => ?_);clear hLt;refine zl5 ?_;simp only [seval, aTries];refine zhC ?_;refine ⟨fun h2 => ?_, fun h2 => ?_⟩
  ·have hjl : j < x.tries.length := (by omega);obtain ⟨r, hr⟩ := zaE hjl;obtain ⟨⟨hrk0, hrk⟩, hrl0, hrl⟩ := hx.tried r (zas hr);have hsucc := zf9 (t := t) hr;have hw2 : IntKind.i64.wrap ((j : Int) + 1) = j + 1 := zau _ (by omega);rw [hsucc] at hR2;obtain ⟨rk, rl, ro⟩ := r;simp only at hrk0 hrk hrl0 hrl hR2;obtain ⟨rk, rfl⟩ : ∃ m : Nat, rk = m := ⟨rk.toNat, by omega⟩;obtain ⟨rl, rfl⟩ : ∃ m : Nat, rl = m := ⟨rl.toNat, by omega⟩;refine zkY ?_;refine zl5 ?_;simp only [seval, zh6 hr, zaz hjl, zh0, aTries];cases hb : triesOk x t j with
   | false =>
    refine zlC 14 ?_;simp only [seval, aTries, zlB ht, zaz hil, hb];rw [hb] at hR2;refine zl5 ?_;simp only [seval, hw2];refine hR2 _ ⟨hjl, trivial, ?_⟩;simp only [Bool.false_and];exact (zlF hHs)
   | true =>
    refine zlC 14 ?_;simp only [seval, aTries, zlB ht, zaz hil, hb];rw [hb] at hR2;refine qCall (bv (opensW x.keys t x.locks rk rl)) (zlD (f124_c (x := x) hx (by omega) (by omega) (by omega) (fun w hw => by have := htb w hw; omega) ⟨rfl, rfl⟩)) ?_;(try simp only [seval, aTries, zlB ht, zaz hil, hb]);refine zl5 ?_;simp only [seval, hw2];refine hR2 _ ⟨hjl, trivial, ?_⟩;simp only [Bool.true_and];exact (zlF hHs)
  ·have hjx : j = x.tries.length := (by omega);subst hjx;clear hR2 hHs;rw [hpt];refine zlz ?_;refine zfK ?_;refine zhC ?_;refine ⟨fun h3 => ?_, fun h3 => ?_⟩
   ·have h3 : p t = true := (by simpa using h3);rw [if_pos h3] at hfs;have hol : (o.map aInts).length = o.length := List.length_map ..;refine zl5 ?_;simp only [seval, zs1, zhq, zlB ht, zaz hil, hol, zlS];refine ⟨by omega, ?_⟩;refine zl5 ?_;simp only [seval, hw1];refine hR _ ⟨hil, trivial, ?_⟩;rw [hfs];simp only [List.length_append, List.map_append];exact zlA
   ·have h3 : ¬ p t = true := (by simpa using h3);rw [if_neg h3, List.append_nil] at hfs;refine zkY ?_;refine zl5 ?_;simp only [seval, hw1];refine hR _ ⟨hil, trivial, ?_⟩;rw [hfs];exact zlA
 ·have hix : i = L.length := by omega
  subst hix;clear hR hHs0;refine zlz ?_;refine zfK ?_;refine zlj ?_;rw [List.take_length, hw];exact endA (b := aRows (truthsL x)) hH (zaK _ _ _) (by rw [zlv]; trivial) hk
def beginE (x : Ring) (b : Bool) : Int := if knownE x b ≠ 0 then knownE x b else if truthsL x = [] then 11 else 0
theorem zma {x : Ring} {b : Bool} (h : knownE x b = 0) : x.Ok /\ b = true := by
 unfold knownE at h;split at h
 ·rename_i h1; exact absurd h h1
 ·rename_i h1;refine ⟨zbH.1 (by simpa using h1), ?_⟩;cases b with
  | true => rfl
  | false => simp at h
theorem zm1 {x : Ring} {b : Bool} (h : beginE x b = 0) : x.Ok /\ b = true /\ truthsL x ≠ [] := by
 unfold beginE at h;split at h
 ·rename_i h1; exact absurd h h1
 ·rename_i h1;obtain ⟨h2, h3⟩ := zma (by simpa using h1);refine ⟨h2, h3, fun e => ?_⟩;rw [if_pos e] at h; cases h
def beginT (x : Ring) (b : Bool) : List (List Int) := if beginE x b = 0 then truthsL x else []
theorem f103_c {x : Ring} {b : Bool} (hs : x.Small) (hk : k (.tup [aRows (beginT x b), iv (beginE x b)]) H) : FnC lv Tryz.prog 103 H [x.av, bv b] k kp := by
 refine zlu (rs := [.tmp 4, .tmp 5]) (nt := 20) Tryz.f103 fun hH hA => ?_;simp only [argsT, Nat.reduceAdd, Ring.av, Ring.l];have hend : ∀ {L : List AObj} {e : Int}, k (.tup [aRows [], iv e]) H -> EndOf H.length (H ++ L) (.tup [.sl 0 [] .exact, .val (.int .i64 e)]) k := fun h =>
  endA (b := .tup [aRows [], iv _]) hH (zdC (zaK _ _ _) (Wk.refl _)) (by simp [zaD, zap, iv, zlv]) h
 refine zfK ?_;refine zfK ?_;refine zl6 ((f95_c (x := x) hs ?_));(try simp only [seval]);refine zfK ?_;refine zhC ?_;refine ⟨fun h => ?_, fun h => ?_⟩
 ·have e : beginE x b = knownE x b := by unfold beginE; rw [if_pos h]
  rw [beginT, e, if_neg h] at hk;refine zfK ?_;refine zlj ?_;exact hend hk
 ·have hz : knownE x b = 0 := by simpa using h
  have e0 : beginE x b = if truthsL x = [] then 11 else 0 := by unfold beginE; rw [if_neg (not_not_intro hz)]
  obtain ⟨hx, _⟩ := zma hz;refine zkY ?_;refine zfK ?_;refine zl6 ((f140_c hx ?_));(try simp only [seval, aRows]);refine zfK ?_;refine zhC ?_;refine ⟨fun h => ?_, fun h => ?_⟩
  ·have he : truthsL x = [] := by
    have : ((truthsL x).length : Int) = 0 := (by simpa using h);exact List.length_eq_zero_iff.1 (by omega)
   rw [if_pos he] at e0;rw [beginT, e0, if_neg (by decide)] at hk;refine zfK ?_;refine zlj ?_;exact hend hk
  ·have he : truthsL x ≠ [] := fun e => (by rw [e] at h; simp at h);rw [if_neg he] at e0;rw [beginT, e0, if_pos rfl] at hk;refine zkY ?_;refine zfK ?_;refine zlj ?_;exact endA (b := .tup [aRows (truthsL x), iv 0]) hH (Wk.refl _) (by simp [zaD, zap, iv, zlv]) hk
theorem zmy {x : Ring} {fl : Option Int} {b : Bool} (h : fl = none <-> b = true) (hf : flE fl = 0 \/ flE fl = 3) : openE x fl = knownE x b := by
 unfold openE knownE;split
 ·rfl
 ·cases fl with
  | none => rw [if_pos (h.1 rfl)]; rfl
  | some f =>
   have hb : b = false := (by cases b with | false => rfl | true => cases h.2 rfl);rw [hb, if_neg (by simp)];rcases hf with hf | hf
   ·have : f = 0 \/ f = 1 \/ f = 2 \/ f = 3 \/ (f ≠ 0 /\ f ≠ 1 /\ f ≠ 2 /\ f ≠ 3) := (by omega);exfalso;unfold flE flawM at hf;simp only at hf;split at hf
    ·cases hf
    ·split at hf
     ·cases hf
     ·split at hf <;> cases hf
   ·exact hf
theorem zme {x : Ring} {fl : Option Int} {b : Bool} (h : fl = none <-> b = true) (hf : flE fl = 0 \/ flE fl = 3) : openingE x fl = beginE x b := by
 unfold openingE beginE;rw [zmy h hf];split
 ·rfl
 ·rename_i h0;have hx := (zma (by simpa using h0)).1;by_cases ht : truthsL x = []
  ·rw [if_pos ((zmD hx).2 ht), if_pos ht]
  ·rw [if_neg fun e => ht ((zmD hx).1 e), if_neg ht]
theorem f59_c {xs : List Band} {e : End} (hl : xs.length <= 2 ^ 30) (hk : k (aBands xs) H) : FnC lv Tryz.prog 59 H [.sl xs.length (xs.flatMap Band.l) e] k kp := by
 refine zlu (rs := [.tmp 2]) (nt := 6) Tryz.f59 fun hH hA => ?_;simp only [argsT, Nat.reduceAdd];have hlen : (xs.flatMap Band.l).length = xs.length * 2 := zld xs;have htake : (xs.flatMap Band.l).take (xs.length * 2) = xs.flatMap Band.l := List.take_of_length_le (by omega);refine zfK ?_;refine zl5 ?_;simp only [seval, htake, hlen];refine ⟨hl, ?_⟩;refine zlj ?_;exact endA (b := aBands xs) hH (zaK _ _ _) (by rw [zfD]; trivial) hk
theorem zmk {ks : List Key} {i : Nat} {y : Key} (h : ks[i]? = some y) : (ks.take (i + 1)).flatMap Key.l = (ks.take i).flatMap Key.l ++ y.l := by
 obtain ⟨hj, rfl⟩ := List.getElem?_eq_some_iff.1 h;rw [List.take_succ_eq_append_getElem hj, List.flatMap_append]; simp
theorem zmf {ls : List (List Band)} {i : Nat} {l : List Band} (h : ls[i]? = some l) : (ls.take (i + 1)).map aBands = (ls.take i).map aBands ++ [aBands l] := by
 obtain ⟨hj, rfl⟩ := List.getElem?_eq_some_iff.1 h;rw [List.take_succ_eq_append_getElem hj, List.map_append]; simp
def krO (N : Nat) (x : Ring) (z : AObj) (nk : Nat) (kl : List AV) (tk nl : Nat) (ll : List AV) (tl : Nat) : List AObj := [.cells x.l 26, z, .cells [iv x.cuts, .sl nk kl (.opn (N + 3)), .sl nl ll (.opn (N + 4)), aTries x.tries] 26, .tail tk 3 65, .tail tl 1 29]
theorem f50_c {xs : List Int} {e : End} (hl : xs.length <= 2 ^ 30) (hk : k (aInts xs) H) : FnC lv Tryz.prog 50 H [.sl xs.length (xs.map iv) e] k kp := by
 refine zlu (rs := [.tmp 2]) (nt := 6) Tryz.f50 fun hH hA => ?_;simp only [argsT, Nat.reduceAdd];have hlen : (xs.map iv).length = xs.length := by simp
 have htake : (xs.map iv).take xs.length = xs.map iv := List.take_of_length_le (by omega);refine zfK ?_;refine zl5 ?_;simp only [seval, htake, hlen];refine ⟨hl, ?_⟩;refine zlj ?_;exact endA (b := aInts xs) hH (zaK _ _ _) (by rw [zbi]; trivial) hk
theorem f28_g {x : Ring} (hs : x.Small) (hk : HOk H -> EndOf H.length (H ++ krO H.length x (.cells [iv x.cuts, .sl x.keys.length (x.keys.flatMap Key.l) (.opn (H.length + 3)), .sl x.locks.length (x.locks.map aBands) (.opn (H.length + 4)), aTries x.tries] 26) x.keys.length (x.keys.flatMap Key.l) x.keys.length x.locks.length (x.locks.map aBands) x.locks.length) (.agg [iv x.cuts, .sl x.keys.length (x.keys.flatMap Key.l) (.opn (H.length + 3)), .sl x.locks.length (x.locks.map aBands) (.opn (H.length + 4)), aTries x.tries]) k) : FnC lv Tryz.prog 28 H [x.av] k kp := by
 refine zlu (rs := [.cell 2 26]) (nt := 58) Tryz.f28 fun hH hA => ?_;simp only [argsT, Nat.reduceAdd, Ring.av];have hk := hk hH;have htln := zf5 x.tries;have htake : (x.tries.flatMap Try.l).take (x.tries.length * 3) = x.tries.flatMap Try.l := List.take_of_length_le (by omega);refine zl5 ?_;simp only [seval, Ring.l];refine zlH [7, 8] [0, 1, 2, 3, 4, 5, 6, 7, 8] [⟨0, false, [], [([7], [7])]⟩, ⟨1, false, [], [([7], [7])]⟩, ⟨2, false, [], [([7], [7])]⟩, ⟨3, false, [], [([7], [7])]⟩, ⟨4, false, [], [([7], [7])]⟩, ⟨5, false, [], [([7], [7])]⟩, ⟨6, false, [], [([7], [7])]⟩, ⟨7, true, [7], []⟩, ⟨8, true, [7, 8], []⟩] (fun D => H ++ (.cells [iv x.cuts, aKeys x.keys, aLocks x.locks, aTries x.tries] 26 :: .cells [iv 0, .sl 0 [] .exact, .sl 0 [] .exact, .sl 0 [] .exact] 26 :: (bif isDone 8 D then [.cells [iv x.cuts, .sl 0 [] .exact, .sl 0 [] .exact, aTries x.tries] 26] else bif isDone 7 D then [.cells [iv 0, .sl 0 [] .exact, .sl 0 [] .exact, .sl 0 [] .exact] 26] else []))) ?_;simp only [seval, htake, htln, aTries];have hts := hs.tries;refine ⟨by omega, by omega, ?_⟩
 (repeat apply zaa); refine zdw (id := H.length + 2) (j := 1) (sz := 3) (el' := 65) (by simp only [seval] <;> rfl) rfl ?_
 try simp only [seval]
 (repeat apply zaa); refine zdw (id := H.length + 2) (j := 2) (sz := 1) (el' := 29) (by simp only [seval] <;> rfl) rfl ?_
 (try simp only [seval]);refine zfK ?_;have hks := hs.keys;have hls := hs.locks;have w1 : ∀ i : Nat, i <= 2 ^ 31 -> IntKind.i64.wrap ((i : Int) + 1) = i + 1 := fun i _ => zau _ (by omega);refine zly ?_;refine zaB x.keys.length (fun i : Nat => [(4, iv i)]) (fun i => H ++ krO H.length x (.cells [iv 0, .sl 0 [] .exact, .sl 0 [] .exact, .sl 0 [] .exact] 26) i ((x.keys.take i).flatMap Key.l) i 0 [] 0) (fun _ => True) (fun _ _ => rfl) (by simp only [seval]; simp [zaf, Wk.refl]) rfl (fun _ _ _ => by simp [krO]) trivial (fun hHs hLt i hin hi R hR => ?_);clear hHs hLt;refine zl5 ?_;simp only [seval, aKeys, krO, Ring.l];refine zhC ?_;refine ⟨fun h => ?_, fun h => ?_⟩
 ·have hil : i < x.keys.length := by omega
  obtain ⟨y, hy⟩ := zaE hil;have hyc := hs.cuts y (zas hy);have hwi := w1 i (by omega);have hkl : ((x.keys.take i).flatMap Key.l).length = i * 3 := by rw [zmG, List.length_take]; omega
  have hsu := zmk hy;refine zkY ?_;refine zly ?_;refine zlC 17 ?_;simp only [seval, zc2 hy, zaz hil, hkl, zk3, zd5, aInts];refine qCall (aInts y.cuts) (zlD (f50_c (xs := y.cuts) (by omega) ⟨rfl, rfl⟩)) ?_;(try simp only [seval, zc2 hy, zaz hil, hkl, zk3, zd5, aInts]);refine ⟨by omega, ?_⟩;refine zl5 ?_;simp only [seval, hwi];refine hR _ ⟨hil, trivial, ?_⟩;rw [hsu];exact zlA
 ·have hix : i = x.keys.length := by omega
  subst hix;clear hR;rw [List.take_length];refine zlz ?_;refine zfK ?_;refine zly ?_;refine zaB x.locks.length (fun i : Nat => [(5, iv i)]) (fun i => H ++ krO H.length x (.cells [iv 0, .sl 0 [] .exact, .sl 0 [] .exact, .sl 0 [] .exact] 26) x.keys.length (x.keys.flatMap Key.l) x.keys.length i ((x.locks.take i).map aBands) i) (fun _ => True) (fun _ _ => rfl) (by simp only [seval]; simp [zaf, Wk.refl]) rfl (fun _ _ _ => by simp [krO]) trivial (fun hHs hLt i hin hi R hR => ?_);clear hHs hLt;refine zl5 ?_;simp only [seval, aLocks, krO, Ring.l];refine zhC ?_;refine ⟨fun h => ?_, fun h => ?_⟩
  ·have hil : i < x.locks.length := (by omega);obtain ⟨l, hl⟩ := zaE hil;have hlb := hs.bands l (zas hl);have hwi := w1 i (by omega);have hml : ((x.locks.take i).map aBands).length = i := (by rw [List.length_map, List.length_take]; omega);have hzs1 : zeroRow (Value.slice none 0 0) 1 = [.sl 0 [] .exact] := rfl;have hsu := zmf hl;refine zkY ?_;refine zly ?_;refine zlC 9 ?_;simp only [seval, zfu hl, zaz hil, hml, hzs1, zhq];refine qCall (aBands l) (zlD (f59_c (xs := l) (by omega) ⟨rfl, rfl⟩)) ?_;(try simp only [seval, zfu hl, zaz hil, hml, hzs1, zhq, zho]);refine ⟨by omega, ?_⟩;refine zl5 ?_;simp only [seval, hwi];refine hR _ ⟨hil, trivial, ?_⟩;rw [hsu];exact zlA
  ·have hix : i = x.locks.length := (by omega);subst hix;clear hR;rw [List.take_length];refine zlz ?_;refine zl5 ?_;simp only [seval, krO, Ring.l];refine zlj ?_;exact hk
theorem f28_l {x : Ring} (hs : x.Small) (hk : k (.agg [iv x.cuts, aKeys x.keys, .sl x.locks.length (x.locks.map aBands) (.opn (H.length + 4)), aTries x.tries]) (H ++ krO H.length x (.cells [iv x.cuts, .sl x.keys.length (x.keys.flatMap Key.l) (.opn (H.length + 3)), .sl x.locks.length (x.locks.map aBands) (.opn (H.length + 4)), aTries x.tries] 26) x.keys.length (x.keys.flatMap Key.l) x.keys.length x.locks.length (x.locks.map aBands) x.locks.length)) : FnC lv Tryz.prog 28 H [x.av] k kp :=
 f28_g hs fun _ => ⟨_, zhX (.cons (Wk.refl _) (.cons (zaK _ _ _) (.cons (Wk.refl _) (.cons (Wk.refl _) .nil)))), .inl hk⟩
def longM (x : Ring) : Bool := decide (20 < x.keys.length) || decide (20 < x.locks.length) || decide (20 < x.tries.length) || (x.keys.any fun y => decide (20 < y.cuts.length)) || x.locks.any fun l => decide (20 < l.length)
theorem zmz {x : Ring} (h : longM x = false) : x.Small /\ x.keys.length <= 20 /\ x.locks.length <= 20 /\ x.tries.length <= 20 /\ (∀ y ∈ x.keys, y.cuts.length <= 20) /\ ∀ l ∈ x.locks, l.length <= 20 := by
 unfold longM at h;simp only [Bool.or_eq_false_iff, decide_eq_false_iff_not, List.any_eq_false, decide_eq_true_iff] at h;obtain ⟨⟨⟨⟨h1, h2⟩, h3⟩, h4⟩, h5⟩ := h;exact ⟨⟨by omega, by omega, by omega, fun y hy => by have := h4 y hy; omega, fun y hy => by have := h5 y hy; omega⟩, by omega, by omega, by omega, fun y hy => by have := h4 y hy; omega, fun y hy => by have := h5 y hy; omega⟩
theorem zm6 {α : Type} {p : α -> Bool} {l : List α} {i : Nat} {a : α} (h : l[i]? = some a) (hp : p a = true) : l.any p = true := List.any_eq_true.2 ⟨a, zas h, hp⟩
theorem zmv {y : Ring} {r : Try} (h : y.Small) (ht : y.tries.length <= 20) : (withT y r).Small := ⟨h.keys, h.locks, by show (y.tries ++ [r]).length < _; simp; omega, h.cuts, h.bands⟩
theorem zmo {y : Ring} {l : List Band} (h : y.Small) (ht : y.locks.length <= 20) (hl : l.length < 2 ^ 30) : (Ring.mk y.cuts y.keys (y.locks ++ [l]) y.tries).Small := ⟨h.keys, by show (y.locks ++ [l]).length < _; simp; omega, h.tries, h.cuts, fun z hz => by
 rcases List.mem_append.1 hz with hz | hz
 ·exact h.bands z hz
 ·rw [List.mem_singleton.1 hz]; exact hl⟩
theorem f24_c {x : Ring} (hk : k (bv (longM x)) H) : FnC lv Tryz.prog 24 H [x.av] k kp := by
 refine zlu (rs := [.tmp 2]) (nt := 50) Tryz.f24 fun hH hA => ?_;simp only [argsT, Nat.reduceAdd, Ring.av, Ring.l, aKeys, aLocks, aTries];have d1 : decide ((20 : Int) < x.keys.length) = decide (20 < x.keys.length) := by rw [decide_eq_decide]; omega
 have d2 : decide ((20 : Int) < x.locks.length) = decide (20 < x.locks.length) := by rw [decide_eq_decide]; omega
 have d3 : decide ((20 : Int) < x.tries.length) = decide (20 < x.tries.length) := by rw [decide_eq_decide]; omega
 have hyes : ∀ {L : List AObj}, longM x = true -> EndOf H.length (H ++ L) (.val (.bool true)) k := fun h => endV hH (by rw [h] at hk; exact hk);refine zfK ?_;cases hb1 : decide (20 < x.keys.length) with
 | true =>
  refine zl5 ?_;simp only [seval, d1, hb1];refine zhC ?_;refine zfK ?_;refine zlj ?_;exact hyes (by unfold longM; rw [hb1]; rfl)
 | false =>
  cases hb2 : decide (20 < x.locks.length) with
  | true =>
   refine zl5 ?_;simp only [seval, d1, hb1, d2, hb2];refine zhC ?_;refine zfK ?_;refine zlj ?_;exact hyes (by unfold longM; rw [hb1, hb2]; rfl)
  | false =>
   cases hb3 : decide (20 < x.tries.length) with
   | true =>
    refine zl5 ?_;simp only [seval, d1, hb1, d2, hb2, d3, hb3];refine zhC ?_;refine zfK ?_;refine zlj ?_;exact hyes (by unfold longM; rw [hb1, hb2, hb3]; rfl)
   | false =>
    have e0 : longM x = ((x.keys.any fun y => decide (20 < y.cuts.length)) || x.locks.any fun l => decide (20 < l.length)) := (by unfold longM; rw [hb1, hb2, hb3]; rfl);have hkl : ¬ 20 < x.keys.length := (by simpa using hb1);have hll : ¬ 20 < x.locks.length := (by simpa using hb2);refine zl5 ?_;simp only [seval, d1, hb1, d2, hb2, d3, hb3];refine zhC ?_;refine zkY ?_;refine zfK ?_;refine zly ?_;refine zlE x.keys.length (fun i : Nat => [(3, iv i)]) (fun _ => _) (fun i => ((x.keys.take i).any fun y => decide (20 < y.cuts.length)) = false) rfl (fun hHs hLt i hin hi R hR => ?_);refine zfK ?_;refine zhC ?_;refine ⟨fun h => ?_, fun h => ?_⟩
    ·have hil : i < x.keys.length := (by omega);obtain ⟨y, hy⟩ := zaE hil;have hw1 : IntKind.i64.wrap ((i : Int) + 1) = i + 1 := zau _ (by omega);refine zkY ?_;refine zl5 ?_;simp only [seval, zc2 hy, zaz hil, aInts];refine zhC ?_;refine ⟨fun h2 => ?_, fun h2 => ?_⟩
     ·refine zfK ?_;refine zlj ?_;refine hyes ?_;rw [e0, zm6 hy (by rw [decide_eq_true_iff]; omega)]; rfl
     ·refine zkY ?_;refine zl5 ?_;simp only [seval, hw1];refine hR _ ⟨hil, ?_, zlA⟩;rw [zmn hy, hi, Bool.false_or, decide_eq_false_iff_not]; omega
    ·have hix : i = x.keys.length := (by omega);subst hix;clear hR;rw [List.take_length] at hi;refine zlz ?_;refine zfK ?_;refine zly ?_;refine zlE x.locks.length (fun i : Nat => [(4, iv i)]) (fun _ => _) (fun i => ((x.locks.take i).any fun y => decide (20 < y.length)) = false) rfl (fun hHs hLt j hjn hj R hR => ?_);refine zfK ?_;refine zhC ?_;refine ⟨fun h => ?_, fun h => ?_⟩
     ·have hjl : j < x.locks.length := (by omega);obtain ⟨y, hy⟩ := zaE hjl;have hw1 : IntKind.i64.wrap ((j : Int) + 1) = j + 1 := zau _ (by omega);refine zkY ?_;refine zl5 ?_;simp only [seval, zfu hy, zaz hjl, aBands];refine zhC ?_;refine ⟨fun h2 => ?_, fun h2 => ?_⟩
      ·refine zfK ?_;refine zlj ?_;refine hyes ?_;rw [e0, zm6 (l := x.locks) hy (by rw [decide_eq_true_iff]; omega), Bool.or_true]
      ·refine zkY ?_;refine zl5 ?_;simp only [seval, hw1];refine hR _ ⟨hjl, ?_, zlA⟩;rw [zmn hy, hj, Bool.false_or, decide_eq_false_iff_not]; omega
     ·have hjx : j = x.locks.length := (by omega);subst hjx;rw [List.take_length] at hj;refine zlz ?_;refine zfK ?_;refine zlj ?_;rw [e0, hi, hj] at hk;exact endV hH hk
end
theorem zr12 : zeroRow (.agg #[.int .i64 0, .slice none 0 0, .slice none 0 0, .slice none 0 0]) 12 = [iv 0, .sl 0 [] .exact, .sl 0 [] .exact, .sl 0 [] .exact, iv 0, .sl 0 [] .exact, .sl 0 [] .exact, .sl 0 [] .exact, iv 0, .sl 0 [] .exact, .sl 0 [] .exact, .sl 0 [] .exact] := rfl
theorem p24_12 : (12 <= 2 ^ 24) = True := by simp
section
variable {lv : Bool} {k kp : AV -> List AObj -> Prop} {Gf : TinS -> List AObj} {t N : Nat} {τ : TinS} {b : Int}
set_option maxRecDepth 4000 in
theorem f27_c {x : Ring} {r : Try} {l : List Band} (hT : TinAt Gf t N) (hτ : τ.Ok b) (hb : b < 2 ^ 29) (hs : x.Small) (hl : l.length < 2 ^ 20) (hk : ∀ (y z : Ring) ws τ', RingP 3 3 3 true y ws -> z.Small -> τ'.Ok (b + 1001) -> k (.sl 3 (x.l ++ y.l ++ z.l) .shut) (Gf τ')) : FnC lv Tryz.prog 27 (Gf τ) [x.av, r.av, aBands l, .op t 0] k kp := by
 refine zlu (rs := [.tmp 8]) (nt := 35) Tryz.f27 fun hH hA => ?_;simp only [argsT, Nat.reduceAdd, Ring.av, Try.av, hT.len];refine zl5 ?_;simp only [seval, Ring.l, Try.l, hT.am];refine zl5 ?_;simp only [seval, hT.am];refine zl6 ((f49_c (K := 3) (L := 3) (T := 3) (wr := true) (hT.more _) hτ (by omega) (by decide) (by decide) (by decide) fun y ws τ' hP hto => ?_));(try simp only [seval, Ring.av, Ring.l, hT.am]);have hy := hP.ok (by decide) (by decide) (by decide);have hyl := hP.locks;have hyt := hP.tries;refine zl5 ?_;simp only [seval, hT.am];refine zl6 ((f56_c (x := y) (t := r) (by omega) ?_));(try simp only [seval, Ring.av, Ring.l, withT, hT.am]);refine zl5 ?_;simp only [seval, hT.am];refine zl6 ((f44_c (hT.more _) hto (by omega) (by decide) ?_));(try simp only [seval, hT.am]);have hto1 := hto.tick;generalize tick τ' = τ2 at hto1 ⊢;have hys := hy.small;have hgen : ∀ (z : Ring) (L : List AObj) (e : AV), z.Small -> Wk e (.sl 3 (x.l ++ y.l ++ z.l) .shut) -> EndOf N (Gf τ2 ++ L) e k := fun z L e hz hw => by
  rw [<- hT.len τ2];exact endA (b := .sl 3 (x.l ++ y.l ++ z.l) .shut) (hT.hok hH τ2) hw (by rw [za3]; simp [Ring.l, zap, iv, zc5, zci, zch]) (hk y z ws τ2 hP hz (hto1.mono (by omega)))
 refine zhC ?_;refine ⟨fun h => ?_, fun h => ?_⟩
 ·refine zl5 ?_;simp only [seval, hT.am];refine zl6 ((f28_l hys ?_));(try simp only [seval, krO, Nat.add_assoc, hT.am]);have hml : (y.locks.map aBands).length = y.locks.length := List.length_map ..;refine zlC 5 ?_;simp only [seval, zs1, zhq, hml, hT.am];refine qCall (aBands l) (zlD (f59_c (xs := l) (by omega) ⟨rfl, rfl⟩)) ?_;(try simp only [seval, zs1, zhq, hml, zho, hT.am]);refine ⟨by omega, ?_⟩;refine zl5 ?_;simp only [seval, zr12, p24_12, hT.am];refine zlj ?_;refine hgen ⟨y.cuts, y.keys, y.locks ++ [l], y.tries⟩ _ _ (zmo hys (by omega) (by omega)) ?_;refine wk_sl (.cons (Wk.refl _) (.cons (Wk.refl _) (.cons (Wk.refl _) (.cons (Wk.refl _) (.cons (Wk.refl _) (.cons (Wk.refl _) (.cons (Wk.refl _) (.cons (Wk.refl _) (.cons (Wk.refl _) (.cons (Wk.refl _) (.cons ?_ (.cons (Wk.refl _) .nil))))))))))));have e : aLocks (y.locks ++ [l]) = .sl (y.locks.length + 1) (y.locks.map aBands ++ [aBands l]) .shut := by simp [aLocks]
  show Wk _ (aLocks (y.locks ++ [l]));rw [e];exact zaK _ _ _
 ·refine zkY ?_;refine zl5 ?_;simp only [seval, zr12, p24_12, hT.am];refine zlj ?_;exact hgen (withT y r) _ _ (zmv hys (by omega)) (zaK _ _ _)
end
def eqShape (P : Program) (fs : Array Field) (ks : List Bool) : Bool := fs.toList.all fun f => match P.underlying f.type, ks[f.offset]? with
 | some (.int _), some true => true
 | some .bool, some false => true
 | _, _ => false
theorem zmS {P : Program} {ι : Type} {body : ι -> Option Bool × Unit -> Sem (ForInStep (Option Bool × Unit))} (l : List ι) (h : ∀ i ∈ l, Sure P (body i (none, ())) (.yield (none, ()))) : Sure P (forIn l (none, ()) body) (none, ()) := by
 have := zh1 (P := P) (p := fun _ => true) l (by simpa using h);simpa using this
theorem zl7 {P : Program} {t : TypeId} {fs : Array Field} {xs : Array Value} {ks : List Bool} {d : Nat} (ht : P.underlying t = some (.struct fs)) (hp : P.stoodInHeld t = false) (hs : eqShape P fs ks = true) (h1 : ∀ i : Nat, ks[i]? = some true -> ∃ k z, xs[i]? = some (.int k z)) (h2 : ∀ i : Nat, ks[i]? = some false -> ∃ b, xs[i]? = some (.bool b)) : Sure P (Op.equalIn (d + 2) t (.agg xs) (.agg xs)) true := by
 rw [Op.equalIn];refine zaR ht ?_;dsimp only;refine zgd ?_;rw [hp];simp only [Bool.false_eq_true, if_false];rw [<- Array.forIn_toList];refine za0 (a := (none, ())) (zmS _ fun f hf => ?_) (zaH _);have hsf := (List.all_eq_true.1 hs) f hf;split
 ·split at hsf
  ·rename_i k hu hk;obtain ⟨j, z, hv⟩ := h1 _ hk;refine zej hu rfl hv (zej hu rfl hv (za0 (zmE hu) ?_));simp only [beq_self_eq_true, Bool.not_true, Bool.false_eq_true, if_false];exact zaH _
  ·rename_i hu hk;obtain ⟨b, hv⟩ := h2 _ hk;refine zej hu rfl hv (zej hu rfl hv (za0 (zjZ hu) ?_));simp only [beq_self_eq_true, Bool.not_true, Bool.false_eq_true, if_false];exact zaH _
  ·cases hsf
 ·exact zaH _
def structOk (P : Program) (t : TypeId) (ks : List Bool) : Bool := match P.underlying t with
 | some (.struct fs) => eqShape P fs ks && !P.stoodInHeld t
 | _ => false
theorem zlM {P : Program} {t : TypeId} {xs : Array Value} {ks : List Bool} {d : Nat} (h : structOk P t ks = true) (h1 : ∀ i : Nat, ks[i]? = some true -> ∃ k z, xs[i]? = some (.int k z)) (h2 : ∀ i : Nat, ks[i]? = some false -> ∃ b, xs[i]? = some (.bool b)) : Sure P (Op.equalIn (d + 2) t (.agg xs) (.agg xs)) true := by
 unfold structOk at h;split at h
 ·rename_i fs hu;rw [Bool.and_eq_true, Bool.not_eq_true'] at h;exact zl7 hu h.2 h.1 h1 h2
 ·cases h
theorem F.sh63 : structOk Tryz.prog 63 [true, true] = true := by kernel_rfl
theorem F.sh28 : structOk Tryz.prog 28 [true, true, false] = true := by kernel_rfl
theorem F.g63 : Tryz.prog.eqGuardType Tryz.prog.depth 63 = false := by kernel_rfl
theorem F.g28 : Tryz.prog.eqGuardType Tryz.prog.depth 28 = false := by kernel_rfl
theorem sure63 (a b : Int) : Sure Tryz.prog (Op.equal 63 (.agg #[.int .i64 a, .int .i64 b]) (.agg #[.int .i64 a, .int .i64 b])) true :=
 zlM (d := 9998) F.sh63 (fun i h => match i, h with
  | 0, _ => ⟨_, _, rfl⟩
  | 1, _ => ⟨_, _, rfl⟩
  | _ + 2, h => by cases h) (fun i h => match i, h with
  | 0, h => by cases h
  | 1, h => by cases h
  | _ + 2, h => by cases h)
theorem sure28 (a b : Int) (c : Bool) : Sure Tryz.prog (Op.equal 28 (.agg #[.int .i64 a, .int .i64 b, .bool c]) (.agg #[.int .i64 a, .int .i64 b, .bool c])) true :=
 zlM (d := 9998) F.sh28 (fun i h => match i, h with
  | 0, _ => ⟨_, _, rfl⟩
  | 1, _ => ⟨_, _, rfl⟩
  | 2, h => by cases h
  | _ + 3, h => by cases h) (fun i h => match i, h with
  | 0, h => by cases h
  | 1, h => by cases h
  | 2, _ => ⟨_, rfl⟩
  | _ + 3, h => by cases h)
theorem zmd {t : TypeId} {l : List AV} {V : Value} (hr : AV.raw (.agg l) = some V) (hk : eqKind V V = true) (hg : Tryz.prog.eqGuardType Tryz.prog.depth t = false) (hs : Sure Tryz.prog (Op.equal t V V) true) (k : AV -> Prop) : ABin Tryz.prog .neq t (.agg l) (.agg l) k = k (bv false) := by
 have e : ABin Tryz.prog .neq t (.agg l) (.agg l) k = ((BinOp.neq = .eql \/ BinOp.neq = .neq) /\ one1 (AV.raw (.agg l)) fun X => one1 (AV.raw (.agg l)) fun Y => eqKind X Y = true /\ Tryz.prog.eqGuardType Tryz.prog.depth t = false /\ ∃ e, Sure Tryz.prog (Op.equal t X Y) e /\ k (.val (.bool (if BinOp.neq == .neq then !e else e)))) := rfl;rw [e, hr, zet, zet];apply propext;constructor
 ·rintro ⟨_, _, _, b, h1, h2⟩
  have := hs.uniq h1;subst this;exact h2
 ·intro h;exact ⟨.inr rfl, hk, hg, true, hs, h⟩
theorem B63.same (a b : Int) (k : AV -> Prop) : ABin Tryz.prog .neq 63 (.agg [.val (.int .i64 a), .val (.int .i64 b)]) (.agg [.val (.int .i64 a), .val (.int .i64 b)]) k = k (.val (.bool false)) := zmd (V := .agg #[.int .i64 a, .int .i64 b]) rfl rfl F.g63 (sure63 a b) k
theorem B28.same (a b : Int) (c : Bool) (k : AV -> Prop) : ABin Tryz.prog .neq 28 (.agg [.val (.int .i64 a), .val (.int .i64 b), .val (.bool c)]) (.agg [.val (.int .i64 a), .val (.int .i64 b), .val (.bool c)]) k = k (.val (.bool false)) := zmd (V := .agg #[.int .i64 a, .int .i64 b, .bool c]) rfl rfl F.g28 (sure28 a b c) k
attribute [seval] B63.same B28.same
section
variable {lv : Bool} {H : List AObj} {k kp : AV -> List AObj -> Prop}
theorem f111_same {xs : List Band} {e e' : End} (hl : xs.length < 2 ^ 30) (hk : k (bv true) H) : FnC lv Tryz.prog 111 H [.sl xs.length (xs.flatMap Band.l) e, .sl xs.length (xs.flatMap Band.l) e'] k kp := by
 refine zlu (rs := [.tmp 4]) (nt := 26) Tryz.f111 fun hH hA => ?_;simp only [argsT, Nat.reduceAdd];refine zfK ?_;refine zl5 ?_;simp only [seval, bne_self_eq_false];refine zhC ?_;refine zkY ?_;refine zfK ?_;refine zly ?_;refine zlE xs.length (fun i : Nat => [(5, iv i)]) (fun _ => _) (fun _ => True) trivial (fun hHs hLt i hin hi R hR => ?_);refine zfK ?_;refine zhC ?_;refine ⟨fun h => ?_, fun h => ?_⟩
 ·have hil : i < xs.length := by omega
  obtain ⟨y, hy⟩ := zaE hil;have hw : IntKind.i64.wrap ((i : Int) + 1) = i + 1 := zau _ (by omega);refine zkY ?_;refine zly ?_;refine zlC 8 ?_;simp only [seval, zdh hy, zaz hil];refine zhC ?_;refine zkY ?_;refine zl5 ?_;simp only [seval, hw];refine hR _ ⟨hil, trivial, zlA⟩
 ·clear hR;refine zlz ?_;refine zfK ?_;refine zlj ?_;exact zao hk
theorem f37_same {x : Ring} (hs : x.Small) (hk : k (bv true) H) : FnC lv Tryz.prog 37 H [x.av, x.av] k kp := by
 refine zlu (rs := [.tmp 4]) (nt := 113) Tryz.f37 fun hH hA => ?_;simp only [argsT, Nat.reduceAdd, Ring.av];have hs1 := hs.keys;have hs2 := hs.locks;have hs3 := hs.tries;refine zl5 ?_;simp only [seval, Ring.l];refine zl5 ?_;simp only [seval, bne_self_eq_false, aKeys, aLocks, aTries];refine zhC ?_;refine zkY ?_;refine zfK ?_;refine zly ?_;refine zlE x.keys.length (fun i : Nat => [(5, iv i)]) (fun _ => _) (fun _ => True) trivial (fun hHs hLt i hin hi R hR => ?_);clear hHs hLt;refine zl5 ?_;simp only [seval, aKeys];refine zhC ?_;refine ⟨fun h => ?_, fun h => ?_⟩
 ·have hil : i < x.keys.length := by omega
  obtain ⟨y, hy⟩ := zaE hil;have hyc := hs.cuts y (zas hy);have hw : IntKind.i64.wrap ((i : Int) + 1) = i + 1 := zau _ (by omega);refine zkY ?_;refine zly ?_;refine zlC 27 ?_;simp only [seval, zc2 hy, zaz hil, aKeys, aInts];refine qCall (bv true) (zlD (f34_same (xs := y.cuts) (by omega) ⟨rfl, rfl⟩)) ?_;(try simp only [seval, zc2 hy, zaz hil, aKeys, aInts]);refine zhC ?_;refine zkY ?_;refine zl5 ?_;simp only [seval, hw];refine hR _ ⟨hil, trivial, zlA⟩
 ·clear hR;refine zlz ?_;refine zfK ?_;refine zly ?_;refine zlE x.locks.length (fun i : Nat => [(6, iv i)]) (fun _ => _) (fun _ => True) trivial (fun hHs hLt i hin hi R hR => ?_);clear hHs hLt;refine zl5 ?_;simp only [seval, aLocks];refine zhC ?_;refine ⟨fun h => ?_, fun h => ?_⟩
  ·have hil : i < x.locks.length := (by omega);obtain ⟨y, hy⟩ := zaE hil;have hyc := hs.bands y (zas hy);have hw : IntKind.i64.wrap ((i : Int) + 1) = i + 1 := zau _ (by omega);refine zkY ?_;refine zly ?_;refine zlC 10 ?_;simp only [seval, zfu hy, zaz hil, aLocks];refine zl6 ((f111_same (xs := y) (by omega) ?_));(try simp only [seval]);refine zhC ?_;refine zkY ?_;refine zl5 ?_;simp only [seval, hw];refine hR _ ⟨hil, trivial, zlA⟩
  ·clear hR;refine zlz ?_;refine zfK ?_;refine zly ?_;refine zlE x.tries.length (fun i : Nat => [(7, iv i)]) (fun _ => _) (fun _ => True) trivial (fun hHs hLt i hin hi R hR => ?_);clear hHs hLt;refine zl5 ?_;simp only [seval, aTries];refine zhC ?_;refine ⟨fun h => ?_, fun h => ?_⟩
   ·have hil : i < x.tries.length := (by omega);obtain ⟨y, hy⟩ := zaE hil;have hw : IntKind.i64.wrap ((i : Int) + 1) = i + 1 := zau _ (by omega);refine zkY ?_;refine zly ?_;refine zlC 10 ?_;simp only [seval, zh6 hy, zaz hil, aTries];refine zhC ?_;refine zkY ?_;refine zl5 ?_;simp only [seval, hw];refine hR _ ⟨hil, trivial, zlA⟩
   ·clear hR;refine zlz ?_;refine zfK ?_;refine zlj ?_;exact endA hH (Wk.refl _) (by simp [zap]) hk
end
theorem fnC_ret {lv : Bool} {P : Program} {f : FuncId} {H : List AObj} {args : List AV} {k kp : AV -> List AObj -> Prop} (h : FnC lv P f H args (fun a H' => ∃ b, Wk a b /\ k b H') kp) : FnC lv P f H args k kp := fun E V vs hc hd =>
 (h E V vs hc hd).mono fun o V' r => by
  cases o with
  | ret v =>
   obtain ⟨av, E', H', q1, q2, q3, q4, q5, b, hw, hk⟩ := r;exact ⟨b, E', H', q1, q2, q3, hw _ _ q4, q5, hk⟩
  | panic ch => exact r
section
variable {H : List AObj} {k kp : AV -> List AObj -> Prop}
theorem f28_c {lv : Bool} {x : Ring} (hs : x.Small) (hk : k x.av H) : FnC lv Tryz.prog 28 H [x.av] k kp :=
 f28_g hs fun hH => endA (b := x.av) hH (zhX (.cons (Wk.refl _) (.cons (zaK _ _ _) (.cons (zaK _ _ _) (.cons (Wk.refl _) .nil))))) (by rw [zfC]; trivial) hk
theorem Ring.len (x : Ring) : x.l.length = 4 := rfl
theorem zl4 {xs : List Ring} {x : Ring} {i : Nat} (h : xs[i]? = some x) : AV.shift (i * 4) (.rp (xs.flatMap Ring.l)) = some (.rp (iv x.cuts :: aKeys x.keys :: aLocks x.locks :: aTries x.tries :: (xs.drop (i + 1)).flatMap Ring.l)) := zcG Ring.len h
def bagL (x : Ring) (us : List Turn) (n : Nat) : Bool := (truthsL x).any fun t => us.all fun u => opensW x.keys t x.locks u.key n == u.opens
def dueL (x : Ring) (us : List Turn) (n : Nat) : List Int := ((List.range n).filter (bagL x us)).map fun i : Nat => (i : Int)
theorem dueL_le (x : Ring) (us : List Turn) (n : Nat) : (dueL x us n).length <= n := by
 unfold dueL;rw [List.length_map];have := List.length_filter_le (bagL x us) (List.range n);simpa using this
theorem zmZ (x : Ring) (us : List Turn) (n : Nat) : dueL x us (n + 1) = dueL x us n ++ (if bagL x us n then [(n : Int)] else []) := by
 unfold dueL;rw [List.range_succ, List.filter_append, List.map_append];congr 1;by_cases h : bagL x us n = true <;> simp [h]
def UsOk (x : Ring) (us : List Turn) : Prop := ∀ u ∈ us, 0 <= u.key /\ u.key <= (x.keys.length : Int) - 1
theorem bag_law {x : Ring} (hx : x.Ok) {us : List Turn} (hu : UsOk x us) {n : Nat} (hn : n < x.locks.length) : bagB x (truthsM x []) us n = bagL x us n := by
 unfold bagB bagL;rw [zmL hx fun r => us.all (fitsB x r n), Bool.eq_iff_iff];simp only [List.any_eq_true];refine exists_congr fun t => and_congr_right fun ht => ?_;obtain ⟨h1, h2⟩ := zhQ hx t ht;simp only [List.all_eq_true];refine forall_congr' fun u => forall_congr' fun hum => ?_;obtain ⟨hk0, hk1⟩ := hu u hum;have e : ((u.key.toNat : Nat) : Int) = u.key := by omega
 have e1 := zf8 hx h1 h2 (k := u.key.toNat) (l := n) (by omega) hn;rw [e] at e1;unfold fitsB;rw [e1]
theorem zmP {x : Ring} (hx : x.Ok) {us : List Turn} (hu : UsOk x us) : whichM x us = dueL x us x.locks.length := by
 unfold whichM whichTo dueL;congr 1;exact List.filter_congr fun n hn => bag_law hx hu (List.mem_range.1 hn)
theorem zlW (us : List Turn) : (us.flatMap Turn.l).length = us.length * 2 := by
 induction us with
 | nil => rfl
 | cons b bs ih => rw [List.flatMap_cons, List.length_append, ih]; simp [Turn.l]; omega
theorem zmh (us : List Turn) (u : Turn) : (us ++ [u]).flatMap Turn.l = us.flatMap Turn.l ++ [iv u.key, bv u.opens] := by
 rw [List.flatMap_append]; simp [Turn.l]
theorem zmm {α : Type} {l : List α} {i : Nat} {a : α} (f : α -> Bool) (h : l[i]? = some a) : (l.take (i + 1)).any f = ((l.take i).any f || f a) := by
 obtain ⟨hj, rfl⟩ := List.getElem?_eq_some_iff.1 h;rw [List.take_succ_eq_append_getElem hj, List.any_append]; simp
theorem zl3 {α : Type} {l : List α} {i : Nat} {a : α} (f : α -> Bool) (h : l[i]? = some a) : (l.take (i + 1)).all f = ((l.take i).all f && f a) := by
 obtain ⟨hj, rfl⟩ := List.getElem?_eq_some_iff.1 h;rw [List.take_succ_eq_append_getElem hj, List.all_append]; simp
theorem zm2 {lv : Bool} {P : Program} {r : Option Nat} {nt : Nat} {c : Code} {s : AS} {Φ : AEx -> AS -> Prop} (t : Nat) {x : AV} (y : AV) (ht : look s.T t = some x) (hw : Wk x y) (h : AWP lv P r nt c ⟨(t, y) :: s.T, s.H⟩ Φ) : AWP lv P r nt c s Φ := by
 refine ziu (s' := ⟨(t, y) :: s.T, s.H⟩) ⟨fun t' a e => ?_, rfl⟩ h;by_cases htt : t = t'
 ·subst htt;have e : look ((t, y) :: s.T) t = some a := e;rw [zmF] at e; cases e;exact ⟨x, ht, hw⟩
 ·have e : look ((t, y) :: s.T) t' = some a := e;rw [zkx _ _ _ _ (by simpa using htt)] at e;exact ⟨a, e, Wk.refl _⟩
def whichE (x : Ring) (us : List Turn) : Int := openingE x (whichFl x us)
def whichG (x : Ring) (us : List Turn) : List Int := if whichE x us = 0 then whichM x us else []
def allInU (x : Ring) (us : List Turn) : Bool := us.all fun u => inM u.key 0 (x.keys.length - 1)
theorem zmQ (x : Ring) (us : List Turn) : whichE x us = if checkM x ≠ 0 then checkM x else if us.length > 6 then 6 else beginE x (allInU x us) := by
 unfold whichE;by_cases h1 : checkM x ≠ 0
 ·rw [if_pos h1];unfold openingE openE;rw [if_pos h1, if_pos h1]
 ·rw [if_neg h1];by_cases h2 : us.length > 6
  ·rw [if_pos h2];have e : openE x (whichFl x us) = 6 := by
    unfold openE whichFl;rw [if_neg h1, if_neg (by omega)]; rfl
   unfold openingE;rw [e]; rfl
  ·rw [if_neg h2];have e : whichFl x us = if allInU x us = true then none else some 0 := (by unfold whichFl; rw [if_pos (by omega)]; rfl);rw [e];refine zme ?_ ?_
   ·cases allInU x us <;> simp
   ·cases allInU x us <;> simp [flE, flawM]
theorem zmK (x : Ring) (us : List Turn) : (whichG x us).length < 2 ^ 60 := by
 unfold whichG;split
 ·rename_i h;have hx := zbp (zaP.1 h).1;have hx5 := hx.locks;have := ziB x us x.locks.length;unfold whichM; omega
 ·simp
theorem f46_d {x : Ring} {us : List Turn} (hmain : H[0]? = some .main) (hs : x.Small) (hul : us.length < 2 ^ 30) (hk : k (.tup [aInts (whichG x us), iv (whichE x us)]) H) : FnC true Tryz.prog 46 H [x.av, aTurns us] k kp := by
 unfold whichG at hk;refine fnC_ret (f46_c zaQ hmain hs hul (fun h => ⟨_, zdC (zaK _ _ _) (Wk.refl _), ?_⟩) fun h => ⟨_, Wk.refl _, ?_⟩)
 ·have h : whichE x us ≠ 0 := h;rw [if_neg h] at hk; exact hk
 ·have h : whichE x us = 0 := h;rw [if_pos h, h] at hk; exact hk
end
section
variable {lv : Bool} {H : List AObj} {k kp : AV -> List AObj -> Prop}
set_option maxRecDepth 4000 in
set_option maxHeartbeats 1000000 in
theorem f47_c {x : Ring} {us : List Turn} (hs : x.Small) (hul : us.length < 2 ^ 30) (hk : k (.tup [aInts (whichG x us), iv (whichE x us)]) H) : FnC lv Tryz.prog 47 H [x.av, aTurns us] k kp := by
 refine zlu (rs := [.tmp 4, .tmp 5]) (nt := 100) Tryz.f47 fun hH hA => ?_;simp only [argsT, Nat.reduceAdd, Ring.av, Ring.l];have hbad : ∀ {L : List AObj} {e : Int}, whichE x us = e -> e ≠ 0 -> EndOf H.length (H ++ L) (.tup [.sl 0 [] .exact, iv e]) k := fun {L e} he h0 => by
  have e1 : whichG x us = [] := by unfold whichG; rw [he, if_neg h0]
  rw [e1, he] at hk;exact endA (b := .tup [aInts [], iv e]) hH (zdC (zaK _ _ _) (Wk.refl _)) (by simp [zaD, zap, iv, zbi]) hk
 have heq := zmQ x us;refine zfK ?_;refine zfK ?_;refine zl6 ((f36_c (x := x) hs ?_));(try simp only [seval]);refine zfK ?_;refine zhC ?_;refine ⟨fun h => ?_, fun h => ?_⟩
 ·rw [if_pos h] at heq;refine zfK ?_;refine zlj ?_;exact hbad heq h
 ·have h : checkM x = 0 := by simpa using h
  have hx := zbH.1 h;have hks := hx.keys;have hx5 := hx.locks;rw [if_neg (by simpa using h)] at heq;refine zkY ?_;refine zl5 ?_;simp only [seval, aTurns];refine zhC ?_;refine ⟨fun h1 => ?_, fun h1 => ?_⟩
  ·rw [if_pos (by omega)] at heq;refine zfK ?_;refine zlj ?_;exact hbad heq (by decide)
  ·have h6 : us.length <= 6 := (by omega);rw [if_neg (by omega)] at heq;refine zkY ?_;refine zfK ?_;refine zfK ?_;refine zly ?_;refine zaB us.length (fun i : Nat => [(7, bv (allInU x (us.take i))), (8, iv i)]) (fun _ => _) (fun i => True) (fun _ _ => rfl) (by simp only [seval]; simp [zaf, Wk.refl]; try exact Wk.refl _) rfl (fun _ _ _ => rfl) trivial (fun hHs hLt i hin hi R hR => ?_);clear hHs hLt;refine zfK ?_;refine zhC ?_;refine ⟨fun h2 => ?_, fun h2 => ?_⟩
   ·have hil : i < us.length := (by omega);obtain ⟨u, hu⟩ := zaE hil;have hw1 : IntKind.i64.wrap ((i : Int) + 1) = i + 1 := zau _ (by omega);have hsn : allInU x (us.take (i + 1)) = (allInU x (us.take i) && inM u.key 0 (x.keys.length - 1)) := zl3 _ hu;rw [hsn] at hR;refine zkY ?_;refine zly ?_;cases hb : allInU x (us.take i) with
    | false =>
     refine zlC 8 ?_;simp only [seval, hb, zh5 hu, zaz hil];rw [hb] at hR;refine zl5 ?_;simp only [seval, hw1];refine hR _ ⟨hil, trivial, ?_⟩;simp only [Bool.false_and];exact zlA
    | true =>
     refine zlC 8 ?_;simp only [seval, hb, zh5 hu, zaz hil];refine zl6 ((f96_c (x := x) (by omega) ?_));(try simp only [seval]);rw [hb] at hR;refine zl5 ?_;simp only [seval, hw1];refine hR _ ⟨hil, trivial, ?_⟩;simp only [Bool.true_and];exact zlA
   ·have hix : i = us.length := (by omega);subst hix;clear hR;rw [List.take_length];refine zlz ?_;refine zfK ?_;refine zl6 ((f103_c (x := x) (b := allInU x us) hs ?_));(try simp only [seval]);refine zfK ?_;refine zhC ?_;refine ⟨fun h3 => ?_, fun h3 => ?_⟩
    ·refine zfK ?_;refine zlj ?_;exact hbad heq h3
    ·have h3 : beginE x (allInU x us) = 0 := (by simpa using h3);rw [h3] at heq;have hall := (zm1 h3).2.1;have hus : UsOk x us := fun u hu => by
      have := List.all_eq_true.1 hall u hu;rw [zcx] at this; omega
     have eT : beginT x (allInU x us) = truthsL x := (by unfold beginT; rw [if_pos h3]);have eG : whichG x us = dueL x us x.locks.length := (by unfold whichG; rw [if_pos heq]; exact zmP hx hus);rw [eG, heq] at hk;have htl := zlJ hx;have htr := zhQ hx;have hbag : ∀ n, bagL x us n = (truthsL x).any fun t => us.all fun u => opensW x.keys t x.locks u.key n == u.opens := fun n => rfl;refine zkY ?_;(try simp only [seval, eT, aRows]);generalize truthsL x = D at htl htr hbag ⊢;refine zfK ?_
     (repeat apply zaa); refine zbV (t := 11) (sz := 1) (el := 3) (by simp only [seval] <;> rfl) ?_
     (try simp only [seval]);refine zfK ?_;refine zly ?_;refine zaB x.locks.length (fun n : Nat => [(11, .sl (dueL x us n).length ((dueL x us n).map iv) (.opn (H.length + 1))), (12, iv n)]) (fun n => H ++ [.cells [iv x.cuts, aKeys x.keys, aLocks x.locks, aTries x.tries] 26, .tail (dueL x us n).length 1 3]) (fun _ => True) (fun _ _ => rfl) (by simp only [seval]; simp [zaf, Wk.refl]; first | exact Wk.refl _ | exact ⟨Wk.refl _, Wk.refl _⟩) rfl (fun _ _ _ => by simp) trivial (fun hHs hLt n hnn hno R hR => ?_);clear hHs hLt;have hdl := dueL_le x us n;refine zl5 ?_;simp only [seval, aLocks];refine zhC ?_;refine ⟨fun h3 => ?_, fun h3 => ?_⟩
     ·have hnl : n < x.locks.length := (by omega);have hsuc := zmZ x us n;rw [hbag n] at hsuc;have hw1 : IntKind.i64.wrap ((n : Int) + 1) = n + 1 := zau _ (by omega);refine zkY ?_;refine zfK ?_;refine zfK ?_;refine zly ?_;refine zlE D.length (fun j : Nat => [(13, bv ((D.take j).any fun t => us.all fun u => opensW x.keys t x.locks u.key n == u.opens)), (14, iv j)]) (fun _ => _) (fun j => True) trivial (fun hHs hLt j hjn hj R2 hR2 => ?_);clear hHs hLt;refine zfK ?_;refine zhC ?_;refine ⟨fun h4 => ?_, fun h4 => ?_⟩
      ·have hjl : j < D.length := (by omega);obtain ⟨t, ht⟩ := zaE hjl;obtain ⟨htn, htb⟩ := htr t (zas ht);have hw2 : IntKind.i64.wrap ((j : Int) + 1) = j + 1 := zau _ (by omega);rw [zmm _ ht] at hR2;generalize ((D.take j).any fun t => us.all fun u => opensW x.keys t x.locks u.key n == u.opens) = b1 at hR2 ⊢;refine zkY ?_;refine zfK ?_;refine zfK ?_;refine zly ?_;refine zlE us.length (fun q : Nat => [(15, bv ((us.take q).all fun u => opensW x.keys t x.locks u.key n == u.opens)), (16, iv q)]) (fun _ => _) (fun j => True) trivial (fun hHs hLt q hqn hq R3 hR3 => ?_);clear hHs hLt;refine zl5 ?_;simp only [seval, aTurns];refine zhC ?_;refine ⟨fun h5 => ?_, fun h5 => ?_⟩
       ·have hql : q < us.length := (by omega);have hw4 : IntKind.i64.wrap ((q : Int) + 1) = q + 1 := zau _ (by omega);obtain ⟨u, hu⟩ := zaE hql;obtain ⟨hk0, hk1⟩ := hus u (zas hu);rw [zl3 _ hu] at hR3;obtain ⟨uk, uo⟩ := u;simp only at hk0 hk1 hR3;obtain ⟨kn, rfl⟩ : ∃ m : Nat, uk = m := ⟨uk.toNat, by omega⟩;refine zkY ?_;refine zly ?_;cases hb : ((us.take q).all fun u => opensW x.keys t x.locks u.key n == u.opens) with
        | false =>
         refine zlC 19 ?_;simp only [seval, hb, zlB ht, zaz hjl, zh5 hu, zaz hql, aTurns];rw [hb] at hR3;refine zl5 ?_;simp only [seval, hw4];refine hR3 _ ⟨hql, trivial, ?_⟩;simp only [Bool.false_and];exact zlA
        | true =>
         refine zlC 19 ?_;simp only [seval, hb, zlB ht, zaz hjl, zh5 hu, zaz hql, aTurns];rw [hb] at hR3;refine qCall _ (zlD (f124_c (x := x) hx (by omega) hnl (by omega) htb ⟨rfl, rfl⟩)) ?_;(try simp only [seval, hb, zlB ht, zaz hjl, zh5 hu, zaz hql, aTurns]);refine zl5 ?_;simp only [seval, hw4];refine hR3 _ ⟨hql, trivial, ?_⟩;simp only [Bool.true_and];exact zlA
       ·have hqx : q = us.length := (by omega);subst hqx;clear hR3;rw [List.take_length];refine zlz ?_;cases hb1 : b1 with
        | false =>
         refine zfK ?_;refine zl5 ?_;simp only [seval, hw2];rw [hb1] at hR2;refine hR2 _ ⟨hjl, trivial, ?_⟩;simp only [Bool.false_or];exact zlA
        | true =>
         refine zfK ?_;refine zl5 ?_;simp only [seval, hw2];rw [hb1] at hR2;refine hR2 _ ⟨hjl, trivial, ?_⟩;simp only [Bool.true_or];exact zlA
      ·have hjx : j = D.length := (by omega);subst hjx;clear hR2;rw [List.take_length];refine zlz ?_;generalize (D.any fun t => us.all fun u => opensW x.keys t x.locks u.key n == u.opens) = b2 at hsuc ⊢;refine zfK ?_;refine zhC ?_;refine ⟨fun h5 => ?_, fun h5 => ?_⟩
       ·have h5 : b2 = true := (by simpa using h5);subst h5;refine zl5 ?_;simp only [seval, z1, zhq]
        first | refine ⟨by omega, by omega, ?_⟩ | refine ⟨by omega, ?_⟩
        refine zl5 ?_;simp only [seval, hw1];refine hR _ ⟨hnl, trivial, ?_⟩;rw [hsuc];simp only [if_true, List.map_append, List.map_cons, List.map_nil, List.length_append, List.length_cons, List.length_nil];exact zlA
       ·have h5 : b2 = false := (by simpa using h5);subst h5;refine zkY ?_;refine zl5 ?_;simp only [seval, hw1];refine hR _ ⟨hnl, trivial, ?_⟩;rw [hsuc];simp only [Bool.false_eq_true, if_false, List.append_nil];exact zlA
     ·have hnx : n = x.locks.length := (by omega);subst hnx;clear hR;refine zlz ?_;refine zfK ?_;refine zlj ?_;exact endA (b := .tup [aInts (dueL x us x.locks.length), iv 0]) hH (zdC (zaK _ _ _) (Wk.refl _)) (by simp [zaD, zap, iv, zbi]) hk
theorem F.sh52 : structOk Tryz.prog 52 [true, false] = true := by kernel_rfl
theorem F.g52 : Tryz.prog.eqGuardType Tryz.prog.depth 52 = false := by kernel_rfl
theorem sure52 (a : Int) (c : Bool) : Sure Tryz.prog (Op.equal 52 (.agg #[.int .i64 a, .bool c]) (.agg #[.int .i64 a, .bool c])) true :=
 zlM (d := 9998) F.sh52 (fun i h => match i, h with
  | 0, _ => ⟨_, _, rfl⟩
  | 1, h => by cases h
  | _ + 2, h => by cases h) (fun i h => match i, h with
  | 0, h => by cases h
  | 1, _ => ⟨_, rfl⟩
  | _ + 2, h => by cases h)
theorem B52.same (a : Int) (c : Bool) (k : AV -> Prop) : ABin Tryz.prog .neq 52 (.agg [.val (.int .i64 a), .val (.bool c)]) (.agg [.val (.int .i64 a), .val (.bool c)]) k = k (.val (.bool false)) := zmd (V := .agg #[.int .i64 a, .bool c]) rfl rfl F.g52 (sure52 a c) k
attribute [seval] B52.same
theorem zl9 {xs : List (List Turn)} {x : List Turn} {i : Nat} (h : xs[i]? = some x) : AV.shift i (.rp (xs.map aTurns)) = some (.rp (aTurns x :: (xs.drop (i + 1)).map aTurns)) := by have := zeo (f := aTurns) h; rwa [Nat.mul_one] at this
theorem f45_c {us : List Turn} {e : End} (hl : us.length <= 2 ^ 30) (hk : k (aTurns us) H) : FnC lv Tryz.prog 45 H [.sl us.length (us.flatMap Turn.l) e] k kp := by
 refine zlu (rs := [.tmp 2]) (nt := 6) Tryz.f45 fun hH hA => ?_;simp only [argsT, Nat.reduceAdd];have hlen : (us.flatMap Turn.l).length = us.length * 2 := zlW us;have htake : (us.flatMap Turn.l).take (us.length * 2) = us.flatMap Turn.l := List.take_of_length_le (by omega);refine zfK ?_;refine zl5 ?_;simp only [seval, htake, hlen];refine ⟨hl, ?_⟩;refine zlj ?_;exact endA (b := aTurns us) hH (zaK _ _ _) (by rw [lt_turns]; trivial) hk
theorem f45_o {us : List Turn} {e : End} (hl : us.length <= 2 ^ 30) (hk : k (.sl us.length (us.flatMap Turn.l) (.opn H.length)) (H ++ [.tail us.length 2 52])) : FnC lv Tryz.prog 45 H [.sl us.length (us.flatMap Turn.l) e] k kp := by
 refine zlu (rs := [.tmp 2]) (nt := 6) Tryz.f45 fun hH hA => ?_;simp only [argsT, Nat.reduceAdd];have hlen : (us.flatMap Turn.l).length = us.length * 2 := zlW us;have htake : (us.flatMap Turn.l).take (us.length * 2) = us.flatMap Turn.l := List.take_of_length_le (by omega);refine zfK ?_;refine zl5 ?_;simp only [seval, htake, hlen];refine ⟨hl, ?_⟩;refine zlj ?_;exact zao hk
theorem f48_same {us : List Turn} {e e' : End} (hl : us.length < 2 ^ 30) (hk : k (bv true) H) : FnC lv Tryz.prog 48 H [.sl us.length (us.flatMap Turn.l) e, .sl us.length (us.flatMap Turn.l) e'] k kp := by
 refine zlu (rs := [.tmp 4]) (nt := 26) Tryz.f48 fun hH hA => ?_;simp only [argsT, Nat.reduceAdd];refine zfK ?_;refine zl5 ?_;simp only [seval, bne_self_eq_false];refine zhC ?_;refine zkY ?_;refine zfK ?_;refine zly ?_;refine zlE us.length (fun i : Nat => [(5, iv i)]) (fun _ => _) (fun _ => True) trivial (fun hHs hLt i hin hi R hR => ?_);refine zfK ?_;refine zhC ?_;refine ⟨fun h => ?_, fun h => ?_⟩
 ·have hil : i < us.length := by omega
  obtain ⟨y, hy⟩ := zaE hil;have hw : IntKind.i64.wrap ((i : Int) + 1) = i + 1 := zau _ (by omega);refine zkY ?_;refine zly ?_;refine zlC 8 ?_;simp only [seval, zh5 hy, zaz hil];refine zhC ?_;refine zkY ?_;refine zl5 ?_;simp only [seval, hw];refine hR _ ⟨hil, trivial, zlA⟩
 ·clear hR;refine zlz ?_;refine zfK ?_;refine zlj ?_;exact zao hk
end
section
variable {H : List AObj} {k kp : AV -> List AObj -> Prop}
set_option maxRecDepth 4000 in
set_option maxHeartbeats 1000000 in
theorem f5_c {x0 : Ring} {t0 : Try} {l0 : List Band} {us0 : List Turn} {tn : Turn} {nums : List Int} (hmain : H[0]? = some .main) (hn : nums.length <= 2 ^ 50) (hk : k (bv true) H) : FnC true Tryz.prog 5 H [x0.av, t0.av, aBands l0, aTurns us0, tn.av, aInts nums] k kp := by
 have hmn : ∀ L : List AObj, (H ++ L)[0]? = some .main := fun L => zay hmain;refine zlu (rs := [.tmp 12]) (nt := 140) Tryz.f5 fun hH hA => ?_;simp only [argsT, Nat.reduceAdd, Ring.av, Ring.l, Try.av, Try.l, Turn.av, Turn.l];have d2 : decide ((us0.length : Int) > 20) = decide (20 < us0.length) := by rw [decide_eq_decide]; omega
 have d1 : decide ((l0.length : Int) > 20) = decide (20 < l0.length) := by rw [decide_eq_decide]; omega
 refine zl5 ?_;simp only [seval, Ring.l, Try.l, Turn.l];cases hb1 : longM x0 with
 | true =>
  refine zfK ?_;refine zl6 ((f24_c (x := x0) ?_));(try simp only [seval, hb1]);refine zhC ?_;refine zfK ?_;refine zl6 ((f25_c (hmn _) ?_));(try simp only [seval]);refine zlj ?_;exact endV hH hk
 | false =>
  cases hb2 : decide (20 < l0.length) with
  | true =>
   refine zfK ?_;refine zl6 ((f24_c (x := x0) ?_));(try simp only [seval, hb1, aBands, aTurns, d1, d2, hb2]);refine zhC ?_;refine zfK ?_;refine zl6 ((f25_c (hmn _) ?_));(try simp only [seval]);refine zlj ?_;exact endV hH hk
  | false =>
   obtain ⟨hs0, _⟩ := zmz hb1;have hl0 : ¬ 20 < l0.length := (by simpa using hb2);cases hb3 : decide (20 < us0.length) with
   | true =>
    refine zfK ?_;refine zl6 ((f24_c (x := x0) ?_));(try simp only [seval, hb1, aBands, aTurns, d1, d2, hb2, hb3]);refine zhC ?_;refine zfK ?_;refine zl6 ((f25_c (hmn _) ?_));(try simp only [seval]);refine zlj ?_;exact endV hH hk
   | false =>
    have hu0 : ¬ 20 < us0.length := (by simpa using hb3);refine zfK ?_;refine zl6 ((f24_c (x := x0) ?_));(try simp only [seval, hb1, aBands, aTurns, d1, d2, hb2, hb3]);refine zhC ?_;refine zkY ?_;refine zfK ?_;refine zl6 ((f26_c ?_));(try simp only [seval]);refine zfK ?_;generalize hc3 : AObj.cells [AV.val (Value.int IntKind.i64 tn.key), AV.val (Value.bool tn.opens)] 52 = c3;generalize hc1 : AObj.cells [AV.val (Value.int IntKind.i64 x0.cuts), aKeys x0.keys, aLocks x0.locks, aTries x0.tries] 26 = c1;generalize hc2 : AObj.cells [AV.val (Value.int IntKind.i64 t0.key), AV.val (Value.int IntKind.i64 t0.lock), AV.val (Value.bool t0.opens)] 28 = c2;have hT : TinAt (fun τ => H ++ [c1, c2, c3, tinO τ]) (H.length + 3) (H.length + 4) := by
     have := zjT (H ++ [c1, c2, c3]);simpa using this
    have hT4 : ∀ o : AObj, TinAt (fun τ => H ++ [c1, c2, c3, tinO τ, o]) (H.length + 3) (H.length + 5) := fun o => by
     have := hT.more [o];simpa using this
    refine zl6 ((f27_c (x := x0) (r := t0) (l := l0) hT (tinOk0 hn _) (by decide) hs0 (by omega) fun y z ws τ hP hz hto => ?_));have hy := hP.ok (by decide) (by decide) (by decide);have hRy : ([x0, y, z] : List Ring)[1]? = some y := rfl;have hys := hy.small;have hRS : x0.l ++ y.l ++ z.l = ([x0, y, z] : List Ring).flatMap Ring.l := (by simp);have hRn : ([x0, y, z] : List Ring).length = 3 := rfl;have hRs : ∀ r ∈ ([x0, y, z] : List Ring), r.Small := fun r hr => by
     simp only [List.mem_cons, List.not_mem_nil, or_false] at hr;rcases hr with rfl | rfl | rfl
     ·exact hs0
     ·exact hy.small
     ·exact hz
    rw [hRS];generalize ([x0, y, z] : List Ring) = RS at hRn hRs hRy ⊢;clear hRS hP hz hy;have hto := hto.mono (b' := 2000) (by decide);(try simp only [seval]);have w1 : ∀ i : Nat, i <= 1000 -> IntKind.i64.wrap ((i : Int) + 1) = i + 1 := fun i _ => zau _ (by omega);refine zfK ?_
    (repeat apply zaa); refine zbV (t := 15) (sz := 2) (el := 52) (by simp only [seval] <;> rfl) ?_
    (try simp only [seval]);refine zfK ?_;refine zl6 ((f29_c (n := 3) (hT4 _) hto (by omega) (by decide) ?_));(try simp only [seval]);have hr := zaX τ 3;generalize uptoT τ 3 = tot at hr;obtain ⟨tot, rfl⟩ : ∃ n : Nat, tot = n := ⟨tot.toNat, by omega⟩;have hys1 := hys.keys;have hsh : AV.shift 4 (.rp (RS.flatMap Ring.l)) = some (.rp (iv y.cuts :: aKeys y.keys :: aLocks y.locks :: aTries y.tries :: (RS.drop (1 + 1)).flatMap Ring.l)) := zl4 hRy;refine zly ?_;refine za9 (measure fun m : List Turn × TinS => tot - m.1.length).wf (fun m => [(16, iv ((tot : Int) - m.1.length)), (15, .sl m.1.length (m.1.flatMap Turn.l) (.opn (H.length + 4)))]) (fun m => H ++ [c1, c2, c3, tinO m.2, .tail m.1.length 2 52]) (fun m => m.1.length <= tot /\ m.2.Ok (2000 + 1 + 2 * m.1.length)) ([], tick τ) (fun _ _ => rfl) (by simp only [seval]; simp [zaf, Wk.refl]) rfl (fun _ _ => by simp) ⟨by simp, hto.tick.mono (by simp)⟩ (fun hHs hLt m hok R hR => ?_);clear hHs hLt;obtain ⟨us, τ'⟩ := m;obtain ⟨hut, hto'⟩ := hok;simp only at hut hto';refine zfK ?_;refine zhC ?_;refine ⟨fun h => ?_, fun h => ?_⟩
    ·have hlt : us.length < tot := (by omega);have htl := zlW us;have hw1 : IntKind.i64.wrap ((y.keys.length : Int) - 1) = y.keys.length - 1 := zau _ (by omega);have hw2 : IntKind.i64.wrap ((tot : Int) - us.length - 1) = tot - (us.length + 1) := (by rw [zau _ (by omega)]; omega);refine zkY ?_;refine zl5 ?_;simp only [seval, aKeys, hw1, hsh];refine zl6 ((f29_c (hT4 _) hto' (by omega) (by omega) ?_));(try simp only [seval]);refine zl6 ((f44_c (hT4 _) hto'.tick (by omega) (by omega) ?_));try simp only [seval, zu2, zhq, htl]
     first | refine ⟨by omega, by omega, ?_⟩ | refine ⟨by omega, ?_⟩ | skip
     refine zl5 ?_;simp only [seval, hw2];refine hR _ ⟨(us ++ [⟨uptoT τ' ((y.keys.length : Int) - 1), rarelyT (tick τ') 3⟩], tick (tick τ')), by show tot - (us ++ [_]).length < tot - us.length; simp; omega, ⟨by simp; omega, hto'.tick.tick.mono (by simp; omega)⟩, ?_⟩;simp only [zmh, List.length_append];exact zlA
    ·refine zlz ?_;refine zm2 15 (aTurns us) (by simp only [seval] <;> rfl) (zaK _ _ _) ?_;have hu4 : us.length <= 3 := (by omega);clear hR hto hto' hT hT4;generalize hc4 : tinO τ' = c4;generalize hc5 : AObj.tail us.length 2 52 = c5;subst hc3;have htl := zlW us;have htk : (us.flatMap Turn.l).take (us.length * 2) = us.flatMap Turn.l := List.take_of_length_le (by omega);refine zlH [3, 6] [0, 1, 2, 3, 4, 5, 6, 7, 8] [⟨0, false, [], [([3], [3]), ([3, 6], [3, 6])]⟩, ⟨1, false, [], [([3], [3]), ([3, 6], [3, 6])]⟩, ⟨2, false, [], []⟩, ⟨3, true, [3], []⟩, ⟨4, false, [3], [([], [])]⟩, ⟨5, false, [3], [([], [])]⟩, ⟨6, true, [3, 6], []⟩, ⟨7, false, [3, 6], []⟩, ⟨8, false, [3, 6], []⟩] (fun D => H ++ (c1 :: c2 :: .cells [iv tn.key, bv tn.opens] 52 :: c4 :: c5 :: (bif isDone 6 D then [.tail (us.length + 1) 2 52] else bif isDone 3 D then [.tail us.length 2 52] else []))) ?_;simp only [seval, zu2, zs3, zhq, zd5, aTurns, htl, htk];refine eCall _ _ (zlD (f45_o (us := us) (by omega) ⟨rfl, rfl⟩)) ?_;(try simp only [seval, zu2, zs3, zes, zd5, aTurns, htl, htk, List.append_assoc]);refine ⟨by omega, ?_⟩;have hsn : us.flatMap Turn.l ++ [AV.val (Value.int IntKind.i64 tn.key), AV.val (Value.bool tn.opens)] = (us ++ [tn]).flatMap Turn.l := (zmh us tn).symm;refine zm2 17 (.sl 3 (([us0, us, us ++ [tn]] : List (List Turn)).map aTurns) .shut) (by simp only [seval] <;> rfl) ?_ ?_
     ·refine wk_sl (.cons (Wk.refl _) (.cons (Wk.refl _) (.cons ?_ .nil)));rw [hsn];have : aTurns (us ++ [tn]) = .sl (us.length + 1) ((us ++ [tn]).flatMap Turn.l) .shut := (by simp [aTurns]);rw [this];exact zaK _ _ _
     have hTn : ([us0, us, us ++ [tn]] : List (List Turn)).length = 3 := rfl;have hTb : ∀ u ∈ ([us0, us, us ++ [tn]] : List (List Turn)), u.length <= 20 := fun u hu => by
      simp only [List.mem_cons, List.not_mem_nil, or_false] at hu;rcases hu with rfl | rfl | rfl
      ·omega
      ·omega
      ·simp; omega
     generalize ([us0, us, us ++ [tn]] : List (List Turn)) = TS at hTn hTb ⊢;generalize hc3' : AObj.cells [AV.val (Value.int IntKind.i64 tn.key), AV.val (Value.bool tn.opens)] 52 = c3;generalize hc6 : AObj.tail (us.length + 1) 2 52 = c6;refine zfK ?_;refine zly ?_;refine zlE 3 (fun i : Nat => [(18, iv i)]) (fun _ => _) (fun _ => True) trivial (fun hHs hLt i hin hi R hR => ?_);clear hLt;refine zfK ?_;refine zhC ?_;refine ⟨fun h => ?_, fun h => ?_⟩
     ·have hil : i < RS.length := (by omega);obtain ⟨x, hx⟩ := zaE hil;have hxs := hRs x (zas hx);have hb3 : (0 <= (i : Int) /\ (i : Int) < 3) = True := (by simp; omega);refine zkY ?_;refine zl5 ?_;simp only [seval, zl4 hx, hb3];refine zl6 ((f28_c (x := x) hxs ?_));(try simp only [seval, Ring.av, Ring.l]);refine zfK ?_;refine zly ?_;refine zlE 3 (fun j : Nat => [(20, iv j)]) (fun _ => _) (fun _ => True) trivial (fun hHs2 hLt j hjn hjo R2 hR2 => ?_);clear hLt hHs2;refine zfK ?_;refine zhC ?_;refine ⟨fun h2 => ?_, fun h2 => ?_⟩
      ·have hjl : j < TS.length := (by omega);obtain ⟨v, hv⟩ := zaE hjl;have hvl := hTb v (zas hv);have hbj : (0 <= (j : Int) /\ (j : Int) < 3) = True := (by simp; omega);refine zkY ?_;refine zl5 ?_;simp only [seval, zl9 hv, hbj];refine zl6 ((f45_c (us := v) (by omega) ?_));(try simp only [seval]);refine zfK ?_;refine zl6 ((f46_d (x := x) (us := v) (hmn _) hxs (by omega) ?_));(try simp only [seval]);refine zlC 14 ?_;simp only [seval, zl4 hx, hb3, zl9 hv, hbj];refine qCall _ (zlD (f47_c (x := x) (us := v) hxs (by omega) ⟨rfl, rfl⟩)) ?_;(try simp only [seval]);refine zl5 ?_;simp only [seval, bne_self_eq_false, aInts];refine zl6 ((f34_same (xs := whichG x v) (zmK x v) ?_));(try simp only [seval, zl9 hv, hbj, aTurns]);refine zl6 ((f48_same (us := v) (by omega) ?_));(try simp only [seval]);refine zhC ?_;refine zkY ?_;refine zl5 ?_;simp only [seval, w1 j (by omega)];refine hR2 _ ⟨by omega, trivial, zlA⟩
      ·have hjx : j = 3 := (by omega);clear hR2;refine zlz ?_;refine zlC 5 ?_;simp only [seval, zl4 hx, hb3];refine zl6 ((f37_same (x := x) hxs ?_));(try simp only [seval]);refine zhC ?_;refine zkY ?_;refine zl5 ?_;simp only [seval, w1 i (by omega)];refine hR _ ⟨by omega, trivial, ?_⟩;exact zat (L := [c1, c2, c3, c4, c5, c6]) (zam rfl rfl) (by simp only [seval]; simp [zaf, Wk.refl]) hHs (by simp [zap])
     ·clear hR;refine zlz ?_;refine zfK ?_;refine zl6 ((f25_c (hmn _) ?_));(try simp only [seval]);refine zlj ?_;exact endV hH hk
end
open Go.ChangeShapes Go.WideShapes Go.ChangeAt Go.RowKit
def view0 (W : World) : View := ⟨fun b o => W.cell? ⟨b, o, none⟩, fun _ => none, 0, .plain⟩
def env0 (W : World) : Env := ⟨(view0 W).imm, 1, fun _ => 0, fun _ _ => (none, 0), fun _ => 0, fun _ => none, true⟩
theorem sat0 (W : World) : Sat (view0 W) W := ⟨fun _ _ _ h => h, fun _ _ h => by cases h⟩
theorem conc0 (W : World) : Conc (env0 W) (view0 W) [.main] where
 I := rfl
 n := rfl
 obj := fun k x h => by
  match k, h with
  | 0, h => cases h; exact rfl
  | k + 1, h => cases h
 inj := fun i j x y b hi hj h1 h2 => by
  match i, hi with
  | 0, hi => cases hi; cases h1
  | i + 1, hi => cases hi
 group := fun g h => by cases h
 chan := fun c h => by cases h
 top := fun _ => ⟨rfl, rfl⟩
 fr := fun b y h => by cases h
theorem zjf {f : FuncId} {W : World} {args : Array Value} {avs : List AV} {Q : Value -> Prop} (hi : Tryz.prog.inits.idxOf? f = none) (hd : Denl (env0 W) avs args) (h : FnC true Tryz.prog f [.main] avs (fun a _ => ∀ E v, Den E a v -> Q v) (fun _ _ => False)) :
  ∃ M last o w' t', runNT Tryz.prog (M + 1) (solo (G (Frame.enter Tryz.prog f args .normal) []) W) #[] = (.ended o w', t') /\ runN Tryz.prog M (solo (G (Frame.enter Tryz.prog f args .normal) []) W) = .next last /\ step Tryz.prog last = .ended o w' /\ Conc.Good Tryz.prog (fun v w => Q v /\ Left W.heap.size W w) last o w' t' :=
 zgE hi (V := view0 W) rfl rfl rfl (sat0 W) (h (env0 W) (view0 W) args (conc0 W) hd) fun o V' r => by
  cases o with
  | ret v =>
   obtain ⟨av, E', H', _, hro, _, hden, _, hk⟩ := r;exact ⟨hro, v, rfl, fun w _ hl => ⟨hk _ _ hden, hl⟩⟩
  | panic ch =>
   obtain ⟨pv, v, E', H', _, _, _, _, _, _, hf⟩ := r;exact hf.elim
theorem Left.below {W w : World} (h : Left W.heap.size W w) : Below W.heap.size W w := ⟨h.os, h.tape, h.out, h.size, h.old⟩
theorem Tz.own : ownKnob Tryz.prog.godebug = none := by kernel_rfl
theorem Tz.laidOut : laidOutB Tryz.prog = true := by kernel_rfl
theorem Tz.u30 : Tryz.prog.underlying 30 = some (.slice 3) := by kernel_rfl
theorem Tz.u3 : Tryz.prog.underlying 3 = some (.int .i64) := by kernel_rfl
theorem Tz.u4 : Tryz.prog.underlying 4 = some .bool := by kernel_rfl
theorem Tz.c3 : Tryz.prog.cellsOf 3 = 1 := by kernel_rfl
theorem Tz.b3 : Tryz.prog.bytesOf 3 = 8 := by kernel_rfl
structure Rd (W : World) (e : TypeId) {α : Type} (f : α -> List AV) (n : Nat) : Prop where
 cells : Tryz.prog.cellsOf e = n
 len : ∀ a, (f a).length = n
 rd : ∀ {H : Type} {enc : TypeId × Value -> H} {fuel : Nat} {cs : List Value} {x : DataW H × List MemPlace}, DataW.trod enc Tryz.prog W 0 (fun _ => true) true fuel e cs = some x -> ∃ a, Denl (env0 W) (f a) cs.toArray
section
variable {W : World}
theorem zlX {E : Env} {a : AV} {v : Value} (h : Den E a v) : Denl E [a] [v].toArray := ⟨rfl, fun i x e => by
 match i, e with
 | 0, e => cases e; exact h⟩
theorem zlV {E : Env} {l m : List AV} {xs ys : List Value} (h : Denl E l xs.toArray) (k : Denl E m ys.toArray) : Denl E (l ++ m) (xs ++ ys).toArray := by
 have := zcN h k;simpa using this
theorem rd_int {e : TypeId} {k : IntKind} (hu : Tryz.prog.underlying e = some (.int k)) (hc : Tryz.prog.cellsOf e = 1) : Rd W e (fun z : Int => [AV.val (.int k z)]) 1 where
 cells := hc
 len := fun _ => rfl
 rd := fun h => by
  obtain ⟨n, rfl, _, _⟩ := DataW.trod_int hu h;exact ⟨n, zlX (.val _)⟩
theorem rd_bool {e : TypeId} (hu : Tryz.prog.underlying e = some .bool) (hc : Tryz.prog.cellsOf e = 1) : Rd W e (fun z : Bool => [bv z]) 1 where
 cells := hc
 len := fun _ => rfl
 rd := fun h => by
  obtain ⟨n, rfl, _⟩ := DataW.trod_bool hu h;exact ⟨n, zlX (.val _)⟩
theorem zmV {α : Type} {Q : Nat -> α -> Prop} : ∀ n, (∀ i, i < n -> ∃ a, Q i a) -> ∃ l : List α, l.length = n /\ ∀ (i : Nat) a, l[i]? = some a -> Q i a
 | 0, _ => ⟨[], rfl, fun i a e => by simp at e⟩
 | n + 1, h => by
  obtain ⟨l, hl, hq⟩ := zmV n fun i hi => h i (by omega);obtain ⟨a, ha⟩ := h n (by omega);refine ⟨l ++ [a], by simp [hl], fun i b e => ?_⟩;by_cases hi : i < n
  ·rw [List.getElem?_append_left (by omega)] at e; exact hq i b e
  ·have hi2 : i = n := (by have := get_lt e; simp at this; omega);subst hi2;rw [List.getElem?_append_right (by omega), hl, Nat.sub_self] at e;cases e; exact ha
theorem zmJ {α : Type} {f : α -> List AV} {n : Nat} (hf : ∀ a, (f a).length = n) : ∀ (l : List α) (q r : Nat), r < n -> (l.flatMap f)[q * n + r]? = (l[q]?).bind fun a => (f a)[r]?
 | [], q, r, _ => by simp
 | a :: l, 0, r, h => by
  rw [List.flatMap_cons, Nat.zero_mul, Nat.zero_add, List.getElem?_append_left (by rw [hf]; exact h)]; rfl
 | a :: l, q + 1, r, h => by
  rw [List.flatMap_cons, List.getElem?_append_right (by rw [hf, Nat.succ_mul]; omega), hf, List.getElem?_cons_succ, <- zmJ hf l q r h];congr 1;rw [Nat.succ_mul]; omega
theorem zmI {α : Type} {f : α -> List AV} {n : Nat} (hf : ∀ a, (f a).length = n) : ∀ l : List α, (l.flatMap f).length = l.length * n
 | [] => by simp
 | a :: l => by rw [List.flatMap_cons, List.length_append, hf, zmI hf l, List.length_cons, Nat.succ_mul]; omega
theorem zm0 {a : Addr} {v : Value} (h : W.cell? a = some v) : a.spot = none := by
 unfold World.cell? at h;split at h
 ·split at h
  ·cases h
  ·rename_i hs; simpa using hs
 ·cases h
theorem add_zero (a : Addr) : a.add 0 = a := by unfold Addr.add; simp
theorem zlT {α : Type} {t e : TypeId} {f : α -> List AV} {n : Nat} (hu : Tryz.prog.underlying t = some (.slice e)) (hc : Tryz.prog.cellsOf t = 1) (hR : Rd W e f n) (hn : 0 < n) : Rd W t (fun l : List α => [AV.sl l.length (l.flatMap f) .shut]) 1 where
 cells := hc
 len := fun _ => rfl
 rd := fun {H enc fuel cs x} h => by
  rcases DataW.trod_slice hu h with ⟨rfl, _⟩ | ⟨a, len, cap, elems, rest, m, _, rfl, _, _, hl, _, hlen, hel, hsp, _⟩
  ·exact ⟨[], zlX (.nil trivial)⟩
  ·have hrest := (hsp rfl).2;have hrl := (hsp rfl).1;have each : ∀ i, i < len -> ∃ y cs', W.cells? 0 (a.add (i * n)) n = some cs' /\ Denl (env0 W) (f y) cs'.toArray := fun i hi => by
    have h1 := hel i hi;rw [hR.cells] at h1;obtain ⟨z, hz⟩ := zaE (xs := elems) (i := i) (by omega);rw [hz] at h1;obtain ⟨cs', hcs, hy⟩ := Option.bind_eq_some_iff.1 h1;obtain ⟨y, hd⟩ := hR.rd hy;exact ⟨y, cs', hcs, hd⟩
   by_cases hcap : cap = 0
   ·subst hcap;have : len = 0 := (by omega);subst this;exact ⟨[], zlX (.nil trivial)⟩
   ·have hspot : a.spot = none := by
     have one : ∀ cs', W.cells? 0 a n = some cs' -> a.spot = none := fun cs' hcs => by
      obtain ⟨_, hcl, hcell⟩ := World.cells?_some hcs;obtain ⟨v, hv⟩ := zaE (xs := cs') (i := 0) (by omega);have := hcell 0 hn;rw [hv, add_zero] at this;exact zm0 this
     by_cases hz : len = 0
     ·have h1 := hrest 0 (by omega);rw [hR.cells, hz, Nat.zero_add, Nat.zero_mul, add_zero] at h1;obtain ⟨z, hz⟩ := zaE (xs := rest) (i := 0) (by omega);rw [hz] at h1;obtain ⟨cs', hcs, _⟩ := Option.bind_eq_some_iff.1 h1;exact one cs' hcs
     ·obtain ⟨y, cs', hcs, _⟩ := each 0 (by omega);rw [Nat.zero_mul, add_zero] at hcs;exact one cs' hcs
    obtain ⟨b, o, sp⟩ := a;simp only at hspot;subst hspot;obtain ⟨l, hll, hq⟩ := zmV (Q := fun i y => ∃ cs', W.cells? 0 ((⟨b, o, none⟩ : Addr).add (i * n)) n = some cs' /\ Denl (env0 W) (f y) cs'.toArray) len each;have at2 : ∀ (q r : Nat), q < len -> r < n -> ∃ (y : α) (cs' : List Value), l[q]? = some y /\ cs'.length = n /\ Denl (env0 W) (f y) cs'.toArray /\ W.cell? ⟨b, o + (q * n + r), none⟩ = cs'[r]? := fun q r hq1 hr => by
     obtain ⟨y, hy⟩ := zaE (xs := l) (i := q) (by omega);obtain ⟨cs', hcs, hd⟩ := hq q y hy;obtain ⟨_, hcl, hcell⟩ := World.cells?_some hcs;refine ⟨y, cs', hy, hcl, hd, ?_⟩;have := hcell r hr;rw [zbr, zbr, Nat.add_assoc] at this;exact this
    refine ⟨l, zlX ?_⟩;have hfl := zmI hR.len l;have hdiv : ∀ i, i < len * n -> i / n < len /\ i % n < n /\ i / n * n + i % n = i := fun i hi => ⟨by rw [Nat.div_lt_iff_lt_mul hn]; exact hi, Nat.mod_lt _ hn, by rw [Nat.mul_comm]; exact Nat.div_add_mod i n⟩;rw [hll] at hfl ⊢;refine .sl b o cap (fun i => (W.cell? ⟨b, o + i, none⟩).getD undef) hl trivial (fun i hi => ?_) fun i x hx => ?_
    ·rw [hfl] at hi;obtain ⟨h1, h2, h3⟩ := hdiv i hi;obtain ⟨y, cs', _, hcl, _, hcell⟩ := at2 _ _ h1 h2;rw [h3] at hcell;obtain ⟨v, hv⟩ := zaE (xs := cs') (i := i % n) (by omega);rw [hv] at hcell;show W.cell? ⟨b, o + i, none⟩ = _;rw [hcell]; rfl
    ·have hi := get_lt hx;rw [hfl] at hi;obtain ⟨h1, h2, h3⟩ := hdiv i hi;obtain ⟨y, cs', hy, hcl, hd, hcell⟩ := at2 _ _ h1 h2;rw [<- h3, zmJ hR.len l _ _ h2, hy] at hx;have hx : (f y)[i % n]? = some x := hx;rw [h3] at hcell;obtain ⟨v, hv⟩ := zaE (xs := cs') (i := i % n) (by omega);rw [hv] at hcell;rw [hcell];have := hd.2 _ x hx;rw [Array.getD_eq_getD_getElem?] at this;simpa [hv] using this
def fieldAt (P : Program) (t i : Nat) : Option (TypeId × Nat) := match P.underlying t with
 | some (.struct fs) => (fs[i]?).map fun f => (f.type, f.offset)
 | _ => none
theorem zlI {H : Type} {enc : TypeId × Value -> H} {t i ft off fuel : Nat} {cs : List Value} {x : DataW H × List MemPlace} (hf : fieldAt Tryz.prog t i = some (ft, off)) (h : DataW.trod enc Tryz.prog W 0 (fun _ => true) true fuel t cs = some x) : cs.length = Tryz.prog.cellsOf t /\ ∃ m y, DataW.trod enc Tryz.prog W 0 (fun _ => true) true m ft ((cs.drop off).take (Tryz.prog.cellsOf ft)) = some y := by
 unfold fieldAt at hf;split at hf
 ·rename_i fs hu;obtain ⟨xs, n, _, _, hl, hxl, hfs⟩ := DataW.trod_struct hu h;obtain ⟨fd, hfd, e⟩ := Option.map_eq_some_iff.1 hf;cases e;refine ⟨hl, n, ?_⟩;have := hfs i fd hfd;obtain ⟨y, hy⟩ := zaE (xs := xs) (i := i) (by rw [hxl]; exact (Array.getElem?_eq_some_iff.1 hfd).1);exact ⟨y, by rw [this, hy]⟩
 ·cases hf
theorem zmU {α β γ : Type} {t ta tb na nb : Nat} {f : α -> List AV} {g : β -> List AV} {h : γ -> List AV} (fa : fieldAt Tryz.prog t 0 = some (ta, 0)) (fb : fieldAt Tryz.prog t 1 = some (tb, na)) (hc : Tryz.prog.cellsOf t = na + nb) (ha : Rd W ta f na) (hb : Rd W tb g nb) (mk : α -> β -> γ) (hmk : ∀ a b, h (mk a b) = f a ++ g b) (hl : ∀ c, (h c).length = na + nb) : Rd W t h (na + nb) where
 cells := hc
 len := hl
 rd := fun {H enc fuel cs x} hd => by
  obtain ⟨hcl, m, y, hy⟩ := zlI fa hd;obtain ⟨_, m2, y2, hy2⟩ := zlI fb hd;rw [ha.cells, List.drop_zero] at hy;rw [hb.cells] at hy2;obtain ⟨a, hda⟩ := ha.rd hy;obtain ⟨b, hdb⟩ := hb.rd hy2;refine ⟨mk a b, ?_⟩;rw [hmk];have e : cs = cs.take na ++ (cs.drop na).take nb := by
   rw [List.take_of_length_le (l := cs.drop na) (by rw [List.length_drop, hcl, hc]; omega), List.take_append_drop]
  rw [e];exact zlV hda hdb
theorem rd_three {α β γ δ : Type} {t ta tb tc na nb nc : Nat} {f : α -> List AV} {g : β -> List AV} {g3 : γ -> List AV} {h : δ -> List AV} (fa : fieldAt Tryz.prog t 0 = some (ta, 0)) (fb : fieldAt Tryz.prog t 1 = some (tb, na)) (fc : fieldAt Tryz.prog t 2 = some (tc, na + nb)) (hc : Tryz.prog.cellsOf t = na + nb + nc) (ha : Rd W ta f na) (hb : Rd W tb g nb) (hc3 : Rd W tc g3 nc) (mk : α -> β -> γ -> δ) (hmk : ∀ a b c, h (mk a b c) = f a ++ g b ++ g3 c) (hl : ∀ c, (h c).length = na + nb + nc) : Rd W t h (na + nb + nc) where
 cells := hc
 len := hl
 rd := fun {H enc fuel cs x} hd => by
  obtain ⟨hcl, m, y, hy⟩ := zlI fa hd;obtain ⟨_, m2, y2, hy2⟩ := zlI fb hd;obtain ⟨_, m3, y3, hy3⟩ := zlI fc hd;rw [ha.cells, List.drop_zero] at hy;rw [hb.cells] at hy2;rw [hc3.cells] at hy3;obtain ⟨a, hda⟩ := ha.rd hy;obtain ⟨b, hdb⟩ := hb.rd hy2;obtain ⟨c, hdc⟩ := hc3.rd hy3;refine ⟨mk a b c, ?_⟩;rw [hmk];have e : cs = cs.take na ++ (cs.drop na).take nb ++ (cs.drop (na + nb)).take nc := by
   rw [List.take_of_length_le (l := cs.drop (na + nb)) (by rw [List.length_drop, hcl, hc]; omega), List.append_assoc, <- List.drop_drop, List.take_append_drop, List.take_append_drop]
  rw [e];exact zlV (zlV hda hdb) hdc
theorem rd_four {α β γ γ' δ : Type} {t ta tb tc td na nb nc nd : Nat} {f : α -> List AV} {g : β -> List AV} {g3 : γ -> List AV} {g4 : γ' -> List AV} {h : δ -> List AV} (fa : fieldAt Tryz.prog t 0 = some (ta, 0)) (fb : fieldAt Tryz.prog t 1 = some (tb, na)) (fc : fieldAt Tryz.prog t 2 = some (tc, na + nb)) (fd : fieldAt Tryz.prog t 3 = some (td, na + nb + nc)) (hc : Tryz.prog.cellsOf t = na + nb + nc + nd) (ha : Rd W ta f na) (hb : Rd W tb g nb) (hc3 : Rd W tc g3 nc) (hd4 : Rd W td g4 nd) (mk : α -> β -> γ -> γ' -> δ) (hmk : ∀ a b c d, h (mk a b c d) = f a ++ g b ++ g3 c ++ g4 d) (hl : ∀ c, (h c).length = na + nb + nc + nd) : Rd W t h (na + nb + nc + nd) where
 cells := hc
 len := hl
 rd := fun {H enc fuel cs x} hd => by
  obtain ⟨hcl, m, y, hy⟩ := zlI fa hd;obtain ⟨_, m2, y2, hy2⟩ := zlI fb hd;obtain ⟨_, m3, y3, hy3⟩ := zlI fc hd;obtain ⟨_, m4, y4, hy4⟩ := zlI fd hd;rw [ha.cells, List.drop_zero] at hy;rw [hb.cells] at hy2;rw [hc3.cells] at hy3;rw [hd4.cells] at hy4;obtain ⟨a, hda⟩ := ha.rd hy;obtain ⟨b, hdb⟩ := hb.rd hy2;obtain ⟨c, hdc⟩ := hc3.rd hy3;obtain ⟨d, hdd⟩ := hd4.rd hy4;refine ⟨mk a b c d, ?_⟩;rw [hmk];have e : cs = cs.take na ++ (cs.drop na).take nb ++ (cs.drop (na + nb)).take nc ++ (cs.drop (na + nb + nc)).take nd := by
   rw [List.take_of_length_le (l := cs.drop (na + nb + nc)) (by rw [List.length_drop, hcl, hc]; omega), List.append_assoc, List.append_assoc, <- List.drop_drop (i := nc), List.take_append_drop, <- List.drop_drop, List.take_append_drop, List.take_append_drop]
  rw [e];exact zlV (zlV (zlV hda hdb) hdc) hdd
end
theorem zmu {H : Type} {enc : TypeId × Value -> H} {W W' : World} (hb : Below W.heap.size W W') : ∀ (ts : List TypeId) (vs : List Value) (ds : List (DataW H)) (ps : List MemPlace), (∀ t ∈ ts, Tryz.prog.readableRec t = true /\ t < Tryz.prog.types.size) -> DataW.TrodAll enc Tryz.prog W 0 (fun _ => true) true ts vs ds ps -> (∀ x ∈ ps, x.block < W.heap.size) ->
  DataW.TrodAll enc Tryz.prog W' 0 (fun b => decide (b < W.heap.size)) true ts vs ds ps
 | [], vs, ds, ps, _, h, _ => by
  obtain ⟨rfl, rfl, rfl⟩ := trodAll_nil h;exact trodAll_mk0
 | t :: ts, vs, ds, ps, ht, h, hlt => by
  obtain ⟨v, vs', d, ds', p, q, rfl, rfl, rfl, h1, h2⟩ := trodAll_cons h;have h0 := ht t List.mem_cons_self;exact ⟨p, q, Below.trod Tz.laidOut h0.1 h0.2 h1 hb fun x hx => hlt x (List.mem_append_left _ hx), zmu hb ts vs' ds' q (fun t h => ht t (List.mem_cons_of_mem _ h)) h2 fun x hx => hlt x (List.mem_append_right _ hx), rfl⟩
theorem zmj {H : Type} {enc : TypeId × Value -> H} {W : World} : ∀ (ts : List TypeId) (vs : List Value) (ds : List (DataW H)) (ps : List MemPlace), DataW.TrodAll enc Tryz.prog W 0 (fun _ => true) true ts vs ds ps -> ds.length = ts.length
 | [], vs, ds, ps, h => by obtain ⟨rfl, rfl, rfl⟩ := trodAll_nil h; rfl
 | t :: ts, vs, ds, ps, h => by
  obtain ⟨v, vs', d, ds', p, q, rfl, rfl, rfl, h1, h2⟩ := trodAll_cons h;rw [List.length_cons, List.length_cons, zmj ts vs' ds' q h2]
def LawArgs (f : FuncId) (ts : List TypeId) : Prop := ∀ (W : World) {H : Type} (enc : TypeId × Value -> H) (args : Array Value) (ds : List (DataW H)) (ps : List MemPlace) (base : Nat) (ws : List TypeId), (∀ (j : Nat) t v, ts[j]? = some t -> args[j]? = some v -> Value.okWide Tryz.prog W .any base t v) ->
 DataW.TrodAll enc Tryz.prog W 0 (fun _ => true) true ts args.toList ds ps -> (DataW.weightsEach Tryz.prog (ts ++ ws) ds).all (· <= reachBytes) = true -> ∃ avs, Denl (env0 W) avs args /\ FnC true Tryz.prog f [.main] avs (fun a _ => a = bv true) (fun _ _ => False)
set_option maxRecDepth 100000 in
theorem zmC {f : FuncId} {fn : Func} {s : ChangeSpec} {ts : List TypeId} (hf : Tryz.prog.funcs[f]? = some fn) (hp : fn.params = ts.toArray) (hr : fn.resultTypes = #[4]) (hv : s.vars = []) (hs : ∀ (H : Type) (ds : List (DataW H)), ds.length = ts.length -> s.fn H ds = { results := [.lit (.bool true)], args := ds }) (hi : Tryz.prog.inits.idxOf? f = none)
  (hread : ∀ t ∈ ts, Tryz.prog.readableRec t = true /\ t < Tryz.prog.types.size) (hlaw : LawArgs f ts)
  (os : Os) (started : os.Started) (H : Type) (enc : TypeId × Value -> H)
  (hwit : ∃ (w : World) (tape : Tape) (i : Input), w.os = os /\ (w.forCall tape i).Shaped Tryz.checked.prog /\ i.vars = [] /\ Input.okWide Tryz.checked.prog (w.forCall tape i) .any w.heap.size f i /\
   s.pre6 enc Tryz.checked.prog fn [] false (w.forCall tape i).memory i.args /\ ({} : Assume).holds Tryz.checked.prog (lone (Frame.enter Tryz.checked.prog f i.args .normal) [] (w.forCall tape i))) :
  ReturnsInLeavingWide {} Tryz.checked os f .any (s.pre6 enc Tryz.prog fn [] false) (s.post enc Tryz.prog fn false true false false) := by
 refine returnsInLeavingWide_of_change_sized (C := Tryz.checked) Tz.own started hf hwit ?_;intro W base args ds gs before hval0 hW _ hsz0 _;have hval : ∀ (j : Nat) t v, ts[j]? = some t -> args[j]? = some v -> Value.okWide Tryz.prog W .any base t v := fun j t v e => hval0 j t v (by rw [hp]; simpa using e);have hW' := hW;obtain ⟨p, q, hA0, hV, rfl, _, _⟩ := hW;have hA : DataW.TrodAll enc Tryz.prog W 0 (fun _ => true) true ts args.toList ds p := by
  have : DataW.TrodAll enc Tryz.prog W 0 (fun _ => true) true fn.params.toList args.toList ds p := hA0;rw [hp] at this;simpa using this
 have hdl := zmj _ _ _ _ hA;rw [hv] at hV;obtain ⟨rfl, rfl⟩ := trodVars_none hV;have hsz : (DataW.weightsEach Tryz.prog (ts ++ s.plain.varTypes Tryz.prog) ds).all (· <= reachBytes) = true := by
  have h : (DataW.weightsEach Tryz.prog (fn.params.toList ++ s.plain.varTypes Tryz.prog) (ds ++ [])).all (· <= reachBytes) = true := hsz0;rw [List.append_nil, hp] at h;simpa using h
 simp only [List.append_nil] at hW';have hlt : ∀ x ∈ p, x.block < W.heap.size := fun x hx => by simpa using hW'.lt x hx
 obtain ⟨avs, hden, hfn⟩ := hlaw W enc args ds p base _ hval hA hsz;obtain ⟨M, last, o, w', t', h1, h2, h3, h4⟩ := zjf (Q := fun v => v = .bool true) (args := args) (avs := avs) hi hden (hfn.mono (fun a H' e E v hden => by subst e; cases hden; rfl) fun _ _ h => h);refine ⟨M, last, o, w', t', h1, h2, h3, h4.mono fun v ⟨hQ, hL⟩ => ?_⟩;subst hQ;have hb := hL.below;refine ⟨ds, [], _, [], p, [], hW', ?_, ?_, by rw [hv]; exact (by rw [List.append_nil, hs H ds hdl]; rfl), hb.frame _, fun h => by cases h⟩
 ·rw [List.append_nil, hs H ds hdl, hr];exact trodAll_mk1 (shut_bool Tz.u4 true)
 ·rw [List.append_nil, hs H ds hdl, hp];have e : ts.toArray.toList = ts := by simp
  rw [e];exact zmu hb ts _ _ _ hread hA hlt
end Go.Gg
set_option maxRecDepth 100000
namespace Go.Gg
open Go.Conc Go.Proofs Go.ChangeShapes Go.WideShapes Go.ChangeAt Go.RowKit
theorem Rd.as {W : World} {e : TypeId} {α : Type} {f g : α -> List AV} {n : Nat} (h : Rd W e f n) (he : ∀ a, f a = g a) : Rd W e g n := by
 have : f = g := funext he;subst this; exact h
section
variable {W : World}
theorem rdInt : Rd W 3 (fun z : Int => [iv z]) 1 := rd_int (by kernel_rfl) (by kernel_rfl)
theorem rdBool : Rd W 4 (fun z : Bool => [bv z]) 1 := rd_bool (by kernel_rfl) (by kernel_rfl)
theorem zmY (xs : List Int) : (xs.flatMap fun z => [iv z]) = xs.map iv := by
 induction xs with
 | nil => rfl
 | cons x xs ih => rw [List.flatMap_cons, ih]; rfl
theorem zmO (ls : List (List Band)) : (ls.flatMap fun l => [aBands l]) = ls.map aBands := by
 induction ls with
 | nil => rfl
 | cons x xs ih => rw [List.flatMap_cons, ih]; rfl
theorem rdInts : Rd W 30 (fun xs : List Int => [aInts xs]) 1 := (zlT (by kernel_rfl) (by kernel_rfl) rdInt (by decide)).as fun xs => by rw [zmY]; rfl
theorem rdBand : Rd W 63 Band.l 2 := zmU (na := 1) (nb := 1) (by kernel_rfl) (by kernel_rfl) (by kernel_rfl) rdInt rdInt Band.mk (fun _ _ => rfl) (fun _ => rfl)
theorem rdBands : Rd W 29 (fun xs : List Band => [aBands xs]) 1 := zlT (by kernel_rfl) (by kernel_rfl) rdBand (by decide)
theorem rdKey : Rd W 65 Key.l 3 := zmU (na := 1) (nb := 2) (by kernel_rfl) (by kernel_rfl) (by kernel_rfl) rdInts rdBand Key.mk (fun _ _ => rfl) (fun _ => rfl)
theorem rdTry : Rd W 28 Try.l 3 := rd_three (na := 1) (nb := 1) (nc := 1) (by kernel_rfl) (by kernel_rfl) (by kernel_rfl) (by kernel_rfl) rdInt rdInt rdBool Try.mk (fun _ _ _ => rfl) (fun _ => rfl)
theorem rdTurn : Rd W 52 Turn.l 2 := zmU (na := 1) (nb := 1) (by kernel_rfl) (by kernel_rfl) (by kernel_rfl) rdInt rdBool Turn.mk (fun _ _ => rfl) (fun _ => rfl)
theorem rdKeys : Rd W 22 (fun xs : List Key => [aKeys xs]) 1 := zlT (by kernel_rfl) (by kernel_rfl) rdKey (by decide)
theorem rdLocks : Rd W 23 (fun xs : List (List Band) => [aLocks xs]) 1 := (zlT (by kernel_rfl) (by kernel_rfl) rdBands (by decide)).as fun xs => by rw [zmO]; rfl
theorem rdTries : Rd W 24 (fun xs : List Try => [aTries xs]) 1 := zlT (by kernel_rfl) (by kernel_rfl) rdTry (by decide)
theorem rdTurns : Rd W 50 (fun xs : List Turn => [aTurns xs]) 1 := zlT (by kernel_rfl) (by kernel_rfl) rdTurn (by decide)
theorem rdRing : Rd W 26 Ring.l 4 := rd_four (na := 1) (nb := 1) (nc := 1) (nd := 1) (by kernel_rfl) (by kernel_rfl) (by kernel_rfl) (by kernel_rfl) (by kernel_rfl) rdInt rdKeys rdLocks rdTries Ring.mk (fun _ _ _ _ => rfl) (fun _ => rfl)
section
variable {H : Type} {enc : TypeId × Value -> H} {base : Nat} {t : TypeId} {v : Value} {d : DataW H} {p : List MemPlace}
theorem zmc {α : Type} {e : TypeId} {f : α -> AV} (hu : Tryz.prog.underlying t = some (.slice e)) (hR : Rd W t (fun a => [f a]) 1) (hok : Value.okWide Tryz.prog W .any base t v) (h : DataW.Trod enc Tryz.prog W 0 (fun _ => true) true t v d p) : ∃ a, Den (env0 W) (f a) v := by
 obtain ⟨a, len, cap, rfl⟩ := okWide_slice hu hok;obtain ⟨fuel, h⟩ := h;obtain ⟨x, hx⟩ := hR.rd h;exact ⟨x, hx.2 0 _ rfl⟩
theorem zl0 {α : Type} {fs : Array Field} {f : α -> List AV} {n : Nat} (hu : Tryz.prog.underlying t = some (.struct fs)) (hR : Rd W t f n) (hok : Value.okWide Tryz.prog W .any base t v) (h : DataW.Trod enc Tryz.prog W 0 (fun _ => true) true t v d p) : ∃ a, Den (env0 W) (.agg (f a)) v := by
 obtain ⟨cs, rfl, _⟩ := okWide_struct hu hok;obtain ⟨fuel, h⟩ := h;obtain ⟨x, hx⟩ := hR.rd h;exact ⟨x, .agg (by simpa [Value.cells] using hx.1) fun i a e => by simpa [Value.cells] using hx.2 i a e⟩
def isStruct (P : Program) (t : TypeId) : Bool := match P.underlying t with
 | some (.struct _) => true
 | _ => false
theorem isStruct.out {P : Program} {t : TypeId} (h : isStruct P t = true) : ∃ fs, P.underlying t = some (.struct fs) := by
 unfold isStruct at h;split at h
 ·exact ⟨_, by assumption⟩
 ·cases h
theorem arg_ring (hok : Value.okWide Tryz.prog W .any base 26 v) (h : DataW.Trod enc Tryz.prog W 0 (fun _ => true) true 26 v d p) : ∃ x : Ring, Den (env0 W) x.av v := by
 obtain ⟨fs, hu⟩ := isStruct.out (P := Tryz.prog) (t := 26) (by kernel_rfl);exact zl0 hu rdRing hok h
theorem arg_try (hok : Value.okWide Tryz.prog W .any base 28 v) (h : DataW.Trod enc Tryz.prog W 0 (fun _ => true) true 28 v d p) : ∃ x : Try, Den (env0 W) x.av v := by
 obtain ⟨fs, hu⟩ := isStruct.out (P := Tryz.prog) (t := 28) (by kernel_rfl);exact zl0 hu rdTry hok h
theorem arg_turn (hok : Value.okWide Tryz.prog W .any base 52 v) (h : DataW.Trod enc Tryz.prog W 0 (fun _ => true) true 52 v d p) : ∃ x : Turn, Den (env0 W) x.av v := by
 obtain ⟨fs, hu⟩ := isStruct.out (P := Tryz.prog) (t := 52) (by kernel_rfl);exact zl0 hu rdTurn hok h
theorem arg_nums {ds : List (DataW H)} {ts : List TypeId} {j : Nat} (hok : Value.okWide Tryz.prog W .any base 30 v) (h : DataW.Trod enc Tryz.prog W 0 (fun _ => true) true 30 v d p) (hsz : (DataW.weightsEach Tryz.prog ts ds).all (· <= reachBytes) = true) (ht : ts[j]? = some 30) (hd : ds[j]? = some d) : ∃ zs, zs.length <= 2 ^ 50 /\ Den (env0 W) (aInts zs) v := by
 obtain ⟨zs, hz⟩ := zmc Tz.u30 rdInts hok h;refine ⟨zs, ?_, hz⟩;obtain ⟨a, len, cap, rfl⟩ := okWide_slice Tz.u30 hok;have hzl : zs.length = len := by
  unfold aInts at hz;generalize zs.length = m at hz ⊢;generalize zs.map iv = l at hz;cases hz with
  | sl => rfl
  | nil => rfl
 obtain ⟨fuel, h⟩ := h;rcases DataW.trod_slice Tz.u30 h with ⟨e, _⟩ | ⟨a', len', cap', elems, rest, n, _, e, ex, _, _, _, hlen, _⟩
 ·simp [Value.cells] at e;obtain ⟨_, rfl, _⟩ := e;rw [hzl]; exact Nat.zero_le _
 ·simp [Value.cells] at e;obtain ⟨_, rfl, _⟩ := e;simp only [Prod.mk.injEq] at ex;obtain ⟨rfl, _⟩ := ex;have := sized_slice hsz ht hd Tz.u30;rw [Tz.b3] at this;simp only [List.length_map, reachBytes] at this;omega
end
end
end Go.Gg
