/- A part of the proof. -/
import Derived.Test.YtoaaoiipickclaaGreatKeyCovers3
set_option linter.all false
set_option maxRecDepth 4000
set_option maxHeartbeats 1000000
namespace Go.Gg
open Go.Conc Go.Proofs
def zpN (x : Ring) (t keys : List Int) : Bool := (List.range x.locks.length).all fun b => (List.range b).all fun a => znX x t keys a b
def zpA (x : Ring) (ts : List (List Int × Nat)) (keys : List Int) : Bool := ts.all fun y => zpN x y.1 keys
def zpL (x : Ring) : Option (List Int) := znm x.keys.length (zpA x (zl8 x []))
section
variable {lv : Bool} {H : List AObj} {k kp : AV -> List AObj -> Prop}
theorem f120_c {x : Ring} {keys : List Int} {e : End} {l r id ck : Nat} {ts : List (List Int × Nat)} (hl : H[l]? = some (.cells [.mp id] 118)) (hr : H[r]? = some (.cells [.rp (x.l ++ zmf x)] 100)) (hid : H[id]? = some (setObj ts ck)) (hb : ∀ y ∈ ts, y.2 < ck) (hnd : (ts.map (·.2)).Nodup) (hl4 : x.locks.length <= 4) (h4 : ∀ y ∈ ts, y.1.length = 4 /\ ∀ w ∈ y.1, 0 <= w /\ w <= 2) (hkeys : ∀ q ∈ keys, 0 <= q /\ q < 4) (hkl : keys.length < 2 ^ 30) (hk : k (bv (zpA x ts keys)) H) : FnC lv Tryz.prog 120 H [.sl keys.length (keys.map iv) e, .op l 0, .op r 0] k kp := by
 refine zlV (rs := [.tmp 4]) (nt := 36) Tryz.f120 fun hH hA => ?_;simp only [zma, Nat.reduceAdd];rw [setObj] at hid;refine zhC ?_;refine zl5 ?_;simp only [seval, hl, hid];have hid' : ∀ L : List AObj, (H ++ L)[id]? = some (AObj.obj (Obj.map (List.map zl9 ts).toArray ck)) := fun L => zay hid;have hr' : ∀ L : List AObj, (H ++ L)[r]? = some (.cells [.rp (x.l ++ zmf x)] 100) := fun L => zay hr;have hall := zcO ts ck hb;have hokI : ∀ sn, HOk (H ++ [AObj.iter id ck sn ck]) := fun sn z hz => by
  have hl := get_lt hid;rcases List.mem_append.1 hz with h | h
  ·exact (hH z h).mono (by simp)
  ·rw [List.mem_singleton.1 h]; show id < _; simp; omega
 refine zlF ?_;refine za9 (measure fun vs : List (List Int × Nat) => ts.length - vs.length).wf (fun vs => []) (fun vs => H ++ [.iter id ck (vs.map (·.2)).toArray ck]) (fun vs => ((vs.map (·.2)).Nodup /\ ∀ y ∈ vs, y ∈ ts) /\ ∀ y ∈ vs, zpN x y.1 keys = true) [] (fun _ _ => rfl) (by simp) (by simp) (fun _ _ => by simp) ⟨⟨by simp, by simp⟩, by simp⟩ (fun hHs hLt vs hok R hR => ?_);refine zl5 ?_;simp only [seval, hid'];refine ⟨hall.elim .inl (fun h => .inr (.inl h)), fun e he hn => ?_, fun hs => ?_⟩
 ·obtain ⟨y, hy, rfl⟩ : ∃ y ∈ ts, zl9 y = e := by simpa using he
  have hyn : y.2 ∉ vs.map (·.2) := by simpa [zl9] using hn
  have hok' := zdk hok.1 hy hyn;have hrel := zdl hok';refine zlj ?_;refine zlu ?_;refine zlF ?_;obtain ⟨h41, h42⟩ := h4 y hy;have hborn : (zl9 y).born = y.2 := rfl;have hlen : (y.1.map iv).length = 4 := by simp [h41]
  have hdrop : List.drop 4 [AV.val (Value.int IntKind.i64 0), AV.val (Value.int IntKind.i64 0), AV.val (Value.int IntKind.i64 0), AV.val (Value.int IntKind.i64 0)] = [] := rfl;refine zl5 ?_;simp only [seval, hid', Array.back?_push, hborn, zcL hnd hy, zb7, h41, hlen, hdrop];rw [zdm];have hokC : HOk (H ++ [AObj.iter id ck ((vs ++ [y]).map (·.2)).toArray ck, .cells (y.1.map iv) 132]) := by
   have h1 : (H ++ [AObj.iter id ck ((vs ++ [y]).map (·.2)).toArray ck, .cells (y.1.map iv) 132]) = (H ++ [AObj.iter id ck ((vs ++ [y]).map (·.2)).toArray ck]) ++ [.cells (y.1.map iv) 132] := (by simp);rw [h1];refine zc6 (hokI _) fun z hz n => ?_;rw [List.mem_singleton.1 hz];intro a ha;obtain ⟨w, _, rfl⟩ := List.mem_map.1 ha;exact .val _
  refine zl5 ?_;simp only [seval, hr', Ring.l, zml];refine zlF ?_;refine zmh x.locks.length (fun b : Nat => [(20, iv b)]) (fun _ => H ++ [.iter id ck ((vs ++ [y]).map (·.2)).toArray ck, .cells (y.1.map iv) 132]) (fun b => ∀ b' < b, ∀ a < b', znX x y.1 keys a b' = true) (fun b hb => by omega) (fun hHs2 hLt2 b hbn hbo R2 hR2 => ?_);refine zhC ?_;refine zlj ?_;refine ⟨fun h => ?_, fun h => ?_⟩
  ·
   have hbl : b < x.locks.length := (by omega);refine zlu ?_;refine zhC ?_;refine zhC ?_;refine zlF ?_;refine zmh b (fun a : Nat => [(24, iv a)]) (fun _ => H ++ [.iter id ck ((vs ++ [y]).map (·.2)).toArray ck, .cells (y.1.map iv) 132]) (fun a => ∀ a' < a, znX x y.1 keys a' b = true) (fun a ha => by omega) (fun hHs3 hLt3 a han hao R3 hR3 => ?_);refine zhC ?_;refine zlj ?_;refine ⟨fun h2 => ?_, fun h2 => ?_⟩
   ·
    have hab : a < b := (by omega);refine zlu ?_;refine zhC ?_;have htk : List.take 4 (y.1.map iv) = y.1.map iv := List.take_of_length_le (by omega);refine zl5 ?_;simp only [seval, hr', hlen, htk];refine zl6 ((f117_c (x := x) (by omega) h41 h42 hkeys hkl ?_));(try simp only [seval]);refine zlj ?_;refine ⟨fun h3 => ?_, fun h3 => ?_⟩
    ·
     have hr : zpA x ts keys = false := by
      apply Bool.eq_false_iff.2;intro hc;have h4 := List.all_eq_true.1 hc y hy;have h5 := List.all_eq_true.1 h4 b (List.mem_range.2 hbl);have h6 := List.all_eq_true.1 h5 a (List.mem_range.2 hab);rw [h6] at h3; simp at h3
     refine zhC ?_;refine zlA ?_;rw [hr] at hk;exact endV hH hk
    ·
     have ha1 : IntKind.i64.wrap ((a : Int) + 1) = ((a + 1 : Nat) : Int) := (by rw [zau _ (by omega)]; rfl);refine zlu ?_;refine zl5 ?_;simp only [seval, ha1];refine hR3 _ ⟨hab, fun a' ha' => ?_, ?_⟩
     ·by_cases e3 : a' = a
      ·subst e3; simpa using h3
      ·exact hao a' (by omega)
     ·exact zl7
   ·
    have hax : a = b := (by omega);subst hax;refine zl4 ?_;have hb1 : IntKind.i64.wrap ((a : Int) + 1) = ((a + 1 : Nat) : Int) := (by rw [zau _ (by omega)]; rfl);refine zl5 ?_;simp only [seval, hb1];refine hR2 _ ⟨hbl, fun b' hb' a' ha' => ?_, ?_⟩
    ·by_cases e3 : b' = a
     ·subst e3; exact hao a' ha'
     ·exact hbo b' (by omega) a' ha'
    ·exact zl7
  ·
   have hbx : b = x.locks.length := (by omega);subst hbx;refine zl4 ?_;have heq : zpN x y.1 keys = true := List.all_eq_true.2 fun b hb => List.all_eq_true.2 fun a ha => hbo b (List.mem_range.1 hb) a (List.mem_range.1 ha);refine hR _ ⟨vs ++ [y], hrel, ⟨hok', fun z hz => ?_⟩, ?_⟩
   ·rcases List.mem_append.1 hz with h | h
    ·exact hok.2 z h
    ·rw [List.mem_singleton.1 h]; exact heq
   ·exact zat (zam rfl rfl) (by simp) (hokI _) (by simp)
 ·have hp : vs.Perm ts := zct hok.1.1 hnd hok.1.2 fun y hy => by
   have := hs (zl9 y) (by simp; exact ⟨y.1, y.2, hy, rfl⟩) (hb y hy);simpa [zl9] using this
  have hr : zpA x ts keys = true := List.all_eq_true.2 fun y hy => hok.2 y (hp.mem_iff.2 hy);refine zlj ?_;refine zl4 ?_;refine zhC ?_;refine zlA ?_;rw [hr] at hk;exact endV hH hk
theorem ztT {l r id ck : Nat} {x : Ring} {ts : List (List Int × Nat)} (hl : H[l]? = some (.cells [.mp id] 118)) (hr : H[r]? = some (.cells [.rp (x.l ++ zmf x)] 100)) (hid : H[id]? = some (setObj ts ck)) (hb : ∀ y ∈ ts, y.2 < ck) (hnd : (ts.map (·.2)).Nodup) (hl4 : x.locks.length <= 4) (h4 : ∀ y ∈ ts, y.1.length = 4 /\ ∀ w ∈ y.1, 0 <= w /\ w <= 2) : SoC lv H (.fn (.func 120) [] [.op l 0, .op r 0]) (zpA x ts) (fun xs => (∀ q ∈ xs, 0 <= q /\ q < 4) /\ xs.length <= 6) := fun L xs e k kp hp h =>
 zmg (f120_c (zay hl) (zay hr) (zay hid) hb hnd hl4 h4 hp.1 (Nat.lt_of_le_of_lt hp.2 (by decide)) h)
theorem f42_c {x : Ring} (hnr : zmP lv) (hmain : H[0]? = some .main) (hs : x.Small) (h1 : zme x none ≠ 0 -> k (.tup [.sl 0 [] .exact, iv (zme x none)]) H) (h2 : zme x none = 0 -> zpL x = none -> k (.tup [.sl 0 [] .exact, iv 11]) H) (h3 : zme x none = 0 -> ∀ xs, zpL x = some xs -> k (.tup [aInts xs, iv 0]) H) : FnC lv Tryz.prog 42 H [x.av] k kp := by
 have hmn : ∀ L : List AObj, (H ++ L)[0]? = some .main := fun L => zay hmain;refine zlV (rs := [.tmp 2, .tmp 3]) (nt := 33) Tryz.f42 fun hH hA => ?_;simp only [zma, Nat.reduceAdd, Ring.av];refine zl5 ?_;simp only [seval, Ring.l];refine zhC ?_;refine zl6 ((f99_c hnr (hmn _) hs zbA (fun hz => ?_) (fun hz => ?_)))
 ·(try simp only [seval]);refine zhC ?_;refine zlj ?_;refine ⟨fun h => ?_, fun h => absurd (by simpa using h) hz⟩;refine zhC ?_;refine zlA ?_;exact endA hH (Wk.refl _) (by simp [zap, zaD, zbh]) (h1 hz)
 ·(try simp only [seval]);refine zhC ?_;obtain ⟨ho, hne⟩ := zaP.1 hz;have hx := zbp ho;have hx4 := hx.keys;have hx5 := hx.locks;have hle := zbl hx [];have hlk : x.l ++ zmf x = iv x.cuts :: zmv x.keys :: zml x.locks :: zmm x.tries :: zmf x := rfl;refine zlj ?_;refine zlu ?_;refine zl5 ?_;simp only [seval, List.mapM_cons, List.mapM_nil, Option.pure_def, Option.bind_eq_bind, hlk, zmv];refine zl6 ((f115_c (by omega) ?_));(try simp only [seval]);refine zl6 ((f113_c (P := fun xs => (∀ q ∈ xs, 0 <= q /\ q < 4) /\ xs.length <= 6) (by omega) (ztT (l := H.length + 4) (r := H.length + 3) (id := H.length + 2) (by simp only [seval] <;> rfl) (by simp only [seval] <;> rfl) (by simp only [seval] <;> rfl) (zbm x []) (zba x []) hx5 (zbt hx [])) (keysP hx4) ?_));(try simp only [seval]);rw [show znm x.keys.length (zpA x (zl8 x [])) = zpL x from rfl];refine zhC ?_;refine zlj ?_;cases hm : zpL x with
  | none =>
   refine ⟨fun h => ?_, fun h => by simp at h⟩;refine zhC ?_;refine zlA ?_;exact endA hH (Wk.refl _) (by simp [zap, zaD, zbh]) (h2 hz hm)
  | some xs =>
   refine ⟨fun h => by simp at h, fun h => ?_⟩;refine zlu ?_;refine zhC ?_;refine zlA ?_;exact endA hH (Wk.refl _) (by simp [zap, zaD, zbi]) (h3 hz xs hm)
def zp9 (x : Ring) (ts : List (List Int × Nat)) (keys : List Int) (a b : Nat) : Bool := ts.all fun y => !znX x y.1 keys a b
def zmU (x : Ring) (ts : List (List Int × Nat)) (keys : List Int) : Nat -> List Int × Nat
 | 0 => ([], 0)
 | b + 1 => match (List.range b).find? fun a => zp9 x ts keys a b with
  | some a => ((zmU x ts keys b).1 ++ [(zmU x ts keys b).1.getD a 0], (zmU x ts keys b).2)
  | none => ((zmU x ts keys b).1 ++ [((zmU x ts keys b).2 : Int)], (zmU x ts keys b).2 + 1)
def zpw (x : Ring) : List Int := (zmU x (zl8 x []) (zmN x.keys.length) x.locks.length).1
theorem zeV (x : Ring) (ts : List (List Int × Nat)) (keys : List Int) : ∀ b, (zmU x ts keys b).1.length = b
 | 0 => rfl
 | b + 1 => by
  unfold zmU;split <;> simp [zeV x ts keys b]
theorem zfi (x : Ring) (ts : List (List Int × Nat)) (keys : List Int) : ∀ b, (zmU x ts keys b).2 <= b
 | 0 => Nat.le_refl _
 | b + 1 => by
  have := zfi x ts keys b;unfold zmU;split <;> simp <;> omega
theorem zjl {f : Nat -> Bool} {a b : Nat} (hab : a < b) (hf : f a = true) (h : ∀ a' < a, f a' = false) : (List.range b).find? f = some a :=
 zfN (j := a) (by simp [hab]) hf fun y hy => by
  have : List.take a (List.range b) = List.range a := by rw [List.take_range, Nat.min_eq_left (by omega)]
  rw [this] at hy;exact h y (List.mem_range.1 hy)
theorem zeF {f : Nat -> Bool} {b : Nat} (h : ∀ a' < b, f a' = false) : (List.range b).find? f = none := zdt fun y hy => h y (List.mem_range.1 hy)
theorem f40_c {x : Ring} (hnr : zmP lv) (hmain : H[0]? = some .main) (hs : x.Small) (h1 : zme x none ≠ 0 -> k (.tup [.sl 0 [] .exact, iv (zme x none)]) H) (h2 : zme x none = 0 -> k (.tup [aInts (zpw x), iv 0]) H) : FnC lv Tryz.prog 40 H [x.av] k kp := by
 have hmn : ∀ L : List AObj, (H ++ L)[0]? = some .main := fun L => zay hmain;refine zlV (rs := [.tmp 2, .tmp 3]) (nt := 70) Tryz.f40 fun hH hA => ?_;simp only [zma, Nat.reduceAdd, Ring.av];refine zl5 ?_;simp only [seval, Ring.l];(repeat apply zaa);refine zcb ?_;refine zhC ?_;refine zl6 ((f99_c hnr (hmn _) hs zbA (fun hz => ?_) (fun hz => ?_)))
 ·(try simp only [seval]);refine zhC ?_;refine zlj ?_;refine ⟨fun h => ?_, fun h => absurd (by simpa using h) hz⟩;refine zhC ?_;refine zlA ?_;exact endA hH (Wk.refl _) (by simp [zap, zaD, zbh]) (h1 hz)
 ·(try simp only [seval]);refine zhC ?_;obtain ⟨ho, hne⟩ := zaP.1 hz;have hx := zbp ho;have hx4 := hx.keys;have hx5 := hx.locks;have hle := zbl hx [];have hlk : x.l ++ zmf x = iv x.cuts :: zmv x.keys :: zml x.locks :: zmm x.tries :: zmf x := rfl;have hkeys : ∀ q ∈ zmN x.keys.length, 0 <= q /\ q < 4 := fun q hq => by
   obtain ⟨m, hm, rfl⟩ := List.mem_map.1 hq;have := List.mem_range.1 hm;omega
  refine zlj ?_;refine zlu ?_;refine zl5 ?_;simp only [seval, hlk, zmv];refine zl6 ((f115_c (by omega) ?_));(try simp only [seval]);refine zhC ?_
  (repeat apply zaa); refine zbV (t := 8) (sz := 1) (el := 3) (by simp only [seval] <;> rfl) ?_
  refine zhC ?_;(repeat apply zaa);refine zbQ ?_;simp only [seval];refine zl5 ?_;simp only [seval, zml];refine zlF ?_;let ts := zl8 x [];let keys := zmN x.keys.length;let al := zmU x ts keys;have hal : ∀ b, (al b).1.length = b := zeV x ts keys;have hb := zbm x [];have hnd := zba x [];have h4 := zbt hx [];have hall := zcO (zl8 x []) (zmb x).length hb;refine zaB x.locks.length (fun b : Nat => [(8, .sl b ((al b).1.map iv) (.opn (H.length + 3))), (9, iv (al b).2), (35, iv b)]) (fun b => H ++ [.cells x.l 26, .cells x.l 26, setObj (zl8 x []) (zmb x).length, .tail b 1 3]) (fun _ => True) (fun _ _ => rfl) (by simp only [seval]; simp [zaf, Wk.refl]; first | exact Wk.refl _ | exact ⟨Wk.refl _, Wk.refl _⟩) rfl (fun _ _ _ => by simp) trivial (fun hHs hLt b hbn hbo R hR => ?_);refine zhC ?_;refine zlj ?_;refine ⟨fun h => ?_, fun h => ?_⟩
  ·
   have hbl : b < x.locks.length := (by omega);have hb1 : IntKind.i64.wrap ((b : Int) + 1) = ((b + 1 : Nat) : Int) := (by rw [zau _ (by omega)]; rfl);have hml : (al b).2 <= b := zfi x ts keys b;have hm1 : IntKind.i64.wrap (((al b).2 : Int) + 1) = (((al b).2 + 1 : Nat) : Int) := (by rw [zau _ (by omega)]; rfl);refine zlu ?_;refine zhC ?_;(repeat apply zaa);refine zcb ?_;(repeat apply zaa);refine zbQ ?_;simp only [seval];refine zhC ?_;refine zlF ?_;refine zmh b (fun a : Nat => [(39, iv a)]) (fun _ => H ++ [.cells x.l 26, .cells x.l 26, setObj (zl8 x []) (zmb x).length, .tail b 1 3]) (fun a => ∀ a' < a, zp9 x ts keys a' b = false) (fun a ha => by omega) (fun hHs2 hLt2 a han hao R2 hR2 => ?_);refine zhC ?_;refine zlj ?_;refine ⟨fun h2 => ?_, fun h2 => ?_⟩
   ·
    have hab : a < b := (by omega);have ha1 : IntKind.i64.wrap ((a : Int) + 1) = ((a + 1 : Nat) : Int) := (by rw [zau _ (by omega)]; rfl);have hokB : HOk (H ++ [AObj.cells x.l 26, .cells x.l 26, setObj (zl8 x []) (zmb x).length, .tail b 1 3]) := hHs2;have hokT : ∀ m, HOk (H ++ [AObj.cells x.l 26, .cells x.l 26, setObj (zl8 x []) (zmb x).length, .tail m 1 3]) := fun m => by
     have h1 := zec (H := H ++ [AObj.cells x.l 26, .cells x.l 26, setObj (zl8 x []) (zmb x).length]) (L := []) (o := .tail b 1 3) (o' := .tail m 1 3) (by simpa using hokB) (fun _ => trivial);simpa using h1
    have hokI : ∀ sn, HOk (H ++ [AObj.cells x.l 26, .cells x.l 26, setObj (zl8 x []) (zmb x).length, .tail b 1 3, .iter (H.length + 1 + 1) (zmb x).length sn (zmb x).length]) := fun sn => by
     have h1 : (H ++ [AObj.cells x.l 26, .cells x.l 26, setObj (zl8 x []) (zmb x).length, .tail b 1 3, .iter (H.length + 1 + 1) (zmb x).length sn (zmb x).length]) = (H ++ [AObj.cells x.l 26, .cells x.l 26, setObj (zl8 x []) (zmb x).length, .tail b 1 3]) ++ [.iter (H.length + 1 + 1) (zmb x).length sn (zmb x).length] := (by simp);rw [h1];intro z hz;rcases List.mem_append.1 hz with h | h
     ·exact (hokB z h).mono (by simp)
     ·rw [List.mem_singleton.1 h]; show H.length + 1 + 1 < _; simp
    refine zlu ?_;refine zhC ?_;refine zl5 ?_;simp only [seval, zaL];refine zlF ?_;refine za9 (measure fun vs : List (List Int × Nat) => (zl8 x []).length - vs.length).wf (fun vs => []) (fun vs => H ++ [.cells x.l 26, .cells x.l 26, setObj (zl8 x []) (zmb x).length, .tail b 1 3, .iter (H.length + 1 + 1) (zmb x).length (vs.map (·.2)).toArray (zmb x).length]) (fun vs => ((vs.map (·.2)).Nodup /\ ∀ y ∈ vs, y ∈ zl8 x []) /\ ∀ y ∈ vs, znX x y.1 keys a b = false) [] (fun _ _ => rfl) (by simp) (by simp [zaL]) (fun _ _ => by simp) ⟨⟨by simp, by simp⟩, by simp⟩ (fun hHs3 hLt3 vs hok R3 hR3 => ?_);refine zl5 ?_;simp only [seval, zaL];refine ⟨hall.elim .inl (fun h => .inr (.inl h)), fun e he hn => ?_, fun hs => ?_⟩
    ·obtain ⟨y, hy, rfl⟩ : ∃ y ∈ zl8 x [], zl9 y = e := (by simpa using he);have hyn : y.2 ∉ vs.map (·.2) := (by simpa [zl9] using hn);have hok' := zdk hok.1 hy hyn;have hrel := zdl hok';refine zlj ?_;refine zlu ?_;refine zlF ?_;obtain ⟨h41, h42⟩ := h4 y hy;have hborn : (zl9 y).born = y.2 := rfl;have hlen : (y.1.map iv).length = 4 := (by simp [h41]);have hdrop : List.drop 4 [AV.val (Value.int IntKind.i64 0), AV.val (Value.int IntKind.i64 0), AV.val (Value.int IntKind.i64 0), AV.val (Value.int IntKind.i64 0)] = [] := rfl;have htk : List.take 4 (y.1.map iv) = y.1.map iv := List.take_of_length_le (by omega);refine zl5 ?_;simp only [seval, zaL, Array.back?_push, hborn, zcL hnd hy, zb7, h41, hlen, hdrop];refine zl5 ?_;simp only [seval, hlen, htk];refine zl6 ((f117_c (x := x) (t := y.1) (keys := zmN x.keys.length) (e := .shut) (a := a) (b := b) (by omega) h41 h42 hkeys (by rw [zca]; omega) ?_));(try simp only [seval]);refine zlj ?_;refine ⟨fun h3 => ?_, fun h3 => ?_⟩
     ·
      refine zl4 ?_;refine zl5 ?_;simp only [seval, ha1];have hf : zp9 x ts keys a b = false := by
       apply Bool.eq_false_iff.2;intro hc;have h5 := List.all_eq_true.1 hc y hy;have h6 : znX x y.1 keys a b = true := h3;rw [h6] at h5; simp at h5
      refine hR2 _ ⟨hab, fun a' ha' => ?_, ?_⟩
      ·by_cases e3 : a' = a
       ·subst e3; exact hf
       ·exact hao a' (by omega)
      ·exact zat (zam rfl rfl) (by simp only [seval]; simp [zaf, Wk.refl]) hokB (by simp [zap])
     ·
      refine zlu ?_;rw [zdm];refine hR3 _ ⟨vs ++ [y], hrel, ⟨hok', fun z hz => ?_⟩, ?_⟩
      ·rcases List.mem_append.1 hz with h | h
       ·exact hok.2 z h
       ·rw [List.mem_singleton.1 h]; exact h3
      ·exact zat (zam rfl rfl) (by simp) (hokI _) (by simp)
    ·have hp : vs.Perm (zl8 x []) := zct hok.1.1 hnd hok.1.2 fun y hy => by
      have := hs (zl9 y) (by simp; exact ⟨y.1, y.2, hy, rfl⟩) (hb y hy);simpa [zl9] using this
     have hf : zp9 x ts keys a b = true := List.all_eq_true.2 fun y hy => by
      rw [hok.2 y (hp.mem_iff.2 hy)]; rfl
     have hfd := zjl hab hf hao;have hsucc : al (b + 1) = ((al b).1 ++ [(al b).1.getD a 0], (al b).2) := by
      show zmU x ts keys (b + 1) = _;rw [zmU, hfd]
     obtain ⟨v, hv⟩ := zaE (xs := (al b).1) (i := a) (by rw [hal]; exact hab);have hgv := u8z (al b).1 a hv;refine zlj ?_;refine zl4 ?_;refine zl5 ?_;simp only [seval, za2 hv, zaz hab, z1, zqK, hal];refine ⟨by omega, ?_⟩;refine zl4 ?_;refine zl5 ?_;simp only [seval, hb1];refine hR _ ⟨hbl, trivial, ?_⟩;rw [hsucc, hgv, List.map_append];exact zat (zam rfl rfl) (by simp only [seval]; simp [zaf, Wk.refl]) (hokT (b + 1)) (by simp [zap, zdq]; rintro a (⟨w, _, rfl⟩ | rfl) <;> exact .val _)
   ·
    have hax : a = b := (by omega);subst hax;refine zl4 ?_;refine zl5 ?_;simp only [seval, z1, zqK, hal];refine ⟨by omega, ?_⟩;refine zl5 ?_;simp only [seval, hm1];refine zl5 ?_;simp only [seval, hb1];have hfd := zeF hao;have hsucc : al (a + 1) = ((al a).1 ++ [((al a).2 : Int)], (al a).2 + 1) := by
     show zmU x ts keys (a + 1) = _;rw [zmU, hfd]
    refine hR _ ⟨hbl, trivial, ?_⟩;rw [hsucc, List.map_append];exact zl7
  ·
   have hbx : b = x.locks.length := (by omega);subst hbx;refine zl4 ?_;refine zhC ?_;refine zlA ?_;have ea : aInts (zpw x) = .sl x.locks.length ((al x.locks.length).1.map iv) .shut := by
    unfold aInts;rw [show (zpw x).length = x.locks.length from hal _]; rfl
   rw [ea] at h2;exact endA hH (zdC (zaK _ _ _) (Wk.refl _)) (by simp [zap, zaD, za3]) (h2 hz)
def znc (x : Ring) (us : List Turn) : Option Int := if us.length <= 6 then (if us.all fun u => inM u.key 0 (x.keys.length - 1) then none else some 0) else some 3
theorem zf3 {x : Ring} {us : List Turn} : znc x us = none <-> us.length <= 6 /\ ∀ u ∈ us, 0 <= u.key /\ u.key <= x.keys.length - 1 := by
 unfold znc;split
 ·split
  ·rename_i h1 h2;simp only [true_iff];refine ⟨h1, fun u hu => zbU.1 (List.all_eq_true.1 h2 u hu)⟩
  ·rename_i h1 h2;simp only [reduceCtorEq, false_iff];intro h;exact h2 (List.all_eq_true.2 fun u hu => zbU.2 (h.2 u hu))
 ·rename_i h1;simp only [reduceCtorEq, false_iff];intro h; exact h1 h.1
theorem f121_c {r i : Nat} {x : Ring} {us : List Turn} (hx : x.Small) (hul : us.length < 2 ^ 30) (hr : H[r]? = some (.cells [zm0 us] 50)) (hi : H[i]? = some (.cells x.l 26)) (hk : znc x us = none -> k (.tup []) H) (hp : ∀ f, znc x us = some f -> kp (.ifc 106 (iv f)) H) : FnC lv Tryz.prog 121 H [.op r 0, .op i 0] k kp := by
 refine zlV (rs := []) (nt := 20) Tryz.f121 fun hH hA => ?_;simp only [zma, Nat.reduceAdd];have hi2 := hi;rw [Ring.l] at hi2;refine zl5 ?_;simp only [seval, hr, zm0];refine zl6 ((f90_c (fun h => ?_) (fun h => ?_)))
 ·have h5 : (us.length : Int) <= 6 := by simpa using h
  have h6 : us.length <= 6 := by omega
  (try simp only [seval]);refine zl5 ?_;simp only [seval, hr, zm0];refine zlF ?_;refine zmh us.length (fun i : Nat => [(10, iv i)]) (fun _ => H) (fun i => (us.take i).all (fun u => inM u.key 0 (x.keys.length - 1)) = true) (by simp) (fun hHs hLt j hjn hj R hR => ?_);refine zhC ?_;refine zlj ?_;refine ⟨fun h2 => ?_, fun h2 => ?_⟩
  ·have hjl : j < us.length := (by omega);obtain ⟨u, hu⟩ := zaE hjl;have hj1 : IntKind.i64.wrap ((j : Int) + 1) = ((j + 1 : Nat) : Int) := (by rw [zau _ (by omega)]; rfl);have htk : (us.take (j + 1)).all (fun u => inM u.key 0 (x.keys.length - 1)) = ((us.take j).all (fun u => inM u.key 0 (x.keys.length - 1)) && inM u.key 0 (x.keys.length - 1)) := by
    obtain ⟨hj', rfl⟩ := List.getElem?_eq_some_iff.1 hu;rw [List.take_succ_eq_append_getElem hj', List.all_append]; simp
   refine zlu ?_;refine zl5 ?_;simp only [seval, zh5 hu, zaz hjl];refine zl5 ?_;simp only [seval, zay hi2];refine zl6 ((f89_c (x := x) ?_));(try simp only [seval]);refine zl6 ((f152_c hx (by simp only [seval] <;> rfl) (by simp only [seval] <;> rfl) (fun hin => ?_) (fun hin => ?_)))
   ·(try simp only [seval]);refine zl5 ?_;simp only [seval, hj1];refine hR _ ⟨hjl, by rw [htk, hj, hin]; rfl, ?_⟩;exact (zmH hHs)
   ·(try simp only [seval]);have hw : znc x us = some 0 := by
     unfold znc;rw [if_pos h6, if_neg];intro hc;have := List.all_eq_true.1 hc u (zas hu);rw [hin] at this; cases this
    exact zaJ (Wk.refl _) rfl (Nat.le_refl _) hH (by simp [zap, zey]) (hp 0 hw)
  ·have hjx : j = us.length := (by omega);subst hjx;rw [List.take_length] at hj;refine zl4 ?_;have hw : znc x us = none := by
    unfold znc;rw [if_pos h6, if_pos hj]
   exact zao (hk hw)
 ·have h5 : ¬ (us.length : Int) <= 6 := by simpa using h
  have h6 : ¬ us.length <= 6 := by omega
  exact zao (hp 3 (by unfold znc; rw [if_neg h6]))
theorem zlg {r i : Nat} {x : Ring} {us : List Turn} (hx : x.Small) (hul : us.length < 2 ^ 30) (hr : H[r]? = some (.cells [zm0 us] 50)) (hi : H[i]? = some (.cells x.l 26)) : AskC lv H (.fn (.func 121) [] [.op r 0, .op i 0]) (znc x us) := fun L k kp h1 h2 =>
 zmg (f121_c hx hul (zay hr) (zay hi) h1 h2)
def zpb (x : Ring) (t : List Int) (n : Nat) (u : Turn) : Bool := (zmT x t u.key.toNat).testBit n == u.opens
def bagB (x : Ring) (ts : List (List Int × Nat)) (us : List Turn) (n : Nat) : Bool := ts.any fun y => us.all (zpb x y.1 n)
def zmV (x : Ring) (us : List Turn) (n : Nat) : List Int := ((List.range n).filter (bagB x (zl8 x []) us)).map fun i : Nat => (i : Int)
def ztj (x : Ring) (us : List Turn) : List Int := zmV x us x.locks.length
theorem ziB (x : Ring) (us : List Turn) (n : Nat) : (zmV x us n).length <= n := by
 unfold zmV;rw [List.length_map];have := List.length_filter_le (bagB x (zl8 x []) us) (List.range n);simpa using this
theorem zdS (x : Ring) (us : List Turn) (n : Nat) : zmV x us (n + 1) = zmV x us n ++ (if bagB x (zl8 x []) us n then [(n : Int)] else []) := by
 unfold zmV;rw [List.range_succ, List.filter_append, List.map_append];congr 1;by_cases h : bagB x (zl8 x []) us n = true <;> simp [h]
theorem f46_c {x : Ring} {us : List Turn} (hnr : zmP lv) (hmain : H[0]? = some .main) (hs : x.Small) (hul : us.length < 2 ^ 30) (h1 : zme x (znc x us) ≠ 0 -> k (.tup [.sl 0 [] .exact, iv (zme x (znc x us))]) H) (h2 : zme x (znc x us) = 0 -> k (.tup [aInts (ztj x us), iv 0]) H) : FnC lv Tryz.prog 46 H [x.av, zm0 us] k kp := by
 have hmn : ∀ L : List AObj, (H ++ L)[0]? = some .main := fun L => zay hmain;refine zlV (rs := [.tmp 4, .tmp 5]) (nt := 81) Tryz.f46 fun hH hA => ?_;simp only [zma, Nat.reduceAdd, Ring.av];refine zl5 ?_;simp only [seval, Ring.l, zm0];(repeat apply zaa);refine zcb ?_;refine zl5 ?_;simp only [seval, List.mapM_cons, List.mapM_nil, Option.pure_def, Option.bind_eq_bind];have hask : AskC lv (H ++ [.cells x.l 26, .cells [zm0 us] 50]) _ (znc x us) := zlg (r := H.length + 1) (i := H.length) hs hul (by simp only [seval]) (by simp only [seval]);refine zl6 ((f99_c hnr (hmn _) hs hask (fun hz => ?_) (fun hz => ?_)))
 ·(try simp only [seval]);refine zhC ?_;refine zlj ?_;refine ⟨fun h => ?_, fun h => absurd (by simpa using h) hz⟩;refine zhC ?_;refine zlA ?_;exact endA hH (Wk.refl _) (by simp [zap, zaD, zbh]) (h1 hz)
 ·(try simp only [seval]);refine zhC ?_;obtain ⟨ho, hne⟩ := zaP.1 hz;have hx := zbp ho;have hx4 := hx.keys;have hx5 := hx.locks;have hle := zbl hx [];have hlk : x.l ++ zmf x = iv x.cuts :: zmv x.keys :: zml x.locks :: zmm x.tries :: zmf x := rfl;obtain ⟨hu6, hus⟩ := zf3.1 (zaN.1 ho).2;refine zlj ?_;refine zlu ?_;refine zhC ?_
  (repeat apply zaa); refine zbV (t := 9) (sz := 1) (el := 3) (by simp only [seval] <;> rfl) ?_
  (repeat apply zaa);refine zbQ ?_;simp only [seval];refine zl5 ?_;simp only [seval, hlk, zml];refine zlF ?_;have hb := zbm x [];have hnd := zba x [];have h4 := zbt hx [];have hall := zcO (zl8 x []) (zmb x).length hb;have hg3 : ∀ L : List AObj, (H ++ L)[H.length + 2 + 1]? = L[3]? := fun L => zbD H L 3;refine zaB x.locks.length (fun n : Nat => [(9, .sl (zmV x us n).length ((zmV x us n).map iv) (.opn (H.length + 4))), (31, iv n)]) (fun n => H ++ [AObj.cells x.l 26, .cells [zm0 us] 50, .cells x.l 26, setObj (zl8 x []) (zmb x).length, .tail (zmV x us n).length 1 3]) (fun _ => True) (fun _ _ => rfl) (by simp only [seval]; simp [zaf, Wk.refl]; first | exact Wk.refl _ | exact ⟨Wk.refl _, Wk.refl _⟩) rfl (fun _ _ _ => by simp) trivial (fun hHs hLt n hnn hno R hR => ?_);refine zhC ?_;refine zlj ?_;refine ⟨fun h => ?_, fun h => ?_⟩
  ·
   have hnl : n < x.locks.length := (by omega);have hn1 : IntKind.i64.wrap ((n : Int) + 1) = ((n + 1 : Nat) : Int) := (by rw [zau _ (by omega)]; rfl);have hwl := ziB x us n;have hokB0 : HOk (H ++ [AObj.cells x.l 26, .cells [zm0 us] 50, .cells x.l 26, setObj (zl8 x []) (zmb x).length, .tail 0 1 3]) := hHs;have hokB : ∀ m, HOk (H ++ [AObj.cells x.l 26, .cells [zm0 us] 50, .cells x.l 26, setObj (zl8 x []) (zmb x).length, .tail m 1 3]) := fun m => by
    have h1 := zec (H := H ++ [AObj.cells x.l 26, .cells [zm0 us] 50, .cells x.l 26, setObj (zl8 x []) (zmb x).length]) (L := []) (o := .tail 0 1 3) (o' := .tail m 1 3) (by simpa using hokB0) (fun _ => trivial);simpa using h1
   have hokI : ∀ m sn, HOk (H ++ [AObj.cells x.l 26, .cells [zm0 us] 50, .cells x.l 26, setObj (zl8 x []) (zmb x).length, .tail m 1 3, .iter (H.length + 2 + 1) (zmb x).length sn (zmb x).length]) := fun m sn => by
    have h1 : (H ++ [AObj.cells x.l 26, .cells [zm0 us] 50, .cells x.l 26, setObj (zl8 x []) (zmb x).length, .tail m 1 3, .iter (H.length + 2 + 1) (zmb x).length sn (zmb x).length]) = (H ++ [AObj.cells x.l 26, .cells [zm0 us] 50, .cells x.l 26, setObj (zl8 x []) (zmb x).length, .tail m 1 3]) ++ [.iter (H.length + 2 + 1) (zmb x).length sn (zmb x).length] := (by simp);rw [h1];intro z hz;rcases List.mem_append.1 hz with h | h
    ·exact (hokB m z h).mono (by simp)
    ·rw [List.mem_singleton.1 h]; show H.length + 2 + 1 < _; simp
   have hokC : ∀ m sn (t : List Int), HOk (H ++ [AObj.cells x.l 26, .cells [zm0 us] 50, .cells x.l 26, setObj (zl8 x []) (zmb x).length, .tail m 1 3, .iter (H.length + 2 + 1) (zmb x).length sn (zmb x).length, .cells (t.map iv) 132]) := fun m sn t => by
    have h1 : (H ++ [AObj.cells x.l 26, .cells [zm0 us] 50, .cells x.l 26, setObj (zl8 x []) (zmb x).length, .tail m 1 3, .iter (H.length + 2 + 1) (zmb x).length sn (zmb x).length, .cells (t.map iv) 132]) = (H ++ [AObj.cells x.l 26, .cells [zm0 us] 50, .cells x.l 26, setObj (zl8 x []) (zmb x).length, .tail m 1 3, .iter (H.length + 2 + 1) (zmb x).length sn (zmb x).length]) ++ [.cells (t.map iv) 132] := (by simp);rw [h1];refine zc6 (hokI m sn) fun z hz n => ?_;rw [List.mem_singleton.1 hz];intro a ha;obtain ⟨w, _, rfl⟩ := List.mem_map.1 ha;exact .val _
   refine zlu ?_;refine zhC ?_;(repeat apply zaa);refine zcb ?_;(repeat apply zaa);refine zbQ ?_;simp only [seval];refine zl5 ?_;simp only [seval, zaL, hg3];refine zlF ?_;refine za9 (measure fun vs : List (List Int × Nat) => (zl8 x []).length - vs.length).wf (fun vs => []) (fun vs => H ++ [AObj.cells x.l 26, .cells [zm0 us] 50, .cells x.l 26, setObj (zl8 x []) (zmb x).length, .tail (zmV x us n).length 1 3, .iter (H.length + 2 + 1) (zmb x).length (vs.map (·.2)).toArray (zmb x).length]) (fun vs => ((vs.map (·.2)).Nodup /\ ∀ y ∈ vs, y ∈ zl8 x []) /\ ∀ y ∈ vs, us.all (zpb x y.1 n) = false) [] (fun _ _ => rfl) (by simp) (by simp [zaL, zm0]) (fun _ _ => by simp) ⟨⟨by simp, by simp⟩, by simp⟩ (fun hHs3 hLt3 vs hok R3 hR3 => ?_);refine zl5 ?_;simp only [seval, zaL, hg3];refine ⟨hall.elim .inl (fun h => .inr (.inl h)), fun e he hn => ?_, fun hs => ?_⟩
   ·obtain ⟨y, hy, rfl⟩ : ∃ y ∈ zl8 x [], zl9 y = e := (by simpa using he);have hyn : y.2 ∉ vs.map (·.2) := (by simpa [zl9] using hn);have hok' := zdk hok.1 hy hyn;have hrel := zdl hok';refine zlj ?_;refine zlu ?_;refine zlF ?_;obtain ⟨h41, h42⟩ := h4 y hy;have hborn : (zl9 y).born = y.2 := rfl;have hlen : (y.1.map iv).length = 4 := (by simp [h41]);have hdrop : List.drop 4 [AV.val (Value.int IntKind.i64 0), AV.val (Value.int IntKind.i64 0), AV.val (Value.int IntKind.i64 0), AV.val (Value.int IntKind.i64 0)] = [] := rfl;refine zl5 ?_;simp only [seval, zaL, hg3, Array.back?_push, hborn, zcL hnd hy, zb7, h41, hlen, hdrop];refine zl5 ?_;simp only [seval, zm0];refine zlF ?_;rw [zdm];refine zmh us.length (fun j : Nat => [(42, iv j)]) (fun _ => H ++ [AObj.cells x.l 26, .cells [zm0 us] 50, .cells x.l 26, setObj (zl8 x []) (zmb x).length, .tail (zmV x us n).length 1 3, .iter (H.length + 2 + 1) (zmb x).length ((vs ++ [y]).map (·.2)).toArray (zmb x).length, .cells (y.1.map iv) 132]) (fun j => (us.take j).all (zpb x y.1 n) = true) (by simp) (fun hHs4 hLt4 j hjn hj R4 hR4 => ?_);refine zhC ?_;refine zlj ?_;refine ⟨fun h2 => ?_, fun h2 => ?_⟩
    ·
     have hjl : j < us.length := (by omega);obtain ⟨u, hu⟩ := zaE hjl;obtain ⟨hk0, hk1⟩ := hus u (zas hu);obtain ⟨uk, uo⟩ := u;simp only at hk0 hk1;obtain ⟨kn, rfl⟩ : ∃ m : Nat, uk = m := ⟨uk.toNat, by omega⟩;have hkn : kn < 4 := (by omega);have hj1 : IntKind.i64.wrap ((j : Int) + 1) = ((j + 1 : Nat) : Int) := (by rw [zau _ (by omega)]; rfl);have htk : (us.take (j + 1)).all (zpb x y.1 n) = ((us.take j).all (zpb x y.1 n) && zpb x y.1 n ⟨kn, uo⟩) := by
      obtain ⟨hj', e5⟩ := List.getElem?_eq_some_iff.1 hu;rw [List.take_succ_eq_append_getElem hj', List.all_append, e5]; simp
     obtain ⟨w, hw⟩ := zaE (xs := y.1) (i := kn) (by omega);have hwb := h42 w (zas hw);obtain ⟨wn, rfl⟩ : ∃ n : Nat, w = n := ⟨w.toNat, by omega⟩;have b4 : (0 <= (kn : Int) /\ (kn : Int) < 4) = True := (by simp; omega);have b3 : (0 <= (wn : Int) /\ (wn : Int) < 3) = True := (by simp; omega);have hm := zdn (x := x) (by omega) kn wn;have hfit : zpb x y.1 n ⟨kn, uo⟩ = ((zmu x kn wn).testBit n == uo) := by
      unfold zpb zmT;rw [Int.toNat_natCast, u8z y.1 kn hw]; rfl
     have hne0 : ((n : Int) != (n : Int)) = false := (by simp);refine zlu ?_;refine zl5 ?_;simp only [seval, zh5 hu, zaz hjl];refine zhC ?_;refine zl6 ((f122_c ?_));(try simp only [seval]);refine zmc 23 ?_;simp only [seval, b4, b3, zbf hw, zcH x hkn, zb0 x hkn (show wn < 3 by omega), zfz, List.mapM_cons, List.mapM_nil, Option.pure_def, Option.bind_eq_bind];refine znh (iv n) (zmg (f123_c ⟨rfl, rfl⟩)) ?_;(try simp only [seval, hne0, b4, b3, zbf hw, zcH x hkn, zb0 x hkn (show wn < 3 by omega), zfz, List.mapM_cons, List.mapM_nil, Option.pure_def, Option.bind_eq_bind]);refine qInv (bv ((zmu x kn wn).testBit n == uo)) (zii hm ⟨rfl, rfl⟩) ?_;(try simp only [seval]);refine zlj ?_;refine ⟨fun h3 => ?_, fun h3 => ?_⟩
     ·
      have hff : zpb x y.1 n ⟨kn, uo⟩ = false := (by rw [hfit]; simpa using h3);have hf : us.all (zpb x y.1 n) = false := by
       apply Bool.eq_false_iff.2;intro hc;have h5 := List.all_eq_true.1 hc _ (zas hu);rw [hff] at h5; cases h5
      refine zl4 ?_;refine hR3 _ ⟨vs ++ [y], hrel, ⟨hok', fun z hz => ?_⟩, ?_⟩
      ·rcases List.mem_append.1 hz with h | h
       ·exact hok.2 z h
       ·rw [List.mem_singleton.1 h]; exact hf
      ·exact zat (zam rfl rfl) (by simp) (hokI _ _) (by simp)
     ·
      have hff : zpb x y.1 n ⟨kn, uo⟩ = true := (by rw [hfit]; simpa using h3);refine zlu ?_;refine zl5 ?_;simp only [seval, hj1];refine hR4 _ ⟨hjl, by rw [htk, hj, hff]; rfl, ?_⟩;exact zat (zam rfl rfl) (by simp only [seval]; simp [zaf, Wk.refl]) (hokC _ _ _) (by simp [zap])
    ·
     have hjx : j = us.length := (by omega);subst hjx;rw [List.take_length] at hj;have hbag : bagB x (zl8 x []) us n = true := List.any_eq_true.2 ⟨y, hy, hj⟩;have hsucc : zmV x us (n + 1) = zmV x us n ++ [(n : Int)] := (by rw [zdS, if_pos hbag]);have hsl : (zmV x us n ++ [(n : Int)]).length = (zmV x us n).length + 1 := (by simp);refine zl4 ?_;refine zl5 ?_;simp only [seval, z1, zqK];refine ⟨by omega, ?_⟩;refine zl4 ?_;refine zl5 ?_;simp only [seval, hn1];refine hR _ ⟨hnl, trivial, ?_⟩;rw [hsucc, hsl, List.map_append];exact zat (zam rfl rfl) (by simp only [seval]; simp [zaf, Wk.refl]) (hokB _) (by simp [zap, zdq]; rintro a (⟨w, _, rfl⟩ | rfl) <;> exact .val _)
   ·have hp : vs.Perm (zl8 x []) := zct hok.1.1 hnd hok.1.2 fun y hy => by
     have := hs (zl9 y) (by simp; exact ⟨y.1, y.2, hy, rfl⟩) (hb y hy);simpa [zl9] using this
    have hbag : bagB x (zl8 x []) us n = false := by
     apply Bool.eq_false_iff.2;intro hc;obtain ⟨y, hy, hf⟩ := List.any_eq_true.1 hc;rw [hok.2 y (hp.mem_iff.2 hy)] at hf; cases hf
    have hsucc : zmV x us (n + 1) = zmV x us n := (by rw [zdS, hbag]; simp);refine zlj ?_;refine zl4 ?_;refine zl5 ?_;simp only [seval, hn1];refine hR _ ⟨hnl, trivial, ?_⟩;rw [hsucc];exact zat (zam rfl rfl) (by simp only [seval]; simp [zaf, Wk.refl]) (hokB _) (by simp [zap, zdq])
  ·
   have hnx : n = x.locks.length := (by omega);subst hnx;refine zl4 ?_;refine zhC ?_;refine zlA ?_;exact endA hH (zdC (zaK _ _ _) (Wk.refl _)) (by simp [zap, zaD, za3]) (h2 hz)
def digs (c j : Nat) : List Int := (List.range 4).map fun p => if p < c then (((j / 4 ^ (c - 1 - p)) % 4 : Nat) : Int) else 0
def zn3 (c j t : Nat) : List Int := (List.range 4).map fun p => if c - t <= p then 0 else (digs c j).getD p 0
def zo3 (c j t : Nat) : Bool := (List.range c).all fun p => p < c - t || (digs c j).getD p 0 == 3
theorem zdu (c j : Nat) : (digs c j).length = 4 := by simp [digs]
theorem zcC (c j t : Nat) : (zn3 c j t).length = 4 := by simp [zn3]
theorem zjp : ∀ c, c < 5 -> ∀ j, j < 4 ^ c -> zn3 c j 0 = digs c j /\ (zo3 c j c = true -> j + 1 = 4 ^ c) /\ (∀ w ∈ digs c j, 0 <= w /\ w <= 3) /\ zo3 c j 0 = true := by decide +kernel
theorem zuY : ∀ c, c < 5 -> ∀ j, j < 4 ^ c -> ∀ t, t < c -> (zn3 c j t)[c - 1 - t]? = some ((digs c j).getD (c - 1 - t) 0) /\ (zn3 c j t).set (c - 1 - t) 0 = zn3 c j (t + 1) := by decide +kernel
theorem zuX : ∀ c, c < 5 -> ∀ j, j < 4 ^ c -> ∀ t, t < c -> zo3 c j t = true -> (digs c j).getD (c - 1 - t) 0 = 3 -> zo3 c j (t + 1) = true := by decide +kernel
theorem zuW : ∀ c, c < 5 -> ∀ j, j < 4 ^ c -> ∀ t, t < c -> zo3 c j t = true -> (digs c j).getD (c - 1 - t) 0 = 3 \/ (zn3 c j t).set (c - 1 - t) ((digs c j).getD (c - 1 - t) 0 + 1) = digs c (j + 1) := by decide +kernel
theorem zuV : ∀ c, c < 5 -> ∀ j, j < 4 ^ c -> ∀ t, t < c -> zo3 c j t = true -> (digs c j).getD (c - 1 - t) 0 = 3 \/ j + 1 < 4 ^ c := by decide +kernel
theorem zkT (c : Nat) : digs c 0 = [0, 0, 0, 0] := by simp [digs, List.range_succ]
def zoP (c : Nat) (f : List Int -> Bool) : Option (List Int) := (((List.range (4 ^ c)).map (digs c)).find? f).map fun d => d.take c
theorem zh2 {T T' : List (Nat × AV)} (h : ∀ p ∈ T', ∃ b, look T p.1 = some b /\ Wk b p.2) {t : Nat} {a : AV} (e : look T' t = some a) : ∃ b, look T t = some b /\ Wk b a := h _ (zbB e)
def DoC (lv : Bool) (H : List AObj) (so : AV) (f : List Int -> Bool) : Prop := ∀ (L : List AObj) (ds : List Int) (k kp : AV -> List AObj -> Prop), ds.length = 4 -> (∀ w ∈ ds, 0 <= w /\ w <= 3) -> k (bv (f ds)) (H ++ L) -> CallC lv Tryz.prog so (H ++ L) [.agg (ds.map iv)] k kp
def zpp (H : List AObj) (x : Ring) (so : AV) (c j : Nat) : AS := ⟨[(0, .rp (x.l ++ zmf x)), (1, so), (6, .op H.length 0)], H ++ [.cells ((digs c j).map iv) 108]⟩
theorem f137_c {x : Ring} {so : AV} {f : List Int -> Bool} (hx : x.Ok) (hso : DoC lv H so f) (hk : k (.tup [aInts ((zoP x.cuts.toNat f).getD []), bv (zoP x.cuts.toNat f).isSome]) H) : FnC lv Tryz.prog 137 H [.rp (x.l ++ zmf x), so] k kp := by
 refine zlV (rs := [.tmp 4, .tmp 5]) (nt := 43) Tryz.f137 fun hH hA => ?_;simp only [zma, Nat.reduceAdd];obtain ⟨hc1, hc4⟩ := hx.cuts;obtain ⟨c, hc⟩ : ∃ c : Nat, x.cuts = c := ⟨x.cuts.toNat, by omega⟩;have hcl : c < 5 := by omega
 have hp : 0 < 4 ^ c := Nat.pow_pos (by decide);have hlk : x.l ++ zmf x = iv x.cuts :: zmv x.keys :: zml x.locks :: zmm x.tries :: zmf x := rfl;refine zhC ?_;(repeat apply zaa);refine zjB (fun m => zpp H x so c (4 ^ c - 1 - m)) (fun m => m < 4 ^ c /\ ∀ j < 4 ^ c - 1 - m, f (digs c j) = false) (l := 0) rfl (fun m hm => ?_) (fun hb => ⟨4 ^ c - 1, ?_⟩)
 ·obtain ⟨hm, hbef⟩ := hm;generalize hj : 4 ^ c - 1 - m = j at hbef ⊢;have hjl : j < 4 ^ c := by omega
  obtain ⟨hz0, hall3, hdb, ht0⟩ := zjp c hcl j hjl;have hdl : ((digs c j).map iv).length = 4 := by simp [zdu]
  have htk : List.take 4 ((digs c j).map iv) = (digs c j).map iv := List.take_of_length_le (by omega);unfold zpp;refine zl5 ?_;simp only [seval, hdl, htk];refine zqY (hso _ _ _ _ (zdu c j) hdb ?_);(try simp only [seval]);refine zlj ?_;refine ⟨fun h => ?_, fun h => ?_⟩
  ·
   have hcn : x.cuts.toNat = c := (by omega);have hfi : zoP x.cuts.toNat f = some ((digs c j).take c) := by
    rw [hcn];unfold zoP;rw [zfN (j := j) (x := digs c j) (by simp [hjl]) h fun y hy => by
     rw [<- List.map_take, List.take_range, Nat.min_eq_left (by omega)] at hy;obtain ⟨j', hj', rfl⟩ := List.mem_map.1 hy;exact hbef j' (List.mem_range.1 hj')]
    rfl
   refine zl5 ?_;simp only [seval, hlk];refine ⟨by omega, by omega, ?_⟩;refine zl6 ((f94_o (xs := (digs c j).take c) (by simp only [seval] <;> rfl) (by rw [List.length_take, zdu]; omega) (by rw [List.map_take, hcn]; rfl) (by rw [List.length_take, zdu]; omega) ?_));(try simp only [seval]);refine zlA ?_;rw [hfi] at hk;exact endA hH (Wk.refl _) (by simp [zap, zaD, zbi]) hk
  ·
   have hw1 : IntKind.i64.wrap (x.cuts - 1) = (c : Int) - 1 := (by rw [zau _ (by omega), hc]);refine zlu ?_;refine zl5 ?_;simp only [seval, hlk];refine zlF ?_;refine zaB c (fun t : Nat => [(7, iv ((c : Int) - 1 - (t : Int)))]) (fun t => H ++ [.cells ((zn3 c j t).map iv) 108]) (fun t => zo3 c j t = true) (fun _ _ => rfl) (by simp only [seval]; simp [zaf, Wk.refl]; rw [hw1]; exact Wk.refl _) (by rw [hz0]) (fun _ _ _ => by simp) ht0 (fun hHs hLt t htn hto R hR => ?_);by_cases htc : t < c
   ·have hat : (c : Int) - 1 - (t : Int) = ((c - 1 - t : Nat) : Int) := (by omega);have hge : decide (((c - 1 - t : Nat) : Int) >= 0) = true := (by simp);obtain ⟨hg, hset⟩ := zuY c hcl j hjl t htc;have b4 : (0 <= ((c - 1 - t : Nat) : Int) /\ ((c - 1 - t : Nat) : Int) < 4) = True := (by simp; omega);rw [hat];refine zl5 ?_;simp only [seval, hge, decide_false, b4, zbf hg];refine zlj ?_;refine ⟨fun h2 => ?_, fun h2 => ?_⟩
    ·
     have h3 : (digs c j).getD (c - 1 - t) 0 = 3 := (by simpa using h2);have hl4 : ((zn3 c j t).map iv).length = 4 := (by simp [zcC]);have hlt4 : c - 1 - t < (zn3 c j t).length := (by rw [zcC]; omega);have hoff : (c - 1 - t + 1 <= 4) = True := (by simp; omega);have hw2 : IntKind.i64.wrap (((c - 1 - t : Nat) : Int) - 1) = (c : Int) - 1 - ((t + 1 : Nat) : Int) := (by rw [zau _ (by omega)]; omega);refine zlu ?_;refine zl5 ?_;simp only [seval, b4, hl4, hoff, zfv hlt4, hset];refine ⟨by omega, ?_⟩;refine zl5 ?_;simp only [seval, hw2];refine hR _ ⟨htc, zuX c hcl j hjl t htc hto h3, ?_⟩;rw [<- hat];exact zl7
    ·have h3 : ¬ (digs c j).getD (c - 1 - t) 0 = 3 := (by simpa using h2);have h4 := (zuW c hcl j hjl t htc hto).resolve_left h3;have h5 := (zuV c hcl j hjl t htc hto).resolve_left h3;have hl4 : ((zn3 c j t).map iv).length = 4 := (by simp [zcC]);have hlt4 : c - 1 - t < (zn3 c j t).length := (by rw [zcC]; omega);have hoff : (c - 1 - t + 1 <= 4) = True := (by simp; omega);have hdg : 0 <= (digs c j).getD (c - 1 - t) 0 /\ (digs c j).getD (c - 1 - t) 0 <= 3 := by
      obtain ⟨w, hw⟩ := zaE (xs := digs c j) (i := c - 1 - t) (by rw [zdu]; omega);rw [u8z _ _ hw]; exact hdb w (zas hw)
     have hw3 : IntKind.i64.wrap ((digs c j).getD (c - 1 - t) 0 + 1) = (digs c j).getD (c - 1 - t) 0 + 1 := zau _ (by omega);refine zl4 ?_;refine zl5 ?_;simp only [seval, hge, decide_false];refine zlj ?_;refine zl5 ?_;simp only [seval, b4, hl4, hoff, zbf hg, hw3, zfv hlt4, h4];refine zq0 ?_;simp only [seval];refine ⟨rfl, m - 1, by omega, ⟨by omega, fun j' hj' => ?_⟩, ?_⟩
     ·by_cases e : j' = j
      ·rw [e]; exact h
      ·exact hbef j' (by omega)
     ·have e : 4 ^ c - 1 - (m - 1) = j + 1 := (by omega);show AS.Sub _ (zpp H x so c (4 ^ c - 1 - (m - 1)));rw [e];exact ⟨fun t' a e' => zh2 (by unfold zpp; simp only [seval]; simp [zaf, Wk.refl]; exact Wk.refl _) e', rfl⟩
   ·have htx : t = c := (by omega);subst htx;have hat : (t : Int) - 1 - (t : Int) = -1 := (by omega);have hge : decide ((-1 : Int) >= 0) = false := (by decide);rw [hat];refine zl5 ?_;simp only [seval, hge, decide_false];refine zlj ?_;refine zl4 ?_;refine zl5 ?_;simp only [seval, hge, decide_false];refine zlj ?_;refine zlu ?_;refine zhC ?_;refine zlA ?_;have hje := hall3 hto;have hcn : x.cuts.toNat = t := (by omega);have hfi : zoP x.cuts.toNat f = none := by
     rw [hcn];unfold zoP;rw [zdt fun y hy => by
      obtain ⟨j', hj', rfl⟩ := List.mem_map.1 hy;have := List.mem_range.1 hj';by_cases e : j' = j
      ·rw [e]; exact h
      ·exact hbef j' (by omega)]
     rfl
    rw [hfi] at hk;have hk : k (.tup [.sl 0 [] .shut, bv false]) H := hk;exact endA hH (zdC (zaK _ _ _) (Wk.refl _)) (by simp [zap, zaD, za3]) hk
 ·refine zhC ?_;refine zhC ?_;(repeat apply zaa);refine zbQ ?_;simp only [seval];refine ziu ?_ (hb (4 ^ c - 1) ⟨by omega, fun j hj => by omega⟩);have e : 4 ^ c - 1 - (4 ^ c - 1) = 0 := by omega
  show AS.Sub _ (zpp H x so c (4 ^ c - 1 - (4 ^ c - 1)));rw [e];refine ⟨fun t' a e' => zh2 (by unfold zpp; simp only [seval]; simp [zaf, Wk.refl]) e', ?_⟩;show _ = H ++ [AObj.cells ((digs c 0).map iv) 108];rw [zkT]; rfl
def cutS (x : Ring) : List Int -> Nat -> Nat × Option Int
 | [], due => (due, none)
 | n :: l, due => if inM n 0 (x.locks.length - 1) then (if due.testBit n.toNat then (due, some 2) else cutS x l (due ||| 2 ^ n.toNat)) else (due, some 1)
theorem zkZ {x : Ring} {l : List Int} {i : Nat} {n : Int} (h : l[i]? = some n) : ∀ due, cutS x (l.drop i) due = cutS x (n :: l.drop (i + 1)) due := fun due => by
 obtain ⟨hj, rfl⟩ := List.getElem?_eq_some_iff.1 h;rw [List.drop_eq_getElem_cons hj]
theorem f138_c {r d : Nat} {x : Ring} {ds : List Int} {due : Nat} (hx : x.Ok) (hds : ds.length = 4) (hdue : due < 256) (hr : H[r]? = some (.cells [.rp (x.l ++ zmf x)] 100)) (hd : H[d]? = some (.cells [uv due] 110)) (hk : k (bv (zmy x.cuts ds x.locks x.locks.length == due)) H) : FnC lv Tryz.prog 138 H [.agg (ds.map iv), .op r 0, .op d 0] k kp := by
 refine zlV (rs := [.tmp 4]) (nt := 10) Tryz.f138 fun hH hA => ?_;simp only [zma, Nat.reduceAdd];have hdl : (ds.map iv).length = 4 := by simp [hds]
 have htk : List.take 4 (ds.map iv) = ds.map iv := List.take_of_length_le (by omega);have hc := hx.cuts;have hl := hx.locks;refine zhC ?_;refine zmc 5 ?_;simp only [seval, zay hr, zay hd, hdl, htk];refine znh (uv (zmy x.cuts ds x.locks x.locks.length)) (zmg (f139_c hds (by omega) hl (fun l hl => by have := (hx.lock l hl).1; omega) ⟨rfl, rfl⟩)) ?_;(try simp only [seval]);refine zlA ?_;exact endA hH (Wk.refl _) (by simp [zap]) (by rw [show (((zmy x.cuts ds x.locks x.locks.length : Nat) : Int) == (due : Int)) = (zmy x.cuts ds x.locks x.locks.length == due) from by rw [Bool.eq_iff_iff]; simp only [beq_iff_eq]; omega]; exact hk)
def dueF (l : List Int) : Nat := l.foldl (fun due n => due ||| 2 ^ n.toNat) 0
theorem zkO {l : List Int} {i : Nat} {n : Int} (h : l[i]? = some n) : dueF (l.take (i + 1)) = dueF (l.take i) ||| 2 ^ n.toNat := by
 obtain ⟨hj, rfl⟩ := List.getElem?_eq_some_iff.1 h;unfold dueF;rw [List.take_succ_eq_append_getElem hj, List.foldl_append]; rfl
theorem f134_c {a b d : Nat} {x : Ring} {l : List Int} (hx : x.Ok) (hll : l.length < 2 ^ 30) (hl : H[a]? = some (.cells [aInts l] 30)) (hr : H[b]? = some (.cells x.l 26)) (hd : H[d]? = some (.cells [uv 0] 110)) (had : a ≠ d) (hbd : b ≠ d) (hk : (cutS x l 0).2 = none -> k (.tup []) (H.set d (.cells [uv (cutS x l 0).1] 110))) (hp : ∀ f, (cutS x l 0).2 = some f -> kp (.ifc 106 (iv f)) (H.set d (.cells [uv (cutS x l 0).1] 110))) : FnC lv Tryz.prog 134 H [.op a 0, .op b 0, .op d 0] k kp := by
 refine zlV (rs := []) (nt := 27) Tryz.f134 fun hH hA => ?_;simp only [zma, Nat.reduceAdd];have hr2 := hr;rw [Ring.l] at hr2;have hx5 := hx.locks;have hw : IntKind.i64.wrap ((x.locks.length : Int) - 1) = x.locks.length - 1 := zau _ (by omega);have gx : ∀ z, (H.set d z)[b]? = some (.cells [iv x.cuts, zmv x.keys, zml x.locks, zmm x.tries] 26) := fun z => by rw [List.getElem?_set_ne (Ne.symm hbd)]; exact hr2
 have gd : ∀ z, (H.set d z)[d]? = some z := fun z => List.getElem?_set_self (get_lt hd);have gs : ∀ z z', (H.set d z).set d z' = H.set d z' := fun z z' => List.set_set ..;have hokb : ∀ m, HOk (H.set d (.cells [uv m] 110)) := fun m y hy => by
  rw [List.length_set];rcases List.mem_or_eq_of_mem_set hy with h | h
  ·exact hH y h
  ·rw [h]; intro a ha; simp at ha; subst ha; exact .val _
 refine zl5 ?_;simp only [seval, hl, aInts];refine zlF ?_;refine zaB l.length (fun i : Nat => [(7, iv i)]) (fun i => H.set d (.cells [uv (dueF (l.take i))] 110)) (fun i => cutS x l 0 = cutS x (l.drop i) (dueF (l.take i)) /\ dueF (l.take i) < 256) (fun _ _ => rfl) (by simp only [seval]; simp [zaf, Wk.refl]) (by exact zh7 hd) (fun _ _ _ => by simp) ⟨by simp [dueF], by simp [dueF]⟩ (fun hHs hLt i hin hi R hR => ?_);refine zhC ?_;refine zlj ?_;refine ⟨fun h => ?_, fun h => ?_⟩
 ·have hil : i < l.length := by omega
  obtain ⟨n, hn⟩ := zaE hil;have hi1 : IntKind.i64.wrap ((i : Int) + 1) = ((i + 1 : Nat) : Int) := by rw [zau _ (by omega)]; rfl
  refine zlu ?_;refine zl5 ?_;simp only [seval, za2 hn, zaz hil];refine zl5 ?_;simp only [seval, gx, zml, hw];obtain ⟨hcut, hdl⟩ := hi;rw [zkZ hn] at hcut;refine zl6 ((f91_c ?_));(try simp only [seval]);refine zl6 ((f90_c (fun h2 => ?_) (fun h2 => ?_)))
  ·have h3 : inM n 0 (x.locks.length - 1) = true := (by simpa [inM] using h2);obtain ⟨hn0, hn1⟩ := zbU.1 h3;obtain ⟨nn, rfl⟩ : ∃ m : Nat, n = m := ⟨n.toNat, by omega⟩;rw [cutS, if_pos h3, Int.toNat_natCast] at hcut;(try simp only [seval]);refine zl5 ?_;simp only [seval, gd];refine zl6 ((f135_c hdl ?_));(try simp only [seval]);refine zl6 ((f90_c (fun h4 => ?_) (fun h4 => ?_)))
   ·have h5 : (dueF (l.take i)).testBit nn = false := (by simpa using h4);rw [h5] at hcut;simp only [Bool.false_eq_true, if_false] at hcut;(try simp only [seval]);refine zl5 ?_;simp only [seval, gd];refine zl6 ((f136_c hdl (by omega) ?_));(try simp only [seval, gd, gs]);refine zl5 ?_;simp only [seval, hi1];have hdt := zkO hn;rw [Int.toNat_natCast] at hdt;refine hR _ ⟨hil, ⟨by rw [hdt]; exact hcut, ?_⟩, ?_⟩
    ·rw [hdt]; exact Nat.or_lt_two_pow (n := 8) hdl (Nat.pow_lt_pow_right (by decide) (by omega))
    ·rw [hdt]; exact zl7
   ·have h5 : (dueF (l.take i)).testBit nn = true := (by simpa using h4);rw [h5, if_pos rfl] at hcut;have hp := hp 2 (by rw [hcut]);rw [hcut] at hp;exact zaJ (H' := H.set d (.cells [uv (dueF (l.take i))] 110)) (G := []) (Wk.refl _) (by simp) (by simp) (hokb _) (by simp [zap, zey]) hp
  ·have h3 : ¬ inM n 0 (x.locks.length - 1) = true := (by simpa [inM] using h2);rw [cutS, if_neg h3] at hcut;have hp := hp 1 (by rw [hcut]);rw [hcut] at hp;exact zaJ (H' := H.set d (.cells [uv (dueF (l.take i))] 110)) (G := []) (Wk.refl _) (by simp) (by simp) (hokb _) (by simp [zap, zey]) hp
 ·have hix : i = l.length := by omega
  subst hix;obtain ⟨hcut, hdl⟩ := hi;rw [List.drop_length, cutS, List.take_length] at hcut;refine zl4 ?_;rw [List.take_length];have hk := hk (by rw [hcut]);rw [hcut] at hk;exact zaJ (H' := H.set d (.cells [uv (dueF l)] 110)) (G := []) (Wk.refl _) (by simp) (by simp) (hokb _) (by simp [zaD]) hk
theorem zk0 {x : Ring} (hl : x.locks.length <= 4) : ∀ (l : List Int) (due : Nat), due < 256 -> (cutS x l due).1 < 256
 | [], due, h => h
 | n :: l, due, h => by
  rw [cutS];split
  ·rename_i h2;have := zbU.1 h2;split
   ·exact h
   ·exact zk0 hl l _ (Nat.or_lt_two_pow (n := 8) h (Nat.pow_lt_pow_right (by decide) (by omega)))
  ·exact h
def zo8 (x : Ring) (l : List Int) : Option (List Int) := zoP x.cuts.toNat fun ds => zmy x.cuts ds x.locks x.locks.length == (cutS x l 0).1
theorem zu3 {a b d : Nat} {x : Ring} {l : List Int} (hx : x.Ok) (hll : l.length < 2 ^ 30) (hl : H[a]? = some (.cells [aInts l] 30)) (hr : H[b]? = some (.cells x.l 26)) (hd : H[d]? = some (.cells [uv 0] 110)) (had : a ≠ d) (hbd : b ≠ d) : AskT lv H (H.set d (.cells [uv (cutS x l 0).1] 110)) (.fn (.func 134) [] [.op a 0, .op b 0, .op d 0]) (cutS x l 0).2 := fun L k kp h1 h2 => by
 have e : (H ++ L).set d (.cells [uv (cutS x l 0).1] 110) = H.set d (.cells [uv (cutS x l 0).1] 110) ++ L := List.set_append_left _ _ (get_lt hd);rw [<- e] at h1 h2;exact zmg (f134_c hx hll (zay hl) (zay hr) (zay hd) had hbd h1 h2)
theorem so_cut {r d : Nat} {x : Ring} {due : Nat} (hx : x.Ok) (hdue : due < 256) (hr : H[r]? = some (.cells [.rp (x.l ++ zmf x)] 100)) (hd : H[d]? = some (.cells [uv due] 110)) : DoC lv H (.fn (.func 138) [] [.op r 0, .op d 0]) (fun ds => zmy x.cuts ds x.locks x.locks.length == due) := fun L ds k kp h1 h2 h =>
 zmg (f138_c hx h1 hdue (zay hr) (zay hd) h)
theorem f62_c {x : Ring} {l : List Int} (hnr : zmP lv) (hmain : H[0]? = some .main) (hs : x.Small) (hll : l.length < 2 ^ 30) (h1 : zmS x (cutS x l 0).2 ≠ 0 -> k (.tup [.sl 0 [] .exact, iv (zmS x (cutS x l 0).2)]) H) (h2 : zmS x (cutS x l 0).2 = 0 -> zo8 x l = none -> k (.tup [.sl 0 [] .exact, iv 11]) H) (h3 : zmS x (cutS x l 0).2 = 0 -> ∀ xs, zo8 x l = some xs -> k (.tup [aInts xs, iv 0]) H) : FnC lv Tryz.prog 62 H [x.av, aInts l] k kp := by
 have hmn : ∀ L : List AObj, (H ++ L)[0]? = some .main := fun L => zay hmain;refine zlV (rs := [.tmp 4, .tmp 5]) (nt := 29) Tryz.f62 fun hH hA => ?_;simp only [zma, Nat.reduceAdd, Ring.av];refine zl5 ?_;simp only [seval, Ring.l];refine zhC ?_;refine zl5 ?_;simp only [seval, List.mapM_cons, List.mapM_nil, Option.pure_def, Option.bind_eq_bind];have hask : zmW x = 0 -> AskT lv (H ++ [.cells x.l 26, .cells [aInts l] 30, .cells [.val (.int .u8 0)] 110]) (H ++ [.cells x.l 26, .cells [aInts l] 30, .cells [uv (cutS x l 0).1] 110]) (.fn (.func 134) [] [.op (H.length + 1) 0, .op H.length 0, .op (H.length + 2) 0]) (cutS x l 0).2 := fun hc => by
  have h := zu3 (lv := lv) (H := H ++ [.cells x.l 26, .cells [aInts l] 30, .cells [.val (.int .u8 0)] 110]) (a := H.length + 1) (b := H.length) (d := H.length + 2) (zbH.1 hc) hll (by simp only [seval]) (by simp only [seval]) (by simp only [seval] <;> rfl) (by omega) (by omega);rwa [show (H ++ [AObj.cells x.l 26, .cells [aInts l] 30, .cells [.val (.int .u8 0)] 110]).set (H.length + 2) (.cells [uv (cutS x l 0).1] 110) = H ++ [.cells x.l 26, .cells [aInts l] 30, .cells [uv (cutS x l 0).1] 110] from zbR H _ 2 _] at h
 refine zl6 ((f87_t hnr (H' := H ++ [AObj.cells x.l 26, AObj.cells [aInts l] 30, AObj.cells [uv (cutS x l 0).1] 110]) (hmn _) (by simp) (fun h => zc6 hH ?_) hs hask (fun hc => ?_) (fun hc hz => ?_) (fun hz => ?_)))
 ·intro z hz n;simp only [List.mem_cons, List.not_mem_nil, or_false] at hz;rcases hz with rfl | rfl | rfl
  ·intro a ha;simp only [Ring.l, List.mem_cons, List.not_mem_nil, or_false] at ha;rcases ha with rfl | rfl | rfl | rfl
   ·exact .val _
   ·rw [zc5]; trivial
   ·rw [zci]; trivial
   ·rw [zch]; trivial
  ·intro a ha; simp at ha; subst ha; rw [zbi]; trivial
  ·intro a ha; simp at ha; subst ha; exact .val _
 ·(try simp only [seval]);refine zhC ?_;have hz : zmS x (cutS x l 0).2 ≠ 0 := fun e => hc (zaN.1 e).1;refine zlj ?_;refine ⟨fun h => ?_, fun h => absurd (by simpa using h) hz⟩;refine zhC ?_;refine zlA ?_;exact endA hH (Wk.refl _) (by simp [zap, zaD, zbh]) (h1 hz)
 ·(try simp only [seval]);refine zhC ?_;refine zlj ?_;refine ⟨fun h => ?_, fun h => absurd (by simpa using h) hz⟩;refine zhC ?_;refine zlA ?_;exact endA hH (Wk.refl _) (by simp [zap, zaD, zbh]) (h1 hz)
 ·(try simp only [seval]);refine zhC ?_;have hx := zbp hz;refine zlj ?_;refine zlu ?_;refine zl5 ?_;simp only [seval, List.mapM_cons, List.mapM_nil, Option.pure_def, Option.bind_eq_bind];refine zl6 ((f137_c hx (so_cut (r := H.length + 3) (d := H.length + 2) hx (zk0 hx.locks l 0 (by decide)) (by simp only [seval] <;> rfl) (by simp only [seval] <;> rfl)) ?_));(try simp only [seval]);rw [show zoP x.cuts.toNat (fun ds => zmy x.cuts ds x.locks x.locks.length == (cutS x l 0).1) = zo8 x l from rfl];refine zhC ?_;refine zlj ?_;cases hm : zo8 x l with
  | none =>
   refine ⟨fun h => ?_, fun h => by simp at h⟩;refine zhC ?_;refine zlA ?_;exact endA hH (Wk.refl _) (by simp [zap, zaD, zbh]) (h2 hz hm)
  | some xs =>
   refine ⟨fun h => by simp at h, fun h => ?_⟩;refine zlu ?_;refine zhC ?_;refine zlA ?_;exact endA hH (Wk.refl _) (by simp [zap, zaD, zbi]) (h3 hz xs hm)
end
def exR (ts : List Try) : Ring := ⟨2, [⟨[3, 1], ⟨0, 1⟩⟩, ⟨[2, 2], ⟨0, 0⟩⟩, ⟨[1, 3], ⟨0, 2⟩⟩], [[⟨2, 3⟩, ⟨0, 1⟩], [⟨2, 2⟩, ⟨1, 2⟩], [⟨0, 1⟩, ⟨2, 3⟩]], ts⟩
def exLast : Try := ⟨2, 2, true⟩
def exNever : Try := ⟨1, 1, false⟩
def exOne : Ring := ⟨2, [⟨[2, 2], ⟨0, 0⟩⟩], [[⟨2, 3⟩, ⟨0, 1⟩], [⟨2, 2⟩, ⟨1, 2⟩], [⟨0, 1⟩, ⟨2, 3⟩]], []⟩
theorem zbq {ts : List Try} (h : ts.length < 2 ^ 30) : (exR ts).Small := ⟨by show 3 < 2 ^ 30; decide, by show 3 < 2 ^ 30; decide, h, fun x hx => by simp only [exR, List.mem_cons, List.not_mem_nil, or_false] at hx; rcases hx with rfl | rfl | rfl <;> decide, fun x hx => by simp only [exR, List.mem_cons, List.not_mem_nil, or_false] at hx; rcases hx with rfl | rfl | rfl <;> decide⟩
theorem zhI : exOne.Small := ⟨by decide, by decide, by decide, by decide, by decide⟩
section
variable {H : List AObj} {k kp : AV -> List AObj -> Prop}
theorem zuQ (hmain : H[0]? = some .main) (hk : k (.tup [aInts [0, 1], iv 0]) H) : FnC true Tryz.prog 30 H [(exR []).av, iv 2, iv 2] k kp :=
 f30_c zaQ hmain (zbq (by decide)) (fun h => absurd (by decide +kernel) h) fun _ => by
  rw [show zqh (exR []) (2 : Int).toNat (2 : Int).toNat = [0, 1] by decide +kernel]; exact hk
theorem zsr (hmain : H[0]? = some .main) (hk : k (.tup [iv 3, iv 0]) H) : FnC true Tryz.prog 32 H [(exR []).av, iv 2, iv 2] k kp :=
 f32_c zaQ hmain (zbq (by decide)) (fun h => absurd (by decide +kernel) h) fun _ => by
  rw [show zog (cntM (exR []) (2 : Int).toNat (2 : Int).toNat (zl8 (exR []) [])) (zl8 (exR []) []).length = 3 by decide +kernel]; exact hk
theorem zst (hmain : H[0]? = some .main) (hk : k (.tup [iv 4, iv 0]) H) : FnC true Tryz.prog 53 H [(exR [exLast]).av] k kp :=
 f53_c zaQ hmain (zbq (by decide)) (fun h => absurd (by decide +kernel) h) fun _ => by
  rw [show (zl8 (exR [exLast]) []).length = 4 by decide +kernel]; exact hk
theorem ex_ask (hmain : H[0]? = some .main) (hk : k (.tup [iv 2, iv 2, iv 4, iv 0]) H) : FnC true Tryz.prog 55 H [(exR []).av] k kp :=
 f55_c zaQ hmain (zbq (by decide)) (fun h => absurd (by decide +kernel) h) (fun _ h => absurd h (by decide +kernel)) fun _ a b c h => by
  rw [show askR (exR []) = some (2, 2, 4) by decide +kernel] at h; cases h; exact hk
theorem zss (hmain : H[0]? = some .main) (hk : k (.tup [aInts [0, 1, 2], iv 0]) H) : FnC true Tryz.prog 38 H [(exR [exLast]).av] k kp :=
 f38_c zaQ hmain (zbq (by decide)) (fun h => absurd (by decide +kernel) h) (fun _ h => absurd h (by decide +kernel)) fun _ xs h => by
  rw [show zoR (exR [exLast]) = some [0, 1, 2] by decide +kernel] at h; cases h; exact hk
theorem zsu (hmain : H[0]? = some .main) (hk : k (.tup [aInts [0, 1, 0], iv 0]) H) : FnC true Tryz.prog 40 H [exOne.av] k kp :=
 f40_c zaQ hmain zhI (fun h => absurd (by decide +kernel) h) fun _ => by
  rw [show zpw exOne = [0, 1, 0] by decide +kernel]; exact hk
theorem zsq (hmain : H[0]? = some .main) (hk : k (.tup [aInts [1, 2], iv 0]) H) : FnC true Tryz.prog 46 H [(exR []).av, zm0 [⟨0, false⟩]] k kp :=
 f46_c zaQ hmain (zbq (by decide)) (by decide) (fun h => absurd (by decide +kernel) h) fun _ => by
  rw [show ztj (exR []) [⟨0, false⟩] = [1, 2] by decide +kernel]; exact hk
theorem ex_cut (hmain : H[0]? = some .main) (hk : k (.tup [aInts [2, 1], iv 0]) H) : FnC true Tryz.prog 62 H [(exR []).av, aInts [0, 1]] k kp :=
 f62_c zaQ hmain (zbq (by decide)) (by decide) (fun h => absurd (by decide +kernel) h) (fun _ h => absurd h (by decide +kernel)) fun _ xs h => by
  rw [show zo8 (exR []) [0, 1] = some [2, 1] by decide +kernel] at h; cases h; exact hk
theorem zsp (hmain : H[0]? = some .main) (hk : k (.tup [aInts [0], iv 0]) H) : FnC true Tryz.prog 51 H [(exR [exNever]).av] k kp :=
 f51_c zaQ hmain (zbq (by decide)) (fun h => absurd (by decide +kernel) h) fun _ => by
  rw [show zth (exR [exNever]) = [0] by decide +kernel]; exact hk
theorem zuR (hmain : H[0]? = some .main) (hk : k (.tup [aInts [0, 1], iv 0]) H) : FnC true Tryz.prog 42 H [(exR []).av] k kp :=
 f42_c zaQ hmain (zbq (by decide)) (fun h => absurd (by decide +kernel) h) (fun _ h => absurd h (by decide +kernel)) fun _ xs h => by
  rw [show zpL (exR []) = some [0, 1] by decide +kernel] at h; cases h; exact hk
end
structure TinS where
 nums : List Int
 g : Int
 s : Int
def tinO (τ : TinS) : AObj := .cells [aInts τ.nums, .val (.int .i64 τ.g), .val (.int .u64 τ.s)] 98
def xorU (a b : Int) : Int := IntKind.u64.wrap (BitVec.ofInt IntKind.u64.bits a ^^^ BitVec.ofInt IntKind.u64.bits b).toNat
def word0 (g : Int) : Int := IntKind.u64.wrap (IntKind.u64.wrap (IntKind.u64.wrap g * 15074714826142052245) + 11400714819323198485)
def ztH (τ : TinS) : Int := match τ.nums[τ.g.toNat]? with
 | some x => xorU (word0 τ.g) (IntKind.u64.wrap (IntKind.u64.wrap x * 12620523164723586485))
 | none => word0 τ.g
def mix1 (s w : Int) : Int := IntKind.u64.wrap (IntKind.u64.wrap (s + w) * 13787848793156543929)
def mix2 (s : Int) : Int := xorU s (s.fdiv (2 ^ min 31 IntKind.u64.bits))
def out1 (s : Int) : Int := (xorU s (s.fdiv (2 ^ min 27 IntKind.u64.bits))).fdiv (2 ^ min 9 IntKind.u64.bits)
def tick (τ : TinS) : TinS := ⟨τ.nums, τ.g + 1, mix2 (mix1 τ.s (ztH τ))⟩
def outT (τ : TinS) : Int := out1 (IntKind.u64.wrap ((tick τ).s * 10723151780598845931))
theorem ztk (n : Int) (h0 : 0 <= n) (h : n < 2 ^ 64) : IntKind.u64.wrap n = n := by
 have h1 : IntKind.u64.bits = 64 := rfl;have h2 : IntKind.u64.signed = false := rfl;unfold IntKind.wrap;rw [h1, h2];simp;omega
theorem zjS (n : Int) : 0 <= IntKind.u64.wrap n /\ IntKind.u64.wrap n < 2 ^ 64 := by
 have h1 : IntKind.u64.bits = 64 := rfl;have h2 : IntKind.u64.signed = false := rfl;unfold IntKind.wrap;rw [h1, h2];simp;omega
theorem ze9 (s : Int) : 0 <= out1 s /\ out1 s < 2 ^ 55 := by
 unfold out1 xorU;have h := zjS (BitVec.ofInt IntKind.u64.bits s ^^^ BitVec.ofInt IntKind.u64.bits (s.fdiv (2 ^ min 27 IntKind.u64.bits))).toNat;have e : (2 : Int) ^ min 9 IntKind.u64.bits = 512 := by decide
 rw [e, Int.fdiv_eq_ediv_of_nonneg _ (show (0 : Int) <= 512 by decide)];omega
def znq (τ : TinS) (n : Int) : Int := if n < 1 then 0 else (outT τ).tmod (n + 1)
theorem zaX (τ : TinS) (n : Int) : 0 <= znq τ n /\ (znq τ n <= n \/ znq τ n = 0) := by
 unfold znq;split
 ·omega
 ·have h := (ze9 (IntKind.u64.wrap ((tick τ).s * 10723151780598845931))).1;have h1 := Int.tmod_nonneg (n + 1) h;have h2 := Int.tmod_lt_of_pos (outT τ) (show 0 < n + 1 by omega);unfold outT at h2 ⊢;omega
def zm5 (τ : TinS) (lo hi : Int) : Int := lo + znq τ (hi - lo)
theorem za1 (τ : TinS) {lo hi : Int} (h : lo <= hi) : lo <= zm5 τ lo hi /\ zm5 τ lo hi <= hi := by
 have := zaX τ (hi - lo);unfold zm5;omega
def znY (τ : TinS) (n : Int) : Bool := znq τ (n - 1) == 0
def zn0 (τ : TinS) (lo hi : Int) : Band := ⟨zm5 τ lo hi, zm5 (tick τ) (zm5 τ lo hi) hi⟩
theorem zir (τ : TinS) {lo hi : Int} (h : lo <= hi) : lo <= (zn0 τ lo hi).min /\ (zn0 τ lo hi).min <= (zn0 τ lo hi).max /\ (zn0 τ lo hi).max <= hi := by
 have h1 := za1 τ h;have h2 := za1 (tick τ) h1.2;exact ⟨h1.1, h2.1, h2.2⟩
structure TinAt (Gf : TinS -> List AObj) (t N : Nat) : Prop where
 len : ∀ τ, (Gf τ).length = N
 get : ∀ τ, (Gf τ)[t]? = some (tinO τ)
 set : ∀ τ τ', (Gf τ).set t (tinO τ') = Gf τ'
 ok : ∀ m τ τ', (∀ z ∈ Gf τ, OLt m z) -> ∀ z ∈ Gf τ', OLt m z
theorem TinAt.more {Gf : TinS -> List AObj} {t N : Nat} (h : TinAt Gf t N) (L : List AObj) : TinAt (fun τ => Gf τ ++ L) t (N + L.length) where
 len := fun τ => by simp [h.len]
 get := fun τ => zay (h.get τ)
 set := fun τ τ' => by show (Gf τ ++ L).set t _ = _; rw [List.set_append_left _ _ (get_lt (h.get τ)), h.set]
 ok := fun m τ τ' hk z hz => (List.mem_append.1 hz).elim (fun hz => h.ok m τ τ' (fun v hv => hk v (List.mem_append_left _ hv)) z hz) (fun hz => hk z (List.mem_append_right _ hz))
theorem TinAt.hok {Gf : TinS -> List AObj} {t N : Nat} (h : TinAt Gf t N) {τ : TinS} (hH : HOk (Gf τ)) (τ' : TinS) : HOk (Gf τ') := fun z hz => by
 have := h.ok N τ τ' (fun w hw => by have := hH w hw; rwa [h.len] at this) z hz;rwa [h.len]
section
variable {Gf : TinS -> List AObj} {t N : Nat} (h : TinAt Gf t N)
include h
theorem TinAt.g0 (τ : TinS) (L : List AObj) : (Gf τ ++ L)[N]? = L[0]? := by have := zco (Gf τ) L 0; rwa [h.len] at this
theorem TinAt.g1 (τ : TinS) (L : List AObj) : (Gf τ ++ L)[N + 1]? = L[1]? := by have := zco (Gf τ) L 1; rwa [h.len] at this
theorem TinAt.g2 (τ : TinS) (L : List AObj) : (Gf τ ++ L)[N + 1 + 1]? = L[2]? := by have := zco (Gf τ) L 2; rwa [h.len] at this
theorem TinAt.g3 (τ : TinS) (L : List AObj) : (Gf τ ++ L)[N + 1 + 1 + 1]? = L[3]? := by have := zco (Gf τ) L 3; rwa [h.len] at this
theorem TinAt.h2 (τ : TinS) (L : List AObj) : (Gf τ ++ L)[N + 2]? = L[2]? := h.g2 τ L
theorem TinAt.h3 (τ : TinS) (L : List AObj) : (Gf τ ++ L)[N + 3]? = L[3]? := h.g3 τ L
theorem TinAt.s0 (τ : TinS) (L : List AObj) (x : AObj) : (Gf τ ++ L).set N x = Gf τ ++ L.set 0 x := by have := zbR (Gf τ) L 0 x; rwa [h.len] at this
theorem TinAt.s1 (τ : TinS) (L : List AObj) (x : AObj) : (Gf τ ++ L).set (N + 1) x = Gf τ ++ L.set 1 x := by have := zbR (Gf τ) L 1 x; rwa [h.len] at this
theorem TinAt.s2 (τ : TinS) (L : List AObj) (x : AObj) : (Gf τ ++ L).set (N + 1 + 1) x = Gf τ ++ L.set 2 x := by have := zbR (Gf τ) L 2 x; rwa [h.len] at this
theorem TinAt.s3 (τ : TinS) (L : List AObj) (x : AObj) : (Gf τ ++ L).set (N + 1 + 1 + 1) x = Gf τ ++ L.set 3 x := by have := zbR (Gf τ) L 3 x; rwa [h.len] at this
theorem TinAt.t2 (τ : TinS) (L : List AObj) (x : AObj) : (Gf τ ++ L).set (N + 2) x = Gf τ ++ L.set 2 x := h.s2 τ L x
theorem TinAt.t3 (τ : TinS) (L : List AObj) (x : AObj) : (Gf τ ++ L).set (N + 3) x = Gf τ ++ L.set 3 x := h.s3 τ L x
end
theorem TinAt.an {Gf : TinS -> List AObj} {t N : Nat} (h : TinAt Gf t N) : (type_of% h.len) /\ (type_of% h.g0) /\ (type_of% h.g1) /\ (type_of% h.g2) /\ (type_of% h.g3) /\ (type_of% h.h2) /\ (type_of% h.h3) /\ (type_of% h.s0) /\ (type_of% h.s1) /\ (type_of% h.s2) /\ (type_of% h.s3) /\ (type_of% h.t2) /\ (type_of% h.t3) := ⟨h.len, h.g0, h.g1, h.g2, h.g3, h.h2, h.h3, h.s0, h.s1, h.s2, h.s3, h.t2, h.t3⟩
theorem zun (m : Nat) (τ : TinS) : OLt m (tinO τ) := by
 intro a ha;simp only [List.mem_cons, List.not_mem_nil, or_false] at ha;rcases ha with rfl | rfl | rfl
 ·rw [zbi]; trivial
 ·exact .val _
 ·exact .val _
theorem zjT (H : List AObj) : TinAt (fun τ => H ++ [tinO τ]) H.length (H.length + 1) where
 len := fun τ => by simp
 get := fun τ => by simp
 set := fun τ τ' => by simp
 ok := fun m τ τ' hk z hz => by
  rcases List.mem_append.1 hz with hz | hz
  ·exact hk z (List.mem_append_left _ hz)
  ·rw [List.mem_singleton.1 hz]; exact zun _ _
structure TinS.Ok (τ : TinS) (b : Int) : Prop where
 g0 : 0 <= τ.g
 g : τ.g <= b
 len : τ.nums.length <= 2 ^ 50
section
variable {lv : Bool} {H : List AObj} {k kp : AV -> List AObj -> Prop} {Gf : TinS -> List AObj} {t N : Nat} {τ : TinS} {b : Int}
theorem f26_c {nums : List Int} (hk : k (.op H.length 0) (H ++ [tinO ⟨nums, 0, 7640891576956012809⟩])) : FnC lv Tryz.prog 26 H [aInts nums] k kp := by
 refine zlV (rs := [.tmp 2]) (nt := 6) Tryz.f26 fun hH hA => ?_;simp only [zma, Nat.reduceAdd];refine zhC ?_;refine zhC ?_;refine zlA ?_;exact zao hk
theorem TinS.Ok.tick (h : τ.Ok b) : (tick τ).Ok (b + 1) := ⟨by have := h.g0; show 0 <= τ.g + 1; omega, by have := h.g; show τ.g + 1 <= b + 1; omega, h.len⟩
theorem TinS.Ok.mono {b' : Int} (h : τ.Ok b) (hb : b <= b') : τ.Ok b' := ⟨h.g0, by have := h.g; omega, h.len⟩
theorem f86_c (hT : TinAt Gf t N) (hτ : τ.Ok b) (hb : b < 2 ^ 60) (hk : k (.val (.int .u64 (outT τ))) (Gf (tick τ))) : FnC lv Tryz.prog 86 (Gf τ) [.op t 0] k kp := by
 obtain ⟨nums, g, s⟩ := τ;obtain ⟨hg0, hgb, hln⟩ := hτ;simp only at hg0 hgb hln;refine zlV (rs := [.tmp 2]) (nt := 76) Tryz.f86 fun hH hA => ?_;simp only [zma, Nat.reduceAdd];have hg : ∀ τ, (Gf τ)[t]? = some (.cells [.sl τ.nums.length (τ.nums.map iv) .shut, .val (.int .i64 τ.g), .val (.int .u64 τ.s)] 98) := hT.get;have hs : ∀ τ (nums' : List Int) g' s', (Gf τ).set t (.cells [.sl nums'.length (nums'.map iv) .shut, .val (.int .i64 g'), .val (.int .u64 s')] 98) = Gf ⟨nums', g', s'⟩ := fun τ nums' g' s' => hT.set τ ⟨nums', g', s'⟩;obtain ⟨n, rfl⟩ : ∃ n : Nat, g = n := ⟨g.toNat, by omega⟩;have hw : IntKind.i64.wrap ((n : Int) + 1) = n + 1 := zau _ (by omega);refine zhC ?_;refine zl5 ?_;simp only [seval, hg];refine zmc 9 ?_;simp only [seval, hg];refine zlj ?_;refine ⟨fun h => ?_, fun h => ?_⟩
 ·have hnl : n < nums.length := by simpa using h
  obtain ⟨x, hx⟩ := zaE hnl;refine zmc 13 ?_;simp only [seval, hg, za2 hx, zaz hnl, zdy];refine zl5 ?_;simp only [seval, hg, hw, hs];refine zl5 ?_;simp only [seval, hg, hs];refine zmc 11 ?_;simp only [seval, hg, hs, zdz, zdy];refine zl5 ?_;simp only [seval, hg];refine zl5 ?_;simp only [seval, zdz, zdy];refine zlA ?_;refine zao ?_;unfold outT tick ztH at hk;simp only [Int.toNat_natCast, hx] at hk;exact hk
 ·have hnl : ¬ n < nums.length := by simpa using h
  have hx : nums[n]? = none := by rw [List.getElem?_eq_none]; omega
  refine zlu ?_;refine zl5 ?_;simp only [seval, hg, hw, hs];refine zl5 ?_;simp only [seval, hg, hs];refine zmc 11 ?_;simp only [seval, hg, hs, zdz, zdy];refine zl5 ?_;simp only [seval, hg];refine zl5 ?_;simp only [seval, zdz, zdy];refine zlA ?_;refine zao ?_;unfold outT tick ztH at hk;simp only [Int.toNat_natCast, hx] at hk;exact hk
theorem f29_c {n : Int} (hT : TinAt Gf t N) (hτ : τ.Ok b) (hb : b < 2 ^ 60) (hn : n < 2 ^ 60) (hk : k (iv (znq τ n)) (Gf (tick τ))) : FnC lv Tryz.prog 29 (Gf τ) [.op t 0, iv n] k kp := by
 refine zlV (rs := [.tmp 4]) (nt := 16) Tryz.f29 fun hH hA => ?_;simp only [zma, Nat.reduceAdd];refine zhC ?_;refine zhC ?_;refine zl6 ((f86_c hT hτ hb ?_));(try simp only [seval]);refine zhC ?_;refine zlj ?_;refine ⟨fun h => ?_, fun h => ?_⟩
 ·have h : n < 1 := by simpa using h
  refine zhC ?_;refine zlA ?_;rw [znq, if_pos h] at hk;exact zao hk
 ·have h : ¬ n < 1 := by simpa using h
  have ho := ze9 (IntKind.u64.wrap ((tick τ).s * 10723151780598845931));have hw1 : IntKind.u64.wrap n = n := ztk n (by omega) (by omega);have hw2 : IntKind.u64.wrap (n + 1) = n + 1 := ztk _ (by omega) (by omega);have hn0 : n + 1 ≠ 0 := by omega
  have hr := zaX τ n;rw [znq, if_neg h] at hk hr;have hw3 : IntKind.i64.wrap ((outT τ).tmod (n + 1)) = (outT τ).tmod (n + 1) := zau _ (by omega);refine zlu ?_;refine zl5 ?_;simp only [seval, zs2, hw1, hw2, hw3, hn0];refine zlA ?_;exact zao hk
theorem f125_c {lo hi : Int} (hT : TinAt Gf t N) (hτ : τ.Ok b) (hb : b < 2 ^ 60) (hlo : 0 <= lo /\ lo < 2 ^ 20) (hhi : -1 <= hi /\ hi < 2 ^ 20) (hk : k (iv (zm5 τ lo hi)) (Gf (tick τ))) : FnC lv Tryz.prog 125 (Gf τ) [.op t 0, iv lo, iv hi] k kp := by
 refine zlV (rs := [.tmp 6]) (nt := 14) Tryz.f125 fun hH hA => ?_;simp only [zma, Nat.reduceAdd];have hw1 : IntKind.i64.wrap (hi - lo) = hi - lo := zau _ (by omega);have hr := zaX τ (hi - lo);have hw2 : IntKind.i64.wrap (lo + znq τ (hi - lo)) = lo + znq τ (hi - lo) := zau _ (by omega);refine zhC ?_;refine zl5 ?_;simp only [seval, hw1];refine zl6 ((f29_c hT hτ hb (by omega) ?_));(try simp only [seval, hw2]);refine zlA ?_;exact zao hk
theorem f44_c {n : Int} (hT : TinAt Gf t N) (hτ : τ.Ok b) (hb : b < 2 ^ 60) (hn : 0 <= n /\ n < 2 ^ 20) (hk : k (bv (znY τ n)) (Gf (tick τ))) : FnC lv Tryz.prog 44 (Gf τ) [.op t 0, iv n] k kp := by
 refine zlV (rs := [.tmp 4]) (nt := 10) Tryz.f44 fun hH hA => ?_;simp only [zma, Nat.reduceAdd];have hw1 : IntKind.i64.wrap (n - 1) = n - 1 := zau _ (by omega);refine zhC ?_;refine zl5 ?_;simp only [seval, hw1];refine zl6 ((f29_c hT hτ hb (by omega) ?_));(try simp only [seval]);refine zlA ?_;exact zao hk
theorem f126_c {lo hi : Int} (hT : TinAt Gf t N) (hτ : τ.Ok b) (hb : b < 2 ^ 50) (hlo : 0 <= lo /\ lo <= hi) (hhi : hi < 2 ^ 20) (hk : k (zn0 τ lo hi).av (Gf (tick (tick τ)))) : FnC lv Tryz.prog 126 (Gf τ) [.op t 0, iv lo, iv hi] k kp := by
 refine zlV (rs := [.cell 6 63]) (nt := 18) Tryz.f126 fun hH hA => ?_;simp only [zma, Nat.reduceAdd];have hr := za1 τ hlo.2;refine zl5 ?_;simp only [seval, hT.an];refine zl5 ?_;simp only [seval, hT.an];refine zl6 ((f125_c (hT.more _) hτ (by omega) (by omega) (by omega) ?_));(try simp only [seval, hT.an]);refine zl5 ?_;simp only [seval, hT.an];refine zl6 ((f125_c (hT.more _) hτ.tick (by omega) (by omega) (by omega) ?_));(try simp only [seval, hT.an]);refine zn1 ?_;simp only [seval, hT.an];rw [<- hT.len (tick (tick τ))];exact endA (b := (zn0 τ lo hi).av) (hT.hok hH _) (Wk.refl _) (by simp [zap, zfa, Band.av, Band.l, iv]) hk
end
theorem zfA {xs : List Int} {i : Nat} {x : Int} (f : Int -> AV) (h : xs[i]? = some x) : (xs.take (i + 1)).map f = (xs.take i).map f ++ [f x] := by
 obtain ⟨hj, rfl⟩ := List.getElem?_eq_some_iff.1 h;rw [List.take_succ_eq_append_getElem hj, List.map_append]; rfl
theorem zgb {xs ys : List Int} {i : Nat} {x y : Int} (hx : xs[i]? = some x) (hy : ys[i]? = some y) (h : xs.take i = ys.take i) (e : x = y) : xs.take (i + 1) = ys.take (i + 1) := by
 obtain ⟨hj, rfl⟩ := List.getElem?_eq_some_iff.1 hx;obtain ⟨hk, rfl⟩ := List.getElem?_eq_some_iff.1 hy;rw [List.take_succ_eq_append_getElem hj, List.take_succ_eq_append_getElem hk, h, e]
section
variable {lv : Bool} {H : List AObj} {k kp : AV -> List AObj -> Prop}
theorem f34_c {xs ys : List Int} {e e' : End} (hx : xs.length < 2 ^ 60) (hk : k (bv (decide (xs = ys))) H) : FnC lv Tryz.prog 34 H [.sl xs.length (xs.map iv) e, .sl ys.length (ys.map iv) e'] k kp := by
 refine zlV (rs := [.tmp 4]) (nt := 26) Tryz.f34 fun hH hA => ?_;simp only [zma, Nat.reduceAdd];refine zhC ?_;refine zhC ?_;refine zlj ?_;refine ⟨fun h => ?_, fun h => ?_⟩
 ·have h : xs ≠ ys := fun e => by subst e; simp at h
  refine zhC ?_;refine zlA ?_;rw [decide_eq_false h] at hk;exact zao hk
 ·have h : xs.length = ys.length := by
   have h : (xs.length : Int) = ys.length := (by simpa using h);omega
  refine zlu ?_;refine zhC ?_;refine zlF ?_;refine zmh xs.length (fun i : Nat => [(5, iv i)]) (fun _ => _) (fun i => xs.take i = ys.take i) (by simp) (fun hHs hLt i hin hi R hR => ?_);refine zhC ?_;refine zlj ?_;refine ⟨fun h2 => ?_, fun h2 => ?_⟩
  ·have hlt : i < xs.length := (by omega);obtain ⟨x, hx1⟩ := zaE hlt;obtain ⟨y, hy1⟩ := zaE (xs := ys) (i := i) (by omega);refine zlu ?_;refine zlF ?_;refine zmc 8 ?_;simp only [seval, za2 hx1, za2 hy1, zaz hlt, zaz (get_lt hy1)];refine zlj ?_;refine ⟨fun h3 => ?_, fun h3 => ?_⟩
   ·have h3 : xs ≠ ys := fun e => (by subst e; rw [hx1] at hy1; cases hy1; simp at h3);refine zhC ?_;refine zlA ?_;rw [decide_eq_false h3] at hk;exact zao hk
   ·have h3 : x = y := (by simpa using h3);refine zlu ?_;refine zhC ?_;refine hR _ ⟨hlt, zgb hx1 hy1 hi h3, ?_⟩;rw [zau _ (by omega)];exact zl7
  ·have hix : i = xs.length := (by omega);refine zl4 ?_;refine zhC ?_;refine zlA ?_;have h3 : xs = ys := by
    rw [hix, List.take_length] at hi;rw [hi, h, List.take_length]
   rw [decide_eq_true h3] at hk;exact zao hk
theorem f78_c {xs : List Int} {n : Int} (hb : ∀ x ∈ xs, 0 <= x /\ x <= 3) (hn : 0 <= n /\ n <= 3) (hl : xs.length <= 2 ^ 20) (hk : k (aInts (zmn n xs)) H) : FnC lv Tryz.prog 78 H [aInts xs, iv n] k kp := by
 refine zlV (rs := [.tmp 4]) (nt := 24) Tryz.f78 fun hH hA => ?_;simp only [zma, Nat.reduceAdd, aInts];refine zhC ?_;refine zhC ?_
 (repeat apply zaa); refine zbV (t := 5) (sz := 1) (el := 3) (by simp only [seval] <;> rfl) ?_
 refine zhC ?_;refine zlF ?_;refine zaB xs.length (fun i : Nat => [(5, .sl i ((zmn n (xs.take i)).map iv) (.opn H.length)), (6, iv i)]) (fun i => H ++ [.tail i 1 3]) (fun i => True) (fun _ _ => rfl) (by simp only [seval]; simp [zaf, Wk.refl]; exact Wk.refl _) rfl (fun _ _ _ => by simp) trivial (fun hHs hLt i hin hi R hR => ?_);refine zhC ?_;refine zlj ?_;refine ⟨fun h => ?_, fun h => ?_⟩
 ·have hlt : i < xs.length := by omega
  obtain ⟨x, hx⟩ := zaE hlt;have hxb := hb x (zas hx);have hw : IntKind.i64.wrap (x - n) = x - n := zau _ (by omega);have hw2 : IntKind.i64.wrap ((i : Int) + 1) = i + 1 := zau _ (by omega);have hmax : (if 0 < x - n then x - n else 0) = max 0 (x - n) := by omega
  have hwl : ((zmn n (xs.take i)).map iv).length = i := by simp [zmn]; omega
  have hnext : (zmn n (xs.take (i + 1))).map iv = (zmn n (xs.take i)).map iv ++ [.val (.int .i64 (max 0 (x - n)))] := by
   unfold zmn;rw [List.map_map, zfA _ hx, List.map_map]; rfl
  refine zlu ?_;refine zl5 ?_;simp only [seval, z1, za2 hx, zaz hlt, hw, hmax, hwl]
  first | refine ⟨by omega, by omega, ?_⟩ | refine ⟨by omega, ?_⟩
  refine zl5 ?_;simp only [seval, hw2];refine hR _ ⟨hlt, trivial, ?_⟩;rw [hnext];exact zl7
 ·have hix : i = xs.length := by omega
  subst hix;refine zl4 ?_;refine zhC ?_;refine zlA ?_;rw [List.take_length];have hwl : (zmn n xs).length = xs.length := by simp [zmn]
  rw [aInts, hwl] at hk;exact endA hH (zaK _ _ _) (by simp [za3, zap]) hk
theorem f64_c {ds : List Int} {bs : List Band} (hlen : ds.length <= bs.length) (hsz : ds.length < 2 ^ 60) (hk : k (bv (zni ds bs)) H) : FnC lv Tryz.prog 64 H [aInts ds, aBands bs] k kp := by
 refine zlV (rs := [.tmp 4]) (nt := 34) Tryz.f64 fun hH hA => ?_;simp only [zma, Nat.reduceAdd, aInts, aBands];refine zhC ?_;refine zhC ?_;refine zlF ?_;refine zmh ds.length (fun i : Nat => [(5, iv i)]) (fun _ => _) (fun i => zni ds bs = zni (ds.drop i) (bs.drop i)) rfl (fun hHs hLt i hin hi R hR => ?_);refine zhC ?_;refine zlj ?_;refine ⟨fun h => ?_, fun h => ?_⟩
 ·have hlt : i < ds.length := by omega
  obtain ⟨d, hd⟩ := zaE hlt;obtain ⟨b, hb⟩ := zaE (xs := bs) (i := i) (by omega);refine zlu ?_;refine zlF ?_;refine zmc 20 ?_;simp only [seval, za2 hd, zdh hb, zaz hlt, zaz (get_lt hb)];refine zoE (fun h2 => ?_) (fun h2 => ?_)
  ·have h2 : b.min <= d := (by simpa using h2);(try simp only [seval, za2 hd, zdh hb, zaz hlt, zaz (get_lt hb)]);refine zlj ?_;refine ⟨fun h3 => ?_, fun h3 => ?_⟩
   ·have h3 : ¬ d <= b.max := (by simpa using h3);refine zhC ?_;refine zlA ?_;rw [hi, zcK hd hb, decide_eq_false h3, Bool.and_false, Bool.false_and] at hk;exact zao hk
   ·have h3 : d <= b.max := (by simpa using h3);refine zlu ?_;refine zhC ?_;refine hR _ ⟨hlt, ?_, ?_⟩
    ·rw [hi, zcK hd hb, decide_eq_true h2, decide_eq_true h3]; rfl
    ·rw [zau _ (by omega)];exact zl7
  ·have h2 : ¬ b.min <= d := (by simpa using h2);(try simp only [seval, za2 hd, zdh hb, zaz hlt, zaz (get_lt hb)]);refine zlj ?_;refine zhC ?_;refine zlA ?_;rw [hi, zcK hd hb, decide_eq_false h2, Bool.false_and, Bool.false_and] at hk;exact zao hk
 ·have hix : i = ds.length := by omega
  subst hix;refine zl4 ?_;refine zhC ?_;refine zlA ?_;rw [hi, List.drop_length, zni] at hk;exact zao hk
inductive Wks : List AV -> List AV -> Prop
 | nil : Wks [] []
 | cons {a b : AV} {l m : List AV} (h : Wk a b) (t : Wks l m) : Wks (a :: l) (b :: m)
theorem Wks.len {l m : List AV} (h : Wks l m) : l.length = m.length := by
 induction h with
 | nil => rfl
 | cons _ _ ih => simp [ih]
theorem Wks.at {l m : List AV} (h : Wks l m) : ∀ (i : Nat) (a b : AV), m[i]? = some a -> l[i]? = some b -> Wk b a := by
 induction h with
 | nil => intro i a b h; simp at h
 | cons h _ ih =>
  intro i a b h1 h2
  match i with
  | 0 => cases h1; cases h2; exact h
  | i + 1 => exact ih i a b h1 h2
theorem zhX {l l' : List AV} (h : Wks l l') : Wk (.agg l) (.agg l') := fun E v hd => by
 cases hd with
 | agg hs h1 =>
  refine .agg (by rw [hs, h.len]) fun i x hx => ?_;obtain ⟨y, hy⟩ := zaE (xs := l) (i := i) (by rw [h.len]; exact get_lt hx);exact h.at i x y hx hy E _ (h1 i y hy)
theorem ztJ {n : Nat} {l l' : List AV} {e : End} (h : Wks l l') : Wk (.sl n l e) (.sl n l' .shut) := zhW (zeg h.len h.at) (zaK _ _ _)
theorem zr2 : zmx (Value.int .i64 0) 2 = [iv 0, iv 0] := rfl
theorem zr3 : zmx (Value.int .i64 0) 3 = [iv 0, iv 0, iv 0] := rfl
theorem zk3 : zmx (.agg #[.slice none 0 0, .int .i64 0, .int .i64 0]) 3 = [.sl 0 [] .exact, iv 0, iv 0] := rfl
theorem zk9 : zmx (.agg #[.slice none 0 0, .int .i64 0, .int .i64 0]) 9 = [.sl 0 [] .exact, iv 0, iv 0, .sl 0 [] .exact, iv 0, iv 0, .sl 0 [] .exact, iv 0, iv 0] := rfl
theorem zb2 : zmx (.agg #[.int .i64 0, .int .i64 0]) 2 = [iv 0, iv 0] := rfl
theorem zb4 : zmx (.agg #[.int .i64 0, .int .i64 0]) 4 = [iv 0, iv 0, iv 0, iv 0] := rfl
theorem zs3 : zmx (Value.slice none 0 0) 3 = [.sl 0 [] .exact, .sl 0 [] .exact, .sl 0 [] .exact] := rfl
theorem zt3 : zmx (.agg #[.int .i64 0, .int .i64 0, .bool false]) 3 = [iv 0, iv 0, bv false] := rfl
theorem zu2 : zmx (.agg #[.int .i64 0, .bool false]) 2 = [iv 0, bv false] := rfl
theorem zuk : (4 <= 2 ^ 24) = True := by simp
theorem p24_9 : (9 <= 2 ^ 24) = True := by simp
theorem zhq : (1 <= 2 ^ 24) = True := by simp
theorem zes : (2 <= 2 ^ 24) = True := by simp
theorem zd5 : (3 <= 2 ^ 24) = True := by simp
theorem zul : (0 <= 2 ^ 24) = True := by simp
theorem zkE (x : List Int) : (aInts x).leaf = true := rfl
theorem zfd (x : List Band) : (aBands x).leaf = true := rfl
theorem zkC (x : List Key) : (zmv x).leaf = true := rfl
theorem zjd (x : List (List Band)) : (zml x).leaf = true := rfl
theorem zjc (x : List Try) : (zmm x).leaf = true := rfl
attribute [seval] zkE zfd zkC zjd zjc
theorem zfC (n : Nat) (x : Ring) : Lt n x.av = True := by simp [Ring.av, Ring.l, zfa, zc5, zci, zch, zap, iv]
theorem f81_c {lo hi : Int} (hk : k (Band.mk lo hi).av H) : FnC lv Tryz.prog 81 H [iv lo, iv hi] k kp := by
 refine zlV (rs := [.cell 4 63]) (nt := 8) Tryz.f81 fun hH hA => ?_;simp only [zma, Nat.reduceAdd];refine zhC ?_;refine zhC ?_;refine zlA ?_;exact endA (b := (Band.mk lo hi).av) hH (Wk.refl _) (by simp [zap, zfa, Band.av, Band.l, iv]) hk
theorem f149_c {lo hi : Int} {xs : List Int} {e : End} (hk : k (Key.mk xs ⟨lo, hi⟩).av H) : FnC lv Tryz.prog 149 H [iv lo, iv hi, .sl xs.length (xs.map iv) e] k kp := by
 refine zlV (rs := [.cell 6 65]) (nt := 12) Tryz.f149 fun hH hA => ?_;simp only [zma, Nat.reduceAdd];refine zhC ?_;refine zhC ?_;refine zl6 ((f81_c ?_));(try simp only [seval, Band.av, Band.l]);refine zlA ?_;exact endA (b := (Key.mk xs ⟨lo, hi⟩).av) hH (zhX (.cons (zaK _ _ _) (.cons (Wk.refl _) (.cons (Wk.refl _) .nil)))) (by simp [zap, zfa, Key.av, Key.l, iv, zbi]) hk
theorem f80_c {ts : List Try} {e : End} (hts : ts.length < 2 ^ 30) (hk : k (exR ts).av H) : FnC lv Tryz.prog 80 H [.sl ts.length (ts.flatMap Try.l) e] k kp := by
 refine zlV (rs := [.cell 2 26]) (nt := 22) Tryz.f80 fun hH hA => ?_;simp only [zma, Nat.reduceAdd];refine zhC ?_;refine zl5 ?_;simp only [seval, zr2, zes];refine zl6 ((f149_c (xs := [3, 1]) ?_));(try simp only [seval, Key.av, Key.l, zr2, zes]);refine zl6 ((f149_c (xs := [2, 2]) ?_));(try simp only [seval, Key.av, Key.l, zr2, zes]);refine zl6 ((f149_c (xs := [1, 3]) ?_));(try simp only [seval, Key.av, Key.l, zk9, p24_9]);refine zl6 ((f81_c ?_));(try simp only [seval, Band.av, Band.l]);refine zl6 ((f81_c ?_));(try simp only [seval, Band.av, Band.l, zb4, zuk]);refine zl6 ((f81_c ?_));(try simp only [seval, Band.av, Band.l]);refine zl6 ((f81_c ?_));(try simp only [seval, Band.av, Band.l, zb4, zuk]);refine zl6 ((f81_c ?_));(try simp only [seval, Band.av, Band.l]);refine zl6 ((f81_c ?_));(try simp only [seval, Band.av, Band.l, zb4, zs3, zuk, zd5]);refine zlA ?_;exact endA (b := (exR ts).av) hH (zhX (.cons (Wk.refl _) (.cons (zaK _ _ _) (.cons (ztJ (.cons (zaK _ _ _) (.cons (zaK _ _ _) (.cons (zaK _ _ _) .nil)))) (.cons (zaK _ _ _) .nil))))) (by rw [zfC]; trivial) hk
theorem f82_c (hk : k exLast.av H) : FnC lv Tryz.prog 82 H [] k kp := by
 refine zlV (rs := [.cell 0 28]) (nt := 2) Tryz.f82 fun hH hA => ?_;simp only [zma, Nat.reduceAdd];refine zhC ?_;refine zhC ?_;refine zlA ?_;exact endA (b := exLast.av) hH (Wk.refl _) (by simp [zap, zfa, Try.av, Try.l, exLast, iv, bv]) hk
theorem f83_c (hk : k exNever.av H) : FnC lv Tryz.prog 83 H [] k kp := by
 refine zlV (rs := [.cell 0 28]) (nt := 2) Tryz.f83 fun hH hA => ?_;simp only [zma, Nat.reduceAdd];refine zhC ?_;refine zhC ?_;refine zlA ?_;exact endA (b := exNever.av) hH (Wk.refl _) (by simp [zap, zfa, Try.av, Try.l, exNever, iv, bv]) hk
theorem f34_same {xs : List Int} {e e' : End} (hx : xs.length < 2 ^ 60) (hk : k (bv true) H) : FnC lv Tryz.prog 34 H [.sl xs.length (xs.map iv) e, .sl xs.length (xs.map iv) e'] k kp :=
 f34_c hx (by rw [decide_eq_true rfl]; exact hk)
theorem f84_c (hk : k exOne.av H) : FnC lv Tryz.prog 84 H [] k kp := by
 refine zlV (rs := [.cell 0 26]) (nt := 8) Tryz.f84 fun hH hA => ?_;simp only [zma, Nat.reduceAdd];refine zhC ?_;refine zhC ?_;refine zl6 ((f80_c (ts := []) (by decide) ?_));(try simp only [seval, Ring.av, Ring.l, exR]);refine zl5 ?_;simp only [seval, zmv, List.flatMap_cons, List.flatMap_nil, Key.l, Bool.false_and, ite_self];refine zhC ?_;refine zlA ?_;exact endA (b := exOne.av) hH (Wk.refl _) (by rw [zfC]; trivial) hk
end
def zoZ (sm : Bool) (p : List Band × TinS) (d : Int) : List Band × TinS :=
 if sm then (p.1 ++ [⟨znq (tick (tick p.2)) d, zm5 (tick (tick (tick p.2))) d 3⟩], tick (tick (tick (tick p.2)))) else (p.1 ++ [zn0 p.2 0 3], tick (tick p.2))
def zne (sm : Bool) (τ : TinS) (ds : List Int) (i : Nat) : List Band × TinS := (ds.take i).foldl (zoZ sm) ([], τ)
def zoU (sm : Bool) (τ : TinS) (ds : List Int) : List Band × TinS := ds.foldl (zoZ sm) ([], τ)
theorem zez {sm : Bool} {τ : TinS} {ds : List Int} {i : Nat} {d : Int} (h : ds[i]? = some d) : zne sm τ ds (i + 1) = zoZ sm (zne sm τ ds i) d := by
 obtain ⟨hj, rfl⟩ := List.getElem?_eq_some_iff.1 h;unfold zne;rw [List.take_succ_eq_append_getElem hj, List.foldl_append]; rfl
theorem zcw {sm : Bool} {τ : TinS} {ds : List Int} {b : Int} (hτ : τ.Ok b) (hds : ∀ d ∈ ds, 0 <= d /\ d <= 3) : ∀ i, i <= ds.length -> (zne sm τ ds i).1.length = i /\ (zne sm τ ds i).2.Ok (b + 4 * i) /\ ∀ y ∈ (zne sm τ ds i).1, y.Ok 3
 | 0, _ => ⟨rfl, by have := hτ.mono (b' := b + 4 * (0 : Nat)) (by omega); exact this, by simp [zne]⟩
 | i + 1, h => by
  obtain ⟨d, hd⟩ := zaE (xs := ds) (i := i) (by omega);obtain ⟨h1, h2, h3⟩ := zcw (sm := sm) hτ hds i (by omega);obtain ⟨hd0, hd3⟩ := hds d (zas hd);rw [zez hd];unfold zoZ;cases sm with
  | true =>
   simp only [if_true];refine ⟨by simp [h1], h2.tick.tick.tick.tick.mono (by omega), fun y hy => ?_⟩;rcases List.mem_append.1 hy with hy | hy
   ·exact h3 y hy
   ·rw [List.mem_singleton.1 hy];have e1 := zaX (tick (tick (zne true τ ds i).2)) d;have e2 := za1 (tick (tick (tick (zne true τ ds i).2))) hd3;exact ⟨e1.1, e2.2, by show znq _ d <= zm5 _ d 3; omega⟩
  | false =>
   simp only [Bool.false_eq_true, if_false];refine ⟨by simp [h1], h2.tick.tick.mono (by omega), fun y hy => ?_⟩;rcases List.mem_append.1 hy with hy | hy
   ·exact h3 y hy
   ·rw [List.mem_singleton.1 hy];have e := zir (zne false τ ds i).2 (show (0 : Int) <= 3 by decide);exact ⟨e.1, e.2.2, e.2.1⟩
theorem zld (bs : List Band) : (bs.flatMap Band.l).length = bs.length * 2 := by
 induction bs with
 | nil => rfl
 | cons b bs ih => rw [List.flatMap_cons, List.length_append, ih]; simp [Band.l]; omega
theorem zgH (bs : List Band) (b : Band) : (bs ++ [b]).flatMap Band.l = bs.flatMap Band.l ++ [iv b.min, iv b.max] := by simp [Band.l]
theorem zkv (n m k : Nat) (bs : List Band) : Lt n (.sl m (bs.flatMap Band.l) (.opn k)) = (k < n) := by
 rw [zdq, eq_iff_iff];refine ⟨fun h => h.1, fun h => ⟨h, fun a ha => ?_⟩⟩;have := zfD n bs;rw [aBands, za3] at this;exact this.mpr trivial a ha
section
variable {lv : Bool} {k kp : AV -> List AObj -> Prop} {Gf : TinS -> List AObj} {t N : Nat} {τ : TinS} {b : Int}
theorem f127_c {ds : List Int} {sm : Bool} (hT : TinAt Gf t N) (hτ : τ.Ok b) (hb : b < 2 ^ 40) (hds : ∀ d ∈ ds, 0 <= d /\ d <= 3) (hl : ds.length <= 4) (hk : k (aBands (zoU sm τ ds).1) (Gf (zoU sm τ ds).2)) : FnC lv Tryz.prog 127 (Gf τ) [.op t 0, aInts ds, bv sm] k kp := by
 refine zlV (rs := [.tmp 6]) (nt := 37) Tryz.f127 fun hH hA => ?_;simp only [zma, Nat.reduceAdd, aInts];have hokT : ∀ τ' n, HOk (Gf τ' ++ [.tail n 2 63]) := fun τ' n => zc6 (hT.hok hH τ') fun z hz m => by rw [List.mem_singleton.1 hz]; trivial
 refine zhC ?_;refine zhC ?_
 (repeat apply zaa); refine zbV (t := 7) (sz := 2) (el := 63) (by simp only [seval] <;> rfl) ?_
 refine zl5 ?_;simp only [seval, hT.an];refine zlF ?_;refine zaB ds.length (fun i : Nat => [(7, .sl i ((zne sm τ ds i).1.flatMap Band.l) (.opn N)), (8, iv i)]) (fun i => Gf (zne sm τ ds i).2 ++ [.tail i 2 63]) (fun i => True) (fun _ _ => rfl) (by simp only [seval]; simp [zaf, Wk.refl]; exact Wk.refl _) rfl (fun _ _ _ => by simp [hT.len]) trivial (fun hHs hLt i hin hi R hR => ?_);obtain ⟨hpl, hpo, hpb⟩ := zcw (sm := sm) hτ hds i hin;refine zhC ?_;refine zlj ?_;refine ⟨fun h => ?_, fun h => ?_⟩
 ·have hlt : i < ds.length := by omega
  obtain ⟨d, hd⟩ := zaE hlt;obtain ⟨hd0, hd3⟩ := hds d (zas hd);have hsucc := zez (sm := sm) (τ := τ) hd;have hw2 : IntKind.i64.wrap ((i : Int) + 1) = i + 1 := zau _ (by omega);generalize zne sm τ ds i = p at *;obtain ⟨bs, τ'⟩ := p;simp only at hpl hpo hpb;have hbl : (bs.flatMap Band.l).length = i * 2 := by rw [zld, hpl]
  refine zlu ?_;refine zl5 ?_;simp only [seval, hT.an];refine zl6 ((f126_c (hT.more _) hpo (by omega) (by omega) (by omega) ?_));(try simp only [seval, Band.av, Band.l, hT.an]);refine zl5 ?_;simp only [seval, hT.an];refine zlj ?_;refine ⟨fun h2 => ?_, fun h2 => ?_⟩
  ·subst h2;refine zmR [5, 11, 13] [0, 1, 2, 3, 4, 5, 6, 7, 8, 9, 10, 11, 12, 13] [⟨0, false, [], []⟩, ⟨1, false, [], []⟩, ⟨2, false, [], []⟩, ⟨3, false, [], []⟩, ⟨4, false, [], []⟩, ⟨5, true, [5], []⟩, ⟨6, false, [5], [([], [])]⟩, ⟨7, false, [5], [([], [])]⟩, ⟨8, false, [5], [([], [])]⟩, ⟨9, false, [5], [([], [])]⟩, ⟨10, false, [5], [([], [])]⟩, ⟨11, true, [5, 11], []⟩, ⟨12, false, [5, 11], []⟩, ⟨13, true, [5, 11, 13], []⟩] (fun D => bif zmz 13 D then Gf (tick (tick (tick (tick τ')))) ++ [.tail i 2 63, .cells [iv (znq (tick (tick τ')) d), iv (zm5 (tick (tick (tick τ'))) d 3)] 63] else bif zmz 11 D then Gf (tick (tick (tick (tick τ')))) ++ [.tail i 2 63, .cells [iv (zn0 τ' 0 3).min, iv (zn0 τ' 0 3).max] 63] else bif zmz 5 D then Gf (tick (tick (tick τ'))) ++ [.tail i 2 63, .cells [iv (zn0 τ' 0 3).min, iv (zn0 τ' 0 3).max] 63] else Gf (tick (tick τ')) ++ [.tail i 2 63, .cells [iv (zn0 τ' 0 3).min, iv (zn0 τ' 0 3).max] 63]) ?_;simp only [seval, za2 hd, zaz hlt, hT.an];refine zpd (iv (znq (tick (tick τ')) d)) (Gf (tick (tick (tick τ'))) ++ [.tail i 2 63, .cells [iv (zn0 τ' 0 3).min, iv (zn0 τ' 0 3).max] 63]) (zmg (f29_c (hT.more _) hpo.tick.tick (by omega) (by omega) ⟨rfl, rfl⟩)) ?_;(try simp only [seval, za2 hd, zaz hlt, hT.an]);refine zpd (iv (zm5 (tick (tick (tick τ'))) d 3)) (Gf (tick (tick (tick (tick τ')))) ++ [.tail i 2 63, .cells [iv (zn0 τ' 0 3).min, iv (zn0 τ' 0 3).max] 63]) (zmg (f125_c (hT.more _) hpo.tick.tick.tick (by omega) (by omega) (by omega) ⟨rfl, rfl⟩)) ?_;(try simp only [seval, za2 hd, zaz hlt, hT.an]);have hlk : zne true τ ds (i + 1) = (bs ++ [⟨znq (tick (tick τ')) d, zm5 (tick (tick (tick τ'))) d 3⟩], tick (tick (tick (tick τ')))) := (by rw [hsucc]; rfl);refine zl5 ?_;simp only [seval, zb2, zes, hbl, hT.an];refine ⟨by omega, ?_⟩;refine zl5 ?_;simp only [seval, hw2];refine hR _ ⟨hlt, trivial, ?_⟩;rw [hlk];refine zat (zam rfl rfl) (by rw [zgH]; simp only [seval]; simp [zaf, Wk.refl]) (hokT _ _) (by simp only [List.forall_mem_cons, zap, zkv, iv]; simp [hT.len])
  ·have h2 : sm = false := (by simpa using h2);subst h2;refine zlu ?_;have hlk : zne false τ ds (i + 1) = (bs ++ [zn0 τ' 0 3], tick (tick τ')) := (by rw [hsucc]; rfl);refine zl5 ?_;simp only [seval, zb2, zes, hbl, hT.an];refine ⟨by omega, ?_⟩;refine zl5 ?_;simp only [seval, hw2];refine hR _ ⟨hlt, trivial, ?_⟩;rw [hlk];refine zat (zam rfl rfl) (by rw [zgH]; simp only [seval]; simp [zaf, Wk.refl]) (hokT _ _) (by simp only [List.forall_mem_cons, zap, zkv, iv]; simp [hT.len])
 ·have hix : i = ds.length := by omega
  subst hix;refine zl4 ?_;refine zhC ?_;refine zlA ?_;have e : zne sm τ ds ds.length = zoU sm τ ds := by unfold zne zoU; rw [List.take_length]
  rw [e] at hpl ⊢;rw [aBands, hpl] at hk;rw [<- hT.len (zoU sm τ ds).2];exact endA (hT.hok hH _) (zaK _ _ _) (by rw [<- hpl, <- aBands.eq_1, zfD]; trivial) hk
end
section
variable {Gf : TinS -> List AObj} {t N : Nat} (h : TinAt Gf t N)
include h
theorem TinAt.hi (i : Nat) (τ : TinS) (L : List AObj) : (Gf τ ++ L)[N + i]? = L[i]? := by have := zco (Gf τ) L i; rwa [h.len] at this
theorem TinAt.ti (i : Nat) (τ : TinS) (L : List AObj) (x : AObj) : (Gf τ ++ L).set (N + i) x = Gf τ ++ L.set i x := by have := zbR (Gf τ) L i x; rwa [h.len] at this
theorem TinAt.h4 : type_of% (h.hi 4) := h.hi 4
theorem TinAt.h5 : type_of% (h.hi 5) := h.hi 5
theorem TinAt.h6 : type_of% (h.hi 6) := h.hi 6
theorem TinAt.h7 : type_of% (h.hi 7) := h.hi 7
theorem TinAt.h8 : type_of% (h.hi 8) := h.hi 8
theorem TinAt.t4 : type_of% (h.ti 4) := h.ti 4
theorem TinAt.t5 : type_of% (h.ti 5) := h.ti 5
theorem TinAt.t6 : type_of% (h.ti 6) := h.ti 6
theorem TinAt.t7 : type_of% (h.ti 7) := h.ti 7
theorem TinAt.t8 : type_of% (h.ti 8) := h.ti 8
end
theorem TinAt.am {Gf : TinS -> List AObj} {t N : Nat} (h : TinAt Gf t N) : (type_of% h.len) /\ (type_of% h.g0) /\ (type_of% h.g1) /\ (type_of% h.h2) /\ (type_of% h.h3) /\ (type_of% h.h4) /\ (type_of% h.h5) /\ (type_of% h.h6) /\ (type_of% h.h7) /\ (type_of% h.h8) /\ (type_of% h.s0) /\ (type_of% h.s1) /\ (type_of% h.t2) /\ (type_of% h.t3) /\ (type_of% h.t4) /\ (type_of% h.t5) /\ (type_of% h.t6) /\ (type_of% h.t7) /\ (type_of% h.t8) := ⟨h.len, h.g0, h.g1, h.h2, h.h3, h.h4, h.h5, h.h6, h.h7, h.h8, h.s0, h.s1, h.t2, h.t3, h.t4, h.t5, h.t6, h.t7, h.t8⟩
theorem zho (bs : List Band) : (aBands bs).parts = some [aBands bs] := rfl
structure KeysP (c : Int) (ks : List Key) (ws : List Int) : Prop where
 len : ws.length = ks.length
 key : ∀ y ∈ ks, (y.cuts.length : Int) = c /\ (∀ n ∈ y.cuts, 0 <= n /\ n <= 3) /\ y.wear.Ok 2
 worn : ∀ (i : Nat) y w, ks[i]? = some y -> ws[i]? = some w -> y.wear.min <= w /\ w <= y.wear.max
theorem KeysP.snoc {c : Int} {ks : List Key} {ws : List Int} (h : KeysP c ks ws) {y : Key} {w : Int} (hc : (y.cuts.length : Int) = c) (hn : ∀ n ∈ y.cuts, 0 <= n /\ n <= 3) (hb : y.wear.Ok 2) (hw : y.wear.min <= w /\ w <= y.wear.max) : KeysP c (ks ++ [y]) (ws ++ [w]) where
 len := by simp [h.len]
 key := fun z hz => by
  rcases List.mem_append.1 hz with hz | hz
  ·exact h.key z hz
  ·rw [List.mem_singleton.1 hz]; exact ⟨hc, hn, hb⟩
 worn := fun i z v h1 h2 => by
  by_cases hi : i < ks.length
  ·rw [List.getElem?_append_left hi] at h1;rw [List.getElem?_append_left (by rw [h.len]; exact hi)] at h2;exact h.worn i z v h1 h2
  ·have hi2 : i = ks.length := (by have := get_lt h1; simp at this; omega);subst hi2;rw [List.getElem?_append_right (Nat.le_refl _)] at h1;rw [<- h.len, List.getElem?_append_right (Nat.le_refl _)] at h2;simp at h1 h2;subst h1 h2;exact hw
def zmG (ks : List Key) (ws : List Int) (ls : List (List Band)) (k l : Int) : Bool := zni (zmn (ws.getD k.toNat 0) ((ks[k.toNat]?).map (·.cuts) |>.getD [])) (ls.getD l.toNat [])
structure RingP (K L T : Nat) (wr : Bool) (x : Ring) (ws : List Int) : Prop where
 cuts : 1 <= x.cuts /\ x.cuts <= 3
 keys : 1 <= x.keys.length /\ x.keys.length <= K
 kp : KeysP x.cuts x.keys ws
 locks : x.locks.length <= L
 lock : ∀ l ∈ x.locks, (l.length : Int) = x.cuts /\ ∀ b ∈ l, b.Ok 3
 tries : x.tries.length <= T
 tried : ∀ t ∈ x.tries, (0 <= t.key /\ t.key < x.keys.length) /\ 0 <= t.lock /\ t.lock < x.locks.length
 told : wr = false -> ∀ t ∈ x.tries, t.opens = zmG x.keys ws x.locks t.key t.lock
theorem zqk (ks : List Key) : (ks.flatMap Key.l).length = ks.length * 3 := by
 induction ks with
 | nil => rfl
 | cons b bs ih => rw [List.flatMap_cons, List.length_append, ih]; simp [Key.l]; omega
theorem zf5 (ks : List Try) : (ks.flatMap Try.l).length = ks.length * 3 := by
 induction ks with
 | nil => rfl
 | cons b bs ih => rw [List.flatMap_cons, List.length_append, ih]; simp [Try.l]; omega
theorem zux (n m k : Nat) (bs : List Key) : Lt n (.sl m (bs.flatMap Key.l) (.opn k)) = (k < n) := by
 rw [zdq, eq_iff_iff];refine ⟨fun h => h.1, fun h => ⟨h, fun a ha => ?_⟩⟩;have := zc5 n bs;rw [zmv, za3] at this;exact this.mpr trivial a ha
theorem zuv (n m k : Nat) (bs : List Try) : Lt n (.sl m (bs.flatMap Try.l) (.opn k)) = (k < n) := by
 rw [zdq, eq_iff_iff];refine ⟨fun h => h.1, fun h => ⟨h, fun a ha => ?_⟩⟩;have := zch n bs;rw [zmm, za3] at this;exact this.mpr trivial a ha
theorem zuw (n m k : Nat) (bs : List (List Band)) : Lt n (.sl m (bs.map aBands) (.opn k)) = (k < n) := by
 rw [zdq, eq_iff_iff];refine ⟨fun h => h.1, fun h => ⟨h, fun a ha => ?_⟩⟩;have := zci n bs;rw [zml, za3] at this;exact this.mpr trivial a ha
theorem zuy (n m k : Nat) (bs : List Int) : Lt n (.sl m (bs.map iv) (.opn k)) = (k < n) := by
 rw [zdq, eq_iff_iff];refine ⟨fun h => h.1, fun h => ⟨h, fun a ha => ?_⟩⟩;have := zbi n bs;rw [aInts, za3] at this;exact this.mpr trivial a ha
def roL (N : Nat) (c : Int) (ks : List Key) (ls : List (List Band)) (ts : List Try) : List AObj :=
 [.cells [iv 0, .sl 0 [] .exact, .sl 0 [] .exact, .sl 0 [] .exact] 26, .cells [iv c, .sl ks.length (ks.flatMap Key.l) (.opn (N + 2)), .sl ls.length (ls.map aBands) (.opn (N + 3)), .sl ts.length (ts.flatMap Try.l) (.opn (N + 4))] 26, .tail ks.length 3 65, .tail ls.length 1 29, .tail ts.length 3 28, .tail ks.length 1 3]
def roE (N : Nat) (c : Int) (ks : List Key) (ls : List (List Band)) (ts : List Try) : List AObj := .cells [iv c, .sl ks.length (ks.flatMap Key.l) (.opn (N + 2)), .sl ls.length (ls.map aBands) (.opn (N + 3)), .sl ts.length (ts.flatMap Try.l) (.opn (N + 4))] 26 :: (roL N c ks ls ts).tail
def roK (N : Nat) (c : Int) (ks : List Key) (cs : List Int) : List AObj := roL N c ks [] [] ++ [.cells [.sl cs.length (cs.map iv) (.opn (N + 7)), iv 0, iv 0] 65, .tail cs.length 1 3]
theorem zrz (N : Nat) (c : Int) (ks : List Key) (cs : List Int) (v : Int) : roK N c ks (cs ++ [v]) = roL N c ks [] [] ++ [.cells [.sl (cs.length + 1) (cs.map iv ++ [iv v]) (.opn (N + 7)), iv 0, iv 0] 65, .tail (cs.length + 1) 1 3] := by simp [roK]
def roM (N : Nat) (c : Int) (nk : Nat) (kl : List AV) (n1 n2 : Nat) (cs : List Int) (bd : Band) : List AObj := [.cells [iv 0, .sl 0 [] .exact, .sl 0 [] .exact, .sl 0 [] .exact] 26, .cells [iv c, .sl nk kl (.opn (N + 2)), .sl 0 [] (.opn (N + 3)), .sl 0 [] (.opn (N + 4))] 26, .tail n1 3 65, .tail 0 1 29, .tail 0 3 28, .tail n2 1 3, .cells [.sl cs.length (cs.map iv) .shut, iv bd.min, iv bd.max] 65, .tail cs.length 1 3]
def roP (N : Nat) (c : Int) (ks : List Key) (nl : Nat) (ll : List AV) (n1 : Nat) : List AObj := [.cells [iv 0, .sl 0 [] .exact, .sl 0 [] .exact, .sl 0 [] .exact] 26, .cells [iv c, .sl ks.length (ks.flatMap Key.l) (.opn (N + 2)), .sl nl ll (.opn (N + 3)), .sl 0 [] (.opn (N + 4))] 26, .tail ks.length 3 65, .tail n1 1 29, .tail 0 3 28, .tail ks.length 1 3]
theorem zce {base Vi Vn T : List (Nat × AV)} {H H' : List AObj} (G : List AObj) (hk : Keeps T (Vi ++ base) Vn) (hv : ∀ p ∈ Vn, ∃ b, look T p.1 = some b /\ Wk b p.2) (hok : HOk H) (hlt : ∀ p ∈ Vn, Lt H.length p.2) (hG : H' = H ++ G) : znB base Vi Vn H ⟨T, H'⟩ := ⟨hk, hv, G, hG, .inr ⟨hok, hlt⟩⟩
theorem zh9 {Gf : TinS -> List AObj} {t N : Nat} (h : TinAt Gf t N) {τ : TinS} (hH : HOk (Gf τ)) (τ' : TinS) (c : Int) (ks : List Key) (ls : List (List Band)) (ts : List Try) : HOk (Gf τ' ++ roL N c ks ls ts) := fun z hz => by
 rcases List.mem_append.1 hz with hz | hz
 ·exact (h.hok hH τ' z hz).mono (by simp)
 ·simp only [roL, List.mem_cons, List.not_mem_nil, or_false] at hz;have hl : (Gf τ' ++ roL N c ks ls ts).length = N + 6 := by simp [h.len, roL]
  rw [hl];rcases hz with rfl | rfl | rfl | rfl | rfl | rfl
  ·intro a ha; simp [iv] at ha; rcases ha with rfl | rfl <;> simp [zap, zbh]
  ·intro a ha;simp only [List.mem_cons, List.not_mem_nil, or_false] at ha;rcases ha with rfl | rfl | rfl | rfl
   ·exact .val _
   ·rw [zux]; omega
   ·rw [zuw]; omega
   ·rw [zuv]; omega
  all_goals trivial
section
variable {lv : Bool} {k kp : AV -> List AObj -> Prop} {Gf : TinS -> List AObj} {t N : Nat} {τ : TinS} {b : Int}
set_option maxHeartbeats 2000000 in
theorem f49_g {K L T : Nat} {wr : Bool} (hT : TinAt Gf t N) (hτ : τ.Ok b) (hb : b < 2 ^ 30) (hK : 1 <= K /\ K <= 4) (hL : L <= 4) (hTn : T <= 6)
  (hk : ∀ x ws τ', RingP K L T wr x ws -> τ'.Ok (b + 1000) -> HOk (Gf τ') -> ws.length = x.keys.length -> zmZ N (Gf τ' ++ roE N x.cuts x.keys x.locks x.tries) (.tup [.agg [iv x.cuts, .sl x.keys.length (x.keys.flatMap Key.l) (.opn (N + 2)), .sl x.locks.length (x.locks.map aBands) (.opn (N + 3)), .sl x.tries.length (x.tries.flatMap Try.l) (.opn (N + 4))], .sl x.keys.length (ws.map iv) (.opn (N + 5))]) k) : FnC lv Tryz.prog 49 (Gf τ) [.op t 0, iv K, iv L, iv T, bv wr] k kp := by
 refine zlV (rs := [.cell 10 26, .tmp 11]) (nt := 162) Tryz.f49 fun hH hA => ?_;simp only [zma, Nat.reduceAdd];refine zhC ?_;refine zl5 ?_;simp only [seval, hT.am];refine zl6 ((f125_c (hT.more _) hτ (by omega) (by omega) (by omega) ?_));try simp only [seval, hT.am]
 (repeat apply zaa); refine zdw (id := N + 1) (j := 1) (sz := 3) (el' := 65) (by simp only [seval, hT.am] <;> rfl) rfl ?_
 try simp only [seval, hT.am]
 (repeat apply zaa); refine zdw (id := N + 1) (j := 2) (sz := 1) (el' := 29) (by simp only [seval, hT.am] <;> rfl) rfl ?_
 try simp only [seval, hT.am]
 (repeat apply zaa); refine zdw (id := N + 1) (j := 3) (sz := 3) (el' := 28) (by simp only [seval, hT.am] <;> rfl) rfl ?_
 (try simp only [seval, hT.am]);refine zhC ?_
 (repeat apply zaa); refine zbV (t := 13) (sz := 1) (el := 3) (by simp only [seval] <;> rfl) ?_
 (try simp only [seval, hT.am]);have hc := za1 τ (show (1 : Int) <= 3 by decide);generalize hcd : zm5 τ 1 3 = c at hc ⊢;refine zl5 ?_;simp only [seval, hT.am];refine zl6 ((f125_c (hT.more _) hτ.tick (by omega) (by omega) (by omega) ?_));(try simp only [seval, hT.am]);have ht := za1 (tick τ) (show (1 : Int) <= K by omega);generalize zm5 (tick τ) 1 K = tot at ht;obtain ⟨tot, rfl⟩ : ∃ n : Nat, tot = n := ⟨tot.toNat, by omega⟩;refine zlF ?_;refine za9 (measure fun m : List Key × List Int × TinS => tot - m.1.length).wf (fun m => [(14, iv ((tot : Int) - m.1.length)), (13, .sl m.1.length (m.2.1.map iv) (.opn (N + 5)))]) (fun m => Gf m.2.2 ++ roL N c m.1 [] []) (fun m => KeysP c m.1 m.2.1 /\ m.1.length <= tot /\ m.2.2.Ok (b + 2 + 10 * m.1.length)) ([], [], tick (tick τ)) (fun _ _ => rfl) (by simp only [seval]; simp [zaf, Wk.refl]) rfl (fun _ _ => by simp [hT.len, roL]) ⟨⟨rfl, by simp, by simp⟩, by simp, hτ.tick.tick.mono (by simp only [List.length_nil]; omega)⟩ (fun hHs hLt m hok R hR => ?_);clear hHs hLt;obtain ⟨ks, ws, τ'⟩ := m;obtain ⟨hkp, hkt, hto⟩ := hok;simp only at hkp hkt hto;refine zl5 ?_;simp only [seval, roL, List.flatMap_nil, hT.am];refine zlj ?_;refine ⟨fun h => ?_, fun h => ?_⟩
 ·have hlt : ks.length < tot := by omega
  refine zlu ?_;refine zl5 ?_;simp only [seval, hT.am]
  (repeat apply zaa); refine zdw (id := N + 6) (j := 0) (sz := 1) (el' := 3) (by simp only [seval, hT.am] <;> rfl) rfl ?_
  (try simp only [seval, hT.am]);refine zl5 ?_;simp only [seval, hT.am];refine zlF ?_;refine za9 (measure fun m : List Int × TinS => c.toNat - m.1.length).wf (fun m => [(16, iv m.1.length)]) (fun m => Gf m.2 ++ roK N c ks m.1) (fun m => m.1.length <= c.toNat /\ (∀ n ∈ m.1, 0 <= n /\ n <= 3) /\ m.2.Ok (b + 2 + 10 * ks.length + m.1.length)) ([], τ') (fun _ _ => rfl) (by simp only [seval]; simp [zaf, Wk.refl]) rfl (fun _ _ => by simp [hT.len, roK, roL]) ⟨by simp, by simp, hto.mono (by simp)⟩ (fun hHs2 hLt2 m2 hok2 R2 hR2 => ?_);clear hHs2 hLt2;obtain ⟨cs, τ''⟩ := m2;obtain ⟨hcl, hcb, hto2⟩ := hok2;simp only at hcl hcb hto2;refine zl5 ?_;simp only [seval, roK, roL, List.flatMap_nil, hT.am];refine zlj ?_;refine ⟨fun h2 => ?_, fun h2 => ?_⟩
  ·have hw2 : IntKind.i64.wrap ((cs.length : Int) + 1) = cs.length + 1 := zau _ (by omega);have hv := zaX τ'' 3;refine zlu ?_;refine zlF ?_;refine zmR [3, 5, 7] [0, 1, 2, 3, 4, 5, 6, 7] [⟨0, false, [], [([3], [3])]⟩, ⟨1, false, [], [([3], [3])]⟩, ⟨2, false, [], []⟩, ⟨3, true, [3], []⟩, ⟨4, false, [3], []⟩, ⟨5, true, [3, 5], []⟩, ⟨6, false, [3, 5], []⟩, ⟨7, true, [3, 5, 7], []⟩] (fun D => bif zmz 7 D then Gf (tick τ'') ++ (roL N c ks [] [] ++ [.cells [.sl (cs.length + 1) (cs.map iv ++ [iv (znq τ'' 3)]) (.opn (N + 7)), iv 0, iv 0] 65, .tail (cs.length + 1) 1 3]) else bif zmz 5 D then Gf (tick τ'') ++ (roL N c ks [] [] ++ [.cells [.sl cs.length (cs.map iv) (.opn (N + 7)), iv 0, iv 0] 65, .tail (cs.length + 1) 1 3]) else bif zmz 3 D then Gf (tick τ'') ++ (roL N c ks [] [] ++ [.cells [.sl cs.length (cs.map iv) (.opn (N + 7)), iv 0, iv 0] 65, .tail cs.length 1 3]) else Gf τ'' ++ (roL N c ks [] [] ++ [.cells [.sl cs.length (cs.map iv) (.opn (N + 7)), iv 0, iv 0] 65, .tail cs.length 1 3])) ?_;simp only [seval, z1, zhq, roL, List.flatMap_nil, hT.am];refine zpd _ _ (zmg (f29_c (hT.more _) hto2 (by omega) (by omega) ⟨rfl, rfl⟩)) ?_;(try simp only [seval, z1, zhq, roL, List.flatMap_nil, hT.am]);refine ⟨by omega, ?_⟩;refine zl5 ?_;simp only [seval, hw2];refine hR2 _ ⟨(cs ++ [znq τ'' 3], tick τ''), by show c.toNat - (cs ++ [_]).length < c.toNat - cs.length; simp; omega, ⟨by simp; omega, fun n hn => ?_, hto2.tick.mono (by simp; omega)⟩, ?_⟩
   ·rcases List.mem_append.1 hn with hn | hn
    ·exact hcb n hn
    ·rw [List.mem_singleton.1 hn]; exact ⟨hv.1, hv.2.elim id fun h => by rw [h]; decide⟩
   ·simp only [zrz, List.length_append];exact zl7
  ·have hcc : (cs.length : Int) = c := (by omega);refine zl4 ?_
   (repeat apply zaa); refine zu1 (id := N + 6) (j := 0) (by simp only [seval, hT.am] <;> rfl) rfl (zaK _ _ _) ?_
   (try simp only [seval, hT.am]);refine zl5 ?_;simp only [seval, hT.am];refine zl6 ((f126_c (hT.more _) hto2 (by omega) (by omega) (by omega) ?_));(try simp only [seval, Band.av, Band.l, hT.am]);have hbd := zir τ'' (show (0 : Int) <= 2 by decide);have hto3 := hto2.tick.tick;generalize zn0 τ'' 0 2 = bd at hbd ⊢;generalize tick (tick τ'') = τ3 at hto3 ⊢;obtain ⟨hbd0, hbd1, hbd2⟩ := hbd;have hww := za1 τ3 hbd1;have hkl := zqk ks;have hwl := hkp.len;refine zmR [4, 13, 15, 17] [0, 1, 2, 3, 4, 5, 6, 7, 8, 9, 10, 11, 12, 13, 14, 15, 16, 17, 18] [⟨0, false, [], []⟩, ⟨1, false, [], []⟩, ⟨2, false, [], []⟩, ⟨3, false, [], []⟩, ⟨4, true, [4], []⟩, ⟨5, false, [4], [([], []), ([4, 13], [4, 13])]⟩, ⟨6, false, [4], [([], [])]⟩, ⟨7, false, [4], [([], [])]⟩, ⟨8, false, [4], [([], [])]⟩, ⟨9, false, [4], [([], [])]⟩, ⟨10, false, [4], [([], [])]⟩, ⟨11, false, [4], [([], [])]⟩, ⟨12, false, [4], [([], [])]⟩, ⟨13, true, [4, 13], []⟩, ⟨14, false, [4, 13], []⟩, ⟨15, true, [4, 13, 15], []⟩, ⟨16, false, [4, 13, 15], [([4], [4]), ([4, 13], [4, 13])]⟩, ⟨17, true, [4, 13, 15, 17], []⟩, ⟨18, false, [4, 13, 15, 17], []⟩] (fun D => bif zmz 17 D then Gf (tick τ3) ++ roM N c (ks.length + 1) (ks.flatMap Key.l ++ [.sl cs.length (cs.map iv) .shut, iv bd.min, iv bd.max]) (ks.length + 1) (ks.length + 1) cs bd else bif zmz 15 D then Gf (tick τ3) ++ roM N c ks.length (ks.flatMap Key.l) (ks.length + 1) (ks.length + 1) cs bd else bif zmz 13 D then Gf (tick τ3) ++ roM N c ks.length (ks.flatMap Key.l) (ks.length + 1) ks.length cs bd else bif zmz 4 D then Gf τ3 ++ roM N c ks.length (ks.flatMap Key.l) (ks.length + 1) ks.length cs bd else Gf τ3 ++ roM N c ks.length (ks.flatMap Key.l) ks.length ks.length cs bd) ?_;simp only [seval, z1, zk3, zhq, zd5, hkl, hwl, roM, hT.am];refine ⟨by omega, ?_⟩;refine zpd _ _ (zmg (f125_c (hT.more _) hto3 (by omega) (by omega) (by omega) ⟨rfl, rfl⟩)) ?_;(try simp only [seval, z1, zk3, zhq, zd5, hkl, hwl, roM, hT.am]);have hw3 : IntKind.i64.wrap ((tot : Int) - ks.length - 1) = tot - (ks.length + 1) := (by rw [zau _ (by omega)]; omega);refine ⟨by omega, ?_⟩;refine zl5 ?_;simp only [seval, hw3];refine hR _ ⟨(ks ++ [⟨cs, bd⟩], ws ++ [zm5 τ3 bd.min bd.max], tick τ3), by show tot - (ks ++ [_]).length < tot - ks.length; simp; omega, ⟨hkp.snoc hcc hcb ⟨hbd0, hbd2, hbd1⟩ hww, by simp; omega, hto3.tick.mono (by simp; omega)⟩, ?_⟩;refine zce [.cells [.sl cs.length (cs.map iv) .shut, iv bd.min, iv bd.max] 65, .tail cs.length 1 3] (zam rfl rfl) (by simp only [seval, List.length_append, List.map_append]; simp [zaf, Wk.refl]) (zh9 hT hH _ _ _ _ _) (by simp only [List.forall_mem_cons, zap, zuy, iv]; simp [hT.len, roL]) (by simp [roL, Key.l, aInts])
 ·have hkn : 1 <= ks.length /\ ks.length <= K := by omega
  have hwl := hkp.len;refine zl4 ?_;refine zl5 ?_;simp only [seval, hT.am];refine zl6 ((f29_c (hT.more _) hto (by omega) (by omega) ?_));(try simp only [seval, hT.am]);have htl := zaX τ' L;generalize znq τ' L = totl at htl ⊢;obtain ⟨totl, rfl⟩ : ∃ n : Nat, totl = n := ⟨totl.toNat, by omega⟩;have htl2 : totl <= L := by omega
  clear htl;have hto1 := hto.tick.mono (b' := b + 100) (by omega);generalize tick τ' = τ4 at hto1 ⊢;refine zlF ?_;refine za9 (measure fun m : List (List Band) × TinS => totl - m.1.length).wf (fun m => [(17, iv ((totl : Int) - m.1.length))]) (fun m => Gf m.2 ++ roL N c ks m.1 []) (fun m => (∀ l ∈ m.1, (l.length : Int) = c /\ ∀ b ∈ l, b.Ok 3) /\ m.1.length <= totl /\ m.2.Ok (b + 100 + 20 * m.1.length)) ([], τ4) (fun _ _ => rfl) (by simp only [seval]; simp [zaf, Wk.refl]) (by simp [roL]) (fun _ _ => by simp [hT.len, roL]) ⟨by simp, by simp, hto1.mono (by simp)⟩ (fun hHs hLt m hok R2 hR2 => ?_);clear hHs hLt hR hto1 hto;obtain ⟨ls, τ5⟩ := m;obtain ⟨hlk, hlt, hto⟩ := hok;simp only at hlk hlt hto;refine zl5 ?_;simp only [seval, roL, List.flatMap_nil, hT.am];refine zlj ?_;refine ⟨fun h2 => ?_, fun h2 => ?_⟩
  ·have hllt : ls.length < totl := (by omega);refine zlu ?_;refine zlF ?_;have hw4 : IntKind.i64.wrap ((ks.length : Int) - 1) = ks.length - 1 := zau _ (by omega);refine zl5 ?_;simp only [seval, hw4, hT.am];refine zl6 ((f29_c (hT.more _) hto (by omega) (by omega) ?_));(try simp only [seval, hT.am]);have hkr := zaX τ5 ((ks.length : Int) - 1);generalize znq τ5 ((ks.length : Int) - 1) = kx at hkr ⊢;obtain ⟨kn, rfl⟩ : ∃ n : Nat, kx = n := ⟨kx.toNat, by omega⟩;have hknl : kn < ks.length := (by omega);obtain ⟨y, hy⟩ := zaE hknl;obtain ⟨w, hw⟩ := zaE (xs := ws) (i := kn) (by omega);obtain ⟨hyc, hyb, hyw⟩ := hkp.key y (zas hy);have hwb := hkp.worn kn y w hy hw;have hw0 := hyw.min;have hw2' := hyw.max;have hto6 := hto.tick;generalize tick τ5 = τ6 at hto6 ⊢;have hds : ∀ d ∈ zmn w y.cuts, 0 <= d /\ d <= 3 := fun d hd => by
    unfold zmn at hd;obtain ⟨x, hx, rfl⟩ := List.mem_map.1 hd;have := hyb x hx;omega
   have hdl : (zmn w y.cuts).length = y.cuts.length := (by simp [zmn]);obtain ⟨hf1, hf2, hf3⟩ := zcw (sm := !znY τ6 3) hto6.tick hds _ (Nat.le_refl _);have hfe : zne (!znY τ6 3) (tick τ6) (zmn w y.cuts) (zmn w y.cuts).length = zoU (!znY τ6 3) (tick τ6) (zmn w y.cuts) := (by unfold zne zoU; rw [List.take_length]);rw [hfe] at hf1 hf2 hf3;have hml : (ls.map aBands).length = ls.length := List.length_map ..;have hzs1 : zmx (Value.slice none 0 0) 1 = [.sl 0 [] .exact] := rfl;refine zmR [15, 17, 19, 21] [0, 1, 2, 3, 4, 5, 6, 7, 8, 9, 10, 11, 12, 13, 14, 15, 16, 17, 18, 19, 20, 21] [⟨0, false, [], [([15], [15]), ([15, 17], [15, 17])]⟩, ⟨1, false, [], [([15], [15]), ([15, 17], [15, 17])]⟩, ⟨2, false, [], [([15], [15])]⟩, ⟨3, false, [], []⟩, ⟨4, false, [], []⟩, ⟨5, false, [], []⟩, ⟨6, false, [], []⟩, ⟨7, false, [], []⟩, ⟨8, false, [], []⟩, ⟨9, false, [], []⟩, ⟨10, false, [], []⟩, ⟨11, false, [], []⟩, ⟨12, false, [], []⟩, ⟨13, false, [], []⟩, ⟨14, false, [], []⟩, ⟨15, true, [15], []⟩, ⟨16, false, [15], []⟩, ⟨17, true, [15, 17], []⟩, ⟨18, false, [15, 17], []⟩, ⟨19, true, [15, 17, 19], []⟩, ⟨20, false, [15, 17, 19], []⟩, ⟨21, true, [15, 17, 19, 21], []⟩] (fun D => bif zmz 21 D then Gf (zoU (!znY τ6 3) (tick τ6) (zmn w y.cuts)).2 ++ roP N c ks (ls.length + 1) (ls.map aBands ++ [aBands (zoU (!znY τ6 3) (tick τ6) (zmn w y.cuts)).1]) (ls.length + 1) else bif zmz 19 D then Gf (zoU (!znY τ6 3) (tick τ6) (zmn w y.cuts)).2 ++ roP N c ks ls.length (ls.map aBands) (ls.length + 1) else bif zmz 17 D then Gf (zoU (!znY τ6 3) (tick τ6) (zmn w y.cuts)).2 ++ roP N c ks ls.length (ls.map aBands) ls.length else bif zmz 15 D then Gf (tick τ6) ++ roP N c ks ls.length (ls.map aBands) ls.length else Gf τ6 ++ roP N c ks ls.length (ls.map aBands) ls.length) ?_;simp only [seval, zc2 hy, zaz hknl, za2 hw, zaz (get_lt hw), hwl, hml, hzs1, zhq, roP, hT.am];refine znh _ (zmg (f78_c hyb ⟨by omega, by omega⟩ (by omega) ⟨rfl, rfl⟩)) ?_;refine zpd _ _ (zmg (f44_c (hT.more _) hto6 (by omega) (by omega) ⟨rfl, rfl⟩)) ?_;(try simp only [seval, hT.am]);refine zpd _ _ (zmg (f127_c (hT.more _) hto6.tick (by omega) hds (by omega) ⟨rfl, rfl⟩)) ?_;(try simp only [seval, hwl, hml, hzs1, zhq, roP, hT.am, zho]);generalize zoU (!znY τ6 3) (tick τ6) (zmn w y.cuts) = q at hf1 hf2 hf3 ⊢;obtain ⟨lk, τ7⟩ := q;simp only at hf1 hf2 hf3;have hw5 : IntKind.i64.wrap ((totl : Int) - ls.length - 1) = totl - (ls.length + 1) := (by rw [zau _ (by omega)]; omega);refine ⟨by omega, ?_⟩;refine zl5 ?_;simp only [seval, hw5];refine hR2 _ ⟨(ls ++ [lk], τ7), by show totl - (ls ++ [_]).length < totl - ls.length; simp; omega, ⟨fun l hl => ?_, by simp; omega, hf2.mono (by simp; omega)⟩, ?_⟩
   ·rcases List.mem_append.1 hl with hl | hl
    ·exact hlk l hl
    ·rw [List.mem_singleton.1 hl]; exact ⟨by omega, hf3⟩
   ·have e : roL N c ks (ls ++ [lk]) [] = roP N c ks (ls.length + 1) (ls.map aBands ++ [aBands lk]) (ls.length + 1) := (by simp [roL, roP]);rw [e];simp only [roP];refine zax (zam rfl rfl) (by simp only [seval, List.length_append]; simp [zaf, Wk.refl])
  ·have hll : ls.length <= 4 := (by omega);refine zl4 ?_;refine zl5 ?_;simp only [seval, hT.am];refine zl6 ((f29_c (hT.more _) hto (by omega) (by omega) ?_));(try simp only [seval, hT.am]);have htl := zaX τ5 T;generalize znq τ5 T = tott at htl ⊢;obtain ⟨tott, rfl⟩ : ∃ n : Nat, tott = n := ⟨tott.toNat, by omega⟩;have htl2 : tott <= T := (by omega);clear htl;have hto1 := hto.tick.mono (b' := b + 200) (by omega);generalize tick τ5 = τ8 at hto1 ⊢;refine zlF ?_;refine za9 (measure fun m : List Try × TinS => tott - m.1.length).wf (fun m => [(19, iv ((tott : Int) - m.1.length))]) (fun m => Gf m.2 ++ roL N c ks ls m.1) (fun m => ((∀ t ∈ m.1, (0 <= t.key /\ t.key < ks.length) /\ 0 <= t.lock /\ t.lock < ls.length) /\ (wr = false -> ∀ t ∈ m.1, t.opens = zmG ks ws ls t.key t.lock)) /\ m.1.length <= tott /\ m.2.Ok (b + 200 + 20 * m.1.length)) ([], τ8) (fun _ _ => rfl) (by simp only [seval]; simp [zaf, Wk.refl]) (by simp [roL]) (fun _ _ => by simp [hT.len, roL]) ⟨by simp, by simp, hto1.mono (by simp)⟩ (fun hHs hLt m hok R hR => ?_);clear hHs hLt hR2 hto1 hto;obtain ⟨ts, τ9⟩ := m;obtain ⟨⟨htr, htd⟩, htl3, hto⟩ := hok;simp only at htr htd htl3 hto;have hend : zmZ N (Gf τ9 ++ roE N c ks ls ts) (.tup [.agg [iv c, .sl ks.length (ks.flatMap Key.l) (.opn (N + 2)), .sl ls.length (ls.map aBands) (.opn (N + 3)), .sl ts.length (ts.flatMap Try.l) (.opn (N + 4))], .sl ks.length (ws.map iv) (.opn (N + 5))]) k := hk ⟨c, ks, ls, ts⟩ ws τ9 ⟨hc, hkn, hkp, by show ls.length <= L; omega, hlk, by show ts.length <= T; omega, htr, htd⟩ (hto.mono (by omega)) (hT.hok hH _) hwl;refine zl5 ?_;simp only [seval, roL, hT.am];refine zoE (fun h3 => ?_) (fun h3 => ?_)
   ·have htlt : ts.length < tott := by
     have : (0 : Int) < tott - ts.length := (by simpa using h3);omega
    (try simp only [seval, roL, hT.am]);refine zlj ?_;refine ⟨fun h4 => ?_, fun h4 => ?_⟩
    ·have hll1 : 1 <= ls.length := (by omega);refine zlu ?_;refine zlF ?_;have hw4 : IntKind.i64.wrap ((ks.length : Int) - 1) = ks.length - 1 := zau _ (by omega);have hw6 : IntKind.i64.wrap ((ls.length : Int) - 1) = ls.length - 1 := zau _ (by omega);have hkr := zaX τ9 ((ks.length : Int) - 1);have hlr := zaX (tick τ9) ((ls.length : Int) - 1);refine zmR [5, 11, 13, 14] [0, 1, 2, 3, 4, 5, 6, 7, 8, 9, 10, 11, 12, 13, 14] [⟨0, false, [], [([13], [13])]⟩, ⟨1, false, [], [([13], [13])]⟩, ⟨2, false, [], [([13], [13])]⟩, ⟨3, false, [], [([13], [13])]⟩, ⟨4, false, [], [([13], [13])]⟩, ⟨5, true, [5], [([13], [5, 13])]⟩, ⟨6, false, [5], [([], []), ([13], [13]), ([5, 13], [5, 13])]⟩, ⟨7, false, [5], [([], []), ([13], [13]), ([5, 13], [5, 13])]⟩, ⟨8, false, [5], [([], []), ([13], [13]), ([5, 13], [5, 13])]⟩, ⟨9, false, [5], [([], []), ([13], [13]), ([5, 13], [5, 13])]⟩, ⟨10, false, [5], [([], []), ([13], [13]), ([5, 13], [5, 13])]⟩, ⟨11, true, [5, 11], [([5, 13], [5, 11, 13])]⟩, ⟨12, false, [5, 11], [([5, 11, 13], [5, 11, 13])]⟩, ⟨13, true, [5, 11, 13], [([], [13]), ([5], [5, 13])]⟩, ⟨14, true, [5, 11, 13, 14], []⟩] (fun D => Gf (bif zmz 11 D then tick (tick τ9) else bif zmz 5 D then tick τ9 else τ9) ++ (roL N c ks ls ts ++ (bif zmz 14 D then [.cells [iv (znq τ9 ((ks.length : Int) - 1)), iv (znq (tick τ9) ((ls.length : Int) - 1)), bv false] 28] else bif zmz 13 D then [.cells [iv 0, iv 0, bv false] 28] else []))) ?_;simp only [seval, hw4, hw6, roL, hT.am];refine zpd _ _ (zmg (f29_c (hT.more _) hto (by omega) (by omega) ⟨rfl, rfl⟩)) ?_;(try simp only [seval, hw4, hw6, roL, hT.am]);refine ⟨zpd _ _ (zmg (f29_c (hT.more _) hto (by omega) (by omega) ⟨rfl, rfl⟩)) ⟨rfl, rfl⟩, ?_⟩;refine zpd _ _ (zmg (f29_c (hT.more _) hto.tick (by omega) (by omega) ⟨rfl, rfl⟩)) ?_;(try simp only [seval, hw4, hw6, roL, hT.am]);refine ⟨zpd _ _ (zmg (f29_c (hT.more _) hto.tick (by omega) (by omega) ⟨rfl, rfl⟩)) ⟨rfl, rfl⟩, ?_⟩;have hto3 := hto.tick.tick;generalize znq τ9 ((ks.length : Int) - 1) = kx at hkr ⊢;generalize znq (tick τ9) ((ls.length : Int) - 1) = lx at hlr ⊢;generalize tick (tick τ9) = τa at hto3 ⊢;obtain ⟨kn, rfl⟩ : ∃ n : Nat, kx = n := ⟨kx.toNat, by omega⟩;obtain ⟨ln, rfl⟩ : ∃ n : Nat, lx = n := ⟨lx.toNat, by omega⟩;have hknl : kn < ks.length := (by omega);have hlnl : ln < ls.length := (by omega);obtain ⟨y, hy⟩ := zaE hknl;obtain ⟨w, hw⟩ := zaE (xs := ws) (i := kn) (by omega);obtain ⟨l, hl⟩ := zaE hlnl;obtain ⟨hyc, hyb, hyw⟩ := hkp.key y (zas hy);obtain ⟨hlc, hlb⟩ := hlk l (zas hl);have hwb := hkp.worn kn y w hy hw;have hw0 := hyw.min;have hw2' := hyw.max;have hdl : (zmn w y.cuts).length = y.cuts.length := (by simp [zmn]);have how : zmG ks ws ls kn ln = zni (zmn w y.cuts) l := by
      unfold zmG;simp only [Int.toNat_natCast, List.getD_eq_getElem?_getD, hy, hw, hl, Option.map_some, Option.getD_some]
     refine zmc 19 ?_;simp only [seval, zc2 hy, zaz hknl, za2 hw, zaz (get_lt hw), zfu hl, zaz hlnl, hwl, hT.am];refine znh _ (zmg (f78_c hyb ⟨by omega, by omega⟩ (by omega) ⟨rfl, rfl⟩)) ?_;refine zl6 ((f64_c (by omega) (by omega) ?_));(try simp only [seval, hT.am]);have htln := zf5 ts;have hw7 : IntKind.i64.wrap ((tott : Int) - ts.length - 1) = tott - (ts.length + 1) := (by rw [zau _ (by omega)]; omega);have hnew : ∀ (o : Bool) (τb : TinS), τb.Ok (b + 200 + 20 * ts.length + 3) -> (wr = false -> o = zni (zmn w y.cuts) l) -> ((∀ t : Try, t ∈ ts ++ [⟨kn, ln, o⟩] -> (0 <= t.key /\ t.key < (ks.length : Int)) /\ 0 <= t.lock /\ t.lock < (ls.length : Int)) /\ (wr = false -> ∀ t : Try, t ∈ ts ++ [⟨kn, ln, o⟩] -> t.opens = zmG ks ws ls t.key t.lock)) /\ (ts ++ [(⟨kn, ln, o⟩ : Try)]).length <= tott /\ τb.Ok (b + 200 + 20 * ((ts ++ [(⟨kn, ln, o⟩ : Try)]).length : Nat)) := fun o τb hok ho => by
      refine ⟨⟨fun t ht => ?_, fun hwr t ht => ?_⟩, by simp; omega, hok.mono (by simp; omega)⟩
      ·rcases List.mem_append.1 ht with ht | ht
       ·exact htr t ht
       ·rw [List.mem_singleton.1 ht]; exact ⟨⟨by show (0 : Int) <= kn; omega, by show (kn : Int) < _; omega⟩, by show (0 : Int) <= ln; omega, by show (ln : Int) < _; omega⟩
      ·rcases List.mem_append.1 ht with ht | ht
       ·exact htd hwr t ht
       ·rw [List.mem_singleton.1 ht]; exact (ho hwr).trans how.symm
     refine zl5 ?_;simp only [seval, hT.am];refine zoE (fun h5 => ?_) (fun h5 => ?_)
     ·(try simp only [seval, hT.am]);refine zl6 ((f44_c (hT.more _) hto3 (by omega) (by omega) ?_));(try simp only [seval, hT.am]);refine zlj ?_;refine ⟨fun h6 => ?_, fun h6 => ?_⟩
      ·refine zl5 ?_;simp only [seval, hT.am];refine zl5 ?_;simp only [seval, zt3, zd5, htln, hT.am];refine ⟨by omega, ?_⟩;refine zl5 ?_;simp only [seval, hw7];refine hR _ ⟨(ts ++ [⟨kn, ln, !(zni (zmn w y.cuts) l)⟩], tick τa), by show tott - (ts ++ [_]).length < tott - ts.length; simp; omega, hnew _ _ (hto3.tick.mono (by omega)) (fun e => absurd (h5.symm.trans e) (by decide)), ?_⟩;refine zce [.cells [iv kn, iv ln, bv (!(zni (zmn w y.cuts) l))] 28] (zam rfl rfl) (by simp only [seval, List.length_append]; simp [zaf, Wk.refl]) (zh9 hT hH _ _ _ _ _) (by simp only [List.forall_mem_cons, zap, iv]; simp) (by simp [roL, Try.l])
      ·refine zlu ?_;refine zl5 ?_;simp only [seval, zt3, zd5, htln, hT.am];refine ⟨by omega, ?_⟩;refine zl5 ?_;simp only [seval, hw7];refine hR _ ⟨(ts ++ [⟨kn, ln, zni (zmn w y.cuts) l⟩], tick τa), by show tott - (ts ++ [_]).length < tott - ts.length; simp; omega, hnew _ _ (hto3.tick.mono (by omega)) (fun _ => rfl), ?_⟩;refine zce [.cells [iv kn, iv ln, bv (zni (zmn w y.cuts) l)] 28] (zam rfl rfl) (by simp only [seval, List.length_append]; simp [zaf, Wk.refl]) (zh9 hT hH _ _ _ _ _) (by simp only [List.forall_mem_cons, zap, iv]; simp) (by simp [roL, Try.l])
     ·(try simp only [seval, hT.am]);refine zlj ?_;refine zlu ?_;refine zl5 ?_;simp only [seval, zt3, zd5, htln, hT.am];refine ⟨by omega, ?_⟩;refine zl5 ?_;simp only [seval, hw7];refine hR _ ⟨(ts ++ [⟨kn, ln, zni (zmn w y.cuts) l⟩], τa), by show tott - (ts ++ [_]).length < tott - ts.length; simp; omega, hnew _ _ (hto3.mono (by omega)) (fun _ => rfl), ?_⟩;refine zce [.cells [iv kn, iv ln, bv (zni (zmn w y.cuts) l)] 28] (zam rfl rfl) (by simp only [seval, List.length_append]; simp [zaf, Wk.refl]) (zh9 hT hH _ _ _ _ _) (by simp only [List.forall_mem_cons, zap, iv]; simp) (by simp [roL, Try.l])
    ·refine zl4 ?_;refine zl5 ?_;simp only [seval, hT.am];refine zn1 ?_;simp only [seval, hT.am];exact hend
   ·have h3 : ¬ (0 : Int) < tott - ts.length := (by simpa using h3);(try simp only [seval, roL, hT.am]);refine zlj ?_;refine zl4 ?_;refine zl5 ?_;simp only [seval, hT.am];refine zn1 ?_;simp only [seval, hT.am];exact hend
theorem f49_c {K L T : Nat} {wr : Bool} (hT : TinAt Gf t N) (hτ : τ.Ok b) (hb : b < 2 ^ 30) (hK : 1 <= K /\ K <= 4) (hL : L <= 4) (hTn : T <= 6)
  (hk : ∀ x ws τ', RingP K L T wr x ws -> τ'.Ok (b + 1000) -> k (.tup [x.av, aInts ws]) (Gf τ')) : FnC lv Tryz.prog 49 (Gf τ) [.op t 0, iv K, iv L, iv T, bv wr] k kp :=
 f49_g hT hτ hb hK hL hTn fun x ws τ' hP hto hok hwl => by
  rw [<- hT.len τ'];exact endA (b := .tup [x.av, aInts ws]) hok (zdC (zhX (.cons (Wk.refl _) (.cons (zaK _ _ _) (.cons (zaK _ _ _) (.cons (zaK _ _ _) .nil))))) (by rw [<- hwl]; exact zaK _ _ _)) (by simp only [zaD, List.forall_mem_cons, zfC, zbi]; simp) (hk x ws τ' hP hto)
end
def zqt (x : Ring) (t : Try) : Ring := ⟨x.cuts, x.keys, x.locks, x.tries ++ [t]⟩
theorem zqu (ts : List Try) (t : Try) : (ts ++ [t]).flatMap Try.l = ts.flatMap Try.l ++ [iv t.key, iv t.lock, bv t.opens] := by simp [Try.l]
section
variable {lv : Bool} {H : List AObj} {k kp : AV -> List AObj -> Prop}
theorem f56_c {x : Ring} {t : Try} (hl : x.tries.length < 2 ^ 20) (hk : k (zqt x t).av H) : FnC lv Tryz.prog 56 H [x.av, t.av] k kp := by
 refine zlV (rs := [.cell 4 26]) (nt := 14) Tryz.f56 fun hH hA => ?_;simp only [zma, Nat.reduceAdd, Ring.av, Ring.l, Try.av, Try.l];have htl := zf5 x.tries;have e0 : zmx (.agg #[.int .i64 0, .int .i64 0, .bool false]) 0 = [] := rfl;have htk : List.take (x.tries.length * 3) (x.tries.flatMap Try.l) = x.tries.flatMap Try.l := List.take_of_length_le (by omega);refine zhC ?_;refine zmR [3, 6, 8] [0, 1, 2, 3, 4, 5, 6, 7, 8] [⟨0, false, [], []⟩, ⟨1, false, [], []⟩, ⟨2, false, [], []⟩, ⟨3, true, [3], []⟩, ⟨4, false, [3], [([], [])]⟩, ⟨5, false, [3], [([], [])]⟩, ⟨6, true, [3, 6], []⟩, ⟨7, false, [3, 6], []⟩, ⟨8, true, [3, 6, 8], []⟩] (fun D => H ++ ([.cells [iv x.cuts, zmv x.keys, zml x.locks, bif zmz 8 D then .sl (x.tries.length + 1) (x.tries.flatMap Try.l ++ [iv t.key, iv t.lock, bv t.opens]) (.opn (H.length + 3)) else zmm x.tries] 26, .cells [iv t.key, iv t.lock, bv t.opens] 28, .cells [iv 0, .sl 0 [] .exact, .sl 0 [] .exact, .sl 0 [] .exact] 26] ++ (bif zmz 6 D then [.tail (x.tries.length + 1) 3 28] else bif zmz 3 D then [.tail x.tries.length 3 28] else []))) ?_;simp only [seval, e0, zt3, zul, zd5, htl, htk, zmm];refine ⟨by omega, by omega, ?_⟩;refine zhC ?_;refine zlA ?_;exact endA (b := (zqt x t).av) hH (zhX (.cons (Wk.refl _) (.cons (Wk.refl _) (.cons (Wk.refl _) (.cons (by rw [show (zqt x t).tries = x.tries ++ [t] from rfl, zmm, zqu, List.length_append]; exact zaK _ _ _) .nil))))) (by rw [zfC]; trivial) hk
theorem tinOk0 {nums : List Int} (h : nums.length <= 2 ^ 50) (s : Int) : (⟨nums, 0, s⟩ : TinS).Ok 0 := ⟨Int.le_refl _, Int.le_refl _, h⟩
theorem RingP.ok {K L T : Nat} {wr : Bool} {x : Ring} {ws : List Int} (h : RingP K L T wr x ws) (hK : K <= 4) (hL : L <= 4) (hT : T <= 6) : x.Ok where
 cuts := ⟨h.cuts.1, by have := h.cuts.2; omega⟩
 keys := by have := h.keys.2; omega
 key := h.kp.key
 locks := by have := h.locks; omega
 lock := h.lock
 tries := by have := h.tries; omega
 tried := h.tried
theorem Ring.Ok.small {x : Ring} (h : x.Ok) : x.Small where
 keys := by have := h.keys; omega
 locks := by have := h.locks; omega
 tries := by have := h.tries; omega
 cuts := fun y hy => by have := (h.key y hy).1; have := h.cuts; omega
 bands := fun l hl => by have := (h.lock l hl).1; have := h.cuts; omega
theorem zqm {P : Program} {f : FuncId} {l l' : List AV} (h : Wks l l') (hf : FnC lv P f H l' k kp) : FnC lv P f H l k kp := fun E V vs hc hd => by
 refine hf E V vs hc ⟨by rw [hd.1, h.len], fun i a ha => ?_⟩;obtain ⟨b, hb⟩ := zaE (xs := l) (i := i) (by rw [h.len]; exact get_lt ha);exact h.at i a b ha hb E _ (hd.2 i b hb)
theorem f25_c (hmain : H[0]? = some .main) (hk : k (bv true) H) : FnC true Tryz.prog 25 H [] k kp := by
 refine zlV (rs := [.tmp 0]) (nt := 177) Tryz.f25 fun hH hA => ?_;simp only [zma, Nat.reduceAdd];refine zhC ?_;refine zhC ?_;refine zl6 ((f80_c (ts := []) (by decide) ?_));(try simp only [seval]);refine zl6 ((zuQ hmain ?_));(try simp only [seval]);refine zhC ?_;refine zl6 ((f80_c (ts := []) (by decide) ?_));(try simp only [seval]);refine zl6 ((zsr hmain ?_));(try simp only [seval]);refine zhC ?_;refine zl6 ((f82_c ?_));(try simp only [seval, Try.av, Try.l, exLast, zt3, zd5]);refine zl6 ((f80_c (ts := [exLast]) (by decide) ?_));(try simp only [seval]);refine zl6 ((zst hmain ?_));(try simp only [seval]);refine zhC ?_;refine zl6 ((f80_c (ts := []) (by decide) ?_));(try simp only [seval]);refine zl6 ((ex_ask hmain ?_));(try simp only [seval]);refine zhC ?_;refine zl6 ((f82_c ?_));(try simp only [seval, Try.av, Try.l, exLast, zt3, zd5]);refine zl6 ((f80_c (ts := [exLast]) (by decide) ?_));(try simp only [seval]);refine zl6 ((zss hmain ?_));(try simp only [seval]);refine zhC ?_;refine zl6 ((f84_c ?_));(try simp only [seval]);refine zl6 ((zsu hmain ?_));(try simp only [seval]);refine zhC ?_;refine zl6 ((f80_c (ts := []) (by decide) ?_));(try simp only [seval, zu2, zes]);refine zl6 ((zqm (.cons (Wk.refl _) (.cons (zaK _ _ _) .nil)) (zsq hmain ?_)));(try simp only [seval]);refine zhC ?_;refine zl6 ((f80_c (ts := []) (by decide) ?_));(try simp only [seval, zr2, zes]);refine zl6 ((zqm (.cons (Wk.refl _) (.cons (zaK _ _ _) .nil)) (ex_cut hmain ?_)));(try simp only [seval]);refine zhC ?_;refine zl6 ((f83_c ?_));(try simp only [seval, Try.av, Try.l, exNever, zt3, zd5]);refine zl6 ((f80_c (ts := [exNever]) (by decide) ?_));(try simp only [seval]);refine zl6 ((zsp hmain ?_));(try simp only [seval]);refine zhC ?_;refine zl6 ((f80_c (ts := []) (by decide) ?_));(try simp only [seval]);refine zl6 ((zuR hmain ?_));(try simp only [seval]);refine zl5 ?_;simp only [seval, List.append_eq, beq_self_eq_true, zr2, zes];refine zl6 ((f34_same (xs := [0, 1]) (by decide) ?_));(try simp only [seval, List.append_eq, beq_self_eq_true, zr3, zd5]);refine zl6 ((f34_same (xs := [0, 1, 2]) (by decide) ?_));(try simp only [seval, List.append_eq, beq_self_eq_true, zr3, zd5]);refine zl6 ((f34_same (xs := [0, 1, 0]) (by decide) ?_));(try simp only [seval, List.append_eq, beq_self_eq_true, zr2, zes]);refine zl6 ((f34_same (xs := [1, 2]) (by decide) ?_));(try simp only [seval, List.append_eq, beq_self_eq_true, zr2, zes]);refine zl6 ((f34_same (xs := [2, 1]) (by decide) ?_));(try simp only [seval, List.append_eq, beq_self_eq_true, z1, zhq]);refine zl6 ((f34_same (xs := [0]) (by decide) ?_));(try simp only [seval, List.append_eq, beq_self_eq_true, zr2, zes]);refine zl6 ((f34_same (xs := [0, 1]) (by decide) ?_));(try simp only [seval]);refine zlA ?_;exact zao hk
theorem f155_c {n due : Int} (hk : k (iv (znv n due)) H) : FnC lv Tryz.prog 155 H [iv n, iv due] k kp := by
 refine zlV (rs := [.tmp 4]) (nt := 11) Tryz.f155 fun hH hA => ?_;simp only [zma, Nat.reduceAdd];refine zhC ?_;refine zhC ?_;refine zlj ?_;refine ⟨fun h => ?_, fun h => ?_⟩
 ·refine zhC ?_;refine zlA ?_;refine zao ?_;simpa [znv, h] using hk
 ·refine zlu ?_;refine zhC ?_;refine zlj ?_;refine ⟨fun h2 => ?_, fun h2 => ?_⟩
  ·refine zhC ?_;refine zlA ?_;refine zao ?_;simpa [znv, h, h2] using hk
  ·refine zlu ?_;refine zhC ?_;refine zlA ?_;refine zao ?_;simpa [znv, h, h2] using hk
theorem f97_i {n lo hi : Int} (hk : k (bv (inM n lo hi)) H) : FnC lv Tryz.prog 97 H [iv n, iv lo, iv hi] k kp := f97_c hk
theorem f156_c {b : Band} {most : Int} (hk : k (iv (zoc b most)) H) : FnC lv Tryz.prog 156 H [b.av, iv most] k kp := by
 refine zlV (rs := [.tmp 4]) (nt := 22) Tryz.f156 fun hH hA => ?_;simp only [zma, Nat.reduceAdd, Band.av, Band.l];refine zhC ?_;refine zhC ?_;refine zl6 ((f97_i ?_));(try simp only [seval]);unfold zoc at hk;refine zoE (fun h3 => ?_) (fun h3 => ?_)
 ·simp only [Bool.not_eq_false', Bool.not_eq_true', Bool.not_true, Bool.not_false] at h3;rw [h3] at hk;(try simp only [seval]);refine zl6 ((f97_i ?_));(try simp only [seval]);refine zlj ?_;refine ⟨fun h => ?_, fun h => ?_⟩
  ·refine zhC ?_;refine zlA ?_;exact endV hH (by simpa [h] using hk)
  ·rw [h] at hk;refine zlu ?_;refine zhC ?_;refine zlj ?_;refine ⟨fun h2 => ?_, fun h2 => ?_⟩
   ·refine zhC ?_;refine zlA ?_;exact endV hH (by simpa [h2] using hk)
   ·refine zlu ?_;refine zhC ?_;refine zlA ?_;exact endV hH (by simpa [h2] using hk)
 ·simp only [Bool.not_eq_false', Bool.not_eq_true', Bool.not_true, Bool.not_false] at h3;(try simp only [seval]);refine zlj ?_;refine zhC ?_;refine zlA ?_;exact endV hH (by simpa [h3] using hk)
theorem f109_c {x : Ring} {y : Key} (hsz : y.cuts.length < 2 ^ 62) (hk : k (iv (keyM x.cuts y)) H) : FnC lv Tryz.prog 109 H [x.av, y.av] k kp := by
 refine zlV (rs := [.tmp 4]) (nt := 33) Tryz.f109 fun hH hA => ?_;simp only [zma, Nat.reduceAdd, Key.av, Key.l, aInts, Ring.av, Ring.l];refine zhC ?_;refine zhC ?_;refine zl6 ((f155_c ?_));(try simp only [seval]);refine zhC ?_;refine zlj ?_;refine ⟨fun h => ?_, fun h => ?_⟩
 ·refine zhC ?_;refine zlA ?_;refine endV hH ?_;rw [keyM, if_neg h] at hk; exact hk
 ·refine zlu ?_;refine zhC ?_;refine zlF ?_;refine zmh y.cuts.length (fun i : Nat => [(6, iv i)]) (fun _ => _) (fun i => zmk cutM y.cuts = zmk cutM (y.cuts.drop i)) rfl (fun hHs hLt i hin hi R hR => ?_);refine zhC ?_;refine zlj ?_;refine ⟨fun h2 => ?_, fun h2 => ?_⟩
  ·have hlt : i < y.cuts.length := (by omega);obtain ⟨d, hd⟩ := zaE hlt;refine zlu ?_;refine zl5 ?_;simp only [seval, za2 hd, zaz hlt];refine zl6 ((f97_i ?_));(try simp only [seval]);refine zlj ?_;refine ⟨fun h3 => ?_, fun h3 => ?_⟩
   ·refine zhC ?_;refine zlA ?_;refine endV hH ?_;rw [keyM, if_pos h, if_neg ?_] at hk
    ·exact hk
    ·rw [hi, zaZ hd]; simp [cutM, h3]
   ·refine zlu ?_;refine zhC ?_;refine hR _ ⟨hlt, ?_, ?_⟩
    ·rw [hi, zaZ hd]; simp [cutM, h3]
    ·rw [zau _ (by omega)];exact zl7
  ·refine zl4 ?_;refine zhC ?_;refine zl6 ((f156_c (b := y.wear) ?_));(try simp only [seval]);refine zlA ?_;refine endV hH ?_;rw [keyM, if_pos h, if_pos ?_] at hk
   ·exact hk
   ·have : i = y.cuts.length := (by omega);rw [hi, this]; simp [zmk]
theorem f110_c {x : Ring} {l : List Band} (hsz : l.length < 2 ^ 30) (hk : k (iv (znx x.cuts l)) H) : FnC lv Tryz.prog 110 H [x.av, aBands l] k kp := by
 refine zlV (rs := [.tmp 4]) (nt := 30) Tryz.f110 fun hH hA => ?_;simp only [zma, Nat.reduceAdd, aBands, Ring.av, Ring.l];refine zhC ?_;refine zhC ?_;refine zl6 ((f155_c ?_));(try simp only [seval]);refine zhC ?_;refine zlj ?_;refine ⟨fun h => ?_, fun h => ?_⟩
 ·refine zhC ?_;refine zlA ?_;refine endV hH ?_;rw [znx, if_neg h] at hk; exact hk
 ·refine zlu ?_;refine zhC ?_;refine zlF ?_;refine zmh l.length (fun i : Nat => [(6, iv i)]) (fun _ => _) (fun i => zmk (zoc · 3) l = zmk (zoc · 3) (l.drop i)) rfl (fun hHs hLt i hin hi R hR => ?_);refine zhC ?_;refine zlj ?_;refine ⟨fun h2 => ?_, fun h2 => ?_⟩
  ·have hlt : i < l.length := (by omega);obtain ⟨d, hd⟩ := zaE hlt;refine zlu ?_;refine zl5 ?_;simp only [seval, zdh hd, zaz hlt];refine zl6 ((f156_c (b := d) ?_));(try simp only [seval]);refine zhC ?_;refine zlj ?_;refine ⟨fun h3 => ?_, fun h3 => ?_⟩
   ·refine zhC ?_;refine zlA ?_;refine endV hH ?_;have e : zmk (zoc · 3) l = zoc d 3 := (by rw [hi, zaZ hd, if_neg h3]);rw [znx, if_pos h, e] at hk; exact hk
   ·refine zlu ?_;refine zhC ?_;refine hR _ ⟨hlt, ?_, ?_⟩
    ·rw [hi, zaZ hd, if_pos h3]
    ·rw [zau _ (by omega)];exact zl7
  ·refine zl4 ?_;refine zhC ?_;refine zlA ?_;refine endV hH ?_;have : i = l.length := (by omega);rw [znx, if_pos h, hi, this] at hk;simpa [zmk] using hk
theorem f96_c {x : Ring} {n : Int} (hs : x.keys.length < 2 ^ 60) (hk : k (bv (inM n 0 (x.keys.length - 1))) H) : FnC lv Tryz.prog 96 H [x.av, iv n] k kp := by
 refine zlV (rs := [.tmp 4]) (nt := 11) Tryz.f96 fun hH hA => ?_;simp only [zma, Nat.reduceAdd, Ring.av, Ring.l, zmv];have w1 : IntKind.i64.wrap ((x.keys.length : Int) - 1) = x.keys.length - 1 := zau _ (by omega);refine zhC ?_;refine zl5 ?_;simp only [seval, w1];refine zl6 ((f97_i ?_));(try simp only [seval]);refine zlA ?_;exact endV hH hk
theorem f104_c {x : Ring} {n : Int} (hs : x.locks.length < 2 ^ 60) (hk : k (bv (inM n 0 (x.locks.length - 1))) H) : FnC lv Tryz.prog 104 H [x.av, iv n] k kp := by
 refine zlV (rs := [.tmp 4]) (nt := 11) Tryz.f104 fun hH hA => ?_;simp only [zma, Nat.reduceAdd, Ring.av, Ring.l, zml];have w1 : IntKind.i64.wrap ((x.locks.length : Int) - 1) = x.locks.length - 1 := zau _ (by omega);refine zhC ?_;refine zl5 ?_;simp only [seval, w1];refine zl6 ((f97_i ?_));(try simp only [seval]);refine zlA ?_;exact endV hH hk
theorem zpJ {x : Ring} {t : Try} (h : (inM t.key 0 (x.keys.length - 1) && inM t.lock 0 (x.locks.length - 1)) = false) : tryM x t = 3 := by unfold tryM; rw [h]; rfl
theorem zqF {x : Ring} {t : Try} (h : (inM t.key 0 (x.keys.length - 1) && inM t.lock 0 (x.locks.length - 1)) = true) : tryM x t = 0 := by unfold tryM; rw [h]; rfl
theorem f36_c {x : Ring} (hs : x.Small) (hk : k (iv (zmW x)) H) : FnC lv Tryz.prog 36 H [x.av] k kp := by
 refine zlV (rs := [.tmp 2]) (nt := 85) Tryz.f36 fun hH hA => ?_;simp only [zma, Nat.reduceAdd, Ring.av, Ring.l, zmv, zml, zmm];have hks := hs.keys;have hls := hs.locks;have hts := hs.tries;refine zhC ?_;refine zhC ?_;refine zl6 ((f97_i ?_));(try simp only [seval]);refine zlj ?_;refine ⟨fun h => ?_, fun h => ?_⟩
 ·refine zhC ?_;refine zlA ?_;refine endV hH ?_;rw [zmW, if_pos h] at hk; exact hk
 ·rw [zmW, if_neg (by rw [h]; simp)] at hk;refine zlu ?_;refine zhC ?_;refine zlj ?_;refine ⟨fun h => ?_, fun h => ?_⟩
  ·refine zhC ?_;refine zlA ?_;refine endV hH ?_;rw [if_pos (by omega)] at hk; exact hk
  ·rw [if_neg (by omega)] at hk;refine zlu ?_;refine zhC ?_;refine zlF ?_;refine zmh x.keys.length (fun i : Nat => [(3, iv i)]) (fun _ => _) (fun i => zmk (keyM x.cuts) x.keys = zmk (keyM x.cuts) (x.keys.drop i)) rfl (fun hHs hLt i hin hi R hR => ?_);refine zhC ?_;refine zlj ?_;refine ⟨fun h2 => ?_, fun h2 => ?_⟩
   ·have hlt : i < x.keys.length := (by omega);obtain ⟨y, hy⟩ := zaE hlt;refine zlu ?_;refine zlF ?_;refine zmc 6 ?_;simp only [seval, zc2 hy, zaz hlt, zh0, aInts];refine zl6 ((f109_c (x := x) (y := y) (Nat.lt_trans (hs.cuts y (zas hy)) (by decide)) ?_));(try simp only [seval]);refine zhC ?_;refine zlj ?_;refine ⟨fun h3 => ?_, fun h3 => ?_⟩
    ·refine zhC ?_;refine zlA ?_;refine endV hH ?_;have e : zmk (keyM x.cuts) x.keys = keyM x.cuts y := (by rw [hi, zaZ hy, if_neg h3]);rw [if_pos (by rw [e]; exact h3), e] at hk; exact hk
    ·refine zlu ?_;refine zhC ?_;refine hR _ ⟨hlt, ?_, ?_⟩
     ·rw [hi, zaZ hy, if_pos h3]
     ·rw [zau _ (by omega)];exact zl7
   ·have hz : zmk (keyM x.cuts) x.keys = 0 := by
     have : i = x.keys.length := (by omega);rw [hi, this]; simp [zmk]
    rw [if_neg (by rw [hz]; simp)] at hk;clear hR;refine zl4 ?_;refine zhC ?_;refine zlj ?_;refine ⟨fun h => ?_, fun h => ?_⟩
    ·refine zhC ?_;refine zlA ?_;refine endV hH ?_;rw [if_pos (by omega)] at hk; exact hk
    ·rw [if_neg (by omega)] at hk;refine zlu ?_;refine zhC ?_;refine zlF ?_;refine zmh x.locks.length (fun i : Nat => [(5, iv i)]) (fun _ => _) (fun i => zmk (znx x.cuts) x.locks = zmk (znx x.cuts) (x.locks.drop i)) rfl (fun hHs hLt i hin hi R hR => ?_);refine zhC ?_;refine zlj ?_;refine ⟨fun h2 => ?_, fun h2 => ?_⟩
     ·have hlt : i < x.locks.length := (by omega);obtain ⟨y, hy⟩ := zaE hlt;refine zlu ?_;refine zlF ?_;refine zmc 6 ?_;simp only [seval, zfu hy, zaz hlt];refine zl6 ((f110_c (x := x) (l := y) (hs.bands y (zas hy)) ?_));(try simp only [seval]);refine zhC ?_;refine zlj ?_;refine ⟨fun h3 => ?_, fun h3 => ?_⟩
      ·refine zhC ?_;refine zlA ?_;refine endV hH ?_;have e : zmk (znx x.cuts) x.locks = znx x.cuts y := (by rw [hi, zaZ hy, if_neg h3]);rw [if_pos (by rw [e]; exact h3), e] at hk; exact hk
      ·refine zlu ?_;refine zhC ?_;refine hR _ ⟨hlt, ?_, ?_⟩
       ·rw [hi, zaZ hy, if_pos h3]
       ·rw [zau _ (by omega)];exact zl7
     ·have hz : zmk (znx x.cuts) x.locks = 0 := by
       have : i = x.locks.length := (by omega);rw [hi, this]; simp [zmk]
      rw [if_neg (by rw [hz]; simp)] at hk;clear hR;refine zl4 ?_;refine zhC ?_;refine zlj ?_;refine ⟨fun h => ?_, fun h => ?_⟩
      ·refine zhC ?_;refine zlA ?_;refine endV hH ?_;rw [if_pos (by omega)] at hk; exact hk
      ·rw [if_neg (by omega)] at hk;refine zlu ?_;refine zhC ?_;refine zlF ?_;refine zmh x.tries.length (fun i : Nat => [(7, iv i)]) (fun _ => _) (fun i => zmk (tryM x) x.tries = zmk (tryM x) (x.tries.drop i)) rfl (fun hHs hLt i hin hi R hR => ?_);refine zhC ?_;refine zlj ?_;refine ⟨fun h2 => ?_, fun h2 => ?_⟩
       ·have hlt : i < x.tries.length := (by omega);obtain ⟨y, hy⟩ := zaE hlt;have bad : ∀ {K : Prop}, tryM x y = 3 -> (k (iv 3) H -> K) -> K := fun e hK => hK (by
         rw [hi, zaZ hy, e, if_neg (by decide)] at hk; exact hk)
        refine zlu ?_;refine zlF ?_;refine zmc 17 ?_;simp only [seval, zh6 hy, zaz hlt];refine znh _ (zmg (f96_c (x := x) (by omega) ⟨rfl, rfl⟩)) ?_;(try simp only [seval]);refine zoE (fun h3 => ?_) (fun h3 => ?_)
        ·simp only [Bool.not_eq_false', Bool.not_eq_true', Bool.not_true, Bool.not_false] at h3;(try simp only [seval, zh6 hy, zaz hlt]);refine zl6 ((f104_c (x := x) (by omega) ?_));(try simp only [seval]);refine zlj ?_;refine ⟨fun h4 => ?_, fun h4 => ?_⟩
         ·refine zhC ?_;refine zlA ?_;exact endV hH (bad (zpJ (by rw [h3, h4]; rfl)) id)
         ·refine zlu ?_;refine zhC ?_;refine hR _ ⟨hlt, ?_, ?_⟩
          ·rw [hi, zaZ hy, if_pos (zqF (by rw [h3, h4]; rfl))]
          ·rw [zau _ (by omega)];exact zl7
        ·simp only [Bool.not_eq_false', Bool.not_eq_true', Bool.not_true, Bool.not_false] at h3;(try simp only [seval]);refine zlj ?_;refine zhC ?_;refine zlA ?_;exact endV hH (bad (zpJ (by rw [h3]; rfl)) id)
       ·clear hR;refine zl4 ?_;refine zhC ?_;refine zlA ?_;refine endV hH ?_;have : i = x.tries.length := (by omega);rw [hi, this] at hk;simpa [zmk] using hk
def zom (x : Ring) (b : Bool) : Int := if zmW x ≠ 0 then zmW x else if b then 0 else 3
theorem f95_c {x : Ring} {b : Bool} (hs : x.Small) (hk : k (iv (zom x b)) H) : FnC lv Tryz.prog 95 H [x.av, bv b] k kp := by
 refine zlV (rs := [.tmp 4]) (nt := 13) Tryz.f95 fun hH hA => ?_;simp only [zma, Nat.reduceAdd, Ring.av, Ring.l];refine zhC ?_;refine zhC ?_;refine zl6 ((f36_c (x := x) hs ?_));(try simp only [seval]);refine zhC ?_;unfold zom at hk;refine zlj ?_;refine ⟨fun h => ?_, fun h => ?_⟩
 ·rw [if_pos h] at hk;refine zhC ?_;refine zlA ?_;exact endV hH hk
 ·rw [if_neg (by simpa using h)] at hk;refine zlu ?_;refine zhC ?_;refine zlj ?_;refine ⟨fun h2 => ?_, fun h2 => ?_⟩
  ·refine zhC ?_;refine zlA ?_;exact endV hH (by simpa [h2] using hk)
  ·refine zlu ?_;refine zhC ?_;refine zlA ?_;exact endV hH (by simpa [h2] using hk)
def zmL (n : Nat) : Nat -> Nat -> List (List Int)
 | 0, _ => [[]]
 | k + 1, first => (List.range' first (n - k - first)).flatMap fun i => (zmL n k (i + 1)).map ((i : Int) :: ·)
def znz (n : Nat) : List (List Int) := (List.range (n + 1)).flatMap fun k => zmL n k 0
theorem zlE : ∀ n, n <= 6 -> znz n = (List.range (n + 1)).flatMap (zmQ n) := by decide +kernel
end
theorem zlz : ∀ n, n <= 6 -> ∀ k, k <= 6 -> ∀ first, first <= 7 -> (zmL n k first).length <= 20 /\ ∀ r ∈ zmL n k first, r.length = k := by decide +kernel
def outJ (n kk first j : Nat) : List (List Int) := (List.range' first j).flatMap fun i => (zmL n kk (i + 1)).map ((i : Int) :: ·)
theorem zlH (n kk first j : Nat) : outJ n kk first (j + 1) = outJ n kk first j ++ (zmL n kk (first + j + 1)).map (((first + j : Nat) : Int) :: ·) := by
 unfold outJ;rw [List.range'_concat, List.flatMap_append]; simp
theorem zlL (n kk first : Nat) : ∀ j, (∀ i, i < j -> (zmL n kk (first + i + 1)).length <= 20) -> (outJ n kk first j).length <= 20 * j
 | 0, _ => by simp [outJ]
 | j + 1, h => by
  have h1 := zlL n kk first j fun i hi => h i (by omega)
  have h2 := h j (by omega);rw [zlH, List.length_append, List.length_map]; omega
theorem zlW {l : List AV} {a b : AV} (h : Wk a b) : Wks (l ++ [a]) (l ++ [b]) := by
 induction l with
 | nil => exact .cons h .nil
 | cons x l ih => exact .cons (Wk.refl _) ih
theorem zlZ (n m k : Nat) (bs : List (List Int)) : Lt n (.sl m (bs.map aInts) (.opn k)) = (k < n) := by
 rw [zdq, eq_iff_iff];refine ⟨fun h => h.1, fun h => ⟨h, fun a ha => ?_⟩⟩;have := zlv n bs;rw [znn, za3] at this;exact this.mpr trivial a ha
theorem zs1 : zmx (Value.slice none 0 0) 1 = [.sl 0 [] .exact] := rfl
theorem zlC {α β : Type} {xs : List α} {i : Nat} {x : α} (f : α -> β) (h : xs[i]? = some x) : (xs.take (i + 1)).map f = (xs.take i).map f ++ [f x] := by
 obtain ⟨hj, rfl⟩ := List.getElem?_eq_some_iff.1 h;rw [List.take_succ_eq_append_getElem hj, List.map_append]; rfl
theorem zlX {H : List AObj} (hH : HOk H) (n sz : Nat) (el : TypeId) : HOk (H ++ [.tail n sz el]) := zc6 hH fun z hz m => by rw [List.mem_singleton.1 hz]; trivial
section
variable {lv : Bool}
end
def znf (n j : Nat) : List (List Int) := (List.range j).flatMap fun k => zmL n k 0
theorem zly (n j : Nat) : znf n (j + 1) = znf n j ++ zmL n j 0 := by unfold znf; rw [List.range_succ, List.flatMap_append]; simp
theorem zlI : ∀ n, n <= 6 -> ∀ r ∈ znz n, r.length <= 6 /\ ∀ i ∈ r, 0 <= i /\ i < n := by decide +kernel
section
variable {lv : Bool} {H : List AObj} {k kp : AV -> List AObj -> Prop}
end
def znV (n : Nat) : Nat -> List (List Int)
 | 0 => [[]]
 | k + 1 => (List.range n).flatMap fun i : Nat => (znV n k).map ((i : Int) :: ·)
theorem zeh : ∀ n, n <= 4 -> ∀ k, k <= 4 -> (znV n k).length <= 256 /\ ∀ r ∈ znV n k, r.length = k /\ ∀ i ∈ r, 0 <= i /\ i < n := by decide +kernel
section
variable {lv : Bool}
end
section
variable {lv : Bool} {H : List AObj} {k kp : AV -> List AObj -> Prop}
def zo1 (x : Ring) (t : List Int) : Nat -> Bool
 | 0 => true
 | k + 1 => zo1 x t k && (match x.keys[k]?, t[k]? with | some y, some w => decide (y.wear.min <= w) && decide (w <= y.wear.max) | _, _ => true)
def znD (x : Ring) (t : List Int) : Nat -> Bool
 | 0 => true
 | i + 1 => znD x t i && (match x.tries[i]? with | some r => zmG x.keys t x.locks r.key r.lock == r.opens | none => true)
def zuP (x : Ring) (t : List Int) : Bool := zo1 x t x.keys.length && znD x t x.tries.length
def zmq (x : Ring) : List (List Int) := (znV 3 x.keys.length).filter (zuP x)
theorem zlS (t : List Int) : (aInts t).parts = some [aInts t] := rfl
theorem zgv {x : Ring} {t : List Int} {k : Nat} {y : Key} {w : Int} (hy : x.keys[k]? = some y) (hw : t[k]? = some w) : zo1 x t (k + 1) = (zo1 x t k && (decide (y.wear.min <= w) && decide (w <= y.wear.max))) := by rw [zo1, hy, hw]
theorem zf9 {x : Ring} {t : List Int} {i : Nat} {r : Try} (hr : x.tries[i]? = some r) : znD x t (i + 1) = (znD x t i && (zmG x.keys t x.locks r.key r.lock == r.opens)) := by rw [znD, hr]
def zoq (ks : List Key) (r : List Int) : Bool := (ks.zip r).all fun p => decide (p.1.wear.min <= p.2) && decide (p.2 <= p.1.wear.max)
theorem zlx (y : Key) (ks : List Key) (w : Int) (r : List Int) : zoq (y :: ks) (w :: r) = (decide (y.wear.min <= w) && decide (w <= y.wear.max) && zoq ks r) := by simp [zoq]
theorem zlU {lo hi : Int} (h0 : 0 <= lo) (h1 : lo <= hi) (h2 : hi <= 2) {β : Type} (f : Int -> List β) : (zmF lo hi).flatMap f = (List.range 3).flatMap fun i : Nat => if decide (lo <= (i : Int)) && decide ((i : Int) <= hi) then f i else [] := by
 have hr : List.range 3 = [0, 1, 2] := rfl;have hl : lo = 0 \/ lo = 1 \/ lo = 2 := by omega
 have hh : hi = 0 \/ hi = 1 \/ hi = 2 := by omega
 rw [hr];rcases hl with rfl | rfl | rfl <;> rcases hh with rfl | rfl | rfl <;> first | omega | (simp [zmF, List.range_succ])
theorem zli : ∀ (ys : List Key) (pre : List Int) (m : Nat), (∀ y ∈ ys, y.wear.Ok 2) -> zmO ys pre.length (pre ++ List.replicate (m + ys.length) 0) = ((znV 3 ys.length).filter (zoq ys)).map fun r => pre ++ r ++ List.replicate m 0
 | [], pre, m, _ => by simp [zmO, znV, zoq]
 | y :: ys, pre, m, h => by
  have hy := h y List.mem_cons_self;rw [zmO, zlU hy.min hy.le hy.max];show _ = (((List.range 3).flatMap fun i : Nat => (znV 3 ys.length).map ((i : Int) :: ·)).filter (zoq (y :: ys))).map _;rw [List.filter_flatMap, List.map_flatMap];congr 1;funext i;have hset : (pre ++ List.replicate (m + (y :: ys).length) 0).set pre.length (i : Int) = (pre ++ [(i : Int)]) ++ List.replicate (m + ys.length) 0 := by
   rw [List.set_append_right _ _ (Nat.le_refl _), Nat.sub_self, List.length_cons, <- Nat.add_assoc, List.replicate_succ, List.set_cons_zero, List.append_assoc]; rfl
  have ih := zli ys (pre ++ [(i : Int)]) m fun z hz => h z (List.mem_cons_of_mem _ hz);rw [List.length_append, List.length_singleton] at ih;rw [hset, ih];cases hc : (decide (y.wear.min <= (i : Int)) && decide ((i : Int) <= y.wear.max)) with
  | true =>
   rw [if_pos rfl, List.filter_map, List.map_map];have : (zoq (y :: ys) ∘ fun x => (i : Int) :: x) = zoq ys := (by funext r; simp only [Function.comp]; rw [zlx, hc, Bool.true_and]);rw [this];congr 1;funext r;simp
  | false =>
   rw [if_neg (by simp), List.filter_map, List.map_map];have : (zoq (y :: ys) ∘ fun x => (i : Int) :: x) = fun _ => false := (by funext r; simp only [Function.comp]; rw [zlx, hc, Bool.false_and]);rw [this];simp
def padR (n : Nat) (r : List Int) : List Int := r ++ List.replicate (4 - n) 0
theorem zlG {x : Ring} (hx : x.Ok) : zmb x = ((znV 3 x.keys.length).filter (zoq x.keys)).map (padR x.keys.length) := by
 have h4 := hx.keys;have h := zli x.keys [] (4 - x.keys.length) fun y hy => (hx.key y hy).2.2;rw [show 4 - x.keys.length + x.keys.length = 4 by omega] at h;exact h
theorem zlw (x : Ring) (t : List Int) : ∀ k, k <= x.keys.length -> k <= t.length -> zo1 x t k = ((x.keys.zip t).take k).all fun p => decide (p.1.wear.min <= p.2) && decide (p.2 <= p.1.wear.max)
 | 0, _, _ => rfl
 | k + 1, h, h' => by
  obtain ⟨y, hy⟩ := zaE (xs := x.keys) (i := k) (by omega);obtain ⟨w, hw⟩ := zaE (xs := t) (i := k) (by omega);have hz : (x.keys.zip t)[k]? = some (y, w) := by rw [List.getElem?_zip_eq_some]; exact ⟨hy, hw⟩
  rw [zgv hy hw, zlw x t k (by omega) (by omega)];obtain ⟨hj, hle⟩ := List.getElem?_eq_some_iff.1 hz;rw [List.take_succ_eq_append_getElem hj, hle, List.all_append];simp
theorem zlP {x : Ring} {t : List Int} (h : t.length = x.keys.length) : zo1 x t x.keys.length = zoq x.keys t := by
 rw [zlw x t _ (Nat.le_refl _) (by omega), List.take_of_length_le (by simp [h])]; rfl
theorem ziC (cuts : Int) (ds : List Int) (ls : List (List Band)) (j : Nat) : ∀ i, (zmy cuts ds ls i).testBit j = (decide (j < i) && (match ls[j]? with | some l => zni (ds.take cuts.toNat) l | none => false))
 | 0 => by simp [zmy]
 | i + 1 => by
  have ih := ziC cuts ds ls j i;have hlt := zb5 cuts ds ls i;have hhi : (zmy cuts ds ls i).testBit i = false := Nat.testBit_lt_two_pow hlt;unfold zmy;by_cases hji : j = i
  ·subst hji;cases hl : ls[j]? with
   | none => simp [hhi]
   | some l =>
    simp only;split
    ·rename_i hf; simp [Nat.testBit_or, Nat.testBit_two_pow_self, hf]
    ·rename_i hf; simp [hhi, hf]
  ·have hd : decide (j < i + 1) = decide (j < i) := (by congr 1; simp; omega);rw [hd];cases hl : ls[i]? with
   | none => exact ih
   | some l =>
    simp only;split
    ·rw [Nat.testBit_or, ih, Nat.testBit_two_pow_of_ne (Ne.symm hji), Bool.or_false]
    ·exact ih
theorem zf8 {x : Ring} (hx : x.Ok) {t : List Int} (ht : t.length = x.keys.length) (hb : ∀ w ∈ t, 0 <= w /\ w <= 2) {k l : Nat} (hk : k < x.keys.length) (hl : l < x.locks.length) : (zmT x (padR x.keys.length t) k).testBit l = zmG x.keys t x.locks k l := by
 obtain ⟨y, hy⟩ := zaE hk;obtain ⟨lk, hlk⟩ := zaE hl;obtain ⟨w, hw⟩ := zaE (xs := t) (i := k) (by omega);obtain ⟨hyc, hyb, hyw⟩ := hx.key y (zas hy);have hw0 := (hb w (zas hw)).1;have hc := hx.cuts;have hp : (padR x.keys.length t).getD k 0 = w := by
  unfold padR;rw [List.getD_eq_getElem?_getD, List.getElem?_append_left (by omega), hw]; rfl
 have how : zmG x.keys t x.locks k l = zni (zmn w y.cuts) lk := by
  unfold zmG;simp only [Int.toNat_natCast, List.getD_eq_getElem?_getD, hy, hw, hlk, Option.map_some, Option.getD_some]
 rw [how];unfold zmT zmu;rw [hp, hy];simp only;rw [ziC, hlk];have hwn : ((w.toNat : Nat) : Int) = w := by omega
 have htk : (zmn (w.toNat : Nat) (zmi y.cuts)).take x.cuts.toNat = zmn w y.cuts := by
  rw [hwn];unfold zmn zmi;rw [List.take_of_length_le (show y.cuts.length <= 4 by omega), List.map_append, List.take_append_of_le_length (by simp; omega), List.take_of_length_le (by simp; omega)]
 rw [htk];simp [hl]
def zmI (x : Ring) (t keys : List Int) (p q : Nat) : Bool := keys.any fun k => zmG x.keys t x.locks k p != zmG x.keys t x.locks k q
theorem zlK {x : Ring} {t keys : List Int} {p q i : Nat} {k : Int} (h : keys[i]? = some k) : zmI x t (keys.take (i + 1)) p q = (zmI x t (keys.take i) p q || (zmG x.keys t x.locks k p != zmG x.keys t x.locks k q)) := by
 obtain ⟨hj, rfl⟩ := List.getElem?_eq_some_iff.1 h;unfold zmI;rw [List.take_succ_eq_append_getElem hj, List.any_append]; simp
theorem zlM {x : Ring} {t keys : List Int} {p q i : Nat} {k : Int} (h : keys[i]? = some k) (hd : (zmG x.keys t x.locks k p != zmG x.keys t x.locks k q) = true) : zmI x t keys p q = true := List.any_eq_true.2 ⟨k, zas h, hd⟩
theorem zlN {x : Ring} (hx : x.Ok) {t : List Int} (ht : t.length = x.keys.length) (hb : ∀ w ∈ t, 0 <= w /\ w <= 2) : ∀ i, i <= x.tries.length -> okTo x [] (padR x.keys.length t) i = znD x t i
 | 0, _ => rfl
 | i + 1, h => by
  obtain ⟨r, hr⟩ := zaE (xs := x.tries) (i := i) (by omega);obtain ⟨⟨hk0, hk⟩, hl0, hl⟩ := hx.tried r (zas hr);rw [okTo, zlN hx ht hb i (by omega), zf9 hr, hr];have h1 := zf8 hx ht hb (k := r.key.toNat) (l := r.lock.toNat) (by omega) (by omega);have e1 : ((r.key.toNat : Nat) : Int) = r.key := by omega
  have e2 : ((r.lock.toNat : Nat) : Int) = r.lock := by omega
  rw [e1, e2] at h1;simp only [List.contains_nil, Bool.false_or];unfold zpn;rw [<- h1]; rfl
theorem zlO {α : Type} (l : List α) (p : α -> Bool) : ((l.zipIdx.filter fun y => p y.1).map (·.1)) = l.filter p := by
 have h := List.filter_map (f := fun y : α × Nat => y.1) (p := p) (l := l.zipIdx);rw [List.zipIdx_map_fst] at h;exact h.symm
theorem zgX {x : Ring} (hx : x.Ok) : (zl8 x []).map (·.1) = (zmq x).map (padR x.keys.length) := by
 unfold zl8 zmK;rw [zlO (zmb x) fun r => okTo x [] r x.tries.length, zlG hx, List.filter_map, List.filter_filter];congr 1;unfold zmq;refine List.filter_congr fun t ht => ?_;obtain ⟨h1, h2⟩ := (zeh 3 (by omega) x.keys.length hx.keys).2 t ht;have hb : ∀ w ∈ t, 0 <= w /\ w <= 2 := fun w hw => by have := h2 w hw; omega
 simp only [Function.comp];rw [zlN hx h1 hb _ (Nat.le_refl _), zuP, zlP h1, Bool.and_comm]
theorem zlQ {x : Ring} (hx : x.Ok) : (zl8 x []).length = (zmq x).length := by
 have := congrArg List.length (zgX hx);rwa [List.length_map, List.length_map] at this
theorem zlR {x : Ring} (hx : x.Ok) (f : List Int -> Bool) : ((zl8 x []).all fun y => f y.1) = (zmq x).all fun t => f (padR x.keys.length t) := by
 have h := congrArg (fun l => List.all l f) (zgX hx);simp only [List.all_map] at h;exact h
theorem zhQ {x : Ring} (hx : x.Ok) : ∀ t ∈ zmq x, t.length = x.keys.length /\ ∀ w ∈ t, 0 <= w /\ w <= 2 := fun t ht => by
 obtain ⟨h1, h2⟩ := (zeh 3 (by omega) x.keys.length hx.keys).2 t (List.mem_filter.1 ht).1;exact ⟨h1, fun w hw => by have := h2 w hw; omega⟩
theorem zlJ {x : Ring} (hx : x.Ok) : (zmq x).length <= 256 := Nat.le_trans (List.length_filter_le _ _) (zeh 3 (by omega) x.keys.length hx.keys).1
end
def znU (x : Ring) (t keys : List Int) (n : Nat) : Bool := (List.range n).all fun b => (List.range b).all fun a => zmI x t keys b a
def tellL (x : Ring) (keys : List Int) : Bool := (zmq x).all fun t => znU x t keys x.locks.length
theorem zrp {x : Ring} (hx : x.Ok) {keys : List Int} (hk : ∀ k ∈ keys, 0 <= k /\ k < x.keys.length) : zpA x (zl8 x []) keys = tellL x keys := by
 unfold zpA tellL;rw [zlR hx fun r => zpN x r keys, Bool.eq_iff_iff];simp only [List.all_eq_true];refine forall_congr' fun t => forall_congr' fun ht => ?_;obtain ⟨h1, h2⟩ := zhQ hx t ht;rw [<- Bool.eq_iff_iff];unfold zpN znU;rw [Bool.eq_iff_iff];simp only [List.all_eq_true, List.mem_range];refine forall_congr' fun b => forall_congr' fun hb => forall_congr' fun a => forall_congr' fun ha => ?_;rw [<- Bool.eq_iff_iff];unfold znX zmI;rw [Bool.eq_iff_iff];simp only [List.any_eq_true];refine exists_congr fun k => and_congr_right fun hkm => ?_;obtain ⟨hk0, hk1⟩ := hk k hkm;have e : ((k.toNat : Nat) : Int) = k := by omega
 have e1 := zf8 hx h1 h2 (k := k.toNat) (l := a) (by omega) (by omega);have e2 := zf8 hx h1 h2 (k := k.toNat) (l := b) (by omega) (by omega);rw [e] at e1 e2;rw [e1, e2];simp only [bne_iff_ne];exact ne_comm
theorem zlT {x : Ring} (hx : x.Ok) : zpL x = (znz x.keys.length).find? (zpA x (zl8 x [])) := by
 unfold zpL znm;rw [zlE _ (by have := hx.keys; omega)]
theorem zlD {α : Type} {l : List α} {i : Nat} {a : α} (f : α -> Bool) (h : l[i]? = some a) : (l.take (i + 1)).all f = ((l.take i).all f && f a) := by
 obtain ⟨hj, rfl⟩ := List.getElem?_eq_some_iff.1 h;rw [List.take_succ_eq_append_getElem hj, List.all_append]; simp
theorem zfK (n : Nat) (f : Nat -> Bool) : (List.range (n + 1)).all f = ((List.range n).all f && f n) := by
 rw [List.range_succ, List.all_append]; simp
section
variable {H : List AObj} {k kp : AV -> List AObj -> Prop}
end
section
variable {lv : Bool} {H : List AObj} {k kp : AV -> List AObj -> Prop}
end
theorem zqg {x : Ring} (hx : x.Ok) : zl8 x [] = [] <-> zmq x = [] := by rw [<- List.length_eq_zero_iff, zlQ hx, List.length_eq_zero_iff]
section
variable {H : List AObj} {k kp : AV -> List AObj -> Prop}
end
section
variable {lv : Bool} {H : List AObj} {k kp : AV -> List AObj -> Prop}
theorem f98_c {xs : List Int} {n : Int} (hb : ∀ x ∈ xs, 0 <= x /\ x <= 3) (hn : 0 <= n /\ n <= 3) (hl : xs.length <= 2 ^ 20) (hk : k (aInts (zmn n xs)) H) : FnC lv Tryz.prog 98 H [aInts xs, iv n] k kp := by
 refine zlV (rs := [.tmp 4]) (nt := 24) Tryz.f98 fun hH hA => ?_;simp only [zma, Nat.reduceAdd, aInts];refine zhC ?_;refine zhC ?_
 (repeat apply zaa); refine zbV (t := 5) (sz := 1) (el := 3) (by simp only [seval] <;> rfl) ?_
 refine zhC ?_;refine zlF ?_;refine zaB xs.length (fun i : Nat => [(5, .sl i ((zmn n (xs.take i)).map iv) (.opn H.length)), (6, iv i)]) (fun i => H ++ [.tail i 1 3]) (fun i => True) (fun _ _ => rfl) (by simp only [seval]; simp [zaf, Wk.refl]; exact Wk.refl _) rfl (fun _ _ _ => by simp) trivial (fun hHs hLt i hin hi R hR => ?_);refine zhC ?_;refine zlj ?_;refine ⟨fun h => ?_, fun h => ?_⟩
 ·have hlt : i < xs.length := by omega
  obtain ⟨x, hx⟩ := zaE hlt;have hxb := hb x (zas hx);have hw : IntKind.i64.wrap (x - n) = x - n := zau _ (by omega);have hw2 : IntKind.i64.wrap ((i : Int) + 1) = i + 1 := zau _ (by omega);have hmax : (if 0 < x - n then x - n else 0) = max 0 (x - n) := by omega
  have hwl : ((zmn n (xs.take i)).map iv).length = i := by simp [zmn]; omega
  have hnext : (zmn n (xs.take (i + 1))).map iv = (zmn n (xs.take i)).map iv ++ [.val (.int .i64 (max 0 (x - n)))] := by
   unfold zmn;rw [List.map_map, zfA _ hx, List.map_map]; rfl
  refine zlu ?_;refine zl5 ?_;simp only [seval, z1, za2 hx, zaz hlt, hw, hmax, hwl]
  first | refine ⟨by omega, by omega, ?_⟩ | refine ⟨by omega, ?_⟩
  refine zl5 ?_;simp only [seval, hw2];refine hR _ ⟨hlt, trivial, ?_⟩;rw [hnext];exact zl7
 ·have hix : i = xs.length := by omega
  subst hix;refine zl4 ?_;refine zhC ?_;refine zlA ?_;rw [List.take_length];have hwl : (zmn n xs).length = xs.length := by simp [zmn]
  rw [aInts, hwl] at hk;exact endA hH (zaK _ _ _) (by simp [za3, zap]) hk
theorem f124_c {x : Ring} {t : List Int} {e : End} {kn ln : Nat} (hx : x.Ok) (hkn : kn < x.keys.length) (hln : ln < x.locks.length) (htl : x.keys.length <= t.length) (htb : ∀ w ∈ t, 0 <= w /\ w <= 2) (hk : k (bv (zmG x.keys t x.locks kn ln)) H) : FnC lv Tryz.prog 124 H [x.av, .sl t.length (t.map iv) e, iv kn, iv ln] k kp := by
 refine zlV (rs := [.tmp 8]) (nt := 26) Tryz.f124 fun hH hA => ?_;simp only [zma, Nat.reduceAdd, Ring.av, Ring.l];obtain ⟨y, hy⟩ := zaE hkn;obtain ⟨l, hl⟩ := zaE hln;obtain ⟨w, hw⟩ := zaE (xs := t) (i := kn) (by omega);obtain ⟨hyc, hyb, hyw⟩ := hx.key y (zas hy);obtain ⟨hlc, hlb⟩ := hx.lock l (zas hl);obtain ⟨hw0, hw2⟩ := htb w (zas hw);have hc := hx.cuts;have hdl : (zmn w y.cuts).length = y.cuts.length := by simp [zmn]
 have how : zmG x.keys t x.locks kn ln = zni (zmn w y.cuts) l := by
  unfold zmG;simp only [Int.toNat_natCast, List.getD_eq_getElem?_getD, hy, hw, hl, Option.map_some, Option.getD_some]
 rw [how] at hk;refine zhC ?_;refine zmc 16 ?_;simp only [seval, zc2 hy, zaz hkn, za2 hw, zaz (get_lt hw), zfu hl, zaz hln, zmv, zml];refine znh _ (zmg (f98_c hyb ⟨by omega, by omega⟩ (by omega) ⟨rfl, rfl⟩)) ?_;refine zl6 ((f146_c (by omega) (by omega) ?_));(try simp only [seval]);refine zlA ?_;exact endA hH (Wk.refl _) (by simp [zap]) hk
end
def zna : List Key -> List Int -> List (List Int)
 | [], t => [t]
 | y :: ys, t => (zmF y.wear.min y.wear.max).flatMap fun w => zna ys (t ++ [w])
theorem znL : ∀ (ys : List Key) (t : List Int), (∀ y ∈ ys, y.wear.Ok 2) -> zna ys t = ((znV 3 ys.length).filter (zoq ys)).map fun r => t ++ r
 | [], t, _ => by simp [zna, znV, zoq]
 | y :: ys, t, h => by
  obtain ⟨h0, h2, h1⟩ := h y List.mem_cons_self;rw [zna, zlU h0 h1 h2];simp only [List.length_cons, znV];rw [List.filter_flatMap, List.map_flatMap];congr 1;funext i;rw [List.filter_map, List.map_map, znL ys _ fun z hz => h z (List.mem_cons_of_mem _ hz)];have e : (zoq (y :: ys) ∘ fun r => (i : Int) :: r) = fun r => decide (y.wear.min <= (i : Int)) && decide ((i : Int) <= y.wear.max) && zoq ys r := by
   funext r; exact zlx y ys i r
  rw [e];cases hb : decide (y.wear.min <= (i : Int)) && decide ((i : Int) <= y.wear.max) with
  | false => simp
  | true => simp
theorem zoI (ys : List Key) (t : List Int) (h : ∀ y ∈ ys, y.wear.Ok 2) : (zna ys t).length <= 3 ^ ys.length := by
 rw [znL ys t h, List.length_map];refine Nat.le_trans (List.length_filter_le _ _) ?_;have : ∀ n, (znV 3 n).length = 3 ^ n := fun n => by
  induction n with
  | zero => rfl
  | succ n ih => simp [znV, List.length_flatMap, List.range_succ, ih, Nat.pow_succ]; omega
 rw [this]; exact Nat.le_refl _
def zm6 (y : Key) (ys : List Key) (t : List Int) (i : Nat) : List (List Int) := ((zmF y.wear.min y.wear.max).take i).flatMap fun w => zna ys (t ++ [w])
theorem zoN {y : Key} {ys : List Key} {t : List Int} {i : Nat} {w : Int} (h : (zmF y.wear.min y.wear.max)[i]? = some w) : zm6 y ys t (i + 1) = zm6 y ys t i ++ zna ys (t ++ [w]) := by
 obtain ⟨hj, rfl⟩ := List.getElem?_eq_some_iff.1 h;unfold zm6;rw [List.take_succ_eq_append_getElem hj, List.flatMap_append]; simp
theorem zp4 {y : Key} {ys : List Key} {t : List Int} (h : ∀ z ∈ ys, z.wear.Ok 2) : ∀ i, (zm6 y ys t i).length <= i * 3 ^ ys.length := fun i => by
 induction i with
 | zero => simp [zm6]
 | succ i ih =>
  by_cases hi : i < (zmF y.wear.min y.wear.max).length
  ·obtain ⟨w, hw⟩ := zaE hi;rw [zoN hw, List.length_append, Nat.succ_mul];exact Nat.add_le_add ih (zoI ys (t ++ [w]) h)
  ·have e : zm6 y ys t (i + 1) = zm6 y ys t i := (by unfold zm6; rw [List.take_of_length_le (by omega), List.take_of_length_le (by omega)]);rw [e, Nat.succ_mul]; exact Nat.le_trans ih (Nat.le_add_right _ _)
section
variable {lv : Bool}
set_option maxRecDepth 4000 in
theorem f161_c {x : Ring} (hx : x.Ok) : ∀ (m : Nat) {t : List Int} {H : List AObj} {k kp : AV -> List AObj -> Prop}, t.length + m = x.keys.length -> k (znn (zna (x.keys.drop t.length) t)) H -> FnC lv Tryz.prog 161 H [x.av, aInts t] k kp
 | 0, t, H, k, kp, hm, hk => by
  refine zlV (rs := [.tmp 4]) (nt := 42) Tryz.f161 fun hH hA => ?_;simp only [zma, Nat.reduceAdd, Ring.av, Ring.l];have hm : t.length = x.keys.length := by omega
  have hq : ((t.length : Int) == x.keys.length) = true := by simp [hm]
  refine zhC ?_;refine zl5 ?_;simp only [seval, zmv, aInts, hq];refine zlj ?_;refine zl5 ?_;simp only [seval, zs1, zhq, zmv, aInts];refine zlA ?_;rw [hm, List.drop_length, zna] at hk;exact endA (b := znn [t]) hH (zaK _ _ _) (by rw [zlv]; trivial) hk
 | m + 1, t, H, k, kp, hm, hk => by
  refine zlV (rs := [.tmp 4]) (nt := 42) Tryz.f161 fun hH hA => ?_;simp only [zma, Nat.reduceAdd, Ring.av, Ring.l];have hkl := hx.keys;have hlt : t.length < x.keys.length := by omega
  obtain ⟨y, hy⟩ := zaE hlt;obtain ⟨hyc, hyb, hyw⟩ := hx.key y (zas hy);obtain ⟨hw0, hw2, hw1⟩ := hyw;have hdrop : x.keys.drop t.length = y :: x.keys.drop (t.length + 1) := by
   obtain ⟨hj, rfl⟩ := List.getElem?_eq_some_iff.1 hy;exact List.drop_eq_getElem_cons hj
  have hys : ∀ z ∈ x.keys.drop (t.length + 1), z.wear.Ok 2 := fun z hz => (hx.key z (List.mem_of_mem_drop hz)).2.2;have hq : ((t.length : Int) == x.keys.length) = false := by simp; omega
  have hrl : (zmF y.wear.min y.wear.max).length = (y.wear.max - y.wear.min + 1).toNat := by simp [zmF]
  have hpow : 3 ^ (x.keys.drop (t.length + 1)).length <= 27 := by
   have : (x.keys.drop (t.length + 1)).length <= 3 := (by rw [List.length_drop]; omega);exact Nat.pow_le_pow_right (by omega) this
  have hal : ∀ i, i <= 3 -> (zm6 y (x.keys.drop (t.length + 1)) t i).length <= 81 := fun i hi => by
   refine Nat.le_trans (zp4 hys i) (Nat.le_trans (Nat.mul_le_mul hi hpow) (by decide))
  refine zhC ?_;refine zl5 ?_;simp only [seval, zmv, aInts, hq];refine zlj ?_;refine zlu ?_;refine zhC ?_;refine zl5 ?_;simp only [seval, zc2 hy, zaz hlt, zmv, aInts]
  (repeat apply zaa); refine zbV (t := 5) (sz := 1) (el := 30) (by simp only [seval] <;> rfl) ?_
  (try simp only [seval]);refine zhC ?_;refine zlF ?_;refine zaB (y.wear.max - y.wear.min + 1).toNat (fun i : Nat => [(5, .sl (zm6 y (x.keys.drop (t.length + 1)) t i).length ((zm6 y (x.keys.drop (t.length + 1)) t i).map aInts) (.opn (H.length + 2))), (7, iv (y.wear.min + i))]) (fun i => H ++ [.cells [iv x.cuts, zmv x.keys, zml x.locks, zmm x.tries] 26, .cells [iv y.wear.min, iv y.wear.max] 63, .tail (zm6 y (x.keys.drop (t.length + 1)) t i).length 1 30]) (fun i => True) (fun _ _ => rfl) (by simp only [Int.natCast_zero, Int.add_zero]; simp only [seval]; simp [zaf, Wk.refl]; try exact Wk.refl _) rfl (fun _ _ _ => by simp) trivial (fun hHs hLt i hin hi R hR => ?_);clear hHs hLt;refine zhC ?_;refine zlj ?_;refine ⟨fun h => ?_, fun h => ?_⟩
  ·have hil : i < (y.wear.max - y.wear.min + 1).toNat := (by omega);obtain ⟨w, hw⟩ := zaE (xs := zmF y.wear.min y.wear.max) (i := i) (by omega);have hwe : w = y.wear.min + i := by
    unfold zmF at hw;rw [List.getElem?_map, List.getElem?_range (by omega)] at hw;exact (Option.some.inj hw).symm
   have hsu := zoN (ys := x.keys.drop (t.length + 1)) (t := t) hw;have hai := hal i (by omega);have hws : (zna (x.keys.drop (t.length + 1)) (t ++ [w])).length <= 81 := Nat.le_trans (zoI _ _ hys) (by omega);have hw3 : IntKind.i64.wrap (y.wear.min + (i : Int) + 1) = y.wear.min + ((i + 1 : Nat) : Int) := (by rw [zau _ (by omega)]; omega);generalize zm6 y (x.keys.drop (t.length + 1)) t i = o at hsu hai hR ⊢;have htl : (t.map iv).length = t.length := List.length_map ..;have htk : (t.map iv).take t.length = t.map iv := List.take_of_length_le (by omega);have hol : (o.map aInts).length = o.length := List.length_map ..;have hfin : ∀ (G : List AObj), FnC lv Tryz.prog 161 G [x.av, aInts (t ++ [w])] (fun b H' => b = znn (zna (x.keys.drop (t.length + 1)) (t ++ [w])) /\ H' = G) (fun _ _ => False) := fun G => f161_c hx m (by rw [List.length_append]; simp; omega) ⟨by rw [List.length_append, List.length_singleton], rfl⟩;refine zlu ?_;refine zlF ?_;refine zmR [4, 7, 9] [0, 1, 2, 3, 4, 5, 6, 7, 8, 9, 10] [⟨0, false, [], [([4], [4]), ([4, 7], [4, 7])]⟩, ⟨1, false, [], [([4], [4]), ([4, 7], [4, 7])]⟩, ⟨2, false, [], []⟩, ⟨3, false, [], []⟩, ⟨4, true, [4], []⟩, ⟨5, false, [4], [([], [])]⟩, ⟨6, false, [4], [([], [])]⟩, ⟨7, true, [4, 7], []⟩, ⟨8, false, [4, 7], []⟩, ⟨9, true, [4, 7, 9], []⟩, ⟨10, false, [4, 7, 9], []⟩] (fun D => H ++ ([.cells [iv x.cuts, zmv x.keys, zml x.locks, zmm x.tries] 26, .cells [iv y.wear.min, iv y.wear.max] 63, .tail (bif zmz 9 D then o.length + (zna (x.keys.drop (t.length + 1)) (t ++ [w])).length else o.length) 1 30] ++ (bif zmz 7 D then [.tail (t.length + 1) 1 3] else bif zmz 4 D then [.tail t.length 1 3] else []))) ?_;simp only [seval, z1, zhq, zul, htl, htk, hol, aInts];have hwk : Wk (.sl (t.length + 1) (t.map iv ++ [iv (y.wear.min + i)]) (.opn (H.length + 3))) (aInts (t ++ [w])) := by
    have e : aInts (t ++ [w]) = .sl (t.length + 1) (t.map iv ++ [iv (y.wear.min + i)]) .shut := (by rw [hwe]; simp [aInts]);rw [e]; exact zaK _ _ _
   generalize hq2 : zna (x.keys.drop (t.length + 1)) (t ++ [w]) = rs at hsu hws hfin ⊢;refine ⟨by omega, by omega, ?_⟩;refine znh (znn rs) (zmg (zqm (.cons (Wk.refl _) (.cons hwk .nil)) (hfin _))) ?_;have hrsl : (rs.map aInts).length = rs.length := List.length_map ..;have hrst : (rs.map aInts).take rs.length = rs.map aInts := List.take_of_length_le (by omega);(try simp only [seval, z1, zhq, zul, htl, htk, hol, hrsl, hrst, znn]);refine ⟨by omega, fun a ha => ?_, ?_⟩
   ·obtain ⟨r, _, rfl⟩ := List.mem_map.1 ha;rfl
   refine zl5 ?_;simp only [seval, hw3];refine hR _ ⟨hil, trivial, ?_⟩;rw [hsu];refine zce [.tail (t.length + 1) 1 3] (zam rfl rfl) (by simp only [seval, List.length_append, List.map_append]; simp [zaf, Wk.refl]) ?_ ?_ (by simp)
   ·exact zc6 hH fun z hz n => by
     simp only [List.mem_cons, List.not_mem_nil, or_false] at hz;rcases hz with rfl | rfl | rfl
     ·exact fun a ha => by
       simp only [List.mem_cons, List.not_mem_nil, or_false] at ha;rcases ha with rfl | rfl | rfl | rfl
       ·exact .val _
       ·rw [zc5]; trivial
       ·rw [zci]; trivial
       ·rw [zch]; trivial
     ·exact fun a ha => by
       simp only [List.mem_cons, List.not_mem_nil, or_false] at ha;rcases ha with rfl | rfl <;> exact .val _
     ·trivial
   ·simp only [List.forall_mem_cons, zlZ, zap, iv]; simp
  ·have hix : i = (y.wear.max - y.wear.min + 1).toNat := (by omega);subst hix;clear hR;refine zl4 ?_;refine zhC ?_;refine zlA ?_;have e : zm6 y (x.keys.drop (t.length + 1)) t (y.wear.max - y.wear.min + 1).toNat = zna (x.keys.drop t.length) t := by
    rw [hdrop, zna, zm6, List.take_of_length_le (by omega)]
   rw [e];exact endA (b := znn (zna (x.keys.drop t.length) t)) hH (zaK _ _ _) (by rw [zlv]; trivial) hk
end
section
variable {lv : Bool} {H : List AObj} {k kp : AV -> List AObj -> Prop}
end
section
variable {H : List AObj} {k kp : AV -> List AObj -> Prop}
end
theorem zpI {x : Ring} (hx : x.Ok) : ((zna x.keys []).filter fun t => znD x t x.tries.length) = zmq x := by
 rw [znL _ _ fun y hy => (hx.key y hy).2.2];simp only [List.nil_append, List.map_id'];unfold zmq;rw [List.filter_filter];refine List.filter_congr fun t ht => ?_;have hl := ((zeh 3 (by decide) _ hx.keys).2 t ht).1;unfold zuP;rw [zlP hl, Bool.and_comm]
section
variable {lv : Bool} {H : List AObj} {k kp : AV -> List AObj -> Prop}
theorem f140_c {x : Ring} (hx : x.Ok) (hk : k (znn (zmq x)) H) : FnC lv Tryz.prog 140 H [x.av] k kp := by
 refine zlV (rs := [.tmp 2]) (nt := 54) Tryz.f140 fun hH hA => ?_;simp only [zma, Nat.reduceAdd, Ring.av, Ring.l];have hkl := hx.keys;have htl := hx.tries;refine zhC ?_;refine zhC ?_
 (repeat apply zaa); refine zbV (t := 3) (sz := 1) (el := 30) (by simp only [seval] <;> rfl) ?_
 (try simp only [seval]);refine zhC ?_;refine zl6 ((zqm (.cons (Wk.refl _) (.cons (zaK _ _ _) .nil)) (f161_c (t := []) hx x.keys.length (by simp) ?_)));have hw := zpI hx;have hwl := zoI x.keys [] fun y hy => (hx.key y hy).2.2;have hL : (zna x.keys []).length <= 81 := Nat.le_trans hwl (Nat.le_trans (Nat.pow_le_pow_right (by omega) hkl) (by decide));have hLr : ∀ t ∈ zna x.keys [], t.length = x.keys.length /\ ∀ w ∈ t, 0 <= w /\ w <= 2 := fun t ht => by
  rw [znL _ _ fun y hy => (hx.key y hy).2.2] at ht;simp only [List.nil_append, List.map_id'] at ht;have := (zeh 3 (by decide) _ hkl).2 t (List.mem_filter.1 ht).1;exact ⟨this.1, fun w hw => by have := this.2 w hw; omega⟩
 rw [show x.keys.drop ([] : List Int).length = x.keys from rfl];generalize zna x.keys [] = L at hw hL hLr ⊢;clear hwl;(try simp only [seval, znn]);generalize hp : (fun t => znD x t x.tries.length) = p at hw;have hpt : ∀ t, znD x t x.tries.length = p t := fun t => by rw [<- hp]
 refine zhC ?_;refine zlF ?_;have hfl : ∀ i, ((L.take i).filter p).length <= 81 := fun i => by
  have h1 := List.length_filter_le p (L.take i);have h3 : (L.take i).length <= L.length := by rw [List.length_take]; omega
  omega
 refine zaB L.length (fun i : Nat => [(3, .sl ((L.take i).filter p).length (((L.take i).filter p).map aInts) (.opn (H.length + 1))), (5, iv i)]) (fun i => H ++ [.cells [iv x.cuts, zmv x.keys, zml x.locks, zmm x.tries] 26, .tail ((L.take i).filter p).length 1 30]) (fun i => True) (fun _ _ => rfl) (by simp only [seval]; simp [zaf, Wk.refl]; try exact Wk.refl _) rfl (fun _ _ _ => by simp) trivial (fun hHs0 hLt i hin hi R hR => ?_);clear hLt;refine zhC ?_;refine zlj ?_;refine ⟨fun h => ?_, fun h => ?_⟩
 ·have hil : i < L.length := by omega
  obtain ⟨t, ht⟩ := zaE hil;obtain ⟨htn, htb⟩ := hLr t (zas ht);have hw1 : IntKind.i64.wrap ((i : Int) + 1) = i + 1 := zau _ (by omega);have hfs : (L.take (i + 1)).filter p = (L.take i).filter p ++ (if p t then [t] else []) := by
   obtain ⟨hj, hle⟩ := List.getElem?_eq_some_iff.1 ht;rw [List.take_succ_eq_append_getElem hj, hle, List.filter_append];congr 1;cases hf : p t <;> simp [hf]
  have hfi := hfl i;generalize (L.take i).filter p = o at hfs hfi hR hHs0 ⊢;refine zlu ?_;refine zhC ?_;refine zhC ?_;refine zlF ?_;refine zaB x.tries.length (fun j : Nat => [(6, bv (znD x t j)), (7, iv j)]) (fun _ => _) (fun j => True) (fun _ _ => rfl) (by simp only [seval]; simp [zaf, Wk.refl]; try exact Wk.refl _) rfl (fun _ _ _ => rfl) trivial (fun hHs hLt j hjn hj R2 hR2 => ?_);clear hLt;refine zl5 ?_;simp only [seval, zmm];refine zlj ?_;refine ⟨fun h2 => ?_, fun h2 => ?_⟩
  ·have hjl : j < x.tries.length := (by omega);obtain ⟨r, hr⟩ := zaE hjl;obtain ⟨⟨hrk0, hrk⟩, hrl0, hrl⟩ := hx.tried r (zas hr);have hsucc := zf9 (t := t) hr;have hw2 : IntKind.i64.wrap ((j : Int) + 1) = j + 1 := zau _ (by omega);rw [hsucc] at hR2;obtain ⟨rk, rl, ro⟩ := r;simp only at hrk0 hrk hrl0 hrl hR2;obtain ⟨rk, rfl⟩ : ∃ m : Nat, rk = m := ⟨rk.toNat, by omega⟩;obtain ⟨rl, rfl⟩ : ∃ m : Nat, rl = m := ⟨rl.toNat, by omega⟩;refine zlu ?_;refine zl5 ?_;simp only [seval, zh6 hr, zaz hjl, zh0, zmm];cases hb : znD x t j with
   | false =>
    refine zmc 14 ?_;simp only [seval, zmm, zlB ht, zaz hil, hb];rw [hb] at hR2;refine zl5 ?_;simp only [seval, hw2];refine hR2 _ ⟨hjl, trivial, ?_⟩;simp only [Bool.false_and];exact (zmH hHs)
   | true =>
    refine zmc 14 ?_;simp only [seval, zmm, zlB ht, zaz hil, hb];rw [hb] at hR2;refine znh (bv (zmG x.keys t x.locks rk rl)) (zmg (f124_c (x := x) hx (by omega) (by omega) (by omega) (fun w hw => by have := htb w hw; omega) ⟨rfl, rfl⟩)) ?_;(try simp only [seval, zmm, zlB ht, zaz hil, hb]);refine zl5 ?_;simp only [seval, hw2];refine hR2 _ ⟨hjl, trivial, ?_⟩;simp only [Bool.true_and];exact (zmH hHs)
  ·have hjx : j = x.tries.length := (by omega);subst hjx;clear hR2 hHs;rw [hpt];refine zl4 ?_;refine zhC ?_;refine zlj ?_;refine ⟨fun h3 => ?_, fun h3 => ?_⟩
   ·have h3 : p t = true := (by simpa using h3);rw [if_pos h3] at hfs;have hol : (o.map aInts).length = o.length := List.length_map ..;refine zl5 ?_;simp only [seval, zs1, zhq, zlB ht, zaz hil, hol, zlS];refine ⟨by omega, ?_⟩;refine zl5 ?_;simp only [seval, hw1];refine hR _ ⟨hil, trivial, ?_⟩;rw [hfs];simp only [List.length_append, List.map_append];exact zl7
   ·have h3 : ¬ p t = true := (by simpa using h3);rw [if_neg h3, List.append_nil] at hfs;refine zlu ?_;refine zl5 ?_;simp only [seval, hw1];refine hR _ ⟨hil, trivial, ?_⟩;rw [hfs];exact zl7
 ·have hix : i = L.length := by omega
  subst hix;clear hR hHs0;refine zl4 ?_;refine zhC ?_;refine zlA ?_;rw [List.take_length, hw];exact endA (b := znn (zmq x)) hH (zaK _ _ _) (by rw [zlv]; trivial) hk
def zmX (x : Ring) (b : Bool) : Int := if zom x b ≠ 0 then zom x b else if zmq x = [] then 11 else 0
theorem zo9 {x : Ring} {b : Bool} (h : zom x b = 0) : x.Ok /\ b = true := by
 unfold zom at h;split at h
 ·rename_i h1; exact absurd h h1
 ·rename_i h1;refine ⟨zbH.1 (by simpa using h1), ?_⟩;cases b with
  | true => rfl
  | false => simp at h
theorem zng {x : Ring} {b : Bool} (h : zmX x b = 0) : x.Ok /\ b = true /\ zmq x ≠ [] := by
 unfold zmX at h;split at h
 ·rename_i h1; exact absurd h h1
 ·rename_i h1;obtain ⟨h2, h3⟩ := zo9 (by simpa using h1);refine ⟨h2, h3, fun e => ?_⟩;rw [if_pos e] at h; cases h
def zoS (x : Ring) (b : Bool) : List (List Int) := if zmX x b = 0 then zmq x else []
theorem f103_c {x : Ring} {b : Bool} (hs : x.Small) (hk : k (.tup [znn (zoS x b), iv (zmX x b)]) H) : FnC lv Tryz.prog 103 H [x.av, bv b] k kp := by
 refine zlV (rs := [.tmp 4, .tmp 5]) (nt := 20) Tryz.f103 fun hH hA => ?_;simp only [zma, Nat.reduceAdd, Ring.av, Ring.l];have hend : ∀ {L : List AObj} {e : Int}, k (.tup [znn [], iv e]) H -> zmZ H.length (H ++ L) (.tup [.sl 0 [] .exact, .val (.int .i64 e)]) k := fun h =>
  endA (b := .tup [znn [], iv _]) hH (zdC (zaK _ _ _) (Wk.refl _)) (by simp [zaD, zap, iv, zlv]) h
 refine zhC ?_;refine zhC ?_;refine zl6 ((f95_c (x := x) hs ?_));(try simp only [seval]);refine zhC ?_;refine zlj ?_;refine ⟨fun h => ?_, fun h => ?_⟩
 ·have e : zmX x b = zom x b := by unfold zmX; rw [if_pos h]
  rw [zoS, e, if_neg h] at hk;refine zhC ?_;refine zlA ?_;exact hend hk
 ·have hz : zom x b = 0 := by simpa using h
  have e0 : zmX x b = if zmq x = [] then 11 else 0 := by unfold zmX; rw [if_neg (not_not_intro hz)]
  obtain ⟨hx, _⟩ := zo9 hz;refine zlu ?_;refine zhC ?_;refine zl6 ((f140_c hx ?_));(try simp only [seval, znn]);refine zhC ?_;refine zlj ?_;refine ⟨fun h => ?_, fun h => ?_⟩
  ·have he : zmq x = [] := by
    have : ((zmq x).length : Int) = 0 := (by simpa using h);exact List.length_eq_zero_iff.1 (by omega)
   rw [if_pos he] at e0;rw [zoS, e0, if_neg (by decide)] at hk;refine zhC ?_;refine zlA ?_;exact hend hk
  ·have he : zmq x ≠ [] := fun e => (by rw [e] at h; simp at h);rw [if_neg he] at e0;rw [zoS, e0, if_pos rfl] at hk;refine zlu ?_;refine zhC ?_;refine zlA ?_;exact endA (b := .tup [znn (zmq x), iv 0]) hH (Wk.refl _) (by simp [zaD, zap, iv, zlv]) hk
theorem zqa {x : Ring} {fl : Option Int} {b : Bool} (h : fl = none <-> b = true) (hf : flE fl = 0 \/ flE fl = 3) : zmS x fl = zom x b := by
 unfold zmS zom;split
 ·rfl
 ·cases fl with
  | none => rw [if_pos (h.1 rfl)]; rfl
  | some f =>
   have hb : b = false := (by cases b with | false => rfl | true => cases h.2 rfl);rw [hb, if_neg (by simp)];rcases hf with hf | hf
   ·have : f = 0 \/ f = 1 \/ f = 2 \/ f = 3 \/ (f ≠ 0 /\ f ≠ 1 /\ f ≠ 2 /\ f ≠ 3) := (by omega);exfalso;unfold flE zoW at hf;simp only at hf;split at hf
    ·cases hf
    ·split at hf
     ·cases hf
     ·split at hf <;> cases hf
   ·exact hf
theorem zol {x : Ring} {fl : Option Int} {b : Bool} (h : fl = none <-> b = true) (hf : flE fl = 0 \/ flE fl = 3) : zme x fl = zmX x b := by
 unfold zme zmX;rw [zqa h hf];split
 ·rfl
 ·rename_i h0;have hx := (zo9 (by simpa using h0)).1;by_cases ht : zmq x = []
  ·rw [if_pos ((zqg hx).2 ht), if_pos ht]
  ·rw [if_neg fun e => ht ((zqg hx).1 e), if_neg ht]
theorem f59_c {xs : List Band} {e : End} (hl : xs.length <= 2 ^ 30) (hk : k (aBands xs) H) : FnC lv Tryz.prog 59 H [.sl xs.length (xs.flatMap Band.l) e] k kp := by
 refine zlV (rs := [.tmp 2]) (nt := 6) Tryz.f59 fun hH hA => ?_;simp only [zma, Nat.reduceAdd];have hlen : (xs.flatMap Band.l).length = xs.length * 2 := zld xs;have htake : (xs.flatMap Band.l).take (xs.length * 2) = xs.flatMap Band.l := List.take_of_length_le (by omega);refine zhC ?_;refine zl5 ?_;simp only [seval, htake, hlen];refine ⟨hl, ?_⟩;refine zlA ?_;exact endA (b := aBands xs) hH (zaK _ _ _) (by rw [zfD]; trivial) hk
theorem zpB {ks : List Key} {i : Nat} {y : Key} (h : ks[i]? = some y) : (ks.take (i + 1)).flatMap Key.l = (ks.take i).flatMap Key.l ++ y.l := by
 obtain ⟨hj, rfl⟩ := List.getElem?_eq_some_iff.1 h;rw [List.take_succ_eq_append_getElem hj, List.flatMap_append]; simp
theorem zpk {ls : List (List Band)} {i : Nat} {l : List Band} (h : ls[i]? = some l) : (ls.take (i + 1)).map aBands = (ls.take i).map aBands ++ [aBands l] := by
 obtain ⟨hj, rfl⟩ := List.getElem?_eq_some_iff.1 h;rw [List.take_succ_eq_append_getElem hj, List.map_append]; simp
def krO (N : Nat) (x : Ring) (z : AObj) (nk : Nat) (kl : List AV) (tk nl : Nat) (ll : List AV) (tl : Nat) : List AObj := [.cells x.l 26, z, .cells [iv x.cuts, .sl nk kl (.opn (N + 3)), .sl nl ll (.opn (N + 4)), zmm x.tries] 26, .tail tk 3 65, .tail tl 1 29]
theorem f50_c {xs : List Int} {e : End} (hl : xs.length <= 2 ^ 30) (hk : k (aInts xs) H) : FnC lv Tryz.prog 50 H [.sl xs.length (xs.map iv) e] k kp := by
 refine zlV (rs := [.tmp 2]) (nt := 6) Tryz.f50 fun hH hA => ?_;simp only [zma, Nat.reduceAdd];have hlen : (xs.map iv).length = xs.length := by simp
 have htake : (xs.map iv).take xs.length = xs.map iv := List.take_of_length_le (by omega);refine zhC ?_;refine zl5 ?_;simp only [seval, htake, hlen];refine ⟨hl, ?_⟩;refine zlA ?_;exact endA (b := aInts xs) hH (zaK _ _ _) (by rw [zbi]; trivial) hk
theorem f28_g {x : Ring} (hs : x.Small) (hk : HOk H -> zmZ H.length (H ++ krO H.length x (.cells [iv x.cuts, .sl x.keys.length (x.keys.flatMap Key.l) (.opn (H.length + 3)), .sl x.locks.length (x.locks.map aBands) (.opn (H.length + 4)), zmm x.tries] 26) x.keys.length (x.keys.flatMap Key.l) x.keys.length x.locks.length (x.locks.map aBands) x.locks.length) (.agg [iv x.cuts, .sl x.keys.length (x.keys.flatMap Key.l) (.opn (H.length + 3)), .sl x.locks.length (x.locks.map aBands) (.opn (H.length + 4)), zmm x.tries]) k) : FnC lv Tryz.prog 28 H [x.av] k kp := by
 refine zlV (rs := [.cell 2 26]) (nt := 58) Tryz.f28 fun hH hA => ?_;simp only [zma, Nat.reduceAdd, Ring.av];have hk := hk hH;have htln := zf5 x.tries;have htake : (x.tries.flatMap Try.l).take (x.tries.length * 3) = x.tries.flatMap Try.l := List.take_of_length_le (by omega);refine zl5 ?_;simp only [seval, Ring.l];refine zmR [7, 8] [0, 1, 2, 3, 4, 5, 6, 7, 8] [⟨0, false, [], [([7], [7])]⟩, ⟨1, false, [], [([7], [7])]⟩, ⟨2, false, [], [([7], [7])]⟩, ⟨3, false, [], [([7], [7])]⟩, ⟨4, false, [], [([7], [7])]⟩, ⟨5, false, [], [([7], [7])]⟩, ⟨6, false, [], [([7], [7])]⟩, ⟨7, true, [7], []⟩, ⟨8, true, [7, 8], []⟩] (fun D => H ++ (.cells [iv x.cuts, zmv x.keys, zml x.locks, zmm x.tries] 26 :: .cells [iv 0, .sl 0 [] .exact, .sl 0 [] .exact, .sl 0 [] .exact] 26 :: (bif zmz 8 D then [.cells [iv x.cuts, .sl 0 [] .exact, .sl 0 [] .exact, zmm x.tries] 26] else bif zmz 7 D then [.cells [iv 0, .sl 0 [] .exact, .sl 0 [] .exact, .sl 0 [] .exact] 26] else []))) ?_;simp only [seval, htake, htln, zmm];have hts := hs.tries;refine ⟨by omega, by omega, ?_⟩
 (repeat apply zaa); refine zdw (id := H.length + 2) (j := 1) (sz := 3) (el' := 65) (by simp only [seval] <;> rfl) rfl ?_
 try simp only [seval]
 (repeat apply zaa); refine zdw (id := H.length + 2) (j := 2) (sz := 1) (el' := 29) (by simp only [seval] <;> rfl) rfl ?_
 (try simp only [seval]);refine zhC ?_;have hks := hs.keys;have hls := hs.locks;have w1 : ∀ i : Nat, i <= 2 ^ 31 -> IntKind.i64.wrap ((i : Int) + 1) = i + 1 := fun i _ => zau _ (by omega);refine zlF ?_;refine zaB x.keys.length (fun i : Nat => [(4, iv i)]) (fun i => H ++ krO H.length x (.cells [iv 0, .sl 0 [] .exact, .sl 0 [] .exact, .sl 0 [] .exact] 26) i ((x.keys.take i).flatMap Key.l) i 0 [] 0) (fun _ => True) (fun _ _ => rfl) (by simp only [seval]; simp [zaf, Wk.refl]) rfl (fun _ _ _ => by simp [krO]) trivial (fun hHs hLt i hin hi R hR => ?_);clear hHs hLt;refine zl5 ?_;simp only [seval, zmv, krO, Ring.l];refine zlj ?_;refine ⟨fun h => ?_, fun h => ?_⟩
 ·have hil : i < x.keys.length := by omega
  obtain ⟨y, hy⟩ := zaE hil;have hyc := hs.cuts y (zas hy);have hwi := w1 i (by omega);have hkl : ((x.keys.take i).flatMap Key.l).length = i * 3 := by rw [zqk, List.length_take]; omega
  have hsu := zpB hy;refine zlu ?_;refine zlF ?_;refine zmc 17 ?_;simp only [seval, zc2 hy, zaz hil, hkl, zk3, zd5, aInts];refine znh (aInts y.cuts) (zmg (f50_c (xs := y.cuts) (by omega) ⟨rfl, rfl⟩)) ?_;(try simp only [seval, zc2 hy, zaz hil, hkl, zk3, zd5, aInts]);refine ⟨by omega, ?_⟩;refine zl5 ?_;simp only [seval, hwi];refine hR _ ⟨hil, trivial, ?_⟩;rw [hsu];exact zl7
 ·have hix : i = x.keys.length := by omega
  subst hix;clear hR;rw [List.take_length];refine zl4 ?_;refine zhC ?_;refine zlF ?_;refine zaB x.locks.length (fun i : Nat => [(5, iv i)]) (fun i => H ++ krO H.length x (.cells [iv 0, .sl 0 [] .exact, .sl 0 [] .exact, .sl 0 [] .exact] 26) x.keys.length (x.keys.flatMap Key.l) x.keys.length i ((x.locks.take i).map aBands) i) (fun _ => True) (fun _ _ => rfl) (by simp only [seval]; simp [zaf, Wk.refl]) rfl (fun _ _ _ => by simp [krO]) trivial (fun hHs hLt i hin hi R hR => ?_);clear hHs hLt;refine zl5 ?_;simp only [seval, zml, krO, Ring.l];refine zlj ?_;refine ⟨fun h => ?_, fun h => ?_⟩
  ·have hil : i < x.locks.length := (by omega);obtain ⟨l, hl⟩ := zaE hil;have hlb := hs.bands l (zas hl);have hwi := w1 i (by omega);have hml : ((x.locks.take i).map aBands).length = i := (by rw [List.length_map, List.length_take]; omega);have hzs1 : zmx (Value.slice none 0 0) 1 = [.sl 0 [] .exact] := rfl;have hsu := zpk hl;refine zlu ?_;refine zlF ?_;refine zmc 9 ?_;simp only [seval, zfu hl, zaz hil, hml, hzs1, zhq];refine znh (aBands l) (zmg (f59_c (xs := l) (by omega) ⟨rfl, rfl⟩)) ?_;(try simp only [seval, zfu hl, zaz hil, hml, hzs1, zhq, zho]);refine ⟨by omega, ?_⟩;refine zl5 ?_;simp only [seval, hwi];refine hR _ ⟨hil, trivial, ?_⟩;rw [hsu];exact zl7
  ·have hix : i = x.locks.length := (by omega);subst hix;clear hR;rw [List.take_length];refine zl4 ?_;refine zl5 ?_;simp only [seval, krO, Ring.l];refine zlA ?_;exact hk
theorem f28_l {x : Ring} (hs : x.Small) (hk : k (.agg [iv x.cuts, zmv x.keys, .sl x.locks.length (x.locks.map aBands) (.opn (H.length + 4)), zmm x.tries]) (H ++ krO H.length x (.cells [iv x.cuts, .sl x.keys.length (x.keys.flatMap Key.l) (.opn (H.length + 3)), .sl x.locks.length (x.locks.map aBands) (.opn (H.length + 4)), zmm x.tries] 26) x.keys.length (x.keys.flatMap Key.l) x.keys.length x.locks.length (x.locks.map aBands) x.locks.length)) : FnC lv Tryz.prog 28 H [x.av] k kp :=
 f28_g hs fun _ => ⟨_, zhX (.cons (Wk.refl _) (.cons (zaK _ _ _) (.cons (Wk.refl _) (.cons (Wk.refl _) .nil)))), .inl hk⟩
def zpj (x : Ring) : Bool := decide (20 < x.keys.length) || decide (20 < x.locks.length) || decide (20 < x.tries.length) || (x.keys.any fun y => decide (20 < y.cuts.length)) || x.locks.any fun l => decide (20 < l.length)
theorem zqb {x : Ring} (h : zpj x = false) : x.Small /\ x.keys.length <= 20 /\ x.locks.length <= 20 /\ x.tries.length <= 20 /\ (∀ y ∈ x.keys, y.cuts.length <= 20) /\ ∀ l ∈ x.locks, l.length <= 20 := by
 unfold zpj at h;simp only [Bool.or_eq_false_iff, decide_eq_false_iff_not, List.any_eq_false, decide_eq_true_iff] at h;obtain ⟨⟨⟨⟨h1, h2⟩, h3⟩, h4⟩, h5⟩ := h;exact ⟨⟨by omega, by omega, by omega, fun y hy => by have := h4 y hy; omega, fun y hy => by have := h5 y hy; omega⟩, by omega, by omega, by omega, fun y hy => by have := h4 y hy; omega, fun y hy => by have := h5 y hy; omega⟩
theorem zq3 {α : Type} {p : α -> Bool} {l : List α} {i : Nat} {a : α} (h : l[i]? = some a) (hp : p a = true) : l.any p = true := List.any_eq_true.2 ⟨a, zas h, hp⟩
theorem zp3 {y : Ring} {r : Try} (h : y.Small) (ht : y.tries.length <= 20) : (zqt y r).Small := ⟨h.keys, h.locks, by show (y.tries ++ [r]).length < _; simp; omega, h.cuts, h.bands⟩
theorem zpH {y : Ring} {l : List Band} (h : y.Small) (ht : y.locks.length <= 20) (hl : l.length < 2 ^ 30) : (Ring.mk y.cuts y.keys (y.locks ++ [l]) y.tries).Small := ⟨h.keys, by show (y.locks ++ [l]).length < _; simp; omega, h.tries, h.cuts, fun z hz => by
 rcases List.mem_append.1 hz with hz | hz
 ·exact h.bands z hz
 ·rw [List.mem_singleton.1 hz]; exact hl⟩
theorem f24_c {x : Ring} (hk : k (bv (zpj x)) H) : FnC lv Tryz.prog 24 H [x.av] k kp := by
 refine zlV (rs := [.tmp 2]) (nt := 50) Tryz.f24 fun hH hA => ?_;simp only [zma, Nat.reduceAdd, Ring.av, Ring.l, zmv, zml, zmm];have d1 : decide ((20 : Int) < x.keys.length) = decide (20 < x.keys.length) := by rw [decide_eq_decide]; omega
 have d2 : decide ((20 : Int) < x.locks.length) = decide (20 < x.locks.length) := by rw [decide_eq_decide]; omega
 have d3 : decide ((20 : Int) < x.tries.length) = decide (20 < x.tries.length) := by rw [decide_eq_decide]; omega
 have hyes : ∀ {L : List AObj}, zpj x = true -> zmZ H.length (H ++ L) (.val (.bool true)) k := fun h => endV hH (by rw [h] at hk; exact hk);refine zhC ?_;cases hb1 : decide (20 < x.keys.length) with
 | true =>
  refine zl5 ?_;simp only [seval, d1, hb1];refine zlj ?_;refine zhC ?_;refine zlA ?_;exact hyes (by unfold zpj; rw [hb1]; rfl)
 | false =>
  cases hb2 : decide (20 < x.locks.length) with
  | true =>
   refine zl5 ?_;simp only [seval, d1, hb1, d2, hb2];refine zlj ?_;refine zhC ?_;refine zlA ?_;exact hyes (by unfold zpj; rw [hb1, hb2]; rfl)
  | false =>
   cases hb3 : decide (20 < x.tries.length) with
   | true =>
    refine zl5 ?_;simp only [seval, d1, hb1, d2, hb2, d3, hb3];refine zlj ?_;refine zhC ?_;refine zlA ?_;exact hyes (by unfold zpj; rw [hb1, hb2, hb3]; rfl)
   | false =>
    have e0 : zpj x = ((x.keys.any fun y => decide (20 < y.cuts.length)) || x.locks.any fun l => decide (20 < l.length)) := (by unfold zpj; rw [hb1, hb2, hb3]; rfl);have hkl : ¬ 20 < x.keys.length := (by simpa using hb1);have hll : ¬ 20 < x.locks.length := (by simpa using hb2);refine zl5 ?_;simp only [seval, d1, hb1, d2, hb2, d3, hb3];refine zlj ?_;refine zlu ?_;refine zhC ?_;refine zlF ?_;refine zmh x.keys.length (fun i : Nat => [(3, iv i)]) (fun _ => _) (fun i => ((x.keys.take i).any fun y => decide (20 < y.cuts.length)) = false) rfl (fun hHs hLt i hin hi R hR => ?_);refine zhC ?_;refine zlj ?_;refine ⟨fun h => ?_, fun h => ?_⟩
    ·have hil : i < x.keys.length := (by omega);obtain ⟨y, hy⟩ := zaE hil;have hw1 : IntKind.i64.wrap ((i : Int) + 1) = i + 1 := zau _ (by omega);refine zlu ?_;refine zl5 ?_;simp only [seval, zc2 hy, zaz hil, aInts];refine zlj ?_;refine ⟨fun h2 => ?_, fun h2 => ?_⟩
     ·refine zhC ?_;refine zlA ?_;refine hyes ?_;rw [e0, zq3 hy (by rw [decide_eq_true_iff]; omega)]; rfl
     ·refine zlu ?_;refine zl5 ?_;simp only [seval, hw1];refine hR _ ⟨hil, ?_, zl7⟩;rw [zpF hy, hi, Bool.false_or, decide_eq_false_iff_not]; omega
    ·have hix : i = x.keys.length := (by omega);subst hix;clear hR;rw [List.take_length] at hi;refine zl4 ?_;refine zhC ?_;refine zlF ?_;refine zmh x.locks.length (fun i : Nat => [(4, iv i)]) (fun _ => _) (fun i => ((x.locks.take i).any fun y => decide (20 < y.length)) = false) rfl (fun hHs hLt j hjn hj R hR => ?_);refine zhC ?_;refine zlj ?_;refine ⟨fun h => ?_, fun h => ?_⟩
     ·have hjl : j < x.locks.length := (by omega);obtain ⟨y, hy⟩ := zaE hjl;have hw1 : IntKind.i64.wrap ((j : Int) + 1) = j + 1 := zau _ (by omega);refine zlu ?_;refine zl5 ?_;simp only [seval, zfu hy, zaz hjl, aBands];refine zlj ?_;refine ⟨fun h2 => ?_, fun h2 => ?_⟩
      ·refine zhC ?_;refine zlA ?_;refine hyes ?_;rw [e0, zq3 (l := x.locks) hy (by rw [decide_eq_true_iff]; omega), Bool.or_true]
      ·refine zlu ?_;refine zl5 ?_;simp only [seval, hw1];refine hR _ ⟨hjl, ?_, zl7⟩;rw [zpF hy, hj, Bool.false_or, decide_eq_false_iff_not]; omega
     ·have hjx : j = x.locks.length := (by omega);subst hjx;rw [List.take_length] at hj;refine zl4 ?_;refine zhC ?_;refine zlA ?_;rw [e0, hi, hj] at hk;exact endV hH hk
end
theorem zr12 : zmx (.agg #[.int .i64 0, .slice none 0 0, .slice none 0 0, .slice none 0 0]) 12 = [iv 0, .sl 0 [] .exact, .sl 0 [] .exact, .sl 0 [] .exact, iv 0, .sl 0 [] .exact, .sl 0 [] .exact, .sl 0 [] .exact, iv 0, .sl 0 [] .exact, .sl 0 [] .exact, .sl 0 [] .exact] := rfl
theorem zts : (12 <= 2 ^ 24) = True := by simp
section
variable {lv : Bool} {k kp : AV -> List AObj -> Prop} {Gf : TinS -> List AObj} {t N : Nat} {τ : TinS} {b : Int}
set_option maxRecDepth 4000 in
theorem f27_c {x : Ring} {r : Try} {l : List Band} (hT : TinAt Gf t N) (hτ : τ.Ok b) (hb : b < 2 ^ 29) (hs : x.Small) (hl : l.length < 2 ^ 20) (hk : ∀ (y z : Ring) ws τ', RingP 3 3 3 true y ws -> z.Small -> τ'.Ok (b + 1001) -> k (.sl 3 (x.l ++ y.l ++ z.l) .shut) (Gf τ')) : FnC lv Tryz.prog 27 (Gf τ) [x.av, r.av, aBands l, .op t 0] k kp := by
 refine zlV (rs := [.tmp 8]) (nt := 35) Tryz.f27 fun hH hA => ?_;simp only [zma, Nat.reduceAdd, Ring.av, Try.av, hT.len];refine zl5 ?_;simp only [seval, Ring.l, Try.l, hT.am];refine zl5 ?_;simp only [seval, hT.am];refine zl6 ((f49_c (K := 3) (L := 3) (T := 3) (wr := true) (hT.more _) hτ (by omega) (by decide) (by decide) (by decide) fun y ws τ' hP hto => ?_));(try simp only [seval, Ring.av, Ring.l, hT.am]);have hy := hP.ok (by decide) (by decide) (by decide);have hyl := hP.locks;have hyt := hP.tries;refine zl5 ?_;simp only [seval, hT.am];refine zl6 ((f56_c (x := y) (t := r) (by omega) ?_));(try simp only [seval, Ring.av, Ring.l, zqt, hT.am]);refine zl5 ?_;simp only [seval, hT.am];refine zl6 ((f44_c (hT.more _) hto (by omega) (by decide) ?_));(try simp only [seval, hT.am]);have hto1 := hto.tick;generalize tick τ' = τ2 at hto1 ⊢;have hys := hy.small;have hgen : ∀ (z : Ring) (L : List AObj) (e : AV), z.Small -> Wk e (.sl 3 (x.l ++ y.l ++ z.l) .shut) -> zmZ N (Gf τ2 ++ L) e k := fun z L e hz hw => by
  rw [<- hT.len τ2];exact endA (b := .sl 3 (x.l ++ y.l ++ z.l) .shut) (hT.hok hH τ2) hw (by rw [za3]; simp [Ring.l, zap, iv, zc5, zci, zch]) (hk y z ws τ2 hP hz (hto1.mono (by omega)))
 refine zlj ?_;refine ⟨fun h => ?_, fun h => ?_⟩
 ·refine zl5 ?_;simp only [seval, hT.am];refine zl6 ((f28_l hys ?_));(try simp only [seval, krO, Nat.add_assoc, hT.am]);have hml : (y.locks.map aBands).length = y.locks.length := List.length_map ..;refine zmc 5 ?_;simp only [seval, zs1, zhq, hml, hT.am];refine znh (aBands l) (zmg (f59_c (xs := l) (by omega) ⟨rfl, rfl⟩)) ?_;(try simp only [seval, zs1, zhq, hml, zho, hT.am]);refine ⟨by omega, ?_⟩;refine zl5 ?_;simp only [seval, zr12, zts, hT.am];refine zlA ?_;refine hgen ⟨y.cuts, y.keys, y.locks ++ [l], y.tries⟩ _ _ (zpH hys (by omega) (by omega)) ?_;refine ztJ (.cons (Wk.refl _) (.cons (Wk.refl _) (.cons (Wk.refl _) (.cons (Wk.refl _) (.cons (Wk.refl _) (.cons (Wk.refl _) (.cons (Wk.refl _) (.cons (Wk.refl _) (.cons (Wk.refl _) (.cons (Wk.refl _) (.cons ?_ (.cons (Wk.refl _) .nil))))))))))));have e : zml (y.locks ++ [l]) = .sl (y.locks.length + 1) (y.locks.map aBands ++ [aBands l]) .shut := by simp [zml]
  show Wk _ (zml (y.locks ++ [l]));rw [e];exact zaK _ _ _
 ·refine zlu ?_;refine zl5 ?_;simp only [seval, zr12, zts, hT.am];refine zlA ?_;exact hgen (zqt y r) _ _ (zp3 hys (by omega)) (zaK _ _ _)
end
def zqT (P : Program) (fs : Array Field) (ks : List Bool) : Bool := fs.toList.all fun f => match P.underlying f.type, ks[f.offset]? with
 | some (.int _), some true => true
 | some .bool, some false => true
 | _, _ => false
theorem zqG {P : Program} {ι : Type} {body : ι -> Option Bool × Unit -> Sem (ForInStep (Option Bool × Unit))} (l : List ι) (h : ∀ i ∈ l, Sure P (body i (none, ())) (.yield (none, ()))) : Sure P (forIn l (none, ()) body) (none, ()) := by
 have := zh1 (P := P) (p := fun _ => true) l (by simpa using h);simpa using this
theorem zo4 {P : Program} {t : TypeId} {fs : Array Field} {xs : Array Value} {ks : List Bool} {d : Nat} (ht : P.underlying t = some (.struct fs)) (hp : P.stoodInHeld t = false) (hs : zqT P fs ks = true) (h1 : ∀ i : Nat, ks[i]? = some true -> ∃ k z, xs[i]? = some (.int k z)) (h2 : ∀ i : Nat, ks[i]? = some false -> ∃ b, xs[i]? = some (.bool b)) : Sure P (Op.equalIn (d + 2) t (.agg xs) (.agg xs)) true := by
 rw [Op.equalIn];refine zaR ht ?_;dsimp only;refine zgd ?_;rw [hp];simp only [Bool.false_eq_true, if_false];rw [<- Array.forIn_toList];refine za0 (a := (none, ())) (zqG _ fun f hf => ?_) (zaH _);have hsf := (List.all_eq_true.1 hs) f hf;split
 ·split at hsf
  ·rename_i k hu hk;obtain ⟨j, z, hv⟩ := h1 _ hk;refine zej hu rfl hv (zej hu rfl hv (za0 (zqj hu) ?_));simp only [beq_self_eq_true, Bool.not_true, Bool.false_eq_true, if_false];exact zaH _
  ·rename_i hu hk;obtain ⟨b, hv⟩ := h2 _ hk;refine zej hu rfl hv (zej hu rfl hv (za0 (zjZ hu) ?_));simp only [beq_self_eq_true, Bool.not_true, Bool.false_eq_true, if_false];exact zaH _
  ·cases hsf
 ·exact zaH _
def zoY (P : Program) (t : TypeId) (ks : List Bool) : Bool := match P.underlying t with
 | some (.struct fs) => zqT P fs ks && !P.stoodInHeld t
 | _ => false
theorem zoy {P : Program} {t : TypeId} {xs : Array Value} {ks : List Bool} {d : Nat} (h : zoY P t ks = true) (h1 : ∀ i : Nat, ks[i]? = some true -> ∃ k z, xs[i]? = some (.int k z)) (h2 : ∀ i : Nat, ks[i]? = some false -> ∃ b, xs[i]? = some (.bool b)) : Sure P (Op.equalIn (d + 2) t (.agg xs) (.agg xs)) true := by
 unfold zoY at h;split at h
 ·rename_i fs hu;rw [Bool.and_eq_true, Bool.not_eq_true'] at h;exact zo4 hu h.2 h.1 h1 h2
 ·cases h
theorem F.sh63 : zoY Tryz.prog 63 [true, true] = true := by kernel_rfl
theorem F.sh28 : zoY Tryz.prog 28 [true, true, false] = true := by kernel_rfl
theorem F.g63 : Tryz.prog.eqGuardType Tryz.prog.depth 63 = false := by kernel_rfl
theorem F.g28 : Tryz.prog.eqGuardType Tryz.prog.depth 28 = false := by kernel_rfl
theorem sure63 (a b : Int) : Sure Tryz.prog (Op.equal 63 (.agg #[.int .i64 a, .int .i64 b]) (.agg #[.int .i64 a, .int .i64 b])) true :=
 zoy (d := 9998) F.sh63 (fun i h => match i, h with
  | 0, _ => ⟨_, _, rfl⟩
  | 1, _ => ⟨_, _, rfl⟩
  | _ + 2, h => by cases h) (fun i h => match i, h with
  | 0, h => by cases h
  | 1, h => by cases h
  | _ + 2, h => by cases h)
theorem sure28 (a b : Int) (c : Bool) : Sure Tryz.prog (Op.equal 28 (.agg #[.int .i64 a, .int .i64 b, .bool c]) (.agg #[.int .i64 a, .int .i64 b, .bool c])) true :=
 zoy (d := 9998) F.sh28 (fun i h => match i, h with
  | 0, _ => ⟨_, _, rfl⟩
  | 1, _ => ⟨_, _, rfl⟩
  | 2, h => by cases h
  | _ + 3, h => by cases h) (fun i h => match i, h with
  | 0, h => by cases h
  | 1, h => by cases h
  | 2, _ => ⟨_, rfl⟩
  | _ + 3, h => by cases h)
theorem zpZ {t : TypeId} {l : List AV} {V : Value} (hr : AV.raw (.agg l) = some V) (hk : zoQ V V = true) (hg : Tryz.prog.eqGuardType Tryz.prog.depth t = false) (hs : Sure Tryz.prog (Op.equal t V V) true) (k : AV -> Prop) : ABin Tryz.prog .neq t (.agg l) (.agg l) k = k (bv false) := by
 have e : ABin Tryz.prog .neq t (.agg l) (.agg l) k = ((BinOp.neq = .eql \/ BinOp.neq = .neq) /\ one1 (AV.raw (.agg l)) fun X => one1 (AV.raw (.agg l)) fun Y => zoQ X Y = true /\ Tryz.prog.eqGuardType Tryz.prog.depth t = false /\ ∃ e, Sure Tryz.prog (Op.equal t X Y) e /\ k (.val (.bool (if BinOp.neq == .neq then !e else e)))) := rfl;rw [e, hr, zet, zet];apply propext;constructor
 ·rintro ⟨_, _, _, b, h1, h2⟩
  have := hs.uniq h1;subst this;exact h2
 ·intro h;exact ⟨.inr rfl, hk, hg, true, hs, h⟩
theorem B63.same (a b : Int) (k : AV -> Prop) : ABin Tryz.prog .neq 63 (.agg [.val (.int .i64 a), .val (.int .i64 b)]) (.agg [.val (.int .i64 a), .val (.int .i64 b)]) k = k (.val (.bool false)) := zpZ (V := .agg #[.int .i64 a, .int .i64 b]) rfl rfl F.g63 (sure63 a b) k
theorem B28.same (a b : Int) (c : Bool) (k : AV -> Prop) : ABin Tryz.prog .neq 28 (.agg [.val (.int .i64 a), .val (.int .i64 b), .val (.bool c)]) (.agg [.val (.int .i64 a), .val (.int .i64 b), .val (.bool c)]) k = k (.val (.bool false)) := zpZ (V := .agg #[.int .i64 a, .int .i64 b, .bool c]) rfl rfl F.g28 (sure28 a b c) k
attribute [seval] B63.same B28.same
section
variable {lv : Bool} {H : List AObj} {k kp : AV -> List AObj -> Prop}
theorem f111_same {xs : List Band} {e e' : End} (hl : xs.length < 2 ^ 30) (hk : k (bv true) H) : FnC lv Tryz.prog 111 H [.sl xs.length (xs.flatMap Band.l) e, .sl xs.length (xs.flatMap Band.l) e'] k kp := by
 refine zlV (rs := [.tmp 4]) (nt := 26) Tryz.f111 fun hH hA => ?_;simp only [zma, Nat.reduceAdd];refine zhC ?_;refine zl5 ?_;simp only [seval, bne_self_eq_false];refine zlj ?_;refine zlu ?_;refine zhC ?_;refine zlF ?_;refine zmh xs.length (fun i : Nat => [(5, iv i)]) (fun _ => _) (fun _ => True) trivial (fun hHs hLt i hin hi R hR => ?_);refine zhC ?_;refine zlj ?_;refine ⟨fun h => ?_, fun h => ?_⟩
 ·have hil : i < xs.length := by omega
  obtain ⟨y, hy⟩ := zaE hil;have hw : IntKind.i64.wrap ((i : Int) + 1) = i + 1 := zau _ (by omega);refine zlu ?_;refine zlF ?_;refine zmc 8 ?_;simp only [seval, zdh hy, zaz hil];refine zlj ?_;refine zlu ?_;refine zl5 ?_;simp only [seval, hw];refine hR _ ⟨hil, trivial, zl7⟩
 ·clear hR;refine zl4 ?_;refine zhC ?_;refine zlA ?_;exact zao hk
theorem f37_same {x : Ring} (hs : x.Small) (hk : k (bv true) H) : FnC lv Tryz.prog 37 H [x.av, x.av] k kp := by
 refine zlV (rs := [.tmp 4]) (nt := 113) Tryz.f37 fun hH hA => ?_;simp only [zma, Nat.reduceAdd, Ring.av];have hs1 := hs.keys;have hs2 := hs.locks;have hs3 := hs.tries;refine zl5 ?_;simp only [seval, Ring.l];refine zl5 ?_;simp only [seval, bne_self_eq_false, zmv, zml, zmm];refine zlj ?_;refine zlu ?_;refine zhC ?_;refine zlF ?_;refine zmh x.keys.length (fun i : Nat => [(5, iv i)]) (fun _ => _) (fun _ => True) trivial (fun hHs hLt i hin hi R hR => ?_);clear hHs hLt;refine zl5 ?_;simp only [seval, zmv];refine zlj ?_;refine ⟨fun h => ?_, fun h => ?_⟩
 ·have hil : i < x.keys.length := by omega
  obtain ⟨y, hy⟩ := zaE hil;have hyc := hs.cuts y (zas hy);have hw : IntKind.i64.wrap ((i : Int) + 1) = i + 1 := zau _ (by omega);refine zlu ?_;refine zlF ?_;refine zmc 27 ?_;simp only [seval, zc2 hy, zaz hil, zmv, aInts];refine znh (bv true) (zmg (f34_same (xs := y.cuts) (by omega) ⟨rfl, rfl⟩)) ?_;(try simp only [seval, zc2 hy, zaz hil, zmv, aInts]);refine zlj ?_;refine zlu ?_;refine zl5 ?_;simp only [seval, hw];refine hR _ ⟨hil, trivial, zl7⟩
 ·clear hR;refine zl4 ?_;refine zhC ?_;refine zlF ?_;refine zmh x.locks.length (fun i : Nat => [(6, iv i)]) (fun _ => _) (fun _ => True) trivial (fun hHs hLt i hin hi R hR => ?_);clear hHs hLt;refine zl5 ?_;simp only [seval, zml];refine zlj ?_;refine ⟨fun h => ?_, fun h => ?_⟩
  ·have hil : i < x.locks.length := (by omega);obtain ⟨y, hy⟩ := zaE hil;have hyc := hs.bands y (zas hy);have hw : IntKind.i64.wrap ((i : Int) + 1) = i + 1 := zau _ (by omega);refine zlu ?_;refine zlF ?_;refine zmc 10 ?_;simp only [seval, zfu hy, zaz hil, zml];refine zl6 ((f111_same (xs := y) (by omega) ?_));(try simp only [seval]);refine zlj ?_;refine zlu ?_;refine zl5 ?_;simp only [seval, hw];refine hR _ ⟨hil, trivial, zl7⟩
  ·clear hR;refine zl4 ?_;refine zhC ?_;refine zlF ?_;refine zmh x.tries.length (fun i : Nat => [(7, iv i)]) (fun _ => _) (fun _ => True) trivial (fun hHs hLt i hin hi R hR => ?_);clear hHs hLt;refine zl5 ?_;simp only [seval, zmm];refine zlj ?_;refine ⟨fun h => ?_, fun h => ?_⟩
   ·have hil : i < x.tries.length := (by omega);obtain ⟨y, hy⟩ := zaE hil;have hw : IntKind.i64.wrap ((i : Int) + 1) = i + 1 := zau _ (by omega);refine zlu ?_;refine zlF ?_;refine zmc 10 ?_;simp only [seval, zh6 hy, zaz hil, zmm];refine zlj ?_;refine zlu ?_;refine zl5 ?_;simp only [seval, hw];refine hR _ ⟨hil, trivial, zl7⟩
   ·clear hR;refine zl4 ?_;refine zhC ?_;refine zlA ?_;exact endA hH (Wk.refl _) (by simp [zap]) hk
end
theorem zqc {lv : Bool} {P : Program} {f : FuncId} {H : List AObj} {args : List AV} {k kp : AV -> List AObj -> Prop} (h : FnC lv P f H args (fun a H' => ∃ b, Wk a b /\ k b H') kp) : FnC lv P f H args k kp := fun E V vs hc hd =>
 (h E V vs hc hd).mono fun o V' r => by
  cases o with
  | ret v =>
   obtain ⟨av, E', H', q1, q2, q3, q4, q5, b, hw, hk⟩ := r;exact ⟨b, E', H', q1, q2, q3, hw _ _ q4, q5, hk⟩
  | panic ch => exact r
section
variable {H : List AObj} {k kp : AV -> List AObj -> Prop}
theorem f28_c {lv : Bool} {x : Ring} (hs : x.Small) (hk : k x.av H) : FnC lv Tryz.prog 28 H [x.av] k kp :=
 f28_g hs fun hH => endA (b := x.av) hH (zhX (.cons (Wk.refl _) (.cons (zaK _ _ _) (.cons (zaK _ _ _) (.cons (Wk.refl _) .nil))))) (by rw [zfC]; trivial) hk
theorem Ring.len (x : Ring) : x.l.length = 4 := rfl
theorem zoA {xs : List Ring} {x : Ring} {i : Nat} (h : xs[i]? = some x) : AV.shift (i * 4) (.rp (xs.flatMap Ring.l)) = some (.rp (iv x.cuts :: zmv x.keys :: zml x.locks :: zmm x.tries :: (xs.drop (i + 1)).flatMap Ring.l)) := zcG Ring.len h
theorem zpE (n m : Nat) (h : m <= n) : ∃ rest, znf n (n + 1) = znf n m ++ (zmL n m 0 ++ rest) := by
 obtain ⟨d, rfl⟩ : ∃ d, n = m + d := ⟨n - m, by omega⟩;refine ⟨(List.range' (m + 1) d).flatMap fun k => zmL (m + d) k 0, ?_⟩;unfold znf;have : List.range (m + d + 1) = List.range m ++ (m :: List.range' (m + 1) d) := by
  rw [List.range_eq_range', List.range_eq_range', show m + d + 1 = m + (d + 1) by omega, <- List.range'_append_1, Nat.zero_add, List.range'_succ]
 rw [this, List.flatMap_append, List.flatMap_cons]
theorem zqL : ∀ n, n <= 6 -> ∀ kk, kk <= 6 -> ∀ first, first <= 7 -> outJ n kk first (n - first) = zmL n (kk + 1) first := by decide +kernel
end
section
variable {lv : Bool} {H : List AObj} {k kp : AV -> List AObj -> Prop}
theorem f141_c : ∀ (kk : Nat) {n first : Nat} {H : List AObj} {k kp : AV -> List AObj -> Prop}, n <= 6 -> kk <= 6 -> first <= 7 -> k (znn (zmL n kk first)) H -> FnC lv Tryz.prog 141 H [iv first, iv n, iv kk] k kp
 | 0, n, first, H, k, kp, hn, hkk, hf, hk => by
  refine zlV (rs := [.tmp 6]) (nt := 43) Tryz.f141 fun hH hA => ?_;simp only [zma, Nat.reduceAdd];refine zhC ?_;refine zl5 ?_;simp only [seval, beq_self_eq_true];refine zlj ?_;refine zl5 ?_;simp only [seval, zs1, zhq];refine zlA ?_;exact zaJ (b := znn [[]]) (H' := H) (G := []) (ztJ (.cons (zaK _ _ _) .nil)) (by simp) (Nat.le_refl _) hH (by rw [zlv]; trivial) hk
 | kk + 1, n, first, H, k, kp, hn, hkk, hf, hk => by
  refine zlV (rs := [.tmp 6]) (nt := 43) Tryz.f141 fun hH hA => ?_;simp only [zma, Nat.reduceAdd];have hz : (((kk : Int) + 1) == 0) = false := by simp; omega
  refine zhC ?_;refine zl5 ?_;simp only [seval, hz];refine zlj ?_;refine zlu ?_;refine zhC ?_
  (repeat apply zaa); refine zbV (t := 7) (sz := 1) (el := 30) (by simp only [seval] <;> rfl) ?_
  refine zhC ?_;refine zlF ?_;have hlen : ∀ j, j <= n - first -> (outJ n kk first j).length <= 20 * j := fun j hj => zlL n kk first j fun i hi => (zlz n hn kk (by omega) (first + i + 1) (by omega)).1
  refine zaB (n - first) (fun j : Nat => [(7, .sl (outJ n kk first j).length ((outJ n kk first j).map aInts) (.opn H.length)), (8, iv ((first : Int) + j))]) (fun j => H ++ [.tail (outJ n kk first j).length 1 30]) (fun i => True) (fun _ _ => rfl) (by simp only [seval]; simp [zaf, Wk.refl]; exact Wk.refl _) rfl (fun _ _ _ => by simp) trivial (fun hHs hLt j hjn hj R hR => ?_);clear hHs hLt;have hw2 : IntKind.i64.wrap ((first : Int) + j + 1) = first + (j + 1) := by rw [zau _ (by omega)]; omega
  have hw3 : IntKind.i64.wrap ((kk : Int) + 1 - 1) = kk := by rw [zau _ (by omega)]; omega
  refine zhC ?_;refine zlj ?_;refine ⟨fun h => ?_, fun h => ?_⟩
  ·have hjl : j < n - first := by omega
   have hfa := zlz n hn kk (by omega) (first + j + 1) (by omega);have hsucc := zlH n kk first j
   have hll := hlen j (by omega);generalize outJ n kk first j = o at hsucc hll hR ⊢
   have hfj : ((first : Int) + (j + 1)) = ((first + j + 1 : Nat) : Int) := (by omega);refine zlu ?_;refine zl5 ?_;simp only [seval, hw2, hw3];rw [hfj];refine zl6 ((f141_c kk hn (by omega) (by omega) ?_));generalize zmL n kk (first + j + 1) = l at hfa hsucc ⊢;obtain ⟨hl20, hlr⟩ := hfa;(try simp only [seval, znn]);refine zhC ?_;refine zlF ?_;refine zaB l.length (fun x : Nat => [(7, .sl (o.length + x) ((o ++ (l.take x).map (((first + j : Nat) : Int) :: ·)).map aInts) (.opn H.length)), (10, iv x)]) (fun x => H ++ [.tail (o.length + x) 1 30]) (fun i => True) (fun _ _ => rfl) (by simp only [seval]; simp [zaf, Wk.refl]) (by simp) (fun _ _ _ => by simp) trivial (fun hHs hLt x hxn hx R2 hR2 => ?_);clear hHs hLt;refine zhC ?_;refine zlj ?_;refine ⟨fun h2 => ?_, fun h2 => ?_⟩
   ·have hxl : x < l.length := (by omega);obtain ⟨r, hr⟩ := zaE hxl;have hrl := hlr r (zas hr);have hw4 : IntKind.i64.wrap ((x : Int) + 1) = x + 1 := zau _ (by omega);have hol : ((o ++ (l.take x).map (((first + j : Nat) : Int) :: ·)).map aInts).length = o.length + x := (by simp; omega);have hnx : (o ++ (l.take (x + 1)).map (((first + j : Nat) : Int) :: ·)).map aInts = (o ++ (l.take x).map (((first + j : Nat) : Int) :: ·)).map aInts ++ [aInts (((first + j : Nat) : Int) :: r)] := by
     rw [zlC _ hr, <- List.append_assoc, List.map_append]; rfl
    have hri : (r.map iv).length = r.length := List.length_map ..;refine zlu ?_;refine zl5 ?_;simp only [seval, z1, zs1, zhq, zlB hr, zaz hxl, hol, hri, aInts];refine ⟨by omega, by simp; omega, by omega, ?_⟩;refine zl5 ?_;simp only [seval, hw4];refine hR2 _ ⟨hxl, trivial, ?_⟩;rw [hnx];refine zce [.tail (1 + r.length) 1 3] (zam rfl rfl) ?_ (zlX hH _ _ _) ?_ (by simp [Nat.add_assoc])
    ·(try simp only [seval]);exact ⟨⟨_, rfl, have h := zlW (l := (o ++ (l.take x).map (((first + j : Nat) : Int) :: ·)).map aInts) (show Wk (.sl (1 + r.length) (iv ((first : Int) + j) :: r.map iv) (.opn (H.length + 1))) (aInts (((first : Int) + j) :: r)) by rw [aInts, Nat.add_comm]; exact zaK _ _ _); zeg h.len h.at⟩, _, rfl, Wk.refl _⟩
    ·rw [<- hnx];simp only [List.forall_mem_cons, zap, zlZ, iv]; simp
   ·have hxx : x = l.length := (by omega);subst hxx;refine zl4 ?_;refine zl5 ?_;simp only [seval, hw2];refine hR _ ⟨hjl, trivial, ?_⟩;rw [hsucc];simp only [List.take_length, List.length_append, List.length_map];exact zl7
  ·have hjx : j = n - first := by omega
   subst hjx;refine zl4 ?_;refine zhC ?_;refine zlA ?_;rw [zqL n hn kk (by omega) first hf];exact endA (b := znn (zmL n (kk + 1) first)) hH (zaK _ _ _) (by rw [zlv]; trivial) hk
end
section
variable {H : List AObj} {k kp : AV -> List AObj -> Prop}
def zo6 (x : Ring) (t keys : List Int) (l : Nat) : Bool := keys.any fun k => zmG x.keys t x.locks k l
def zn6 (x : Ring) (t keys : List Int) (n : Nat) : Bool := (List.range n).all fun l => zo6 x t keys l
def zqW (x : Ring) (keys : List Int) : Bool := (zmq x).all fun t => zn6 x t keys x.locks.length
theorem zlY {x : Ring} {t keys : List Int} {l i : Nat} {k : Int} (h : keys[i]? = some k) : zo6 x t (keys.take (i + 1)) l = (zo6 x t (keys.take i) l || zmG x.keys t x.locks k l) := by
 obtain ⟨hj, rfl⟩ := List.getElem?_eq_some_iff.1 h;unfold zo6;rw [List.take_succ_eq_append_getElem hj, List.any_append]; simp
theorem zl1 (x : Ring) (t : List Int) (l : Nat) : ∀ (keys : List Int) (a : Nat), (keys.foldl (fun a q => a ||| zmT x t q.toNat) a).testBit l = (a.testBit l || keys.any fun q => (zmT x t q.toNat).testBit l)
 | [], a => by simp
 | q :: keys, a => by
  rw [List.foldl_cons, zl1 x t l keys, Nat.testBit_or, List.any_cons, Bool.or_assoc]
theorem zqz {x : Ring} (k w : Nat) : zmu x k w < 2 ^ x.locks.length := by
 unfold zmu;split
 ·exact zb5 _ _ _ _
 ·exact Nat.two_pow_pos _
theorem zum {x : Ring} (t keys : List Int) : orM x t keys < 2 ^ x.locks.length := by
 unfold orM;have : ∀ (l : List Int) (a : Nat), a < 2 ^ x.locks.length -> l.foldl (fun a q => a ||| zmT x t q.toNat) a < 2 ^ x.locks.length := by
  intro l;induction l with
  | nil => exact fun a h => h
  | cons y l ih => exact fun a h => ih _ (Nat.or_lt_two_pow h (zqz _ _))
 exact this keys 0 (Nat.two_pow_pos _)
theorem zl2 {a n : Nat} (h : a < 2 ^ n) : a = 2 ^ n - 1 <-> ∀ l, l < n -> a.testBit l = true := by
 constructor
 ·rintro rfl l hl
  rw [Nat.testBit_two_pow_sub_one]; simpa using hl
 ·intro hb;refine Nat.eq_of_testBit_eq fun l => ?_;rw [Nat.testBit_two_pow_sub_one];by_cases hl : l < n
  ·rw [hb l hl]; simp [hl]
  ·rw [Nat.testBit_lt_two_pow (Nat.lt_of_lt_of_le h (Nat.pow_le_pow_right (by decide) (Nat.le_of_not_lt hl)))]; simp [hl]
theorem zl3 {x : Ring} (hx : x.Ok) {keys : List Int} (hk : ∀ k ∈ keys, 0 <= k /\ k < x.keys.length) : zoG x (zl8 x []) keys = zqW x keys := by
 unfold zoG zqW;rw [zlR hx fun r => orM x r keys == 2 ^ x.locks.length - 1, Bool.eq_iff_iff];simp only [List.all_eq_true];refine forall_congr' fun t => forall_congr' fun ht => ?_;obtain ⟨h1, h2⟩ := zhQ hx t ht;rw [beq_iff_eq, zl2 (zum _ _)];unfold zn6;simp only [List.all_eq_true, List.mem_range];refine forall_congr' fun l => forall_congr' fun hl => ?_;unfold orM zo6;rw [zl1, Nat.zero_testBit, Bool.false_or, <- Bool.eq_iff_iff, Bool.eq_iff_iff];simp only [List.any_eq_true];refine exists_congr fun k => and_congr_right fun hkm => ?_;obtain ⟨hk0, hk1⟩ := hk k hkm;have e : ((k.toNat : Nat) : Int) = k := by omega
 have e1 := zf8 hx h1 h2 (k := k.toNat) (l := l) (by omega) hl;rw [e] at e1;rw [e1]
theorem zl0 {x : Ring} (hx : x.Ok) : zoR x = (znz x.keys.length).find? (zoG x (zl8 x [])) := by
 unfold zoR znm;rw [zlE _ (by have := hx.keys; omega)]
end
theorem znE {n : Nat} {f : Nat -> Bool} {i : Nat} (hi : i < n) (h : f i = false) : (List.range n).all f = false := by
 rw [List.all_eq_false]; exact ⟨i, List.mem_range.2 hi, by simp [h]⟩
section
variable {lv : Bool} {H : List AObj} {k kp : AV -> List AObj -> Prop}
theorem f118_c {x : Ring} {t keys : List Int} {e e' : End} {p q : Nat} (hx : x.Ok) (htl : x.keys.length <= t.length) (htb : ∀ w ∈ t, 0 <= w /\ w <= 2) (hks : keys.length < 2 ^ 20) (hkb : ∀ k ∈ keys, 0 <= k /\ k < x.keys.length) (hp : p < x.locks.length) (hq : q < x.locks.length) (hk : k (bv (zmI x t keys p q)) H) : FnC lv Tryz.prog 118 H [x.av, .sl t.length (t.map iv) e, .sl keys.length (keys.map iv) e', iv p, iv q] k kp := by
 refine zlV (rs := [.tmp 10]) (nt := 35) Tryz.f118 fun hH hA => ?_;simp only [zma, Nat.reduceAdd, Ring.av, Ring.l];refine zhC ?_;refine zhC ?_;refine zlF ?_;refine zmh keys.length (fun i : Nat => [(11, iv i)]) (fun _ => _) (fun i => zmI x t (keys.take i) p q = false) (by simp [zmI]) (fun hHs hLt i hin hi R hR => ?_);clear hHs hLt;refine zhC ?_;refine zlj ?_;refine ⟨fun h => ?_, fun h => ?_⟩
 ·have hil : i < keys.length := by omega
  obtain ⟨kx, hkx⟩ := zaE hil;obtain ⟨hk0, hk1⟩ := hkb kx (zas hkx);have hdt := zlK (x := x) (t := t) (p := p) (q := q) hkx;have hds := zlM (x := x) (t := t) (p := p) (q := q) hkx;obtain ⟨kn, rfl⟩ : ∃ m : Nat, kx = m := ⟨kx.toNat, by omega⟩;have hw1 : IntKind.i64.wrap ((i : Int) + 1) = i + 1 := zau _ (by omega);refine zlu ?_;refine zlF ?_;refine zmc 15 ?_;simp only [seval, za2 hkx, zaz hil];refine znh (bv (zmG x.keys t x.locks kn p)) (zmg (f124_c (x := x) hx (by omega) hp htl htb ⟨rfl, rfl⟩)) ?_;refine zl6 ((f124_c (x := x) hx (by omega) hq htl htb ?_));(try simp only [seval]);refine zlj ?_;refine ⟨fun h3 => ?_, fun h3 => ?_⟩
  ·have h3 : (zmG x.keys t x.locks kn p != zmG x.keys t x.locks kn q) = true := (by simpa using h3);refine zhC ?_;refine zlA ?_;rw [hds h3] at hk;exact endA hH (Wk.refl _) (by simp [zap]) hk
  ·have h3 : (zmG x.keys t x.locks kn p != zmG x.keys t x.locks kn q) = false := (by simpa using h3);refine zlu ?_;refine zl5 ?_;simp only [seval, hw1];refine hR _ ⟨hil, by rw [hdt, hi, h3]; rfl, zl7⟩
 ·have hix : i = keys.length := by omega
  subst hix;rw [List.take_length] at hi;rw [hi] at hk;refine zl4 ?_;refine zhC ?_;refine zlA ?_;exact endA hH (Wk.refl _) (by simp [zap]) hk
theorem f157_c {x : Ring} {t keys : List Int} {e e' : End} (hx : x.Ok) (htl : x.keys.length <= t.length) (htb : ∀ w ∈ t, 0 <= w /\ w <= 2) (hks : keys.length < 2 ^ 20) (hkb : ∀ k ∈ keys, 0 <= k /\ k < x.keys.length) (hk : k (bv (znU x t keys x.locks.length)) H) : FnC lv Tryz.prog 157 H [x.av, .sl t.length (t.map iv) e, .sl keys.length (keys.map iv) e'] k kp := by
 refine zlV (rs := [.tmp 6]) (nt := 28) Tryz.f157 fun hH hA => ?_;simp only [zma, Nat.reduceAdd, Ring.av, Ring.l];have hx5 := hx.locks;refine zhC ?_;refine zhC ?_;refine zlF ?_;refine zmh x.locks.length (fun i : Nat => [(7, iv i)]) (fun _ => _) (fun i => znU x t keys i = true) (by simp [znU]) (fun hHs hLt i hin hi R hR => ?_);clear hHs hLt;refine zl5 ?_;simp only [seval, zml];refine zlj ?_;refine ⟨fun h => ?_, fun h => ?_⟩
 ·have hil : i < x.locks.length := by omega
  have hw1 : IntKind.i64.wrap ((i : Int) + 1) = i + 1 := zau _ (by omega);have hsuc : znU x t keys (i + 1) = (znU x t keys i && (List.range i).all fun a => zmI x t keys i a) := zfK _ _;refine zlu ?_;refine zhC ?_;refine zlF ?_;refine zmh i (fun q : Nat => [(8, iv q)]) (fun _ => _) (fun q => ((List.range q).all fun a => zmI x t keys i a) = true) (by simp) (fun hHs hLt q hqn hq R2 hR2 => ?_);clear hHs hLt;refine zhC ?_;refine zlj ?_;refine ⟨fun h2 => ?_, fun h2 => ?_⟩
  ·have hql : q < i := (by omega);have hw2 : IntKind.i64.wrap ((q : Int) + 1) = q + 1 := zau _ (by omega);have hsq := zfK q (fun a => zmI x t keys i a);refine zlu ?_;refine zhC ?_;refine zl6 ((f118_c (x := x) hx htl htb hks hkb (p := i) (q := q) hil (by omega) ?_));(try simp only [seval]);refine zlj ?_;refine ⟨fun h3 => ?_, fun h3 => ?_⟩
   ·have h3 : zmI x t keys i q = false := (by simpa using h3);have e : znU x t keys x.locks.length = false := znE hil (znE hql h3);rw [e] at hk;refine zhC ?_;refine zlA ?_;exact endA hH (Wk.refl _) (by simp [zap]) hk
   ·have h3 : zmI x t keys i q = true := (by simpa using h3);refine zlu ?_;refine zl5 ?_;simp only [seval, hw2];refine hR2 _ ⟨hql, by rw [hsq, hq, h3]; rfl, zl7⟩
  ·have hqx : q = i := (by omega);subst hqx;clear hR2;refine zl4 ?_;refine zl5 ?_;simp only [seval, hw1];refine hR _ ⟨hil, by rw [hsuc, hi, hq]; rfl, zl7⟩
 ·have hix : i = x.locks.length := by omega
  subst hix;rw [hi] at hk;clear hR;refine zl4 ?_;refine zhC ?_;refine zlA ?_;exact endA hH (Wk.refl _) (by simp [zap]) hk
theorem f158_c {x : Ring} {t keys : List Int} {e e' : End} (hx : x.Ok) (htl : x.keys.length <= t.length) (htb : ∀ w ∈ t, 0 <= w /\ w <= 2) (hks : keys.length < 2 ^ 20) (hkb : ∀ k ∈ keys, 0 <= k /\ k < x.keys.length) (hk : k (bv (zn6 x t keys x.locks.length)) H) : FnC lv Tryz.prog 158 H [x.av, .sl t.length (t.map iv) e, .sl keys.length (keys.map iv) e'] k kp := by
 refine zlV (rs := [.tmp 6]) (nt := 36) Tryz.f158 fun hH hA => ?_;simp only [zma, Nat.reduceAdd, Ring.av, Ring.l];have hx5 := hx.locks;refine zhC ?_;refine zhC ?_;refine zlF ?_;refine zmh x.locks.length (fun i : Nat => [(7, iv i)]) (fun _ => _) (fun i => zn6 x t keys i = true) (by simp [zn6]) (fun hHs hLt i hin hi R hR => ?_);clear hHs hLt;refine zl5 ?_;simp only [seval, zml];refine zlj ?_;refine ⟨fun h => ?_, fun h => ?_⟩
 ·have hil : i < x.locks.length := by omega
  have hw1 : IntKind.i64.wrap ((i : Int) + 1) = i + 1 := zau _ (by omega);have hsuc : zn6 x t keys (i + 1) = (zn6 x t keys i && zo6 x t keys i) := zfK _ _;refine zlu ?_;refine zhC ?_;refine zhC ?_;refine zlF ?_;refine zaB keys.length (fun q : Nat => [(8, bv (zo6 x t (keys.take q) i)), (9, iv q)]) (fun _ => _) (fun _ => True) (fun _ _ => rfl) (by simp only [zo6, List.take_zero, List.any_nil]; simp only [seval]; simp [zaf, Wk.refl]) rfl (fun _ _ _ => rfl) trivial (fun hHs hLt q hqn hq R2 hR2 => ?_);clear hHs hLt;refine zhC ?_;refine zlj ?_;refine ⟨fun h2 => ?_, fun h2 => ?_⟩
  ·have hql : q < keys.length := (by omega);obtain ⟨kx, hkx⟩ := zaE hql;have hkb1 := hkb kx (zas hkx);have hst := zlY (x := x) (t := t) (l := i) hkx;rw [hst] at hR2;obtain ⟨kn, rfl⟩ : ∃ m : Nat, kx = m := ⟨kx.toNat, by omega⟩;have hw2 : IntKind.i64.wrap ((q : Int) + 1) = q + 1 := zau _ (by omega);refine zlu ?_;refine zlF ?_;cases hb : zo6 x t (keys.take q) i with
   | true =>
    refine zmc 9 ?_;simp only [seval, hb, za2 hkx, zaz hql];rw [hb] at hR2;refine zl5 ?_;simp only [seval, hw2];refine hR2 _ ⟨hql, trivial, ?_⟩;simp only [Bool.true_or];exact zl7
   | false =>
    refine zmc 9 ?_;simp only [seval, hb, za2 hkx, zaz hql];refine zl6 ((f124_c (x := x) hx (by omega) hil htl htb ?_));(try simp only [seval]);rw [hb] at hR2;refine zl5 ?_;simp only [seval, hw2];refine hR2 _ ⟨hql, trivial, ?_⟩;simp only [Bool.false_or];exact zl7
  ·have hqx : q = keys.length := (by omega);subst hqx;clear hR2;rw [List.take_length];refine zl4 ?_;refine zhC ?_;refine zlj ?_;refine ⟨fun h3 => ?_, fun h3 => ?_⟩
   ·have h3 : zo6 x t keys i = false := (by simpa using h3);have e : zn6 x t keys x.locks.length = false := znE hil h3;rw [e] at hk;refine zhC ?_;refine zlA ?_;exact endA hH (Wk.refl _) (by simp [zap]) hk
   ·have h3 : zo6 x t keys i = true := (by simpa using h3);refine zlu ?_;refine zl5 ?_;simp only [seval, hw1];refine hR _ ⟨hil, by rw [hsuc, hi, h3]; rfl, zl7⟩
 ·have hix : i = x.locks.length := by omega
  subst hix;rw [hi] at hk;clear hR;refine zl4 ?_;refine zhC ?_;refine zlA ?_;exact endA hH (Wk.refl _) (by simp [zap]) hk
end
structure Kept3 (X Y Z : Prop) : Type where
 n : Nat
def UG (a : AV) (want : Bool) (X Y Z : Prop) (_t : Kept3 X Y Z) : Prop := (∃ b, a = .val (.bool b) /\ (b = want -> X) /\ (b = !want -> Y)) \/ (a = .val undef /\ Z)
theorem ug_b {b want : Bool} {X Y Z : Prop} {t : Kept3 X Y Z} : UG (.val (.bool b)) want X Y Z t = ((b = want -> X) /\ (b = !want -> Y)) := by
 unfold UG;refine propext ⟨fun h => ?_, fun h => .inl ⟨b, rfl, h⟩⟩;rcases h with ⟨b', e, h⟩ | ⟨e, _⟩
 ·cases e; exact h
 ·cases e
theorem ug_tt (X Y Z : Prop) (t : Kept3 X Y Z) : UG (.val (.bool true)) true X Y Z t = X := by rw [ug_b]; simp
theorem ug_tf (X Y Z : Prop) (t : Kept3 X Y Z) : UG (.val (.bool true)) false X Y Z t = Y := by rw [ug_b]; simp
theorem ug_ft (X Y Z : Prop) (t : Kept3 X Y Z) : UG (.val (.bool false)) true X Y Z t = Y := by rw [ug_b]; simp
theorem ug_ff (X Y Z : Prop) (t : Kept3 X Y Z) : UG (.val (.bool false)) false X Y Z t = X := by rw [ug_b]; simp
theorem ug_u (want : Bool) (X Y Z : Prop) (t : Kept3 X Y Z) : UG (.val undef) want X Y Z t = Z := by
 unfold UG;refine propext ⟨fun h => ?_, fun h => .inr ⟨rfl, h⟩⟩;rcases h with ⟨b', e, _⟩ | ⟨_, h⟩
 ·cases e
 ·exact h
section
variable (lv : Bool) (P : Program)
def UOps (all : Array Oper) : List Oper -> AS -> (AS -> Prop) -> (AV -> AS -> Prop) -> Prop
 | [], s, next, _ => next s
 | o :: rest, s, next, bad => match o.guard with
  | none => AStep lv P s o (fun s' => UOps all rest s' next bad) bad
  | some (j, want) => one1 ((all[j]?).bind (·.dst)) fun d => one1 (look s.T d) fun a => UG a want (AStep lv P ⟨(d, .val (.bool want)) :: s.T, s.H⟩ o (fun s' => UOps all rest s' next bad) bad) (UOps all rest ((⟨(d, .val (.bool !want)) :: s.T, s.H⟩ : AS).put o.dst (.val undef)) next bad) (UOps all rest (s.put o.dst (.val undef)) next bad) ⟨0⟩
end
theorem uOps_n : type_of% @UOps.eq_1 := by intros; rw [UOps.eq_1]
theorem uOps_c : type_of% @UOps.eq_2 := by intros; rw [UOps.eq_2]
@[congr] theorem uOps_congr {lv : Bool} {P : Program} {s s' : AS} {all : Array Oper} {l : List Oper} {next : AS -> Prop} {bad : AV -> AS -> Prop} (h : s = s') : UOps lv P all l s next bad = UOps lv P all l s' next bad := by rw [h]
attribute [seval] uOps_n uOps_c ug_tt ug_tf ug_ft ug_ff ug_u
section
variable {lv : Bool} {P : Program} {r : Option Nat} {s : AS}
end
section
variable (lv : Bool) (P : Program)
def QUOps (all : Array Oper) : List Oper -> AS -> (AS -> Prop) -> Prop
 | [], s, K => K s
 | o :: rest, s, K => match o.guard with
  | none => AQ lv P s o fun av => QUOps all rest (s.put o.dst av) K
  | some (j, want) => one1 ((all[j]?).bind (·.dst)) fun d => one1 (look s.T d) fun a => UG a want (AQ lv P ⟨(d, .val (.bool want)) :: s.T, s.H⟩ o fun av => QUOps all rest ((⟨(d, .val (.bool want)) :: s.T, s.H⟩ : AS).put o.dst av) K) (QUOps all rest ((⟨(d, .val (.bool !want)) :: s.T, s.H⟩ : AS).put o.dst (.val undef)) K) (QUOps all rest (s.put o.dst (.val undef)) K) ⟨0⟩
end
theorem zt6 : type_of% @QUOps.eq_1 := by intros; rw [QUOps.eq_1]
theorem zt7 : type_of% @QUOps.eq_2 := by intros; rw [QUOps.eq_2]
@[congr] theorem quOps_congr {lv : Bool} {P : Program} {s s' : AS} {all : Array Oper} {l l' : List Oper} {K : AS -> Prop} (hl : l = l') (h : s = s') : QUOps lv P all l s K = QUOps lv P all l' s' K := by rw [hl, h]
attribute [seval] zt6 zt7
def DUp (lv : Bool) (P : Program) (r : Option Nat) (ops : Array Oper) (T0 : List (Nat × AV)) (H : List AObj) (f : Nat -> AV) (i : Nat) (o : Oper) : Prop :=
 match o.guard with
 | none => QStep lv P r o ⟨deps ops f o ++ T0, H⟩ (f i)
 | some (j, want) => ∃ d, zmr ops j = some d /\ ((∃ b, look (deps ops f o ++ T0) d = some (.val (.bool b)) /\ (b = want -> QStep lv P r o ⟨deps ops f o ++ T0, H⟩ (f i)) /\ (b = !want -> f i = .val undef)) \/ (look (deps ops f o ++ T0) d = some (.val undef) /\ f i = .val undef))
section
variable {lv : Bool} {P : Program} {r : Option Nat} {s : AS} {ops : Array Oper} {nt p : Nat}
theorem zoC (hok : DrawOk nt p ops) {K : AS -> Prop} : ∀ (n : Nat) (fs : List AV) (s' : AS), fs.length + n = p -> DrRel s ops fs s' -> QUOps lv P ops ((ops.toList.take p).drop fs.length) s' K ->
  ∃ gs, (fs ++ gs).length = p /\ (∀ i o, fs.length <= i -> i < p -> ops[i]? = some o -> DUp lv P r ops (zob s ops p) s.H (fun j => (fs ++ gs).getD j (.val undef)) i o) /\ ∃ s'', DrRel s ops (fs ++ gs) s'' /\ K s''
 | 0, fs, s', hn, hr, h => by
  have : (ops.toList.take p).drop fs.length = [] := by
   apply List.drop_eq_nil_of_le;simp; omega
  rw [this] at h;exact ⟨[], by simp; omega, fun i o h1 h2 => absurd h2 (by omega), s', by simpa using hr, h⟩
 | n + 1, fs, s', hn, hr, h => by
  have hp : fs.length < p := by omega
  have hsz : fs.length < ops.size := Nat.lt_of_lt_of_le hp hok.le;have ho : ops[fs.length]? = some ops[fs.length] := Array.getElem?_eq_getElem hsz;generalize hoo : ops[fs.length] = o at ho;have hd : (ops.toList.take p).drop fs.length = o :: (ops.toList.take p).drop (fs.length + 1) := by
   rw [List.drop_eq_getElem_cons (by simp; omega)];simp [hoo]
  rw [hd] at h;have hopd : ∀ t, Operand.tmp t ∈ o.op.operands -> ∀ j, j < p -> zmr ops j = some t -> j ∈ zmd o := fun t ht j hj e => hok.opd fs.length o t j hp ho ht hj e;have hev : ∀ (s1 : AS) (gs : List AV), DrRel s ops fs s1 -> ∀ x ∈ o.op.operands, AS.ev s1 x = AS.ev ⟨deps ops (fun j => (fs ++ gs).getD j (.val undef)) o ++ zob s ops p, s.H⟩ x := fun s1 gs hr1 x hx => by
   cases x with
   | tmp t => exact (hr1.seen hok hp ho (hopd t hx)).symm
   | _ => rfl
  have go : ∀ (s1 : AS), DrRel s ops fs s1 -> (AQ lv P s1 o fun av => QUOps lv P ops ((ops.toList.take p).drop (fs.length + 1)) (s1.put o.dst av) K) ->
    ∃ av gs, (fs ++ av :: gs).length = p /\ QStep lv P r o ⟨deps ops (fun j => (fs ++ av :: gs).getD j (.val undef)) o ++ zob s ops p, s.H⟩ av /\ (∀ i o, fs.length + 1 <= i -> i < p -> ops[i]? = some o -> DUp lv P r ops (zob s ops p) s.H (fun j => (fs ++ av :: gs).getD j (.val undef)) i o) /\ ∃ s'', DrRel s ops (fs ++ av :: gs) s'' /\ K s'' := fun s1 hr1 h1 => by
   obtain ⟨av0, _, _⟩ := h1.sound (r := r);have hs1 : s1 = ⟨s1.T, s.H⟩ := (by rw [<- hr1.H]);rw [hs1] at h1;have h2 := AQ.congr (T' := deps ops (fun j => (fs ++ []).getD j (.val undef)) o ++ zob s ops p) (fun x hx => by rw [<- hs1]; exact hev s1 [] hr1 x hx) h1;obtain ⟨av, hq, h3⟩ := h2.sound (r := r);obtain ⟨gs, g1, g2, s'', g3, g4⟩ := zoC hok n (fs ++ [av]) (s1.put o.dst av) (by simp; omega) (hr1.put hok hp ho av) (by rw [<- hs1] at h3; simpa using h3);have e : fs ++ [av] ++ gs = fs ++ av :: gs := (by simp);rw [e] at g1 g2 g3;refine ⟨av, gs, g1, ?_, fun i o hi => g2 i o (by simpa using hi), s'', g3, g4⟩;have ed : deps ops (fun j => (fs ++ av :: gs).getD j (.val undef)) o = deps ops (fun j => (fs ++ []).getD j (.val undef)) o := by
    unfold deps;apply znt;intro j hj;have hjl := hok.low fs.length o ho j hj;simp [List.getD_eq_getElem?_getD, List.getElem?_append_left hjl]
   rw [ed]; exact hq
  simp only [QUOps] at h;split at h
  ·rename_i hg;obtain ⟨av, gs, g1, g2, g3, g4⟩ := go s' hr h;refine ⟨av :: gs, g1, fun i o' hi hip ho' => ?_, g4⟩;by_cases hie : i = fs.length
   ·subst hie;rw [ho] at ho'; cases ho';unfold DUp;rw [hg];simpa [List.getD_eq_getElem?_getD] using g2
   ·exact g3 i o' (by omega) hip ho'
  ·rename_i j want hg;obtain ⟨d, hdj, hA⟩ := h.out;obtain ⟨a, hla, hB⟩ := hA.out;have hjo := hok.grd fs.length o j want hp ho hg;have hjl := hok.low fs.length o ho j hjo;have hseen : ∀ gs, look (deps ops (fun j => (fs ++ gs).getD j (.val undef)) o ++ zob s ops p) d = some a := fun gs => by
    rw [hr.seen hok hp ho fun j' hj' e => ?_]
    ·exact hla
    ·have get : ∀ i, i < p -> ∃ o, ops[i]? = some o := fun i hi => ⟨_, Array.getElem?_eq_getElem (Nat.lt_of_lt_of_le hi hok.le)⟩;rcases Nat.lt_trichotomy j j' with hlt | hlt | hlt
     ·obtain ⟨o', ho'⟩ := get j' hj';exact absurd hdj (hok.dis j' j o' d hlt hj' ho' (by simpa [zmr, ho'] using e))
     ·rw [<- hlt]; exact hjo
     ·obtain ⟨o', ho'⟩ := get j (by omega);exact absurd e (hok.dis j j' o' d hlt (by omega) ho' (by simpa [zmr, ho'] using hdj))
   rcases hB with ⟨b, e1, hC, hD⟩ | ⟨e1, hZ⟩
   case inr =>
    subst e1;obtain ⟨gs, g1, g2, s'', g3, g4⟩ := zoC hok n (fs ++ [.val undef]) _ (by simp; omega) (hr.put hok hp ho (.val undef)) (by simpa using hZ);have e : fs ++ [.val undef] ++ gs = fs ++ .val undef :: gs := (by simp);rw [e] at g1 g2 g3;refine ⟨.val undef :: gs, g1, fun i o' hi hip ho' => ?_, s'', g3, g4⟩;by_cases hie : i = fs.length
    ·subst hie;rw [ho] at ho'; cases ho';unfold DUp;rw [hg];exact ⟨d, hdj, .inr ⟨hseen _, by simp [List.getD_eq_getElem?_getD]⟩⟩
    ·exact g2 i o' (by simp; omega) hip ho'
   subst e1;by_cases hb : b = want
   ·subst hb;obtain ⟨av, gs, g1, g2, g3, g4⟩ := go _ (hr.know hla) (hC rfl);refine ⟨av :: gs, g1, fun i o' hi hip ho' => ?_, g4⟩;by_cases hie : i = fs.length
    ·subst hie;rw [ho] at ho'; cases ho';unfold DUp;rw [hg];refine ⟨d, hdj, .inl ⟨b, hseen _, fun _ => by simpa [List.getD_eq_getElem?_getD] using g2, fun e => by cases b <;> cases e⟩⟩
    ·exact g3 i o' (by omega) hip ho'
   ·have hb' : b = !want := (by cases b <;> cases want <;> simp_all);subst hb';have h3 := hD rfl;obtain ⟨gs, g1, g2, s'', g3, g4⟩ := zoC hok n (fs ++ [.val undef]) _ (by simp; omega) ((hr.know hla).put hok hp ho (.val undef)) (by simpa using h3);have e : fs ++ [.val undef] ++ gs = fs ++ .val undef :: gs := (by simp);rw [e] at g1 g2 g3;refine ⟨.val undef :: gs, g1, fun i o' hi hip ho' => ?_, s'', g3, g4⟩;by_cases hie : i = fs.length
    ·subst hie;rw [ho] at ho'; cases ho';unfold DUp;rw [hg];exact ⟨d, hdj, .inl ⟨!want, hseen _, fun e => absurd e hb, fun _ => by simp [List.getD_eq_getElem?_getD]⟩⟩
    ·exact g2 i o' (by simp; omega) hip ho'
theorem zqU {T0 : List (Nat × AV)} {H : List AObj} {f : Nat -> AV} (hok : DrawOk nt p ops) (hbase : ∀ j, j < p -> ∀ d, zmr ops j = some d -> look T0 d = none) (hop : ∀ (i : Nat) o, i < p -> ops[i]? = some o -> DUp lv P r ops T0 H f i o) {X l : List Nat} (hs : Sched ops X l) :
  (∀ i ∈ X, i < p) -> (∀ i ∈ X, ∀ o, ops[i]? = some o -> ∀ j ∈ zmd o, j ∈ X) -> ∀ (E : Env) (V : View) (a : Act) (Q : Ex -> Act -> View -> Prop), DAt E V ops T0 H f X a nt ->
   (∀ E' V' a' X', Kept E E' V V' a a' -> DAt E' V' ops T0 H f X' a' nt -> (∀ i, i < p -> i ∈ X') -> zmJ lv P r ops Q (List.range' p (ops.size - p)) a' V') -> zmJ lv P r ops Q l a V := by
 have full : ∀ X : List Nat, (∀ i ∈ X, i < p) -> (∀ i, i < p -> i ∈ X) -> ∀ i, i ∈ X <-> i < p := fun X h1 h2 i => ⟨h1 i, h2 i⟩;induction hs with
 | nil X h =>
  intro hX hc E V a Q hat hQ;have hpe : p = ops.size := by
   apply Classical.byContradiction;intro hne;have := hX p (h p (by have := hok.le; omega));omega
  have := hQ E V a X (Kept.refl E V a) hat (fun i hi => h i (by omega));rw [hpe, Nat.sub_self] at this;exact this
 | cons o ho hn hd hrest ih =>
  rename_i X i l;intro hX hc E V a Q hat hQ;have hi : i < ops.size := (Array.getElem?_eq_some_iff.1 ho).1;by_cases hip : i < p
  ·simp only [zmJ, ho];have hX' : ∀ k ∈ i :: X, k < p := fun k hk => (List.mem_cons.1 hk).elim (fun e => by rw [e]; exact hip) (hX k);have hc' : ∀ k ∈ i :: X, ∀ o', ops[k]? = some o' -> ∀ j ∈ zmd o', j ∈ i :: X := fun k hk o' ho' j hj => by
    rcases List.mem_cons.1 hk with rfl | hk
    ·rw [ho] at ho'; cases ho'; exact List.mem_cons_of_mem _ (hd j hj)
    ·exact List.mem_cons_of_mem _ (hc k hk o' ho' j hj)
   have tok : TOk E (deps ops f o ++ T0) a.tmps := by
    intro t av e;rw [zby] at e;cases hl : look (deps ops f o) t with
    | none => rw [hl] at e; exact hat.base t av e
    | some x =>
     rw [hl] at e; cases e;obtain ⟨j, hj, e⟩ := List.mem_filterMap.1 (zbB hl);obtain ⟨d, hd', e⟩ := Option.map_eq_some_iff.1 e;cases e;obtain ⟨oj, hoj, hdd⟩ := Option.bind_eq_some_iff.1 hd';exact ⟨by rw [hat.size]; exact hok.dst j oj _ hoj hdd, hat.done j (hd j hj) _ hd'⟩
   have hdo : zmr ops i = o.dst := (by simp [zmr, ho]);have put : ∀ {E' V'} (v : Value), E.Le E' -> Conc E' V' H -> Den E' (f i) v -> DAt E' V' ops T0 H f (i :: X) (a.put o.dst v) nt := fun {E' V'} v hle hc2 hv => by
    cases hdst : o.dst with
    | none =>
     refine ⟨hc2, hat.base.mono hle, fun k hk d hkd => ?_, hat.size⟩;rcases List.mem_cons.1 hk with rfl | hk
     ·rw [hdo, hdst] at hkd; cases hkd
     ·exact (hat.done k hk d hkd).mono hle
    | some d0 =>
     have hlt : d0 < a.tmps.size := (by rw [hat.size]; exact hok.dst i o d0 ho hdst);refine ⟨hc2, fun t av e => ?_, fun k hk d hkd => ?_, by simp [Act.put, hat.size]⟩
     ·have hne : d0 ≠ t := fun e' => (by rw [<- e', hbase i hip d0 (by rw [hdo, hdst])] at e; cases e);have := hat.base.mono hle t av e;exact ⟨by simpa [Act.put] using this.1, by simpa [Act.put, Array.getD_eq_getD_getElem?, Array.getElem?_setIfInBounds_ne hne] using this.2⟩
     ·by_cases hki : k = i
      ·subst hki;rw [hdo, hdst] at hkd; cases hkd;simpa [Act.put, Array.getD_eq_getD_getElem?, Array.getElem?_setIfInBounds_self_of_lt hlt] using hv
      ·have hk' : k ∈ X := (List.mem_cons.1 hk).resolve_left hki;have hne : d0 ≠ d := fun e' => by
        subst e';have hkp := hX k hk';have get : ∀ i, i < p -> ∃ o, ops[i]? = some o := fun i hi => ⟨_, Array.getElem?_eq_getElem (Nat.lt_of_lt_of_le hi hok.le)⟩;rcases Nat.lt_trichotomy k i with hlt | hlt | hlt
        ·exact hok.dis i k o d0 hlt hip ho hdst hkd
        ·exact hki hlt
        ·obtain ⟨o', ho'⟩ := get k hkp;exact hok.dis k i o' d0 hlt hkp ho' (by simpa [zmr, ho'] using hkd) (by rw [hdo, hdst])
       have := (hat.done k hk' d hkd).mono hle;simpa [Act.put, Array.getD_eq_getD_getElem?, Array.getElem?_setIfInBounds_ne hne] using this
   have go : QStep lv P r o ⟨deps ops f o ++ T0, H⟩ (f i) -> OpWP lv P r o a V (zmJ lv P r ops Q l) Q := fun hq =>
    hq E V a _ Q hat.conc tok (.inr (hok.dfr i o ho)) fun E' V' v hle hro hde hc2 hv =>
     ih hX' hc' E' V' (a.put o.dst v) Q (put v hle hc2 hv) fun E'' V'' a'' X'' hk hat'' hall =>
      hQ E'' V'' a'' X'' ⟨hle.trans hk.le, hk.size.trans (zaA _ _ _), hk.defers.trans (zaw _ _ _), hk.role.trans hro, hk.deaf.trans hde⟩ hat'' hall
   have hdo' := hop i o hip ho;unfold DUp at hdo';split at hdo'
   ·rename_i hgu;have hw : Region.wanted o (yielded ops a.tmps) = true := (by unfold Region.wanted; rw [hgu]);rw [if_pos hw]; exact .inl (go hdo')
   ·rename_i j want hgu;obtain ⟨d, hdj, ⟨b, hlk, h1, h2⟩ | ⟨hlk, hu⟩⟩ := hdo'
    case inr =>
     obtain ⟨hlt, hv⟩ := tok d _ hlk;have hy : yielded ops a.tmps j ≠ some want := by
      obtain ⟨oj, hoj, hdd⟩ := Option.bind_eq_some_iff.1 hdj;generalize hx : a.tmps.getD d undef = x at hv;cases hv;rw [Array.getD_eq_getD_getElem?, Array.getElem?_eq_getElem hlt] at hx;simp only [Option.getD_some] at hx;simp [yielded, hoj, hdd, Array.getElem?_eq_getElem hlt, hx, undef]
     have hw : ¬ Region.wanted o (yielded ops a.tmps) = true := by
      unfold Region.wanted; rw [hgu];intro h;exact hy (by simpa using h)
     rw [if_neg hw];exact ih hX' hc' E V (a.put o.dst undef) Q (put undef (Env.Le.refl E) hat.conc (by rw [hu]; exact .val _)) fun E'' V'' a'' X'' hk hat'' hall =>
      hQ E'' V'' a'' X'' ⟨hk.le, hk.size.trans (zaA _ _ _), hk.defers.trans (zaw _ _ _), hk.role, hk.deaf⟩ hat'' hall
    obtain ⟨hlt, hv⟩ := tok d _ hlk;have hy : yielded ops a.tmps j = some b := by
     obtain ⟨oj, hoj, hdd⟩ := Option.bind_eq_some_iff.1 hdj;generalize hx : a.tmps.getD d undef = x at hv;cases hv;rw [Array.getD_eq_getD_getElem?, Array.getElem?_eq_getElem hlt] at hx;simp only [Option.getD_some] at hx;simp [yielded, hoj, hdd, Array.getElem?_eq_getElem hlt, hx]
    by_cases hb : b = want
    ·have hw : Region.wanted o (yielded ops a.tmps) = true := (by unfold Region.wanted; rw [hgu]; simp [hy, hb]);rw [if_pos hw]; exact .inl (go (h1 hb))
    ·have hw : ¬ Region.wanted o (yielded ops a.tmps) = true := (by unfold Region.wanted; rw [hgu]; simp [hy, hb]);rw [if_neg hw];have hu := h2 (by cases b <;> cases want <;> simp_all);exact ih hX' hc' E V (a.put o.dst undef) Q (put undef (Env.Le.refl E) hat.conc (by rw [hu]; exact .val _)) fun E'' V'' a'' X'' hk hat'' hall =>
      hQ E'' V'' a'' X'' ⟨hk.le, hk.size.trans (zaA _ _ _), hk.defers.trans (zaw _ _ _), hk.role, hk.deaf⟩ hat'' hall
  ·have hall : ∀ k, k < p -> k ∈ X := fun k hk => zcI hc (hok.suf i k (by omega) hi (by omega)) (fun o' ho' j hj => by rw [ho] at ho'; cases ho'; exact hd j hj);have hl := ziO hok (.cons o ho hn hd hrest) p (Nat.le_refl _) hok.le (full X hX hall) hc;rw [hl];exact hQ E V a X (Kept.refl E V a) hat hall
theorem zpe {id : Nat} {Φ : AEx -> AS -> Prop} (hm : P.follows .mixedOrders = true) (p : Nat) (hok : drawOk nt p ops = true) (h : QUOps lv P ops (ops.toList.take p) s (fun s' => AOps lv P ops (ops.toList.drop p) s' (Φ .normal) (fun pv s => Φ (.panic pv) s))) : AWP lv P r nt (.region id ops true) s Φ := by
 intro E V a Q hat hQ;have hok := drawOk.out hok;obtain ⟨gs, g1, g2, s'', g3, g4⟩ := zoC (lv := lv) (r := r) hok p [] s (by simp) ⟨rfl, by simp, by simp⟩ (by simpa using h);simp only [List.nil_append] at g1 g2 g3;refine zg3 fun t => ?_;rw [show Region.schedule (P.follows .mixedOrders) ops t = Region.linearise.go .any ops ops.size t (Array.replicate ops.size false) [] by unfold Region.schedule; rw [hm]; simp [Region.linearise]];have hs := zeA (ops := ops) (fun i o ho j hj => hok.low i o ho j hj) ops.size t (Array.replicate ops.size false) [] ⟨by simp, fun i hi => by simp [hi]⟩ (Nat.le_trans List.countP_le_length (by simp));refine zqU (T0 := zob s ops p) (H := s.H) hok (fun j hj d hd => ?_) (fun i o hi ho => g2 i o (by simp) hi ho) hs (by simp) (by simp) E V a Q ⟨hat.conc, fun t av e => ?_, by simp, hat.size⟩ fun E' V' a' X' hk hat' hall => ?_
 ·rw [zbN, if_neg];simp only [List.all_eq_true];intro h;have := h j (by simpa using hj);rw [hd] at this;simp at this
 ·rw [zbN] at e;split at e
  ·exact hat.tok t av e
  ·cases e
 ·refine zb3 (Φ := Φ) (fun o ho d e => ?_) (fun o ho => .inr ?_) (ops.size - p) p s'' (by have := hok.le; omega) g4 E' V' a' Q ⟨by rw [g3.H]; exact hat'.conc, fun t av e => ?_, hat'.size⟩ (fun ae e E'' V'' a'' s3 hk' hat3 he hΦ => hQ ae e E'' V'' a'' s3 (hk.trans hk') hat3 he hΦ)
  ·obtain ⟨i, hi⟩ := Array.mem_iff_getElem?.1 ho; exact hok.dst i o d hi e
  ·obtain ⟨i, hi⟩ := Array.mem_iff_getElem?.1 ho; exact hok.dfr i o hi
  ·by_cases hex : ∃ j, j < p /\ zmr ops j = some t
   ·obtain ⟨j, hj, hjt⟩ := hex;rw [g3.new j t (by omega) hjt] at e;obtain ⟨oj, hoj, hdd⟩ := Option.bind_eq_some_iff.1 hjt;refine ⟨by rw [hat'.size]; exact hok.dst j oj t hoj hdd, ?_⟩;have := hat'.done j (hall j hj) t hjt;simpa [List.getD_eq_getElem?_getD, e] using this
   ·have hno : ∀ j, j < p -> zmr ops j ≠ some t := fun j hj e => hex ⟨j, hj, e⟩;rw [g3.old t fun j hj => hno j (by omega)] at e;refine hat'.base t av ?_;rw [zbN, if_pos (by simp only [List.all_eq_true]; intro j hj; simpa using hno j (by simpa using hj))];exact e
end
def fewL (x : Ring) (b : Bool) (keys : List Int) : Bool := (zmq x).all fun t => if b then znU x t keys x.locks.length else zn6 x t keys x.locks.length
def fewF (x : Ring) (b : Bool) : Option (List Int) := (znz x.keys.length).find? (fewL x b)
def fewG (x : Ring) (b : Bool) : List Int := if zmX x true ≠ 0 then [] else (fewF x b).getD []
def fewE (x : Ring) (b : Bool) : Int := if zmX x true ≠ 0 then zmX x true else if (fewF x b).isSome then 0 else 11
section
variable {lv : Bool} {H : List AObj} {k kp : AV -> List AObj -> Prop}
theorem f116_c {x : Ring} {b : Bool} (hs : x.Small) (hk : k (.tup [aInts (fewG x b), iv (fewE x b)]) H) : FnC lv Tryz.prog 116 H [x.av, bv b] k kp := by
 refine zlV (rs := [.tmp 4, .tmp 5]) (nt := 82) Tryz.f116 fun hH hA => ?_;simp only [zma, Nat.reduceAdd, Ring.av, Ring.l];refine zhC ?_;refine zhC ?_;refine zl6 ((f103_c (x := x) (b := true) hs ?_));(try simp only [seval]);refine zhC ?_;refine zlj ?_;refine ⟨fun h => ?_, fun h => ?_⟩
 ·have e1 : fewG x b = [] := by unfold fewG; rw [if_pos h]
  have e2 : fewE x b = zmX x true := by unfold fewE; rw [if_pos h]
  rw [e1, e2] at hk;refine zhC ?_;refine zlA ?_;exact endA (b := .tup [aInts [], iv (zmX x true)]) hH (zdC (zaK _ _ _) (Wk.refl _)) (by simp [zaD, zap, iv, zbi]) hk
 ·have h : zmX x true = 0 := by simpa using h
  obtain ⟨hx, _, _⟩ := zng h;have eT : zoS x true = zmq x := by unfold zoS; rw [if_pos h]
  have e1 : fewG x b = (fewF x b).getD [] := by unfold fewG; rw [if_neg (by simpa using h)]
  have e2 : fewE x b = if (fewF x b).isSome then 0 else 11 := by unfold fewE; rw [if_neg (by simpa using h)]
  have hx4 := hx.keys;have hx5 := hx.locks;have htl : (zmq x).length <= 256 := zlJ hx;have htr := zhQ hx;have hfl : ∀ y, fewL x b y = (zmq x).all fun t => if b then znU x t y x.locks.length else zn6 x t y x.locks.length := fun _ => rfl;refine zlu ?_;refine zhC ?_;(try simp only [seval, eT, znn]);generalize zmq x = D at htl htr hfl ⊢;refine zlF ?_;refine zmh (x.keys.length + 1) (fun m : Nat => [(8, iv m)]) (fun _ => _) (fun m => ∀ y ∈ znf x.keys.length m, fewL x b y = false) (by simp [znf]) (fun hHs hLt m hmn hmo R hR => ?_);clear hHs hLt;refine zl5 ?_;simp only [seval, zmv];refine zlj ?_;refine ⟨fun h2 => ?_, fun h2 => ?_⟩
  ·have hm2 : m <= x.keys.length := (by omega);have hw1 : IntKind.i64.wrap ((m : Int) + 1) = m + 1 := zau _ (by omega);have hsu := zly x.keys.length m;obtain ⟨hl20, hlr⟩ := zlz x.keys.length (by omega) m (by omega) 0 (by omega);obtain ⟨rest, hpre⟩ := zpE x.keys.length m hm2;have hrows := zlI x.keys.length (by omega);have hcm : znz x.keys.length = znf x.keys.length (x.keys.length + 1) := rfl;refine zlu ?_;refine zl5 ?_;simp only [seval, zmv];refine zl6 ((f141_c m (n := x.keys.length) (first := 0) (by omega) (by omega) (by omega) ?_));generalize hS : zmL x.keys.length m 0 = S at hsu hl20 hlr hpre ⊢;(try simp only [seval, znn]);refine zhC ?_;refine zlF ?_;refine zmh S.length (fun i : Nat => [(10, iv i)]) (fun _ => _) (fun i => ∀ y ∈ S.take i, fewL x b y = false) (by simp) (fun hHs hLt i hin hi R2 hR2 => ?_);clear hHs hLt;refine zhC ?_;refine zlj ?_;refine ⟨fun h3 => ?_, fun h3 => ?_⟩
   ·have hil : i < S.length := (by omega);obtain ⟨l, hl⟩ := zaE hil;have hlm : l ∈ znz x.keys.length := (by rw [hcm, hpre]; exact List.mem_append_right _ (List.mem_append_left _ (zas hl)));obtain ⟨hl6, hlb⟩ := hrows l hlm;have hw2 : IntKind.i64.wrap ((i : Int) + 1) = i + 1 := zau _ (by omega);have hflx := hfl l;refine zlu ?_;refine zhC ?_;refine zhC ?_;refine zlF ?_;refine zmh D.length (fun j : Nat => [(11, bv ((D.take j).all fun t => if b then znU x t l x.locks.length else zn6 x t l x.locks.length)), (12, iv j)]) (fun _ => _) (fun j => True) trivial (fun hHs hLt j hjn hj R3 hR3 => ?_);clear hHs hLt;refine zhC ?_;refine zlj ?_;refine ⟨fun h4 => ?_, fun h4 => ?_⟩
    ·have hjl : j < D.length := (by omega);obtain ⟨t, ht⟩ := zaE hjl;obtain ⟨htn, htb⟩ := htr t (zas ht);have hw3 : IntKind.i64.wrap ((j : Int) + 1) = j + 1 := zau _ (by omega);rw [zlD _ ht] at hR3;refine zlu ?_;refine zlF ?_;cases hb : ((D.take j).all fun t => if b then znU x t l x.locks.length else zn6 x t l x.locks.length) with
     | false =>
      (repeat apply zaa); refine zpe F.mixed 32 (by kernel_rfl) ?_
      (try simp only [seval, hb, zlB hl, zaz hil, zlB ht, zaz hjl]);rw [hb] at hR3;refine zl5 ?_;simp only [seval, hw3];refine hR3 _ ⟨hjl, trivial, ?_⟩;simp only [Bool.false_and];exact zl7
     | true =>
      rw [hb] at hR3;cases b with
      | true =>
       (repeat apply zaa); refine zpe F.mixed 32 (by kernel_rfl) ?_
       (try simp only [seval, hb, zlB hl, zaz hil, zlB ht, zaz hjl]);refine znh _ (zmg (f157_c (x := x) hx (by omega) htb (by omega) hlb ⟨rfl, rfl⟩)) ?_;cases hp : znU x t l x.locks.length with
       | true =>
        (try simp only [seval, hp]);rw [if_pos rfl, hp] at hR3;refine zl5 ?_;simp only [seval, hw3];refine hR3 _ ⟨hjl, trivial, ?_⟩;simp only [Bool.true_and];exact zl7
       | false =>
        (try simp only [seval, hp]);rw [if_pos rfl, hp] at hR3;refine zl5 ?_;simp only [seval, hw3];refine hR3 _ ⟨hjl, trivial, ?_⟩;simp only [Bool.true_and];exact zl7
      | false =>
       (repeat apply zaa); refine zpe F.mixed 32 (by kernel_rfl) ?_
       (try simp only [seval, hb, zlB hl, zaz hil, zlB ht, zaz hjl]);refine znh _ (zmg (f158_c (x := x) hx (by omega) htb (by omega) hlb ⟨rfl, rfl⟩)) ?_;(try simp only [seval]);refine zl5 ?_;simp only [seval, hw3];refine hR3 _ ⟨hjl, trivial, ?_⟩;simp only [Bool.true_and, Bool.false_eq_true, if_false];exact zl7
    ·have hjx : j = D.length := (by omega);subst hjx;clear hR3;rw [List.take_length, <- hflx];refine zl4 ?_;refine zhC ?_;refine zlj ?_;refine ⟨fun h5 => ?_, fun h5 => ?_⟩
     ·have h5 : fewL x b l = true := (by simpa using h5);have hf : fewF x b = some l := by
       unfold fewF;rw [hcm, hpre, List.find?_append, List.find?_eq_none.2 (fun y hy => by rw [hmo y hy]; simp), Option.none_or, List.find?_append, zfN hl h5 hi]; rfl
      rw [e1, e2, hf] at hk;refine zl5 ?_;simp only [seval, zlB hl, zaz hil];refine zlA ?_;exact endA (b := .tup [aInts l, iv 0]) hH (Wk.refl _) (by simp [zaD, zap, iv, zbi]) hk
     ·have h5 : fewL x b l = false := (by simpa using h5);refine zlu ?_;refine zl5 ?_;simp only [seval, hw2];refine hR2 _ ⟨hil, fun y hy => ?_, zl7⟩;rw [List.take_add_one, hl] at hy;rcases List.mem_append.1 hy with hy | hy
      ·exact hi y hy
      ·simp at hy; subst hy; exact h5
   ·have hix : i = S.length := (by omega);subst hix;rw [List.take_length] at hi;clear hR2;refine zl4 ?_;refine zl5 ?_;simp only [seval, hw1];refine hR _ ⟨by omega, fun y hy => ?_, zl7⟩;rw [hsu] at hy;rcases List.mem_append.1 hy with hy | hy
    ·exact hmo y hy
    ·exact hi y hy
  ·have hm1 : m = x.keys.length + 1 := (by omega);subst hm1;have hf : fewF x b = none := List.find?_eq_none.2 fun y hy => (by rw [hmo y hy]; simp);rw [e1, e2, hf] at hk;clear hR;refine zl4 ?_;refine zhC ?_;refine zlA ?_;exact endA (b := .tup [aInts [], iv 11]) hH (zdC (zaK _ _ _) (Wk.refl _)) (by simp [zaD, zap, iv, zbi]) hk
theorem f39_c {x : Ring} (hs : x.Small) (hk : k (.tup [aInts (fewG x false), iv (fewE x false)]) H) : FnC lv Tryz.prog 39 H [x.av] k kp := by
 refine zlV (rs := [.tmp 2, .tmp 3]) (nt := 8) Tryz.f39 fun hH hA => ?_;simp only [zma, Nat.reduceAdd, Ring.av, Ring.l];refine zhC ?_;refine zhC ?_;refine zl6 ((f116_c (x := x) (b := false) hs ?_));(try simp only [seval]);refine zlA ?_;exact endA (b := .tup [aInts (fewG x false), iv (fewE x false)]) hH (Wk.refl _) (by simp [zaD, zap, iv, zbi]) hk
theorem f43_c {x : Ring} (hs : x.Small) (hk : k (.tup [aInts (fewG x true), iv (fewE x true)]) H) : FnC lv Tryz.prog 43 H [x.av] k kp := by
 refine zlV (rs := [.tmp 2, .tmp 3]) (nt := 8) Tryz.f43 fun hH hA => ?_;simp only [zma, Nat.reduceAdd, Ring.av, Ring.l];refine zhC ?_;refine zhC ?_;refine zl6 ((f116_c (x := x) (b := true) hs ?_));(try simp only [seval]);refine zlA ?_;exact endA (b := .tup [aInts (fewG x true), iv (fewE x true)]) hH (Wk.refl _) (by simp [zaD, zap, iv, zbi]) hk
end
theorem zoJ {α : Type} {f g : α -> Bool} : ∀ {l : List α}, (∀ y ∈ l, f y = g y) -> l.find? f = l.find? g
 | [], _ => rfl
 | a :: l, h => by
  rw [List.find?_cons, List.find?_cons, h a (List.mem_cons_self ..), zoJ fun y hy => h y (List.mem_cons_of_mem _ hy)]
theorem zpV {x : Ring} (hx : x.Ok) {l : List Int} (hl : l ∈ znz x.keys.length) : ∀ k ∈ l, 0 <= k /\ k < x.keys.length := by
 have hx4 := hx.keys;exact (zlI x.keys.length (by omega) l hl).2
theorem zqi {x : Ring} (hx : x.Ok) : zpL x = fewF x true := by
 rw [zlT hx];exact zoJ fun l hl => zrp hx (zpV hx hl)
theorem zpU {x : Ring} (hx : x.Ok) : zoR x = fewF x false := by
 rw [zl0 hx];exact zoJ fun l hl => zl3 hx (zpV hx hl)
theorem znb (x : Ring) : zme x none = zmX x true := zol (by simp) (.inl rfl)
section
variable {H : List AObj} {k kp : AV -> List AObj -> Prop}
theorem f38_d {x : Ring} (hmain : H[0]? = some .main) (hs : x.Small) (hk : k (.tup [aInts (fewG x false), iv (fewE x false)]) H) : FnC true Tryz.prog 38 H [x.av] k kp := by
 unfold fewG fewE at hk;refine zqc (f38_c zaQ hmain hs (fun h => ⟨_, zdC (zaK _ _ _) (Wk.refl _), ?_⟩) (fun h h2 => ⟨_, zdC (zaK _ _ _) (Wk.refl _), ?_⟩) fun h xs h2 => ⟨_, Wk.refl _, ?_⟩)
 ·rw [znb] at h ⊢;rw [if_pos h, if_pos h] at hk; exact hk
 ·rw [znb] at h;rw [zpU (zng h).1] at h2;rw [if_neg (by simpa using h), if_neg (by simpa using h), h2] at hk; exact hk
 ·rw [znb] at h;rw [zpU (zng h).1] at h2;rw [if_neg (by simpa using h), if_neg (by simpa using h), h2] at hk; exact hk
theorem f42_d {x : Ring} (hmain : H[0]? = some .main) (hs : x.Small) (hk : k (.tup [aInts (fewG x true), iv (fewE x true)]) H) : FnC true Tryz.prog 42 H [x.av] k kp := by
 unfold fewG fewE at hk;refine zqc (f42_c zaQ hmain hs (fun h => ⟨_, zdC (zaK _ _ _) (Wk.refl _), ?_⟩) (fun h h2 => ⟨_, zdC (zaK _ _ _) (Wk.refl _), ?_⟩) fun h xs h2 => ⟨_, Wk.refl _, ?_⟩)
 ·rw [znb] at h ⊢;rw [if_pos h, if_pos h] at hk; exact hk
 ·rw [znb] at h;rw [zqi (zng h).1] at h2;rw [if_neg (by simpa using h), if_neg (by simpa using h), h2] at hk; exact hk
 ·rw [znb] at h;rw [zqi (zng h).1] at h2;rw [if_neg (by simpa using h), if_neg (by simpa using h), h2] at hk; exact hk
theorem zqp (x : Ring) (b : Bool) : (fewG x b).length < 2 ^ 60 := by
 unfold fewG;split
 ·simp
 ·rename_i h;have hx := (zng (x := x) (b := true) (by simpa using h)).1;have hx4 := hx.keys;unfold fewF;cases hf : (znz x.keys.length).find? (fewL x b) with
  | none => simp
  | some l =>
   have := (zlI x.keys.length (by omega) l (List.mem_of_find?_eq_some hf)).1;show l.length < _;omega
def alS (S : Nat -> Nat -> Bool) : Nat -> List Int × Nat
 | 0 => ([], 0)
 | b + 1 => match (List.range b).find? fun a => S a b with
  | some a => ((alS S b).1 ++ [(alS S b).1.getD a 0], (alS S b).2)
  | none => ((alS S b).1 ++ [((alS S b).2 : Int)], (alS S b).2 + 1)
def valS (S : Nat -> Nat -> Bool) (i : Nat) : Int := (alS S (i + 1)).1.getD i 0
theorem zn2 (S : Nat -> Nat -> Bool) : ∀ b, (alS S b).1.length = b
 | 0 => rfl
 | b + 1 => by
  unfold alS;split <;> simp [zn2 S b]
theorem zoK (S : Nat -> Nat -> Bool) {i : Nat} : ∀ {b : Nat}, i < b -> (alS S b).1.getD i 0 = valS S i
 | b + 1, h => by
  by_cases e : i = b
  ·subst e; rfl
  ·rw [<- zoK S (b := b) (by omega)];have hl := zn2 S b;rw [alS];split <;> simp only [List.getD_eq_getElem?_getD] <;> rw [List.getElem?_append_left (by omega)]
theorem zow {S : Nat -> Nat -> Bool} {a b : Nat} (h : (List.range b).find? (fun a => S a b) = some a) : valS S b = valS S a /\ (alS S (b + 1)).2 = (alS S b).2 /\ a < b /\ S a b = true := by
 have hl := zn2 S b;have hab : a < b := List.mem_range.1 (List.mem_of_find?_eq_some h);refine ⟨?_, ?_, hab, by simpa using List.find?_some h⟩
 ·unfold valS;rw [alS, h];simp only;rw [zoK S hab, List.getD_eq_getElem?_getD, List.getElem?_append_right (by omega)];simp [hl, valS]
 ·rw [alS, h]
theorem zox {S : Nat -> Nat -> Bool} {b : Nat} (h : (List.range b).find? (fun a => S a b) = none) : valS S b = (alS S b).2 /\ (alS S (b + 1)).2 = (alS S b).2 + 1 := by
 have hl := zn2 S b;refine ⟨?_, by rw [alS, h]⟩;unfold valS;rw [alS, h];simp only;rw [List.getD_eq_getElem?_getD, List.getElem?_append_right (by omega)];simp [hl]
theorem zqq {S : Nat -> Nat -> Bool} (hs : ∀ a b, S a b = true -> S b a = true) (ht : ∀ a b c, S a b = true -> S b c = true -> S a c = true) : ∀ b, (∀ i < b, 0 <= valS S i /\ valS S i < (alS S b).2) /\ ∀ i < b, ∀ x < i, (S x i = true <-> valS S i = valS S x)
 | 0 => ⟨fun i h => absurd h (Nat.not_lt_zero _), fun i h => absurd h (Nat.not_lt_zero _)⟩
 | b + 1 => by
  obtain ⟨h1, h2⟩ := zqq hs ht b;have pair : ∀ a x, a < b -> x < b -> valS S x = valS S a -> S a x = true \/ a = x := fun a x ha hx e => by
   rcases Nat.lt_trichotomy a x with h | h | h
   ·exact .inl ((h2 x hx a h).2 e)
   ·exact .inr h
   ·exact .inl (hs _ _ ((h2 a ha x h).2 e.symm))
  cases hf : (List.range b).find? (fun a => S a b) with
  | some a =>
   obtain ⟨e1, e2, hab, hS⟩ := zow hf;rw [e2];refine ⟨fun i hi => ?_, fun i hi x hx => ?_⟩
   ·by_cases e : i = b
    ·rw [e, e1]; exact h1 a hab
    ·exact h1 i (by omega)
   ·by_cases e : i = b
    ·subst e;rw [e1];refine ⟨fun h => ?_, fun h => ?_⟩
     ·have hxa : S a x = true := ht _ _ _ hS (hs _ _ h);rcases Nat.lt_trichotomy a x with q | q | q
      ·exact ((h2 x hx a q).1 hxa).symm
      ·rw [q]
      ·exact (h2 a hab x q).1 (hs _ _ hxa)
     ·rcases pair a x hab hx h.symm with q | q
      ·exact ht _ _ _ (hs _ _ q) hS
      ·rw [<- q]; exact hS
    ·exact h2 i (by omega) x hx
  | none =>
   obtain ⟨e1, e2⟩ := zox hf;have hno : ∀ x < b, S x b = false := fun x hx => by
    have := List.find?_eq_none.1 hf x (List.mem_range.2 hx);simpa using this
   rw [e2];refine ⟨fun i hi => ?_, fun i hi x hx => ?_⟩
   ·by_cases e : i = b
    ·rw [e, e1]; exact ⟨by omega, by omega⟩
    ·have := h1 i (by omega); omega
   ·by_cases e : i = b
    ·subst e;rw [e1, hno x hx];have := h1 x hx;exact ⟨fun h => absurd h (by simp), fun h => by omega⟩
    ·exact h2 i (by omega) x hx
theorem zsY {S : Nat -> Nat -> Bool} (hs : ∀ a b, S a b = true -> S b a = true) (ht : ∀ a b c, S a b = true -> S b c = true -> S a c = true) (i : Nat) : 0 <= valS S i /\ valS S i <= (alS S i).2 /\ (alS S (i + 1)).2 = if valS S i = (alS S i).2 then (alS S i).2 + 1 else (alS S i).2 := by
 obtain ⟨h1, _⟩ := zqq hs ht i;cases hf : (List.range i).find? (fun a => S a i) with
 | some a =>
  obtain ⟨e1, e2, hab, _⟩ := zow hf;have := h1 a hab;rw [e2, e1, if_neg (by omega)];exact ⟨by omega, by omega, rfl⟩
 | none =>
  obtain ⟨e1, e2⟩ := zox hf;rw [e2, e1, if_pos rfl];exact ⟨by omega, by omega, rfl⟩
theorem zpY {S S' : Nat -> Nat -> Bool} : ∀ n, (∀ b < n, ∀ a < b, S a b = S' a b) -> alS S n = alS S' n
 | 0, _ => rfl
 | b + 1, h => by
  have ih := zpY b fun c hc a ha => h c (by omega) a ha;have hf : (List.range b).find? (fun a => S a b) = (List.range b).find? (fun a => S' a b) := by
   have hm : ∀ l : List Nat, (∀ a ∈ l, a < b) -> l.find? (fun a => S a b) = l.find? (fun a => S' a b) := fun l => by
    induction l with
    | nil => intro _; rfl
    | cons a l ih => intro hl; rw [List.find?_cons, List.find?_cons, h b (by omega) a (hl a List.mem_cons_self), ih fun c hc => hl c (List.mem_cons_of_mem _ hc)]
   exact hm _ fun a ha => List.mem_range.1 ha
  rw [alS, alS, hf, ih]
theorem zpv (x : Ring) (ts : List (List Int × Nat)) (keys : List Int) : ∀ b, zmU x ts keys b = alS (zp9 x ts keys) b
 | 0 => rfl
 | b + 1 => by rw [zmU, alS, zpv x ts keys b] <;> rfl
def smL (x : Ring) (D : List (List Int)) (keys : List Int) (p q : Nat) : Bool := D.all fun t => !zmI x t keys p q
theorem zo7 {x : Ring} {D : List (List Int)} {keys : List Int} {p q : Nat} : smL x D keys p q = true <-> ∀ t ∈ D, ∀ k ∈ keys, zmG x.keys t x.locks k p = zmG x.keys t x.locks k q := by
 unfold smL zmI;rw [List.all_eq_true];refine forall_congr' fun t => forall_congr' fun _ => ?_;rw [Bool.not_eq_true', List.any_eq_false];refine forall_congr' fun k => forall_congr' fun _ => ?_;simp
theorem zrw {x : Ring} (hx : x.Ok) {keys : List Int} (hk : ∀ k ∈ keys, 0 <= k /\ k < x.keys.length) {a b : Nat} (ha : a < x.locks.length) (hb : b < x.locks.length) : zp9 x (zl8 x []) keys a b = smL x (zmq x) keys b a := by
 unfold zp9 smL;rw [zlR hx fun r => !znX x r keys a b, Bool.eq_iff_iff];simp only [List.all_eq_true];refine forall_congr' fun t => forall_congr' fun ht => ?_;obtain ⟨h1, h2⟩ := zhQ hx t ht;have e : znX x (padR x.keys.length t) keys a b = zmI x t keys b a := by
  unfold znX zmI;rw [Bool.eq_iff_iff];simp only [List.any_eq_true];refine exists_congr fun k => and_congr_right fun hkm => ?_;obtain ⟨hk0, hk1⟩ := hk k hkm;have e : ((k.toNat : Nat) : Int) = k := by omega
  have e1 := zf8 hx h1 h2 (k := k.toNat) (l := a) (by omega) ha;have e2 := zf8 hx h1 h2 (k := k.toNat) (l := b) (by omega) hb;rw [e] at e1 e2;rw [e1, e2];simp only [bne_iff_ne];exact ne_comm
 rw [e]
theorem ztx (S : Nat -> Nat -> Bool) : ∀ b, (alS S b).2 <= b
 | 0 => Nat.le_refl _
 | b + 1 => by
  have := ztx S b;rw [alS];split <;> simp only <;> omega
def alkS (x : Ring) (a b : Nat) : Bool := smL x (zmq x) (zmN x.keys.length) b a
theorem zsW (x : Ring) : ∀ a b, alkS x a b = true -> alkS x b a = true := fun a b h => zo7.2 fun t ht k hk => (zo7.1 h t ht k hk).symm
theorem zvd (x : Ring) : ∀ a b c, alkS x a b = true -> alkS x b c = true -> alkS x a c = true := fun a b c h h' => zo7.2 fun t ht k hk => (zo7.1 h' t ht k hk).trans (zo7.1 h t ht k hk)
theorem zpP {n : Nat} {k : Int} : k ∈ zmN n <-> 0 <= k /\ k < n := by
 unfold zmN;rw [List.mem_map];refine ⟨fun ⟨i, h, e⟩ => by have := List.mem_range.1 h; omega, fun h => ⟨k.toNat, List.mem_range.2 (by omega), by omega⟩⟩
theorem zq4 {x : Ring} (hx : x.Ok) : zpw x = (alS (alkS x) x.locks.length).1 := by
 unfold zpw;rw [zpv, zpY _ fun b hb a ha => ?_];exact zrw hx (fun k hk => zpP.1 hk) (by omega) hb
theorem alS_at (S : Nat -> Nat -> Bool) {i b : Nat} (h : i < b) : (alS S b).1[i]? = some (valS S i) := by
 rw [<- zoK S h, List.getD_eq_getElem?_getD, List.getElem?_eq_getElem (by rw [zn2]; exact h), Option.getD_some]
def zon (x : Ring) : List Int := if zmX x true = 0 then (alS (alkS x) x.locks.length).1 else []
theorem zqC (x : Ring) : (zon x).length < 2 ^ 60 := by
 unfold zon;split
 ·rename_i h;have hx5 := (zng h).1.locks;rw [zn2]; omega
 ·simp
def ownD (S : Nat -> Nat -> Bool) (L : List Int) (next : Int) (i : Nat) : Nat -> Int
 | 0 => next
 | j + 1 => if S (i - 1 - j) i then L.getD (i - 1 - j) 0 else ownD S L next i j
theorem zpO (S : Nat -> Nat -> Bool) (L : List Int) (next : Int) (i : Nat) : ∀ j, j <= i -> ownD S L next i j = match (List.range' (i - j) j).find? (fun a => S a i) with
  | some a => L.getD a 0
  | none => next
 | 0, _ => rfl
 | j + 1, h => by
  have e : i - (j + 1) + 1 = i - j := by omega
  have e2 : i - (j + 1) = i - 1 - j := by omega
  rw [List.range'_succ, e, ownD, zpO S L next i j (by omega), List.find?_cons, e2];cases S (i - 1 - j) i <;> rfl
theorem zrT (S : Nat -> Nat -> Bool) (i : Nat) : ownD S (alS S i).1 (alS S i).2 i i = valS S i := by
 rw [zpO S _ _ i i (Nat.le_refl _), Nat.sub_self, <- List.range_eq_range'];cases hf : (List.range i).find? (fun a => S a i) with
 | some a =>
  obtain ⟨e1, _, hab, _⟩ := zow hf;rw [e1]; exact zoK S hab
 | none => exact (zox hf).1.symm
theorem zsX (S : Nat -> Nat -> Bool) (i : Nat) : (alS S (i + 1)).1 = (alS S i).1 ++ [valS S i] := by
 have hl := zn2 S i;cases hf : (List.range i).find? (fun a => S a i) with
 | some a =>
  obtain ⟨e1, _, hab, _⟩ := zow hf;rw [e1, alS, hf];simp only;rw [zoK S hab]
 | none =>
  rw [(zox hf).1, alS, hf]
theorem f40_d {x : Ring} (hmain : H[0]? = some .main) (hs : x.Small) (hk : k (.tup [aInts (zon x), iv (zmX x true)]) H) : FnC true Tryz.prog 40 H [x.av] k kp := by
 have e : zme x none = zmX x true := zol (by simp) (.inl rfl);unfold zon at hk;refine zqc (f40_c zaQ hmain hs (fun h => ⟨_, zdC (zaK _ _ _) (Wk.refl _), ?_⟩) fun h => ⟨_, Wk.refl _, ?_⟩)
 ·rw [e] at h ⊢;rw [if_neg h] at hk; exact hk
 ·rw [e] at h;rw [if_pos h, h] at hk;rw [zq4 (zng h).1]; exact hk
end
section
variable {lv : Bool} {H : List AObj} {k kp : AV -> List AObj -> Prop}
theorem f119_c {x : Ring} (hx : x.Ok) (hk : k (aInts (zmN x.keys.length)) H) : FnC lv Tryz.prog 119 H [x.av] k kp := by
 refine zlV (rs := [.tmp 2]) (nt := 17) Tryz.f119 fun hH hA => ?_;simp only [zma, Nat.reduceAdd, Ring.av, Ring.l];have hx4 := hx.keys;refine zhC ?_;refine zhC ?_
 (repeat apply zaa); refine zbV (t := 3) (sz := 1) (el := 3) (by simp only [seval] <;> rfl) ?_
 (try simp only [seval]);refine zhC ?_;refine zlF ?_;refine zaB x.keys.length (fun i : Nat => [(3, .sl i ((zmN i).map iv) (.opn (H.length + 1))), (4, iv i)]) (fun i => H ++ [.cells [iv x.cuts, zmv x.keys, zml x.locks, zmm x.tries] 26, .tail i 1 3]) (fun _ => True) (fun _ _ => rfl) (by simp only [seval]; simp [zaf, Wk.refl]; first | exact Wk.refl _ | exact ⟨Wk.refl _, Wk.refl _⟩) rfl (fun _ _ _ => by simp) trivial (fun hHs hLt i hin hi R hR => ?_);clear hHs hLt;refine zl5 ?_;simp only [seval, zmv];refine zlj ?_;refine ⟨fun h => ?_, fun h => ?_⟩
 ·have hil : i < x.keys.length := by omega
  have hw1 : IntKind.i64.wrap ((i : Int) + 1) = i + 1 := zau _ (by omega);have hbl : ((zmN i).map iv).length = i := by rw [List.length_map, zca]
  refine zlu ?_;refine zl5 ?_;simp only [seval, z1, zhq, hbl]
  first | refine ⟨by omega, by omega, ?_⟩ | refine ⟨by omega, ?_⟩
  refine zl5 ?_;simp only [seval, hw1];refine hR _ ⟨hil, trivial, ?_⟩;rw [zhR];exact zl7
 ·have hix : i = x.keys.length := by omega
  subst hix;clear hR;refine zl4 ?_;refine zhC ?_;refine zlA ?_;refine endA (b := aInts (zmN x.keys.length)) hH ?_ (by rw [zbi]; trivial) hk;have : aInts (zmN x.keys.length) = .sl x.keys.length ((zmN x.keys.length).map iv) .shut := by rw [aInts, zca]
  rw [this];exact zaK _ _ _
theorem f41_c {x : Ring} (hs : x.Small) (hk : k (.tup [aInts (zon x), iv (zmX x true)]) H) : FnC lv Tryz.prog 41 H [x.av] k kp := by
 refine zlV (rs := [.tmp 2, .tmp 3]) (nt := 70) Tryz.f41 fun hH hA => ?_;simp only [zma, Nat.reduceAdd, Ring.av, Ring.l];refine zhC ?_;refine zhC ?_;refine zl6 ((f103_c (x := x) (b := true) hs ?_));(try simp only [seval]);refine zhC ?_;refine zlj ?_;refine ⟨fun h => ?_, fun h => ?_⟩
 ·have e1 : zon x = [] := by unfold zon; rw [if_neg h]
  rw [e1] at hk;refine zhC ?_;refine zlA ?_;exact endA (b := .tup [aInts [], iv (zmX x true)]) hH (zdC (zaK _ _ _) (Wk.refl _)) (by simp [zaD, zap, iv, zbi]) hk
 ·have h : zmX x true = 0 := by simpa using h
  obtain ⟨hx, _, _⟩ := zng h;have eT : zoS x true = zmq x := by unfold zoS; rw [if_pos h]
  have e1 : zon x = (alS (alkS x) x.locks.length).1 := by unfold zon; rw [if_pos h]
  rw [e1, h] at hk;have hx4 := hx.keys;have hx5 := hx.locks;have htl : (zmq x).length <= 256 := zlJ hx;have htr := zhQ hx;have hS : ∀ a b, alkS x a b = (zmq x).all fun t => !zmI x t (zmN x.keys.length) b a := fun _ _ => rfl;have hnx := zsY (S := alkS x) (zsW x) (zvd x);refine zlu ?_;(try simp only [seval, eT, znn]);generalize zmq x = D at htl htr hS ⊢;generalize alkS x = S at hS hnx hk ⊢;refine zhC ?_
  (repeat apply zaa); refine zbV (t := 6) (sz := 1) (el := 3) (by simp only [seval] <;> rfl) ?_
  (try simp only [seval]);refine zhC ?_;refine zhC ?_;refine zlF ?_;refine zaB x.locks.length (fun i : Nat => [(6, .sl i ((alS S i).1.map iv) (.opn (H.length + 1))), (7, iv ((alS S i).2 : Nat)), (8, iv i)]) (fun i => H ++ [.cells [iv x.cuts, zmv x.keys, zml x.locks, zmm x.tries] 26, .tail i 1 3]) (fun _ => True) (fun _ _ => rfl) (by simp only [seval]; simp [zaf, Wk.refl]; exact ⟨Wk.refl _, Wk.refl _⟩) rfl (fun _ _ _ => by simp) trivial (fun hHs hLt i hin hi R hR => ?_);clear hHs hLt;refine zl5 ?_;simp only [seval, zml];refine zlj ?_;refine ⟨fun h2 => ?_, fun h2 => ?_⟩
  ·have hil : i < x.locks.length := (by omega);have hw1 : IntKind.i64.wrap ((i : Int) + 1) = i + 1 := zau _ (by omega);have hw2 : IntKind.i64.wrap ((i : Int) - 1) = i - 1 := zau _ (by omega);have hal := zn2 S i;have hle := ztx S i;have hown := zrT S i;have hsn := zsX S i;obtain ⟨hv0, hv1, hv2⟩ := hnx i;have hmap : ((alS S i).1.map iv).length = i := (by rw [List.length_map, hal]);refine zlu ?_;refine zhC ?_;refine zl5 ?_;simp only [seval, hw2];refine zlF ?_;refine zaB i (fun j : Nat => [(9, iv (ownD S (alS S i).1 (alS S i).2 i j)), (10, iv ((i : Int) - 1 - j))]) (fun _ => _) (fun _ => True) (fun _ _ => rfl) (by simp only [seval]; simp [zaf, Wk.refl]; exact Wk.refl _) rfl (fun _ _ _ => rfl) trivial (fun hHs hLt j hjn hj R2 hR2 => ?_);clear hHs hLt;refine zhC ?_;refine zlj ?_;refine ⟨fun h3 => ?_, fun h3 => ?_⟩
   ·have hjl : j < i := (by omega);obtain ⟨kk, hkk⟩ : ∃ kk : Nat, kk = i - 1 - j := ⟨_, rfl⟩;have hki : kk < i := (by omega);have hkc : (i : Int) - 1 - j = kk := (by omega);have hw3 : IntKind.i64.wrap ((kk : Int) - 1) = (i : Int) - 1 - (j + 1) := (by rw [zau _ (by omega)]; omega);have hsd : ownD S (alS S i).1 (alS S i).2 i (j + 1) = if S kk i then valS S kk else ownD S (alS S i).1 (alS S i).2 i j := (by rw [ownD, <- hkk, zoK S hki]);have hat := alS_at S hki;simp only [hkc] at hR2;rw [hkc];refine zlu ?_;refine zhC ?_;refine zhC ?_;refine zlF ?_;refine zmh D.length (fun q : Nat => [(11, bv ((D.take q).all fun t => !zmI x t (zmN x.keys.length) i kk)), (12, iv q)]) (fun _ => _) (fun j => True) trivial (fun hHs hLt q hqn hq R3 hR3 => ?_);clear hHs hLt;refine zhC ?_;refine zlj ?_;refine ⟨fun h4 => ?_, fun h4 => ?_⟩
    ·have hql : q < D.length := (by omega);obtain ⟨t, ht⟩ := zaE hql;obtain ⟨htn, htb⟩ := htr t (zas ht);have hw4 : IntKind.i64.wrap ((q : Int) + 1) = q + 1 := zau _ (by omega);rw [zlD _ ht] at hR3;refine zlu ?_;refine zlF ?_;cases hb : ((D.take q).all fun t => !zmI x t (zmN x.keys.length) i kk) with
     | false =>
      refine zmc 14 ?_;simp only [seval, hb, zlB ht, zaz hql];rw [hb] at hR3;refine zl5 ?_;simp only [seval, hw4];refine hR3 _ ⟨hql, trivial, ?_⟩;simp only [Bool.false_and];exact zl7
     | true =>
      rw [hb] at hR3;refine zmc 14 ?_;simp only [seval, hb, zlB ht, zaz hql];refine znh _ (zmg (f119_c (x := x) hx ⟨rfl, rfl⟩)) ?_;refine znh _ (zmg (f118_c (x := x) (t := t) (keys := zmN x.keys.length) (p := i) (q := kk) hx (by omega) htb (by rw [zca]; omega) (fun k hk => zpP.1 hk) hil (by omega) ⟨rfl, rfl⟩)) ?_;(try simp only [seval]);refine zl5 ?_;simp only [seval, hw4];refine hR3 _ ⟨hql, trivial, ?_⟩;simp only [Bool.true_and];exact zl7
    ·have hqx : q = D.length := (by omega);subst hqx;clear hR3;rw [List.take_length, <- hS kk i];refine zl4 ?_;refine zhC ?_;refine zlj ?_;refine ⟨fun h5 => ?_, fun h5 => ?_⟩
     ·have h5 : S kk i = true := (by simpa using h5);rw [h5, if_pos rfl] at hsd;refine zl5 ?_;simp only [seval, za2 hat, zaz hki];refine zl5 ?_;simp only [seval, hw3];refine hR2 _ ⟨hjl, trivial, ?_⟩;rw [hsd];exact zl7
     ·have h5 : S kk i = false := (by simpa using h5);rw [h5, if_neg (by simp)] at hsd;refine zlu ?_;refine zl5 ?_;simp only [seval, hw3];refine hR2 _ ⟨hjl, trivial, ?_⟩;rw [hsd];exact zl7
   ·have hjx : j = i := (by omega);subst hjx;clear hR2;rw [hown];refine zl4 ?_;refine zhC ?_;refine zlj ?_;refine ⟨fun h4 => ?_, fun h4 => ?_⟩
    ·have h4 : valS S j = (alS S j).2 := (by simpa using h4);rw [if_pos h4] at hv2;have hw5 : IntKind.i64.wrap (((alS S j).2 : Int) + 1) = (alS S j).2 + 1 := zau _ (by omega);refine zl5 ?_;simp only [seval, hw5];refine zl5 ?_;simp only [seval, z1, zhq, hmap]
     first | refine ⟨by omega, by omega, ?_⟩ | refine ⟨by omega, ?_⟩
     refine zl5 ?_;simp only [seval, hw1];refine hR _ ⟨hil, trivial, ?_⟩;rw [hsn, hv2, List.map_append];exact zl7
    ·have h4 : ¬ valS S j = (alS S j).2 := (by simpa using h4);rw [if_neg h4] at hv2;refine zlu ?_;refine zl5 ?_;simp only [seval, z1, zhq, hmap]
     first | refine ⟨by omega, by omega, ?_⟩ | refine ⟨by omega, ?_⟩
     refine zl5 ?_;simp only [seval, hw1];refine hR _ ⟨hil, trivial, ?_⟩;rw [hsn, hv2, List.map_append];exact zl7
  ·have hix : i = x.locks.length := (by omega);subst hix;clear hR;refine zl4 ?_;refine zhC ?_;refine zlA ?_;refine endA (b := .tup [aInts (alS S x.locks.length).1, iv 0]) hH (zdC ?_ (Wk.refl _)) (by simp [zaD, zap, iv, zbi]) hk;have : aInts (alS S x.locks.length).1 = .sl x.locks.length ((alS S x.locks.length).1.map iv) .shut := (by rw [aInts, zn2]);rw [this];exact zaK _ _ _
end
section
variable {lv : Bool} {P : Program} {r : Option Nat} {nt : Nat} {ops : Array Oper} {T0 : List (Nat × AV)} {Hf : List Nat -> List AObj} {es ord : List Nat}
theorem zqV {p : Nat} {f : Nat -> AV} (hok : DrawB nt ops ord) (hp : DrawOk nt p ops) (hop : ∀ i, i < p -> ∀ o, ops[i]? = some o -> ∀ X', DClosed ops X' -> i ∉ X' -> (∀ j ∈ zmd o, j ∈ X') -> OB lv P r ops Hf T0 es f i o X') {X l : List Nat} (hs : Sched ops X l) :
  (∀ i ∈ X, i < p) -> DClosed ops X -> ∀ (E : Env) (V : View) (a : Act) (Q : Ex -> Act -> View -> Prop), At E V ⟨TX ops T0 f X, Hf (done es X)⟩ a nt ->
   (∀ E' V' a' X', Kept E E' V V' a a' -> At E' V' ⟨TX ops T0 f X', Hf (done es X')⟩ a' nt -> (∀ i, i ∈ X' <-> i < p) -> zmJ lv P r ops Q (List.range' p (ops.size - p)) a' V') -> zmJ lv P r ops Q l a V := by
 induction hs with
 | nil X h =>
  intro hX hc E V a Q hat hQ;have hpe : p = ops.size := by
   apply Classical.byContradiction;intro hne;have := hX p (h p (by have := hp.le; omega));omega
  have := hQ E V a X (Kept.refl E V a) hat fun i => ⟨hX i, fun hi => h i (by omega)⟩;rw [hpe, Nat.sub_self] at this;exact this
 | cons o ho hn hd hrest ih =>
  rename_i X i l;intro hX hc E V a Q hat hQ;have hi : i < ops.size := (Array.getElem?_eq_some_iff.1 ho).1;by_cases hip : i < p
  ·simp only [zmJ, ho];have hX' : ∀ k ∈ i :: X, k < p := fun k hk => (List.mem_cons.1 hk).elim (fun e => by rw [e]; exact hip) (hX k);have hc' := hc.cons ho hd;have hw : Region.wanted o (yielded ops a.tmps) = true := (by unfold Region.wanted; rw [hok.grd i o ho]);rw [if_pos hw];refine .inl ?_;have hdst : ∀ d, o.dst = some d -> d < a.tmps.size := fun d e => (by rw [hat.size]; exact hok.dst i o d ho e);have hob := hop i hip o ho X hc hn hd;unfold OB at hob;by_cases hie : i ∈ es
   ·rw [if_pos hie] at hob;have hst := hob.step (r := r) (bad := fun _ _ => False);refine hst E V a _ Q hat.conc hat.tok hdst (.inr (hok.dfr i o ho)) (fun E' V' a' s' hk hc2 ht e => ?_) fun _ _ _ _ _ _ _ _ _ h => h.elim;subst e;rw [ziw ho rfl] at ht hc2;exact ih hX' hc' E' V' a' Q ⟨hc2, ht, hk.size.trans hat.size⟩ fun E'' V'' a'' X'' hk' hat'' hall => hQ E'' V'' a'' X'' (hk.trans hk') hat'' hall
   ·rw [if_neg hie] at hob;obtain ⟨T, hT, hq⟩ := hob;refine hq E V a _ Q hat.conc (fun t av e => hat.tok t av (hT t av e)) (.inr (hok.dfr i o ho)) fun E' V' v hle hro hde hc2 hv => ?_;have ht : TOk E' ((⟨TX ops T0 f X, Hf (done es X)⟩ : AS).put o.dst (f i)).T (a.put o.dst v).tmps := TOk.putd (s := ⟨TX ops T0 f X, Hf (done es X)⟩) (hat.tok.mono hle) hdst hv;rw [ziw ho rfl] at ht;refine ih hX' hc' E' V' (a.put o.dst v) Q ⟨by rw [zgM hie]; exact hc2, ht, (zaA _ _ _).trans hat.size⟩ fun E'' V'' a'' X'' hk hat'' hall =>
     hQ E'' V'' a'' X'' ⟨hle.trans hk.le, hk.size.trans (zaA _ _ _), hk.defers.trans (zaw _ _ _), hk.role.trans hro, hk.deaf.trans hde⟩ hat'' hall
  ·have hall : ∀ k, k < p -> k ∈ X := fun k hk => zcI hc (hp.suf i k (by omega) hi (by omega)) (fun o' ho' j hj => by rw [ho] at ho'; cases ho'; exact hd j hj);have hl := ziO hp (.cons o ho hn hd hrest) p (Nat.le_refl _) hp.le (fun i => ⟨hX i, hall i⟩) hc;rw [hl];exact hQ E V a X (Kept.refl E V a) hat fun i => ⟨hX i, hall i⟩
theorem zq1 {s : AS} {id : Nat} {Φ : AEx -> AS -> Prop} (p : Nat) (es ord : List Nat) (pl : List PEntry) (Hf : List Nat -> List AObj) (hm : P.follows .mixedOrders = true) (hok : drawBOk nt ops es ord = true) (hp : drawOk nt p ops = true) (htop : zo2 ops [] (List.range p) = true) (hpl : znP (znJ ops ord []) es [] (List.range p) = pl) (h0 : s.H = Hf [])
  (h : BOps lv P Hf ops pl s (fun s' => AOps lv P ops (ops.toList.drop p) s' (Φ .normal) (fun pv s => Φ (.panic pv) s)) ⟨0⟩) : AWP lv P r nt (.region id ops true) s Φ := by
 intro E V a Q hat hQ;have hok := drawBOk.out hok;have hp := drawOk.out hp;have hs0 : s = ⟨TX ops s.T (fun _ => .val undef) [], Hf (done es [])⟩ := by
  have : done es [] = [] := by simp [done]
  rw [this, <- h0]; rfl
 subst hpl;have h' : BOps lv P Hf ops (znP (znJ ops ord []) es [] (List.range p)) ⟨TX ops s.T (fun _ => .val undef) [], Hf (done es [])⟩ (fun s' => AOps lv P ops (ops.toList.drop p) s' (Φ .normal) (fun pv s => Φ (.panic pv) s)) ⟨0⟩ := by rw [<- hs0]; exact h
 obtain ⟨f, _, q2, q3⟩ := zfU (r := r) hok (List.range p) [] _ htop (fun i hi => by cases hi) h';refine zg3 fun t => ?_;rw [show Region.schedule (P.follows .mixedOrders) ops t = Region.linearise.go .any ops ops.size t (Array.replicate ops.size false) [] by unfold Region.schedule; rw [hm]; simp [Region.linearise]];have hs := zeA (ops := ops) (fun i o ho j hj => hp.low i o ho j hj) ops.size t (Array.replicate ops.size false) [] ⟨by simp, fun i hi => by simp [hi]⟩ (Nat.le_trans List.countP_le_length (by simp));have hat0 : At E V ⟨TX ops s.T f [], Hf (done es [])⟩ a nt := by
  have e : (⟨TX ops s.T f [], Hf (done es [])⟩ : AS) = s := hs0.symm;rw [e]; exact hat
 refine zqV (Hf := Hf) (es := es) hok hp (fun i hi => q2 i (List.mem_range.2 hi)) hs (by simp) (fun i hi => by cases hi) E V a Q hat0 fun E' V' a' X' hk hat' hall => ?_;have hmem : ∀ i, i ∈ X' <-> i ∈ (List.range p).reverse ++ [] := fun i => by simp [hall]
 refine zb3 (Φ := Φ) (fun o ho d e => ?_) (fun o ho => .inr ?_) (ops.size - p) p _ (by have := hp.le; omega) q3 E' V' a' Q ⟨?_, fun t x e => ?_, hat'.size⟩ (fun ae e E'' V'' a'' s3 hk' hat3 he hΦ => hQ ae e E'' V'' a'' s3 (hk.trans hk') hat3 he hΦ)
 ·obtain ⟨i, hi⟩ := Array.mem_iff_getElem?.1 ho; exact hp.dst i o d hi e
 ·obtain ⟨i, hi⟩ := Array.mem_iff_getElem?.1 ho; exact hp.dfr i o hi
 ·rw [<- zkR hmem]; exact hat'.conc
 ·rw [<- zq5 hok hmem] at e; exact hat'.tok t x e
end
section
variable {H : List AObj} {k kp : AV -> List AObj -> Prop}
set_option maxRecDepth 4000 in
set_option maxHeartbeats 1000000 in
theorem f4_c {x0 : Ring} {t0 : Try} {l0 : List Band} {nums : List Int} (hmain : H[0]? = some .main) (hn : nums.length <= 2 ^ 50) (hk : k (bv true) H) : FnC true Tryz.prog 4 H [x0.av, t0.av, aBands l0, aInts nums] k kp := by
 have hmn : ∀ L : List AObj, (H ++ L)[0]? = some .main := fun L => zay hmain;refine zlV (rs := [.tmp 8]) (nt := 129) Tryz.f4 fun hH hA => ?_;simp only [zma, Nat.reduceAdd, Ring.av, Ring.l, Try.av, Try.l];have d1 : decide ((l0.length : Int) > 20) = decide (20 < l0.length) := by rw [decide_eq_decide]; omega
 refine zl5 ?_;simp only [seval, Ring.l, Try.l];cases hb1 : zpj x0 with
 | true =>
  refine zhC ?_;refine zl6 ((f24_c (x := x0) ?_));(try simp only [seval, hb1]);refine zlj ?_;refine zhC ?_;refine zl6 ((f25_c (hmn _) ?_));(try simp only [seval]);refine zlA ?_;exact endV hH hk
 | false =>
  cases hb2 : decide (20 < l0.length) with
  | true =>
   refine zhC ?_;refine zl6 ((f24_c (x := x0) ?_));(try simp only [seval, hb1, aBands, d1, hb2]);refine zlj ?_;refine zhC ?_;refine zl6 ((f25_c (hmn _) ?_));(try simp only [seval]);refine zlA ?_;exact endV hH hk
  | false =>
   obtain ⟨hs0, _⟩ := zqb hb1;have hl0 : ¬ 20 < l0.length := (by simpa using hb2);refine zhC ?_;refine zl6 ((f24_c (x := x0) ?_));(try simp only [seval, hb1, aBands, d1, hb2]);refine zlj ?_;refine zlu ?_;refine zaa ?_;refine zq1 5 [4] [0, 1, 2, 3, 4, 5, 6] [⟨0, false, [], [([4], [4])]⟩, ⟨1, false, [], [([4], [4])]⟩, ⟨2, false, [], [([4], [4])]⟩, ⟨3, false, [], []⟩, ⟨4, true, [4], []⟩] (fun D => bif zmz 4 D then H ++ [.cells [iv x0.cuts, zmv x0.keys, zml x0.locks, zmm x0.tries] 26, .cells [iv t0.key, iv t0.lock, bv t0.opens] 28, tinO ⟨nums, 0, 7640891576956012809⟩] else H ++ [.cells [iv x0.cuts, zmv x0.keys, zml x0.locks, zmm x0.tries] 26, .cells [iv t0.key, iv t0.lock, bv t0.opens] 28]) F.mixed (by kernel_rfl) (by kernel_rfl) (by kernel_rfl) (by kernel_rfl) (by first | rfl | simp only [seval]) ?_;(try simp only [seval]);refine zpd _ _ (zmg (f26_c ⟨rfl, rfl⟩)) ?_;(try simp only [seval, List.append_assoc]);generalize hc1 : AObj.cells [AV.val (Value.int IntKind.i64 x0.cuts), zmv x0.keys, zml x0.locks, zmm x0.tries] 26 = c1;generalize hc2 : AObj.cells [AV.val (Value.int IntKind.i64 t0.key), AV.val (Value.int IntKind.i64 t0.lock), AV.val (Value.bool t0.opens)] 28 = c2;have hT : TinAt (fun τ => H ++ [c1, c2, tinO τ]) (H.length + 2) (H.length + 3) := by
    have := zjT (H ++ [c1, c2]);simpa using this
   have hT4 : ∀ o : AObj, TinAt (fun τ => H ++ [c1, c2, tinO τ, o]) (H.length + 2) (H.length + 4) := fun o => by
    have := hT.more [o];simpa using this
   refine zl6 ((f27_c (x := x0) (r := t0) (l := l0) hT (tinOk0 hn _) (by decide) hs0 (by omega) fun y z ws τ hP hz hto => ?_));have hy := hP.ok (by decide) (by decide) (by decide);have hRS : x0.l ++ y.l ++ z.l = ([x0, y, z] : List Ring).flatMap Ring.l := (by simp);have hRn : ([x0, y, z] : List Ring).length = 3 := rfl;have hRs : ∀ r ∈ ([x0, y, z] : List Ring), r.Small := fun r hr => by
    simp only [List.mem_cons, List.not_mem_nil, or_false] at hr;rcases hr with rfl | rfl | rfl
    ·exact hs0
    ·exact hy.small
    ·exact hz
   rw [hRS];generalize ([x0, y, z] : List Ring) = RS at hRn hRs ⊢;clear hRS hP hz hy;have hto := hto.mono (b' := 2000) (by decide);(try simp only [seval]);have w1 : ∀ i : Nat, i <= 1000 -> IntKind.i64.wrap ((i : Int) + 1) = i + 1 := fun i _ => zau _ (by omega);generalize hc3 : tinO τ = c3;refine zhC ?_;refine zlF ?_;refine zmh 3 (fun i : Nat => [(10, iv i)]) (fun _ => _) (fun _ => True) trivial (fun hHs hLt i hin hi R hR => ?_);clear hLt;refine zhC ?_;refine zlj ?_;refine ⟨fun h => ?_, fun h => ?_⟩
   ·have hil : i < RS.length := (by omega);obtain ⟨x, hx⟩ := zaE hil;have hxs := hRs x (zas hx);have hb3 : (0 <= (i : Int) /\ (i : Int) < 3) = True := (by simp; omega);refine zlu ?_;refine zl5 ?_;simp only [seval, zoA hx, hb3];refine zl6 ((f28_c (x := x) hxs ?_));(try simp only [seval, Ring.av, Ring.l]);refine zhC ?_;refine zl6 ((f38_d (x := x) (hmn _) hxs ?_));(try simp only [seval]);refine zl5 ?_;simp only [seval, zoA hx, hb3];refine zl6 ((f39_c (x := x) hxs ?_));(try simp only [seval]);refine zhC ?_;refine zl6 ((f40_d (x := x) (hmn _) hxs ?_));(try simp only [seval]);refine zl5 ?_;simp only [seval, zoA hx, hb3];refine zl6 ((f41_c (x := x) hxs ?_));(try simp only [seval]);refine zhC ?_;refine zl6 ((f42_d (x := x) (hmn _) hxs ?_));(try simp only [seval]);refine zl5 ?_;simp only [seval, zoA hx, hb3];refine zl6 ((f43_c (x := x) hxs ?_));(try simp only [seval]);refine zmc 37 ?_;simp only [seval, bne_self_eq_false, aInts];refine znh _ (zmg (f34_same (xs := fewG x false) (zqp x false) ⟨rfl, rfl⟩)) ?_;(try simp only [seval, bne_self_eq_false, aInts]);refine znh _ (zmg (f34_same (xs := zon x) (zqC x) ⟨rfl, rfl⟩)) ?_;(try simp only [seval, bne_self_eq_false, aInts]);refine znh _ (zmg (f34_same (xs := fewG x true) (zqp x true) ⟨rfl, rfl⟩)) ?_;(try simp only [seval, zoA hx, hb3]);refine zl6 ((f37_same (x := x) hxs ?_));(try simp only [seval]);refine zlj ?_;refine zlu ?_;refine zl5 ?_;simp only [seval, w1 i (by omega)];refine hR _ ⟨by omega, trivial, ?_⟩;exact zat (L := [c1, c2, c3]) (zam rfl rfl) (by simp only [seval]; simp [zaf, Wk.refl]) hHs (by simp [zap])
   ·clear hR;refine zl4 ?_;refine zhC ?_;refine zl6 ((f25_c (hmn _) ?_));(try simp only [seval]);refine zlA ?_;exact endV hH hk
end
end Go.Gg
