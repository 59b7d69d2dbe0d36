/- A part of the proof. -/
import Derived.Test.YtoaaoiipickclaaGreatKeyKnown3
set_option linter.all false
set_option maxRecDepth 4000
namespace Go.Gg
open Go.Conc Go.Proofs
def openingE (x : Ring) (fl : Option Int) : Int := if openE x fl ≠ 0 then openE x fl else if truthsM x [] = [] then 11 else 0
theorem zaP {x : Ring} {fl : Option Int} : openingE x fl = 0 ↔ openE x fl = 0 ∧ truthsM x [] ≠ [] := by
 unfold openingE;split
 ·simp_all
 ·split <;> simp_all
theorem zbp {x : Ring} {fl : Option Int} (h : openE x fl = 0) : x.Ok := zbH.1 (zaN.1 h).1
def verdictM (n all : Nat) : Int := if n = 0 then 2 else if n = all then 1 else 3
theorem zbl {x : Ring} (hx : x.Ok) (but : List Int) : (truthsM x but).length ≤ 81 := by
 have h1 := (zbk x but x.tries.length).length_le;have h2 := zdU hx;have h3 : (wears0 x).zipIdx.length = (wears0 x).length := by simp
 show (truthsTo x but x.tries.length).length ≤ 81;omega
def wornFl (x : Ring) (n w : Int) : Option Int := if inM n 0 (x.keys.length - 1) then (if inM w 0 2 then none else some 4) else some 0
def opensFl (x : Ring) (n w : Int) : Option Int := if inM n 0 (x.keys.length - 1) then (if inM w 0 (x.locks.length - 1) then none else some 1) else some 0
theorem hok_put {H H' L : List AObj} (h1 : HOk H') (hl : H'.length = H.length) (h : HOk (H ++ L)) : HOk (H' ++ L) := fun z hz => by
 have e : (H' ++ L).length = (H ++ L).length := by simp [hl]
 rw [e];rcases List.mem_append.1 hz with h' | h'
 ·exact (h1 z h').mono (by simp [hl])
 ·exact h z (List.mem_append_right _ h')
theorem aLen_mp (P : Program) (T : List (Nat × AV)) (H : List AObj) {t : TypeId} (id : Nat) (k : AV → Prop) (h : LenOf P t = some .map) : ALen P ⟨T, H⟩ t (.mp id) k = (match H[id]? with
  | some (.obj (.map es _)) => k (.val (.int .i64 es.size))
  | _ => False) := by unfold ALen; rw [h]; rfl
attribute [push_cast] aLen_mp
theorem zbm (x : Ring) (but : List Int) : ∀ y ∈ truthsM x but, y.2 < (wears0 x).length := fun y hy => zhU _ y ((zbk x but _).subset hy)
theorem zba (x : Ring) (but : List Int) : ((truthsM x but).map (·.2)).Nodup := List.Sublist.nodup ((zbk x but _).map _) (ze2 _)
theorem zbt {x : Ring} (hx : x.Ok) (but : List Int) : ∀ y ∈ truthsM x but, y.1.length = 4 ∧ ∀ w ∈ y.1, 0 ≤ w ∧ w ≤ 2 := fun y hy => ⟨zdD hx _ (zdA ((zbk x but _).subset hy)), zf4 hx _ (zdA ((zbk x but _).subset hy))⟩
theorem zbU {a lo hi : Int} : inM a lo hi = true ↔ lo ≤ a ∧ a ≤ hi := by simp [inM]
theorem zg4 {x : Ring} {n w : Int} : wornFl x n w = none ↔ (0 ≤ n ∧ n ≤ x.keys.length - 1) ∧ 0 ≤ w ∧ w ≤ 2 := by
 unfold wornFl;rw [← zbU, ← zbU];cases inM n 0 (x.keys.length - 1) <;> cases inM w 0 2 <;> simp
theorem zgu {x : Ring} {n w : Int} : opensFl x n w = none ↔ (0 ≤ n ∧ n ≤ x.keys.length - 1) ∧ 0 ≤ w ∧ w ≤ x.locks.length - 1 := by
 unfold opensFl;rw [← zbU, ← zbU];cases inM n 0 (x.keys.length - 1) <;> cases inM w 0 (x.locks.length - 1) <;> simp
section
variable {lv : Bool} {H : List AObj} {k kp : AV → List AObj → Prop}
theorem f99_t {H' : List AObj} {x : Ring} {ask : AV} {fl : Option Int} (hnr : NewRingC lv) (hmain : H'[0]? = some .main) (hl : H'.length = H.length) (hok : HOk H → HOk H') (hs : x.Small) (hask : AskT lv H H' ask fl) (h0 : checkM x ≠ 0 → k (.tup [.val (.pointer none), .val (.map none), iv (openingE x fl)]) H) (h1 : checkM x = 0 → openingE x fl ≠ 0 → k (.tup [.val (.pointer none), .val (.map none), iv (openingE x fl)]) H') (h2 : openingE x fl = 0 → k (.tup [.rp (x.l ++ opensL x), .mp (H.length + 1), iv 0]) (H' ++ [.cells x.l 26, setObj (truthsM x []) (wears0 x).length])) : FnC lv Tryz.prog 99 H [x.av, ask] k kp := by
 have hlL : ∀ L : List AObj, (H' ++ L).length = (H ++ L).length := fun L => by simp [hl]
 have hmn : ∀ L : List AObj, (H' ++ L)[0]? = some .main := fun L => by rw [List.getElem?_append_left (List.getElem?_eq_some_iff.1 hmain).1]; exact hmain
 refine zak (rs := [.tmp 4, .tmp 5, .tmp 6]) (nt := 26) F.f99 rfl rfl rfl (by simp) fun hH hA => ?_;simp only [argsT, Nat.reduceAdd, Ring.av];(repeat apply zaa);refine zl5 ?_;simp only [push_cast, seval, Ring.l];(repeat apply zaa);refine zl5 ?_;simp only [push_cast, seval];refine zl6 ((f87_t hnr (hmn _) (hlL _) (hok_put (hok hH) hl) hs (fun _ => hask.ext _) (fun hc => ?_) (fun hc hz => ?_) (fun hz => ?_)))
 ·(try simp only [push_cast, seval]);(repeat apply zaa);refine zl5 ?_;simp only [push_cast, seval];have hz : openE x fl ≠ 0 := fun e => hc (zaN.1 e).1;have he : openingE x fl = openE x fl := by unfold openingE; rw [if_pos hz]
  (repeat apply zaa);refine zae ?_;simp only [push_cast, seval];refine ⟨fun h => ?_, fun h => absurd (by simpa using h) hz⟩;(repeat apply zaa);refine zl5 ?_;simp only [push_cast, seval];(repeat apply zaa);refine zai ?_;simp only [push_cast, seval];exact endA hH (Wk.refl _) (by simp [zap, zaD]) (he ▸ h0 hc)
 ·(try simp only [push_cast, seval]);(repeat apply zaa);refine zl5 ?_;simp only [push_cast, seval];have he : openingE x fl = openE x fl := by unfold openingE; rw [if_pos hz]
  (repeat apply zaa);refine zae ?_;simp only [push_cast, seval];refine ⟨fun h => ?_, fun h => absurd (by simpa using h) hz⟩;(repeat apply zaa);refine zl5 ?_;simp only [push_cast, seval];(repeat apply zaa);refine zai ?_;simp only [push_cast, seval];have h1 := h1 hc (he ▸ hz);rw [he] at h1;rw [← hl];exact endA (hok hH) (Wk.refl _) (by simp [zap, zaD]) h1
 ·rw [← hl] at h2 ⊢;(try simp only [push_cast, seval]);(repeat apply zaa);refine zl5 ?_;simp only [push_cast, seval];have hx := zbp hz;have hlen : (truthsM x []).length ≤ 81 := zbl hx [];(repeat apply zaa);refine zae ?_;simp only [push_cast, seval];(repeat apply zaa);refine zah ?_;simp only [push_cast, seval];(repeat apply zaa);refine zl5 ?_;simp only [push_cast, seval];refine zl6 ((f129_c (but := []) (e := .exact) hx (by decide) ?_));(try simp only [push_cast, seval]);(repeat apply zaa);refine zl5 ?_;simp only [push_cast, seval, zaL];(repeat apply zaa);refine zae ?_;simp only [push_cast, seval];refine ⟨fun h => ?_, fun h => ?_⟩
  ·
   (repeat apply zaa);refine zl5 ?_;simp only [push_cast, seval];(repeat apply zaa);refine zai ?_;simp only [push_cast, seval];have he : truthsM x [] = [] := (by simpa using h);have ho : openingE x fl = 11 := (by unfold openingE; rw [if_neg (by simpa using hz), if_pos he]);refine zaJ (H' := H') (Wk.refl _) rfl (Nat.le_refl _) (hok hH) (by simp [zap, zaD]) (ho ▸ h1 (zaN.1 hz).1 (by rw [ho]; decide))
  ·
   (repeat apply zaa);refine zah ?_;simp only [push_cast, seval];(repeat apply zaa);refine zl5 ?_;simp only [push_cast, seval];(repeat apply zaa);refine zai ?_;simp only [push_cast, seval];have he : truthsM x [] ≠ [] := (by simpa using h);refine zao ?_;exact h2 (zaP.2 ⟨hz, he⟩)
theorem f99_c {x : Ring} {ask : AV} {fl : Option Int} (hnr : NewRingC lv) (hmain : H[0]? = some .main) (hs : x.Small) (hask : AskC lv H ask fl) (h1 : openingE x fl ≠ 0 → k (.tup [.val (.pointer none), .val (.map none), iv (openingE x fl)]) H) (h2 : openingE x fl = 0 → k (.tup [.rp (x.l ++ opensL x), .mp (H.length + 1), iv 0]) (H ++ [.cells x.l 26, setObj (truthsM x []) (wears0 x).length])) : FnC lv Tryz.prog 99 H [x.av, ask] k kp :=
 f99_t hnr hmain rfl id hs hask (fun hc => h1 fun e => hc (zaN.1 (zaP.1 e).1).1) (fun _ => h1) h2
theorem f101_c {n all : Nat} (hk : k (iv (verdictM n all)) H) : FnC lv Tryz.prog 101 H [iv n, iv all] k kp := by
 refine zak (rs := [.tmp 4]) (nt := 11) F.f101 rfl rfl rfl (by simp) fun hH hA => ?_;simp only [argsT, Nat.reduceAdd];(repeat apply zaa);refine zl5 ?_;simp only [push_cast, seval];(repeat apply zaa);refine zl5 ?_;simp only [push_cast, seval];(repeat apply zaa);refine zag ?_;(repeat apply zaa);refine zl5 ?_;simp only [push_cast, seval];(repeat apply zaa);refine zae ?_;simp only [push_cast, seval];refine ⟨fun h => ?_, fun h => ?_⟩
 ·(repeat apply zaa);refine zl5 ?_;simp only [push_cast, seval];(repeat apply zaa);refine zai ?_;simp only [push_cast, seval];have h : n = 0 := by simpa using h
  rw [verdictM, if_pos h] at hk;exact zao hk
 ·have h : n ≠ 0 := by simpa using h
  (repeat apply zaa);refine zl5 ?_;simp only [push_cast, seval];(repeat apply zaa);refine zae ?_;simp only [push_cast, seval];refine ⟨fun h2 => ?_, fun h2 => ?_⟩
  ·(repeat apply zaa);refine zl5 ?_;simp only [push_cast, seval];(repeat apply zaa);refine zai ?_;simp only [push_cast, seval];have h2 : n = all := Int.ofNat_inj.1 (by simpa using h2);rw [verdictM, if_neg h, if_pos h2] at hk;exact zao hk
  ·have h2 : n ≠ all := fun e => (by subst e; simp at h2);(repeat apply zaa);refine zah ?_;simp only [push_cast, seval];(repeat apply zaa);refine zl5 ?_;simp only [push_cast, seval];(repeat apply zaa);refine zai ?_;simp only [push_cast, seval];rw [verdictM, if_neg h, if_neg h2] at hk;exact zao hk
theorem f88_c {r i j : Nat} {x : Ring} {n w : Int} (hx : x.Small) (hr : H[r]? = some (.cells x.l 26)) (hi : H[i]? = some (.cells [iv n] 3)) (hj : H[j]? = some (.cells [iv w] 3)) (hk : wornFl x n w = none → k (.tup []) H) (hp : ∀ f, wornFl x n w = some f → kp (.ifc 106 (iv f)) H) : FnC lv Tryz.prog 88 H [.op r 0, .op i 0, .op j 0] k kp := by
 refine zak (rs := []) (nt := 10) F.f88 rfl rfl rfl (by simp) fun hH hA => ?_;simp only [argsT, Nat.reduceAdd];have hr2 := hr;rw [Ring.l] at hr2;(repeat apply zaa);refine zl5 ?_;simp only [push_cast, seval, hr2, hi];refine zl6 ((f89_c (x := x) ?_));(try simp only [push_cast, seval]);refine zl6 ((f152_c hx (by simp only [push_cast, seval] <;> rfl) (by simp only [push_cast, seval] <;> rfl) (fun hin => ?_) (fun hin => ?_)))
 ·(try simp only [push_cast, seval]);(repeat apply zaa);refine zl5 ?_;simp only [push_cast, seval, zay hj];refine zl6 ((f91_c ?_));(try simp only [push_cast, seval]);refine zl6 ((f90_c (fun h => ?_) (fun h => ?_)))
  ·have h : inM w 0 2 = true := (by simpa [inM] using h);exact zaJ (Wk.refl _) rfl (Nat.le_refl _) hH (by simp [zaD]) (hk (by rw [wornFl, if_pos hin, if_pos h]))
  ·have h : inM w 0 2 = false := (by simpa [inM] using h);exact zaJ (Wk.refl _) rfl (Nat.le_refl _) hH (by simp [zap, zey]) (hp 4 (by rw [wornFl, if_pos hin, h]; rfl))
 ·exact zaJ (Wk.refl _) rfl (Nat.le_refl _) hH (by simp [zap, zey]) (hp 0 (by rw [wornFl, hin]; rfl))
theorem f100_c {r i j : Nat} {x : Ring} {n w : Int} (hx : x.Small) (hr : H[r]? = some (.cells x.l 26)) (hi : H[i]? = some (.cells [iv n] 3)) (hj : H[j]? = some (.cells [iv w] 3)) (hk : opensFl x n w = none → k (.tup []) H) (hp : ∀ f, opensFl x n w = some f → kp (.ifc 106 (iv f)) H) : FnC lv Tryz.prog 100 H [.op r 0, .op i 0, .op j 0] k kp := by
 refine zak (rs := []) (nt := 14) F.f100 rfl rfl rfl (by simp) fun hH hA => ?_;simp only [argsT, Nat.reduceAdd];have hl := hx.locks;have hw : IntKind.i64.wrap ((x.locks.length : Int) - 1) = x.locks.length - 1 := zau _ (by omega);have hr2 := hr;rw [Ring.l] at hr2;(repeat apply zaa);refine zl5 ?_;simp only [push_cast, seval, hr2, hi];refine zl6 ((f89_c (x := x) ?_));(try simp only [push_cast, seval]);refine zl6 ((f152_c hx (by simp only [push_cast, seval] <;> rfl) (by simp only [push_cast, seval] <;> rfl) (fun hin => ?_) (fun hin => ?_)))
 ·(try simp only [push_cast, seval]);(repeat apply zaa);refine zl5 ?_;simp only [push_cast, seval, zay hj, zay hr2, hw, aLocks];refine zl6 ((f91_c ?_));(try simp only [push_cast, seval]);refine zl6 ((f90_c (fun h => ?_) (fun h => ?_)))
  ·have h : inM w 0 (x.locks.length - 1) = true := (by simpa [inM] using h);exact zaJ (Wk.refl _) rfl (Nat.le_refl _) hH (by simp [zaD]) (hk (by rw [opensFl, if_pos hin, if_pos h]))
  ·have h : inM w 0 (x.locks.length - 1) = false := (by simpa [inM] using h);exact zaJ (Wk.refl _) rfl (Nat.le_refl _) hH (by simp [zap, zey]) (hp 1 (by rw [opensFl, if_pos hin, h]; rfl))
 ·exact zaJ (Wk.refl _) rfl (Nat.le_refl _) hH (by simp [zap, zey]) (hp 0 (by rw [opensFl, hin]; rfl))
theorem ask_worn {r i j : Nat} {x : Ring} {n w : Int} (hx : x.Small) (hr : H[r]? = some (.cells x.l 26)) (hi : H[i]? = some (.cells [iv n] 3)) (hj : H[j]? = some (.cells [iv w] 3)) : AskC lv H (.fn (.func 88) [] [.op r 0, .op i 0, .op j 0]) (wornFl x n w) := fun L k kp h1 h2 =>
 zad (by kernel_rfl) (f88_c hx (zay hr) (zay hi) (zay hj) h1 h2)
theorem zlh {r i j : Nat} {x : Ring} {n w : Int} (hx : x.Small) (hr : H[r]? = some (.cells x.l 26)) (hi : H[i]? = some (.cells [iv n] 3)) (hj : H[j]? = some (.cells [iv w] 3)) : AskC lv H (.fn (.func 100) [] [.op r 0, .op i 0, .op j 0]) (opensFl x n w) := fun L k kp h1 h2 =>
 zad (by kernel_rfl) (f100_c hx (zay hr) (zay hi) (zay hj) h1 h2)
def wornOf (x : Ring) (n w : Nat) : List Int := match x.keys[n]? with
 | some y => (wornM w (depthsM y.cuts)).take x.cuts.toNat
 | none => []
theorem f94_o {id off n cap : Nat} {l : List AV} {el : TypeId} {xs : List Int} (hid : H[id]? = some (.cells l el)) (hn : n = xs.length) (hxs : (l.drop off).take n = xs.map iv) (hl : xs.length ≤ 2 ^ 30) (hk : k (aInts xs) H) : FnC lv Tryz.prog 94 H [.osl id off n cap] k kp := by
 refine zak (rs := [.tmp 2]) (nt := 8) F.f94 rfl rfl rfl (by simp) fun hH hA => ?_;simp only [argsT, Nat.reduceAdd];(repeat apply zaa);refine zl5 ?_;simp only [push_cast, seval];(repeat apply zaa);refine zl5 ?_;simp only [push_cast, seval];intro b hb;(repeat apply zaa);refine zae ?_;simp only [push_cast, seval];refine ⟨fun h => ?_, fun h => ?_⟩
 ·
  (repeat apply zaa);refine zl5 ?_;simp only [push_cast, seval];(repeat apply zaa);refine zai ?_;simp only [push_cast, seval];have : xs = [] := by
   cases xs with
   | nil => rfl
   | cons x xs => rw [hb (by simp [hn])] at h; cases h
  subst this;exact zaJ (H' := H) (G := []) (zaK _ _ _) (by simp) (Nat.le_refl _) hH (by simp [aInts, za3]) hk
 ·
  (repeat apply zaa);refine zah ?_;simp only [push_cast, seval];(repeat apply zaa);refine zl5 ?_;simp only [push_cast, seval, hid, hxs];subst hn;refine ⟨by simp, hl, ?_⟩;(repeat apply zaa);refine zai ?_;simp only [push_cast, seval];exact endA hH (zaK _ _ _) (by simp [← aInts.eq_1, zbi]) hk
theorem f30_c {x : Ring} {n w : Int} (hnr : NewRingC lv) (hmain : H[0]? = some .main) (hs : x.Small) (h1 : openE x (wornFl x n w) ≠ 0 → k (.tup [.sl 0 [] .exact, iv (openE x (wornFl x n w))]) H) (h2 : openE x (wornFl x n w) = 0 → k (.tup [aInts (wornOf x n.toNat w.toNat), iv 0]) H) : FnC lv Tryz.prog 30 H [x.av, iv n, iv w] k kp := by
 have hmn : ∀ L : List AObj, (H ++ L)[0]? = some .main := fun L => zay hmain;refine zak (rs := [.tmp 6, .tmp 7]) (nt := 39) F.f30 rfl rfl rfl (by simp) fun hH hA => ?_;simp only [argsT, Nat.reduceAdd, Ring.av];(repeat apply zaa);refine zl5 ?_;simp only [push_cast, seval, Ring.l];(repeat apply zaa);refine zl5 ?_;simp only [push_cast, seval, List.mapM_cons, List.mapM_nil, Option.pure_def, Option.bind_eq_bind];have hask : AskC lv (H ++ [.cells x.l 26, .cells [iv n] 3, .cells [iv w] 3]) _ (wornFl x n w) := ask_worn (r := H.length) (i := H.length + 1) (j := H.length + 2) hs (by simp only [push_cast, seval]) (by simp only [push_cast, seval]) (by simp only [push_cast, seval]);refine zl6 ((f87_c hnr (hmn _) hs hask (fun hz => ?_) (fun hz => ?_)))
 ·(try simp only [push_cast, seval]);(repeat apply zaa);refine zl5 ?_;simp only [push_cast, seval];(repeat apply zaa);refine zae ?_;simp only [push_cast, seval];refine ⟨fun h => ?_, fun h => absurd (by simpa using h) hz⟩;(repeat apply zaa);refine zl5 ?_;simp only [push_cast, seval];(repeat apply zaa);refine zai ?_;simp only [push_cast, seval];exact endA hH (Wk.refl _) (by simp [zap, zaD, zbh]) (h1 hz)
 ·(try simp only [push_cast, seval]);(repeat apply zaa);refine zl5 ?_;simp only [push_cast, seval];have hx := zbp hz;obtain ⟨hc, hfl⟩ := zaN.1 hz;obtain ⟨⟨hn0, hn1⟩, hw0, hw1⟩ := zg4.1 hfl;obtain ⟨kn, rfl⟩ : ∃ m : Nat, n = m := ⟨n.toNat, by omega⟩;have hkl : kn < x.keys.length := by omega
  obtain ⟨y, hy⟩ := zaE hkl;have hym := zas hy;have hds := zcm y.cuts;have hdl : ((depthsM y.cuts).map iv).length = 4 := by simp [hds]
  have hwl : ((wornM w (depthsM y.cuts)).map iv).length = 4 := by simp [wornM, hds]
  have hdrop : ([iv 0, iv 0, iv 0, iv 0] : List AV).drop 4 = [] := rfl;(repeat apply zaa);refine zae ?_;simp only [push_cast, seval];(repeat apply zaa);refine zah ?_;simp only [push_cast, seval];(repeat apply zaa);refine zbE [12, 13] [0, 1, 2, 3, 4, 5, 6, 7, 8, 9, 10, 11, 12, 13] [⟨0, false, [], [([12], [12])]⟩, ⟨1, false, [], [([12], [12])]⟩, ⟨2, false, [], [([12], [12])]⟩, ⟨3, false, [], [([12], [12])]⟩, ⟨4, false, [], [([12], [12])]⟩, ⟨5, false, [], [([12], [12])]⟩, ⟨6, false, [], [([12], [12])]⟩, ⟨7, false, [], [([12], [12])]⟩, ⟨8, false, [], [([12], [12])]⟩, ⟨9, false, [], [([12], [12])]⟩, ⟨10, false, [], [([12], [12])]⟩, ⟨11, false, [], [([12], [12])]⟩, ⟨12, true, [12], []⟩, ⟨13, true, [12, 13], []⟩] (fun D => bif isDone 13 D then H ++ [.cells x.l 26, .cells [iv kn] 3, .cells [iv w] 3, .cells ((wornM w (depthsM y.cuts)).map iv) 108] else bif isDone 12 D then H ++ [.cells x.l 26, .cells [iv kn] 3, .cells [iv w] 3, .cells [iv 0, iv 0, iv 0, iv 0] 108] else H ++ [.cells x.l 26, .cells [iv kn] 3, .cells [iv w] 3]) F.mixed (by kernel_rfl) (by kernel_rfl) (by first | rfl | simp only [push_cast, seval]) ?_;simp only [push_cast, seval, Ring.l, aKeys, zc2 hy, zaz hkl];refine qCall (.agg ((depthsM y.cuts).map iv)) (zad (by kernel_rfl) (f92_c ⟨rfl, rfl⟩)) ⟨qCall _ (zad (by kernel_rfl) (f92_c ⟨rfl, rfl⟩)) rfl, ?_⟩;have hdm := hx.depths hym;refine qCall (.agg ((wornM w (depthsM y.cuts)).map iv)) (zad (by kernel_rfl) (f93_c hds hdm ⟨hw0, hw1⟩ ⟨rfl, rfl⟩)) ⟨qCall _ (zad (by kernel_rfl) (f93_c hds hdm ⟨hw0, hw1⟩ ⟨rfl, rfl⟩)) rfl, ?_⟩;(try simp only [push_cast, seval, hwl]);have hc4 := hx.cuts;(repeat apply zaa);refine zl5 ?_;simp only [push_cast, seval, hwl];refine ⟨by omega, by omega, ?_⟩;have hw2 : ((w.toNat : Nat) : Int) = w := by omega
  have hwo : wornOf x (kn : Int).toNat w.toNat = (wornM w (depthsM y.cuts)).take x.cuts.toNat := by
   unfold wornOf;rw [Int.toNat_natCast, hy, hw2]
  have hwn : (wornM w (depthsM y.cuts)).length = 4 := by simp [wornM, hds]
  rw [hwo] at h2;refine zl6 ((f94_o (xs := (wornM w (depthsM y.cuts)).take x.cuts.toNat) (by simp only [push_cast, seval] <;> rfl) (by rw [List.length_take, hwn]; omega) (by rw [List.map_take]; rfl) (by rw [List.length_take, hwn]; omega) ?_));(try simp only [push_cast, seval]);(repeat apply zaa);refine zai ?_;simp only [push_cast, seval];exact endA hH (Wk.refl _) (by simp [zap, zaD, zbi]) (h2 hz)
theorem f32_c {x : Ring} {n w : Int} (hnr : NewRingC lv) (hmain : H[0]? = some .main) (hs : x.Small) (h1 : openingE x (opensFl x n w) ≠ 0 → k (.tup [iv 0, iv (openingE x (opensFl x n w))]) H) (h2 : openingE x (opensFl x n w) = 0 → k (.tup [iv (verdictM (cntM x n.toNat w.toNat (truthsM x [])) (truthsM x []).length), iv 0]) H) : FnC lv Tryz.prog 32 H [x.av, iv n, iv w] k kp := by
 have hmn : ∀ L : List AObj, (H ++ L)[0]? = some .main := fun L => zay hmain;refine zak (rs := [.tmp 6, .tmp 7]) (nt := 29) F.f32 rfl rfl rfl (by simp) fun hH hA => ?_;simp only [argsT, Nat.reduceAdd, Ring.av];(repeat apply zaa);refine zl5 ?_;simp only [push_cast, seval, Ring.l];(repeat apply zaa);refine zl5 ?_;simp only [push_cast, seval, List.mapM_cons, List.mapM_nil, Option.pure_def, Option.bind_eq_bind];have hask : AskC lv (H ++ [.cells x.l 26, .cells [iv n] 3, .cells [iv w] 3]) _ (opensFl x n w) := zlh (r := H.length) (i := H.length + 1) (j := H.length + 2) hs (by simp only [push_cast, seval]) (by simp only [push_cast, seval]) (by simp only [push_cast, seval]);refine zl6 ((f99_c hnr (hmn _) hs hask (fun hz => ?_) (fun hz => ?_)))
 ·(try simp only [push_cast, seval]);(repeat apply zaa);refine zl5 ?_;simp only [push_cast, seval];(repeat apply zaa);refine zae ?_;simp only [push_cast, seval];refine ⟨fun h => ?_, fun h => absurd (by simpa using h) hz⟩;(repeat apply zaa);refine zl5 ?_;simp only [push_cast, seval];(repeat apply zaa);refine zai ?_;simp only [push_cast, seval];exact endA hH (Wk.refl _) (by simp [zap, zaD]) (h1 hz)
 ·(try simp only [push_cast, seval]);(repeat apply zaa);refine zl5 ?_;simp only [push_cast, seval];obtain ⟨ho, hne⟩ := zaP.1 hz;have hx := zbp ho;obtain ⟨⟨hn0, hn1⟩, hw0, hw1⟩ := zgu.1 (zaN.1 ho).2;obtain ⟨kn, rfl⟩ : ∃ m : Nat, n = m := ⟨n.toNat, by omega⟩;obtain ⟨ln, rfl⟩ : ∃ m : Nat, w = m := ⟨w.toNat, by omega⟩;have hx4 := hx.keys;have hx5 := hx.locks;have hle := zbl hx [];(repeat apply zaa);refine zae ?_;simp only [push_cast, seval];(repeat apply zaa);refine zah ?_;simp only [push_cast, seval];have hg4 : ∀ L : List AObj, (H ++ L)[H.length + 3 + 1]? = L[4]? := fun L => zbD H L 4;(repeat apply zaa);refine zl5 ?_;simp only [push_cast, seval];refine zl6 ((f102_c (x := x) (ts := truthsM x []) (ck := (wears0 x).length) (by rw [hg4]; rfl) (zbm x []) (zba x []) (by omega) (by omega) (by omega) (zbt hx []) ?_));(try simp only [push_cast, seval, zaL, hg4]);have hsz : ((List.map setEntry (truthsM x [])).toArray.size : Int) = ((truthsM x []).length : Nat) := by simp
  (try simp only [push_cast, seval, hsz]);refine zl6 ((f101_c ?_));(try simp only [push_cast, seval]);(repeat apply zaa);refine zai ?_;simp only [push_cast, seval];exact endA hH (Wk.refl _) (by simp [zap, zaD]) (h2 hz)
theorem f53_c {x : Ring} (hnr : NewRingC lv) (hmain : H[0]? = some .main) (hs : x.Small) (h1 : openE x none ≠ 0 → k (.tup [iv 0, iv (openE x none)]) H) (h2 : openE x none = 0 → k (.tup [iv (truthsM x []).length, iv 0]) H) : FnC lv Tryz.prog 53 H [x.av] k kp := by
 have hmn : ∀ L : List AObj, (H ++ L)[0]? = some .main := fun L => zay hmain;refine zak (rs := [.tmp 2, .tmp 3]) (nt := 17) F.f53 rfl rfl rfl (by simp) fun hH hA => ?_;simp only [argsT, Nat.reduceAdd, Ring.av];(repeat apply zaa);refine zl5 ?_;simp only [push_cast, seval, Ring.l];(repeat apply zaa);refine zl5 ?_;simp only [push_cast, seval];refine zl6 ((f87_c hnr (hmn _) hs zbA (fun hz => ?_) (fun hz => ?_)))
 ·(try simp only [push_cast, seval]);(repeat apply zaa);refine zl5 ?_;simp only [push_cast, seval];(repeat apply zaa);refine zae ?_;simp only [push_cast, seval];refine ⟨fun h => ?_, fun h => absurd (by simpa using h) hz⟩;(repeat apply zaa);refine zl5 ?_;simp only [push_cast, seval];(repeat apply zaa);refine zai ?_;simp only [push_cast, seval];exact endA hH (Wk.refl _) (by simp [zap, zaD]) (h1 hz)
 ·(try simp only [push_cast, seval]);(repeat apply zaa);refine zl5 ?_;simp only [push_cast, seval];have hx := zbp hz;(repeat apply zaa);refine zae ?_;simp only [push_cast, seval];(repeat apply zaa);refine zah ?_;simp only [push_cast, seval];(repeat apply zaa);refine zl5 ?_;simp only [push_cast, seval];refine zl6 ((f129_c (but := []) (e := .exact) hx (by decide) ?_));(try simp only [push_cast, seval, zaL]);have hsz : ((List.map setEntry (truthsM x [])).toArray.size : Int) = ((truthsM x []).length : Nat) := by simp
  (try simp only [push_cast, seval, hsz]);(repeat apply zaa);refine zai ?_;simp only [push_cast, seval];exact endA hH (Wk.refl _) (by simp [zap, zaD]) (h2 hz)
end
open Go.Conc Go.Proofs
def belowM (n : Nat) : List Int := (List.range n).map fun i : Nat => (i : Int)
theorem zhR (n : Nat) : (belowM (n + 1)).map iv = (belowM n).map iv ++ [iv n] := by simp [belowM, List.range_succ]
theorem zca (n : Nat) : (belowM n).length = n := by simp [belowM]
theorem zjx {n i : Nat} (h : i < n) : (belowM n)[i]? = some (i : Int) := by simp [belowM, h]
theorem z1 : zeroRow (Value.int .i64 0) 1 = [iv 0] := rfl
section
variable {lv : Bool} {H : List AObj} {k kp : AV → List AObj → Prop}
theorem f115_c {n : Nat} (hn : n ≤ 2 ^ 30) (hk : k (aInts (belowM n)) H) : FnC lv Tryz.prog 115 H [iv n] k kp := by
 refine zak (rs := [.tmp 2]) (nt := 15) F.f115 rfl rfl rfl (by simp) fun hH hA => ?_;simp only [argsT, Nat.reduceAdd];(repeat apply zaa);refine zl5 ?_;simp only [push_cast, seval];(repeat apply zaa);refine zl5 ?_;simp only [push_cast, seval]
 (repeat apply zaa); refine zbV (t := 3) (sz := 1) (el := 3) (by simp only [push_cast, seval] <;> rfl) ?_
 (repeat apply zaa);refine zl5 ?_;simp only [push_cast, seval];(repeat apply zaa);refine zag ?_;refine zaB n (fun i : Nat => [(3, .sl i ((belowM i).map iv) (.opn H.length)), (6, iv i)]) (fun i => H ++ [.tail i 1 3]) (fun _ => True) (fun _ _ => rfl) (by simp only [push_cast, seval, List.forall_mem_cons, List.not_mem_nil, false_imp_iff, implies_true, List.forall_mem_nil]; simp [zaf, Wk.refl]; exact Wk.refl _) rfl (fun _ _ _ => by simp) trivial (fun hHs hLt i hin hi R hR => ?_);(repeat apply zaa);refine zl5 ?_;simp only [push_cast, seval];(repeat apply zaa);refine zae ?_;simp only [push_cast, seval];refine ⟨fun h => ?_, fun h => ?_⟩
 ·(repeat apply zaa);refine zah ?_;simp only [push_cast, seval];(repeat apply zaa);refine zag ?_;(repeat apply zaa);refine zl5 ?_;simp only [push_cast, seval];(repeat apply zaa);refine zl5 ?_;simp only [push_cast, seval, z1, List.length_map, zca];have hl : i < n := by omega
  first | refine ⟨by omega, by omega, ?_⟩ | refine ⟨by omega, ?_⟩
  have hi1 : IntKind.i64.wrap ((i : Int) + 1) = ((i + 1 : Nat) : Int) := by rw [zau _ (by omega)]; rfl
  (repeat apply zaa);refine zl5 ?_;simp only [push_cast, seval, hi1];refine hR _ ⟨hl, trivial, ?_⟩;rw [zhR];exact (zax (zam rfl rfl) (by simp only [push_cast, seval]; simp [zaf, Wk.refl]))
 ·(repeat apply zaa);refine zaq ?_;simp only [push_cast, seval];have : i = n := by omega
  subst this;(repeat apply zaa);refine zl5 ?_;simp only [push_cast, seval];(repeat apply zaa);refine zai ?_;simp only [push_cast, seval];rw [aInts, zca] at hk;exact endA hH (zaK _ _ _) (by simp [za3, zap]) hk
end
open Go.Conc Go.Proofs
theorem zeg {n : Nat} {l l' : List AV} {e : End} (hl : l.length = l'.length) (h : ∀ (i : Nat) a b, l'[i]? = some a → l[i]? = some b → Wk b a) : Wk (.sl n l e) (.sl n l' e) := fun E v hd => by
 cases hd with
 | sl b o cap f hc he h1 h2 =>
  refine .sl b o cap f hc he (fun i hi => h1 i (by omega)) fun i x hx => ?_;obtain ⟨y, hy⟩ := zaE (xs := l) (i := i) (by have := get_lt hx; omega);exact h i x y hx hy E _ (h2 i y hy)
 | nil he =>
  have : l' = [] := List.eq_nil_of_length_eq_zero hl.symm;subst this;exact .nil he
theorem zhW {a b c : AV} (h : Wk a b) (k : Wk b c) : Wk a c := fun E v hd => k E v (h E v hd)
theorem zdC {a b a' b' : AV} (h : Wk a a') (k : Wk b b') : Wk (.tup [a, b]) (.tup [a', b']) := fun E v hd => by
 cases hd with
 | tup hs h1 =>
  refine .tup (by simpa using hs) fun i x hx => ?_
  match i with
  | 0 => cases hx; exact h E _ (h1 0 a rfl)
  | 1 => cases hx; exact k E _ (h1 1 b rfl)
  | i + 2 => cases hx
theorem z1s : zeroRow (Value.slice none 0 0) 1 = [.sl 0 [] .exact] := rfl
theorem pow24 : (1 ≤ 2 ^ 24) = True := by simp
def fromM (x : List Int) : Nat := match x.getLast? with
 | none => 0
 | some i => i.toNat + 1
def nextM (n : Nat) (x : List Int) : List (List Int) := (List.range' (fromM x) (n - fromM x)).map fun i : Nat => x ++ [(i : Int)]
def levelM (n : Nat) : Nat → List (List Int)
 | 0 => [[]]
 | k + 1 => (levelM n k).flatMap (nextM n)
def fewestM (n : Nat) (f : List Int → Bool) : Option (List Int) := ((List.range (n + 1)).flatMap (levelM n)).find? f
theorem zgy : ∀ n, n ≤ 6 → ∀ k, k ≤ 7 → (levelM n k).length ≤ 20 := by decide +kernel
theorem zfE : ∀ n, n ≤ 6 → ∀ k, k ≤ 7 → ∀ x ∈ levelM n k, x.length = k ∧ ∀ i ∈ x, 0 ≤ i ∧ i < n := by decide +kernel
def rowsM (n k j : Nat) : List (List Int) := ((levelM n k).take j).flatMap (nextM n)
theorem zke (n k : Nat) : rowsM n k (levelM n k).length = levelM n (k + 1) := by unfold rowsM; rw [List.take_length]; rfl
theorem ziR {n k j : Nat} {x : List Int} (h : (levelM n k)[j]? = some x) : rowsM n k (j + 1) = rowsM n k j ++ nextM n x := by
 unfold rowsM;obtain ⟨hj, rfl⟩ := List.getElem?_eq_some_iff.1 h;rw [List.take_succ_eq_append_getElem hj, List.flatMap_append]; simp
theorem rowsM_le {n k j : Nat} (hn : n ≤ 6) (hk : k ≤ 6) : (rowsM n k j).length ≤ 20 := by
 have h1 := zgy n hn (k + 1) (by omega);have h2 : (rowsM n k j).length ≤ (levelM n (k + 1)).length := by
  show (((levelM n k).take j).flatMap (nextM n)).length ≤ ((levelM n k).flatMap (nextM n)).length
  conv => rhs; rw [← List.take_append_drop j (levelM n k), List.flatMap_append, List.length_append]
  omega
 omega
theorem zdp (n : Nat) (x : List Int) : (nextM n x).length = n - fromM x := by simp [nextM]
theorem zks {n c : Nat} {x : List Int} (h : fromM x + c < n) : (nextM n x).take (c + 1) = (nextM n x).take c ++ [x ++ [((fromM x + c : Nat) : Int)]] := by
 have hl := zdp n x;rw [List.take_succ_eq_append_getElem (by omega)];simp [nextM]
theorem zjh {x : List Int} {q : Nat} {i : Int} (h : x[q]? = some i) (hi : 0 ≤ i) : ((fromM (x.take (q + 1)) : Nat) : Int) = i + 1 := by
 obtain ⟨hj, rfl⟩ := List.getElem?_eq_some_iff.1 h;unfold fromM;rw [List.take_succ_eq_append_getElem hj, List.getLast?_append];simp;omega
theorem fromM_le {n : Nat} {x : List Int} (h : ∀ i ∈ x, 0 ≤ i ∧ i < n) : fromM x ≤ n := by
 unfold fromM;split
 ·omega
 ·rename_i i hi;have := h i (List.mem_of_getLast? hi);omega
theorem zdt {α : Type} {f : α → Bool} {l : List α} (h : ∀ x ∈ l, f x = false) : l.find? f = none := by
 rw [List.find?_eq_none]; intro x hx; simp [h x hx]
theorem zfN {α : Type} {f : α → Bool} : ∀ {l : List α} {j : Nat} {x : α}, l[j]? = some x → f x = true → (∀ y ∈ l.take j, f y = false) → l.find? f = some x
 | [], j, x, h, _, _ => by simp at h
 | y :: l, 0, x, h, hf, _ => by simp at h; subst h; simp [hf]
 | y :: l, j + 1, x, h, hf, hn => by
  have hy : f y = false := hn y (by simp);rw [List.find?_cons_of_neg (by simp [hy])];exact zfN (by simpa using h) hf fun z hz => hn z (by simp [hz])
theorem zhG {n k : Nat} {f : List Int → Bool} {x : List Int} (hk : k ≤ n) (h0 : ∀ k' < k, ∀ y ∈ levelM n k', f y = false) (hx : (levelM n k).find? f = some x) : fewestM n f = some x := by
 unfold fewestM;have e : List.range (n + 1) = List.range k ++ (k :: List.range' (k + 1) (n - k)) := by
  have h1 : List.range (n + 1) = List.range' 0 (n + 1) := List.range_eq_range';have h2 : List.range k = List.range' 0 k := List.range_eq_range';have h3 := @List.range'_append_1 0 k (n - k + 1);rw [Nat.zero_add] at h3;rw [h1, h2, ← List.range'_succ, h3];congr 1; omega
 rw [e, List.flatMap_append, List.find?_append, zdt fun y hy => by
  obtain ⟨k', h1, h2⟩ := List.mem_flatMap.1 hy;exact h0 k' (List.mem_range.1 h1) y h2]
 rw [List.flatMap_cons, List.find?_append, hx];rfl
theorem zhH {n : Nat} {f : List Int → Bool} (h0 : ∀ k' < n + 1, ∀ y ∈ levelM n k', f y = false) : fewestM n f = none := by
 unfold fewestM;refine zdt fun y hy => ?_;obtain ⟨k', h1, h2⟩ := List.mem_flatMap.1 hy;exact h0 k' (List.mem_range.1 h1) y h2
theorem wk_rows0 (n : Nat) : Wk (.sl 1 [.sl 0 [] .exact] .exact) (aRows (levelM n 0)) := zhW (zeg (l' := [aInts []]) rfl fun i a b h1 h2 => by
  match i with
  | 0 => cases h1; cases h2; exact zaK _ _ _
  | i + 1 => cases h1) (zaK _ _ _)
theorem wk_snoc {n : Nat} {l : List AV} {a b : AV} {e : End} (h : Wk a b) : Wk (.sl n (l ++ [a]) e) (.sl n (l ++ [b]) e) := zeg (by simp) fun i x y hx hy => by
 by_cases hi : i < l.length
 ·rw [List.getElem?_append_left hi] at hx hy;rw [hx] at hy; cases hy; exact Wk.refl _
 ·rw [List.getElem?_append_right (by omega)] at hx hy;have h0 : i - l.length = 0 := by have := get_lt hx; simp at this; omega
  rw [h0] at hx hy;cases hx; cases hy; exact h
theorem zc6 {H L : List AObj} (h : HOk H) (hL : ∀ z ∈ L, ∀ n, OLt n z) : HOk (H ++ L) := fun z hz => by
 rcases List.mem_append.1 hz with h' | h'
 ·exact (h z h').mono (by simp)
 ·exact hL z h' _
theorem zif (n m k : Nat) (ls : List (List Int)) : Lt n (.sl m (ls.map aInts) (.opn k)) = (k < n) := by
 rw [zdq];simp only [List.mem_map, eq_iff_iff, and_iff_left_iff_imp]
 rintro _ _ ⟨x, _, rfl⟩
 rw [zbi]; trivial
theorem take_iv {x : List Int} {q : Nat} {i : Int} (h : x[q]? = some i) : (x.take (q + 1)).map iv = (x.take q).map iv ++ [iv i] := by
 obtain ⟨hj, rfl⟩ := List.getElem?_eq_some_iff.1 h;rw [List.take_succ_eq_append_getElem hj, List.map_append]; rfl
section
variable {lv : Bool} {H : List AObj} {k kp : AV → List AObj → Prop}
def SoC (lv : Bool) (H : List AObj) (so : AV) (f : List Int → Bool) (P : List Int → Prop) : Prop := ∀ (L : List AObj) (xs : List Int) (e : End) (k kp : AV → List AObj → Prop), P xs → k (bv (f xs)) (H ++ L) → CallC lv Tryz.prog so (H ++ L) [.sl xs.length (xs.map iv) e] k kp
theorem f113_c {n : Nat} {so : AV} {f : List Int → Bool} {P : List Int → Prop} (hn : n ≤ 6) (hso : SoC lv H so f P) (hP : ∀ k, k ≤ n → ∀ x ∈ levelM n k, P x) (hk : k (.tup [aInts ((fewestM n f).getD []), bv (fewestM n f).isSome]) H) : FnC lv Tryz.prog 113 H [so, aInts (belowM n)] k kp := by
 refine zak (rs := [.tmp 4, .tmp 5]) (nt := 69) F.f113 rfl rfl rfl (by simp) fun hH hA => ?_;simp only [argsT, Nat.reduceAdd];(repeat apply zaa);refine zl5 ?_;simp only [push_cast, seval];(repeat apply zaa);refine zl5 ?_;simp only [push_cast, seval, z1s, pow24];have hn1 : IntKind.i64.wrap ((n : Int) + 1) = ((n + 1 : Nat) : Int) := by rw [zau _ (by omega)]; rfl
 (repeat apply zaa);refine zl5 ?_;simp only [push_cast, seval, aInts, zca, hn1];(repeat apply zaa);refine zag ?_;refine zaB (n + 1) (fun i : Nat => [(6, aRows (levelM n i)), (19, iv i)]) (fun _ => H) (fun i => ∀ k' < i, ∀ y ∈ levelM n k', f y = false) (fun _ _ => rfl) (by simp only [push_cast, seval, List.forall_mem_cons, List.not_mem_nil, false_imp_iff, implies_true, List.forall_mem_nil]; simp [zaf, Wk.refl]; exact wk_rows0 n) rfl (fun _ _ _ => rfl) (fun k' hk' => by omega) (fun hHs hLt i hin hi R hR => ?_);(repeat apply zaa);refine zl5 ?_;simp only [push_cast, seval];(repeat apply zaa);refine zae ?_;simp only [push_cast, seval];refine ⟨fun h => ?_, fun h => ?_⟩
 ·
  have hil : i ≤ n := by omega
  (repeat apply zaa);refine zah ?_;simp only [push_cast, seval];(repeat apply zaa);refine zag ?_;(repeat apply zaa);refine zl5 ?_;simp only [push_cast, seval]
  (repeat apply zaa); refine zbV (t := 7) (sz := 1) (el := 30) (by simp only [push_cast, seval] <;> rfl) ?_
  (repeat apply zaa);refine zl5 ?_;simp only [push_cast, seval, aRows];(repeat apply zaa);refine zag ?_;refine zaB (levelM n i).length (fun j : Nat => [(7, .sl (rowsM n i j).length ((rowsM n i j).map aInts) (.opn H.length)), (23, iv j)]) (fun j => H ++ [.tail (rowsM n i j).length 1 30]) (fun j => ∀ y ∈ (levelM n i).take j, f y = false) (fun _ _ => rfl) (by simp only [push_cast, seval, List.forall_mem_cons, List.not_mem_nil, false_imp_iff, implies_true, List.forall_mem_nil]; simp [zaf, Wk.refl]; exact Wk.refl _) rfl (fun _ _ _ => by simp) (by simp) (fun hHs2 hLt2 j hjn hj R2 hR2 => ?_);(repeat apply zaa);refine zl5 ?_;simp only [push_cast, seval];(repeat apply zaa);refine zae ?_;simp only [push_cast, seval];refine ⟨fun h2 => ?_, fun h2 => ?_⟩
  ·
   have hjl : j < (levelM n i).length := (by omega);obtain ⟨x, hx⟩ := zaE hjl;obtain ⟨hxl, hxi⟩ := zfE n hn i (by omega) x (zas hx);(repeat apply zaa);refine zah ?_;simp only [push_cast, seval];(repeat apply zaa);refine zag ?_;(repeat apply zaa);refine zl5 ?_;simp only [push_cast, seval, zlB hx, zaz hjl];(repeat apply zaa);refine zl5 ?_;simp only [push_cast, seval]
   (repeat apply zaa); refine zbV (t := 10) (sz := 1) (el := 3) (by simp only [push_cast, seval] <;> rfl) ?_
   (repeat apply zaa);refine zl5 ?_;simp only [push_cast, seval];(repeat apply zaa);refine zl5 ?_;simp only [push_cast, seval, aInts];(repeat apply zaa);refine zag ?_;refine zaB x.length (fun q : Nat => [(10, .sl q ((x.take q).map iv) (.opn (H.length + 1))), (11, iv (fromM (x.take q))), (29, iv q)]) (fun q => H ++ [.tail (rowsM n i j).length 1 30, .tail q 1 3]) (fun _ => True) (fun _ _ => rfl) (by simp only [push_cast, seval, List.forall_mem_cons, List.not_mem_nil, false_imp_iff, implies_true, List.forall_mem_nil]; simp [zaf, Wk.refl]; first | exact Wk.refl _ | exact ⟨Wk.refl _, Wk.refl _⟩) rfl (fun _ _ _ => by simp) trivial (fun hHs3 hLt3 q hqn hq R3 hR3 => ?_);(repeat apply zaa);refine zl5 ?_;simp only [push_cast, seval];(repeat apply zaa);refine zae ?_;simp only [push_cast, seval];refine ⟨fun h3 => ?_, fun h3 => ?_⟩
   ·
    have hql : q < x.length := (by omega);obtain ⟨xi, hxq⟩ := zaE hql;obtain ⟨hx0, hx1⟩ := hxi xi (zas hxq);obtain ⟨c, rfl⟩ : ∃ m : Nat, xi = m := ⟨xi.toNat, by omega⟩;have hcn : c < n := (by omega);have hlt : (x.take q).length = q := (by rw [List.length_take]; omega);have hc1 : IntKind.i64.wrap ((c : Int) + 1) = (c : Int) + 1 := zau _ (by omega);have hq1 : IntKind.i64.wrap ((q : Int) + 1) = ((q + 1 : Nat) : Int) := (by rw [zau _ (by omega)]; rfl);have hfr := zjh hxq hx0;(repeat apply zaa);refine zah ?_;simp only [push_cast, seval];(repeat apply zaa);refine zag ?_;(repeat apply zaa);refine zl5 ?_;simp only [push_cast, seval, za2 hxq, zaz hql];(repeat apply zaa);refine zl5 ?_;simp only [push_cast, seval, za2 (zjx hcn), zaz hcn, z1, List.length_map, zca, hlt, hc1]
    first | refine ⟨by omega, by omega, ?_⟩ | refine ⟨by omega, ?_⟩
    (repeat apply zaa);refine zl5 ?_;simp only [push_cast, seval, hq1];refine hR3 _ ⟨hql, trivial, ?_⟩;rw [take_iv hxq, hfr];exact (zax (zam rfl rfl) (by simp only [push_cast, seval]; simp [zaf, Wk.refl]))
   ·
    have hqx : q = x.length := (by omega);subst hqx;have hxm := zas hx;(repeat apply zaa);refine zaq ?_;simp only [push_cast, seval];have htk : List.take x.length x = x := List.take_length;(repeat apply zaa);refine zl5 ?_;simp only [push_cast, seval, htk];refine callG (hso _ x _ _ _ (hP i hil x hxm) ?_);(try simp only [push_cast, seval]);(repeat apply zaa);refine zae ?_;simp only [push_cast, seval];refine ⟨fun h4 => ?_, fun h4 => ?_⟩
    ·
     (repeat apply zaa);refine zl5 ?_;simp only [push_cast, seval];(repeat apply zaa);refine zai ?_;simp only [push_cast, seval];have hfw := zhG (f := f) hil hi (zfN hx (by simpa using h4) hj);rw [hfw] at hk;exact endA hH (zdC (zaK _ _ _) (Wk.refl _)) (by simp [zap, zaD, za3]) hk
    ·
     (repeat apply zaa);refine zah ?_;simp only [push_cast, seval];(repeat apply zaa);refine zl5 ?_;simp only [push_cast, seval];(repeat apply zaa);refine zag ?_;have hfl : fromM x ≤ n := fromM_le hxi;refine zaB (n - fromM x) (fun c : Nat => [(7, .sl ((rowsM n i j).length + c) ((rowsM n i j ++ (nextM n x).take c).map aInts) (.opn H.length)), (14, iv ((fromM x + c : Nat) : Int))]) (fun c => H ++ [.tail ((rowsM n i j).length + c) 1 30, .tail x.length 1 3]) (fun c => True) (fun _ _ => rfl) (by simp only [push_cast, seval, List.forall_mem_cons, List.not_mem_nil, false_imp_iff, implies_true, List.forall_mem_nil]; simp [zaf, Wk.refl]) rfl (fun _ _ _ => by simp) trivial (fun hHs4 hLt4 c hcn hc R4 hR4 => ?_);(repeat apply zaa);refine zl5 ?_;simp only [push_cast, seval];(repeat apply zaa);refine zae ?_;simp only [push_cast, seval];refine ⟨fun h5 => ?_, fun h5 => ?_⟩
     ·
      have hfc : fromM x + c < n := (by omega);have hbe : ((x.length : Int) == x.length) = true := (by simp);have htc : ((nextM n x).take c).length = c := (by rw [List.length_take, zdp]; omega);have hf1 : IntKind.i64.wrap ((fromM x : Int) + c + 1) = (fromM x : Int) + ((c + 1 : Nat) : Int) := (by rw [zau _ (by omega)]; omega);have hrl := rowsM_le (n := n) (k := i) (j := j) hn (by omega);(repeat apply zaa);refine zah ?_;simp only [push_cast, seval];(repeat apply zaa);refine zag ?_;(repeat apply zaa);refine zl5 ?_;simp only [push_cast, seval, z1, z1s, List.length_map, hbe, Bool.and_self, pow24, List.length_append, htc]
      first | refine ⟨by omega, by omega, by omega, ?_⟩ | refine ⟨by omega, by omega, ?_⟩ | refine ⟨by omega, ?_⟩
      (repeat apply zaa);refine zl5 ?_;simp only [push_cast, seval, hf1];have ew : ((rowsM n i j ++ (nextM n x).take (c + 1)).map aInts) = (rowsM n i j ++ (nextM n x).take c).map aInts ++ [.sl (x.length + 1) (x.map iv ++ [iv ((fromM x + c : Nat) : Int)]) .shut] := by
       rw [zks hfc, ← List.append_assoc, List.map_append];simp [aInts]
      refine hR4 _ ⟨by omega, trivial, ?_⟩;rw [ew];refine zat (L := [.tail ((rowsM n i j).length + (c + 1)) 1 30, .tail x.length 1 3]) (zam rfl rfl) ?_ (zc6 hH (by simp [OLt])) ?_
      ·(try simp only [push_cast, seval, List.forall_mem_cons, List.not_mem_nil, false_imp_iff, implies_true, List.forall_mem_nil]; simp [zaf, Wk.refl]);simp only [← List.append_assoc];exact wk_snoc (zaK _ _ _)
      ·rw [← ew];simp only [List.forall_mem_cons, zif, iv, zap];simp
     ·
      have hcn' : c = n - fromM x := (by omega);subst hcn';(repeat apply zaa);refine zaq ?_;simp only [push_cast, seval];have hj1 : IntKind.i64.wrap ((j : Int) + 1) = ((j + 1 : Nat) : Int) := by
       have := zgy n hn i (by omega);rw [zau _ (by omega)]; rfl
      (repeat apply zaa);refine zl5 ?_;simp only [push_cast, seval, hj1];have htk : (nextM n x).take (n - fromM x) = nextM n x := List.take_of_length_le (by rw [zdp]; omega);have hrs := ziR hx;have hrl : (rowsM n i (j + 1)).length = (rowsM n i j).length + (n - fromM x) := (by rw [hrs, List.length_append, zdp]);refine hR2 _ ⟨hjl, fun y hy => ?_, ?_⟩
      ·obtain ⟨hj', rfl⟩ := List.getElem?_eq_some_iff.1 hx;rw [List.take_succ_eq_append_getElem hj', List.mem_append] at hy;rcases hy with hy | hy
       ·exact hj y hy
       ·simp at hy; subst hy; simpa using h4
      ·rw [htk, hrl, hrs];refine zat (L := [.tail ((rowsM n i j).length + (n - fromM x)) 1 30]) (G := [.tail x.length 1 3]) (zam rfl rfl) ?_ (zc6 hH (by simp [OLt])) ?_
       ·try simp only [push_cast, seval, List.forall_mem_cons, List.not_mem_nil, false_imp_iff, implies_true, List.forall_mem_nil]; simp [zaf, Wk.refl]
       ·simp only [List.forall_mem_cons, zif, iv, zap];simp
  ·
   have hjx : j = (levelM n i).length := (by omega);subst hjx;(repeat apply zaa);refine zaq ?_;simp only [push_cast, seval];(repeat apply zaa);refine zl5 ?_;simp only [push_cast, seval];have hi1 : IntKind.i64.wrap ((i : Int) + 1) = ((i + 1 : Nat) : Int) := (by rw [zau _ (by omega)]; rfl);(repeat apply zaa);refine zl5 ?_;simp only [push_cast, seval, hi1];refine hR _ ⟨by omega, fun k' hk' y hy => ?_, ?_⟩
   ·by_cases e : k' = i
    ·subst e;exact hj y (by rw [List.take_length]; exact hy)
    ·exact hi k' (by omega) y hy
   ·rw [zke];refine zaS (zam rfl rfl) ?_ hH (by simp [zap, zlv]);(try simp only [push_cast, seval, List.forall_mem_cons, List.not_mem_nil, false_imp_iff, implies_true, List.forall_mem_nil]; simp [zaf, Wk.refl]);exact zaK _ _ _
 ·(repeat apply zaa);refine zaq ?_;simp only [push_cast, seval];(repeat apply zaa);refine zl5 ?_;simp only [push_cast, seval];(repeat apply zaa);refine zai ?_;simp only [push_cast, seval];have hin' : i = n + 1 := by omega
  subst hin';have hfw := zhH (f := f) hi;rw [hfw] at hk;have hk : k (.tup [.sl 0 [] .shut, bv false]) H := hk;exact zaJ (H' := H) (G := []) (zdC (zaK _ _ _) (Wk.refl _)) (by simp) (Nat.le_refl _) hH (by simp [zap, zaD, za3]) hk
end
open Go.Conc Go.Proofs
def wrongM (x : Ring) : List Int := (fewestM x.tries.length fun xs => decide (0 < (truthsM x xs).length)).getD []
def bestObj : Option (Nat × Nat × Nat) → AObj
 | none => .cells [.fn (.func 132) [] [], iv 0, iv 0, iv 0, bv false] 148
 | some (a, b, c) => .cells [.fn (.func 132) [] [], iv a, iv b, iv c, bv true] 148
def takeM : Option (Nat × Nat × Nat) → Nat × Nat × Nat → Option (Nat × Nat × Nat)
 | none, t => some t
 | some u, t => if t.2.2 < u.2.2 then some t else some u
def testM (x : Ring) (k n : Nat) : Nat × Nat × Nat := (k, n, max (cntM x k n (truthsM x [])) ((truthsM x []).length - cntM x k n (truthsM x [])))
def testsAt (x : Ring) (k n : Nat) : List (Nat × Nat × Nat) := ((List.range k).flatMap fun i => (List.range x.locks.length).map (testM x i)) ++ (List.range n).map (testM x k)
def askAt (x : Ring) (k n : Nat) : Option (Nat × Nat × Nat) := (testsAt x k n).foldl takeM none
def askM (x : Ring) : Option (Nat × Nat × Nat) := askAt x x.keys.length 0
theorem zjC (x : Ring) (k n : Nat) : askAt x k (n + 1) = takeM (askAt x k n) (testM x k n) := by
 unfold askAt testsAt;rw [List.range_succ, List.map_append, ← List.append_assoc, List.foldl_append]; rfl
theorem zjD (x : Ring) (k : Nat) : askAt x (k + 1) 0 = askAt x k x.locks.length := by
 unfold askAt testsAt;rw [List.range_succ, List.flatMap_append]; simp
theorem zie (n : Nat) (o : Option (Nat × Nat × Nat)) : OLt n (bestObj o) := by
 cases o with
 | none => intro a ha; simp [iv, bv] at ha; rcases ha with rfl | rfl | rfl <;> simp [zap, lt_fn]
 | some u => obtain ⟨a0, b0, c0⟩ := u; intro a ha; simp [iv, bv] at ha; rcases ha with rfl | rfl | rfl | rfl | rfl <;> simp [zap, lt_fn]
theorem zh7 {H : List AObj} {id : Nat} {z : AObj} (h : H[id]? = some z) : H.set id z = H := by
 obtain ⟨hj, rfl⟩ := List.getElem?_eq_some_iff.1 h;exact List.set_getElem_self hj
section
variable {lv : Bool} {H : List AObj} {k kp : AV → List AObj → Prop}
theorem f128_c {r : Nat} {x : Ring} {xs : List Int} {e : End} (hx : x.Ok) (hb : xs.length < 2 ^ 30) (hr : H[r]? = some (.cells [.rp (x.l ++ opensL x)] 100)) (hk : k (bv (decide (0 < (truthsM x xs).length))) H) : FnC lv Tryz.prog 128 H [.sl xs.length (xs.map iv) e, .op r 0] k kp := by
 refine zak (rs := [.tmp 3]) (nt := 9) F.f128 rfl rfl rfl (by simp) fun hH hA => ?_;simp only [argsT, Nat.reduceAdd];(repeat apply zaa);refine zl5 ?_;simp only [push_cast, seval];(repeat apply zaa);refine zl5 ?_;simp only [push_cast, seval, hr];refine zl6 ((f129_c hx hb ?_));(try simp only [push_cast, seval, zaL]);have hsz : ((List.map setEntry (truthsM x xs)).toArray.size : Int) = ((truthsM x xs).length : Nat) := by simp
 (try simp only [push_cast, seval, hsz]);(repeat apply zaa);refine zai ?_;simp only [push_cast, seval];have e : (decide (0 < ((truthsM x xs).length : Int))) = decide (0 < (truthsM x xs).length) := by simp
 rw [e];exact endA hH (Wk.refl _) (by simp [zap]) hk
theorem f132_c {a b c a' b' c' : Int} (hk : k (bv (decide (c < c'))) H) : FnC lv Tryz.prog 132 H [.agg [iv a, iv b, iv c], .agg [iv a', iv b', iv c']] k kp := by
 refine zak (rs := [.tmp 4]) (nt := 10) F.f132 rfl rfl rfl (by simp) fun hH hA => ?_;simp only [argsT, Nat.reduceAdd];(repeat apply zaa);refine zl5 ?_;simp only [push_cast, seval];(repeat apply zaa);refine zl5 ?_;simp only [push_cast, seval];(repeat apply zaa);refine zai ?_;simp only [push_cast, seval];exact endA hH (Wk.refl _) (by simp [zap]) hk
theorem f133_c {id : Nat} {o : Option (Nat × Nat × Nat)} {a b c : Nat} (hid : H[id]? = some (bestObj o)) (hk : k (.tup []) (H.set id (bestObj (takeM o (a, b, c))))) : FnC lv Tryz.prog 133 H [.op id 0, .agg [iv a, iv b, iv c]] k kp := by
 refine zak (rs := []) (nt := 28) F.f133 rfl rfl rfl (by simp) fun hH hA => ?_;simp only [argsT, Nat.reduceAdd];have hg : ∀ L : List AObj, (H ++ L)[id]? = some (bestObj o) := fun L => zay hid;have hset : ∀ (L : List AObj) z, (H ++ L).set id z = H.set id z ++ L := fun L z => List.set_append_left _ _ (get_lt hid);have hget2 : ∀ z (L : List AObj), (H.set id z ++ L)[id]? = some z := fun z L => by
  rw [List.getElem?_append_left (by simpa using get_lt hid), List.getElem?_set_self (get_lt hid)]
 have hset2 : ∀ z z' (L : List AObj), (H.set id z ++ L).set id z' = H.set id z' ++ L := fun z z' L => by
  rw [List.set_append_left _ _ (by simpa using get_lt hid), List.set_set]
 have hokb : ∀ z, OLt H.length z → HOk (H.set id z) := fun z hz y hy => by
  rw [List.length_set];rcases List.mem_or_eq_of_mem_set hy with h | h
  ·exact hH y h
  ·rw [h]; exact hz
 (repeat apply zaa);refine zl5 ?_;simp only [push_cast, seval];cases o with
 | none =>
  simp only [bestObj] at hg;(repeat apply zaa);refine zaT F.mixed 15 (by kernel_rfl) ?_;simp only [push_cast, seval, hg];(repeat apply zaa);refine zae ?_;simp only [push_cast, seval];(repeat apply zaa);refine zl5 ?_;simp only [push_cast, seval, hg, hset, hget2, hset2];exact zaJ (H' := H.set id (bestObj (some (a, b, c)))) (Wk.refl _) rfl (by simp) (hokb _ (zie _ _)) (by simp [zaD]) hk
 | some u =>
  obtain ⟨a0, b0, c0⟩ := u;simp only [bestObj] at hg;(repeat apply zaa);refine zaT F.mixed 15 (by kernel_rfl) ?_;simp only [push_cast, seval, hg];refine zl6 ((f132_c ?_));(try simp only [push_cast, seval]);(repeat apply zaa);refine zae ?_;simp only [push_cast, seval];refine ⟨fun h => ?_, fun h => ?_⟩
  ·(repeat apply zaa);refine zl5 ?_;simp only [push_cast, seval, hg, hset, hget2, hset2];have ht : takeM (some (a0, b0, c0)) (a, b, c) = some (a, b, c) := (by simp [takeM]; omega);rw [ht] at hk;exact zaJ (H' := H.set id (bestObj (some (a, b, c)))) (Wk.refl _) rfl (by simp) (hokb _ (zie _ _)) (by simp [zaD]) hk
  ·(repeat apply zaa);refine zah ?_;simp only [push_cast, seval];have ht : takeM (some (a0, b0, c0)) (a, b, c) = some (a0, b0, c0) := (by simp [takeM]; omega);rw [ht, zh7 hid] at hk;exact endA hH (Wk.refl _) (by simp [zaD]) hk
theorem so_wrong {r : Nat} {x : Ring} (hx : x.Ok) (hr : H[r]? = some (.cells [.rp (x.l ++ opensL x)] 100)) : SoC lv H (.fn (.func 128) [] [.op r 0]) (fun xs => decide (0 < (truthsM x xs).length)) (fun xs => xs.length ≤ 6) := fun L xs e k kp hp h =>
 zad (by kernel_rfl) (f128_c hx (Nat.lt_of_le_of_lt hp (by decide)) (zay hr) h)
theorem f51_c {x : Ring} (hnr : NewRingC lv) (hmain : H[0]? = some .main) (hs : x.Small) (h1 : openE x none ≠ 0 → k (.tup [.sl 0 [] .exact, iv (openE x none)]) H) (h2 : openE x none = 0 → k (.tup [aInts (wrongM x), iv 0]) H) : FnC lv Tryz.prog 51 H [x.av] k kp := by
 have hmn : ∀ L : List AObj, (H ++ L)[0]? = some .main := fun L => zay hmain;refine zak (rs := [.tmp 2, .tmp 3]) (nt := 29) F.f51 rfl rfl rfl (by simp) fun hH hA => ?_;simp only [argsT, Nat.reduceAdd, Ring.av];(repeat apply zaa);refine zl5 ?_;simp only [push_cast, seval, Ring.l];(repeat apply zaa);refine zl5 ?_;simp only [push_cast, seval];refine zl6 ((f87_c hnr (hmn _) hs zbA (fun hz => ?_) (fun hz => ?_)))
 ·(try simp only [push_cast, seval]);(repeat apply zaa);refine zl5 ?_;simp only [push_cast, seval];(repeat apply zaa);refine zae ?_;simp only [push_cast, seval];refine ⟨fun h => ?_, fun h => absurd (by simpa using h) hz⟩;(repeat apply zaa);refine zl5 ?_;simp only [push_cast, seval];(repeat apply zaa);refine zai ?_;simp only [push_cast, seval];exact endA hH (Wk.refl _) (by simp [zap, zaD, zbh]) (h1 hz)
 ·(try simp only [push_cast, seval]);(repeat apply zaa);refine zl5 ?_;simp only [push_cast, seval];have hx := zbp hz;have hlk : x.l ++ opensL x = iv x.cuts :: aKeys x.keys :: aLocks x.locks :: aTries x.tries :: opensL x := rfl;(repeat apply zaa);refine zae ?_;simp only [push_cast, seval];(repeat apply zaa);refine zah ?_;simp only [push_cast, seval];(repeat apply zaa);refine zl5 ?_;simp only [push_cast, seval, List.mapM_cons, List.mapM_nil, Option.pure_def, Option.bind_eq_bind, hlk, aTries];have hx6 := hx.tries;refine zl6 ((f115_c (by omega) ?_));(try simp only [push_cast, seval]);refine zl6 ((f113_c (P := fun xs => xs.length ≤ 6) (by omega) (so_wrong (r := H.length + 1) hx (by simp only [push_cast, seval] <;> rfl)) (fun k hk y hy => by rw [(zfE _ (by omega) k (by omega) y hy).1]; omega) ?_));(try simp only [push_cast, seval]);(repeat apply zaa);refine zl5 ?_;simp only [push_cast, seval];(repeat apply zaa);refine zai ?_;simp only [push_cast, seval];exact endA hH (Wk.refl _) (by simp [zap, zaD, zbi]) (h2 hz)
end
open Go.Conc Go.Proofs
def askR (x : Ring) : Option (Nat × Nat × Nat) := (askM x).filter fun t => decide (t.2.2 < (truthsM x []).length)
section
variable {lv : Bool} {H : List AObj} {k kp : AV → List AObj → Prop}
theorem cnt_le (x : Ring) (k n : Nat) (ts : List (List Int × Nat)) : cntM x k n ts ≤ ts.length := List.length_filter_le _ _
theorem f55_c {x : Ring} (hnr : NewRingC lv) (hmain : H[0]? = some .main) (hs : x.Small) (h1 : openingE x none ≠ 0 → k (.tup [iv 0, iv 0, iv 0, iv (openingE x none)]) H) (h2 : openingE x none = 0 → askR x = none → k (.tup [iv 0, iv 0, iv 0, iv 11]) H) (h3 : openingE x none = 0 → ∀ a b c : Nat, askR x = some (a, b, c) → k (.tup [iv a, iv b, iv c, iv 0]) H) : FnC lv Tryz.prog 55 H [x.av] k kp := by
 have hmn : ∀ L : List AObj, (H ++ L)[0]? = some .main := fun L => zay hmain;refine zak (rs := [.tmp 2, .tmp 3, .tmp 4, .tmp 5]) (nt := 81) F.f55 rfl rfl rfl (by simp) fun hH hA => ?_;simp only [argsT, Nat.reduceAdd, Ring.av];(repeat apply zaa);refine zl5 ?_;simp only [push_cast, seval, Ring.l];(repeat apply zaa);refine zl5 ?_;simp only [push_cast, seval];refine zl6 ((f99_c hnr (hmn _) hs zbA (fun hz => ?_) (fun hz => ?_)))
 ·(try simp only [push_cast, seval]);(repeat apply zaa);refine zl5 ?_;simp only [push_cast, seval];(repeat apply zaa);refine zae ?_;simp only [push_cast, seval];refine ⟨fun h => ?_, fun h => absurd (by simpa using h) hz⟩;(repeat apply zaa);refine zl5 ?_;simp only [push_cast, seval];(repeat apply zaa);refine zai ?_;simp only [push_cast, seval];exact endA hH (Wk.refl _) (by simp [zap, zaD]) (h1 hz)
 ·(try simp only [push_cast, seval]);(repeat apply zaa);refine zl5 ?_;simp only [push_cast, seval];obtain ⟨ho, hne⟩ := zaP.1 hz;have hx := zbp ho;have hx4 := hx.keys;have hx5 := hx.locks;have hle := zbl hx [];have hlk : x.l ++ opensL x = iv x.cuts :: aKeys x.keys :: aLocks x.locks :: aTries x.tries :: opensL x := rfl;(repeat apply zaa);refine zae ?_;simp only [push_cast, seval];(repeat apply zaa);refine zah ?_;simp only [push_cast, seval];(repeat apply zaa);refine zl5 ?_;simp only [push_cast, seval];(repeat apply zaa);refine zl5 ?_;simp only [push_cast, seval, List.mapM_cons, List.mapM_nil, Option.pure_def, Option.bind_eq_bind];(repeat apply zaa);refine zl5 ?_;simp only [push_cast, seval, hlk, aKeys];have hsz : ((List.map setEntry (truthsM x [])).toArray.size : Int) = ((truthsM x []).length : Nat) := by simp
  (repeat apply zaa);refine zag ?_;refine zaB x.keys.length (fun i : Nat => [(31, iv i)]) (fun i => H ++ [.cells x.l 26, .cells x.l 26, setObj (truthsM x []) (wears0 x).length, bestObj (askAt x i 0)]) (fun _ => True) (fun _ _ => rfl) (by simp only [push_cast, seval, List.forall_mem_cons, List.not_mem_nil, false_imp_iff, implies_true, List.forall_mem_nil]; simp [zaf, Wk.refl]) rfl (fun _ _ _ => by simp) trivial (fun hHs hLt i hin hi R hR => ?_);(repeat apply zaa);refine zl5 ?_;simp only [push_cast, seval];(repeat apply zaa);refine zae ?_;simp only [push_cast, seval];refine ⟨fun h => ?_, fun h => ?_⟩
  ·
   (repeat apply zaa);refine zah ?_;simp only [push_cast, seval];(repeat apply zaa);refine zag ?_;(repeat apply zaa);refine zl5 ?_;simp only [push_cast, seval];(repeat apply zaa);refine zl5 ?_;simp only [push_cast, seval, aLocks];(repeat apply zaa);refine zag ?_;refine zaB x.locks.length (fun j : Nat => [(40, iv j)]) (fun j => H ++ [.cells x.l 26, .cells x.l 26, setObj (truthsM x []) (wears0 x).length, bestObj (askAt x i j)]) (fun _ => True) (fun _ _ => rfl) (by simp only [push_cast, seval, List.forall_mem_cons, List.not_mem_nil, false_imp_iff, implies_true, List.forall_mem_nil]; simp [zaf, Wk.refl]) rfl (fun _ _ _ => by simp) trivial (fun hHs2 hLt2 j hjn hj R2 hR2 => ?_);(repeat apply zaa);refine zl5 ?_;simp only [push_cast, seval];(repeat apply zaa);refine zae ?_;simp only [push_cast, seval];refine ⟨fun h2 => ?_, fun h2 => ?_⟩
   ·
    have hil : i < x.keys.length := (by omega);have hjl : j < x.locks.length := (by omega);(repeat apply zaa);refine zah ?_;simp only [push_cast, seval];(repeat apply zaa);refine zag ?_;(repeat apply zaa);refine zl5 ?_;simp only [push_cast, seval];(repeat apply zaa);refine zl5 ?_;simp only [push_cast, seval];refine zl6 ((f102_c (x := x) (ts := truthsM x []) (ck := (wears0 x).length) (by simp only [push_cast, seval] <;> rfl) (zbm x []) (zba x []) (by omega) (by omega) (by omega) (zbt hx []) ?_));(try simp only [push_cast, seval]);have hcl := cnt_le x i j (truthsM x []);have hw : IntKind.i64.wrap (((truthsM x []).length : Int) - (cntM x i j (truthsM x []) : Nat)) = ((truthsM x []).length : Int) - (cntM x i j (truthsM x []) : Nat) := zau _ (by omega);have hmx : (if ((cntM x i j (truthsM x []) : Nat) : Int) < ((truthsM x []).length : Int) - (cntM x i j (truthsM x []) : Nat) then ((truthsM x []).length : Int) - (cntM x i j (truthsM x []) : Nat) else ((cntM x i j (truthsM x []) : Nat) : Int)) = (((testM x i j).2.2 : Nat) : Int) := by
     simp only [testM];split <;> omega
    (repeat apply zaa);refine zl5 ?_;simp only [push_cast, seval, zaL, hsz, hw, hmx];refine zl6 ((f133_c (id := H.length + 3) (o := askAt x i j) (a := i) (b := j) (c := (testM x i j).2.2) (by simp only [push_cast, seval] <;> rfl) ?_));have hj1 : IntKind.i64.wrap ((j : Int) + 1) = ((j + 1 : Nat) : Int) := (by rw [zau _ (by omega)]; rfl);rw [zbR H _ 3, ← show testM x i j = (i, j, (testM x i j).2.2) from rfl, ← zjC];(try simp only [push_cast, seval]);(repeat apply zaa);refine zl5 ?_;simp only [push_cast, seval, hj1];refine hR2 _ ⟨hjl, trivial, ?_⟩;exact (zax (zam rfl rfl) (by simp only [push_cast, seval]; simp [zaf, Wk.refl]))
   ·
    have hjx : j = x.locks.length := (by omega);subst hjx;(repeat apply zaa);refine zaq ?_;simp only [push_cast, seval];have hi1 : IntKind.i64.wrap ((i : Int) + 1) = ((i + 1 : Nat) : Int) := (by rw [zau _ (by omega)]; rfl);(repeat apply zaa);refine zl5 ?_;simp only [push_cast, seval, hi1];refine hR _ ⟨by omega, trivial, ?_⟩;rw [← zjD];exact (zax (zam rfl rfl) (by simp only [push_cast, seval]; simp [zaf, Wk.refl]))
  ·
   have hix : i = x.keys.length := (by omega);subst hix;(repeat apply zaa);refine zaq ?_;simp only [push_cast, seval];rw [show askAt x x.keys.length 0 = askM x from rfl];cases hm : askM x with
   | none =>
    simp only [bestObj];(repeat apply zaa);refine zl5 ?_;simp only [push_cast, seval];(repeat apply zaa);refine zae ?_;simp only [push_cast, seval];(repeat apply zaa);refine zl5 ?_;simp only [push_cast, seval];(repeat apply zaa);refine zai ?_;simp only [push_cast, seval];exact endA hH (Wk.refl _) (by simp [zap, zaD]) (h2 hz (by simp [askR, hm]))
   | some u =>
    obtain ⟨a, b, c⟩ := u;simp only [bestObj];(repeat apply zaa);refine zl5 ?_;simp only [push_cast, seval, zaL, hsz];(repeat apply zaa);refine zae ?_;simp only [push_cast, seval];refine ⟨fun h5 => ?_, fun h5 => ?_⟩
    ·have hc : (truthsM x []).length ≤ c := (by simpa using h5);(repeat apply zaa);refine zl5 ?_;simp only [push_cast, seval];(repeat apply zaa);refine zai ?_;simp only [push_cast, seval];exact endA hH (Wk.refl _) (by simp [zap, zaD]) (h2 hz (by simp [askR, hm]; omega))
    ·have hc : c < (truthsM x []).length := (by simpa using h5);(repeat apply zaa);refine zah ?_;simp only [push_cast, seval];(repeat apply zaa);refine zaT F.mixed 11 (by kernel_rfl) ?_;simp only [push_cast, seval];(repeat apply zaa);refine zai ?_;simp only [push_cast, seval];exact endA hH (Wk.refl _) (by simp [zap, zaD]) (h3 hz a b c (by simp [askR, hm]; omega))
end
open Go.Conc Go.Proofs
theorem zfj {P : Program} {t : TypeId} {op : BinOp} (hop : op = .eql ∨ op = .neq) (ht : P.underlying t = some .bool) (hg : P.eqGuardType P.depth t = false) (x y : Bool) (k : AV → Prop) : ABin P op t (.val (.bool x)) (.val (.bool y)) k = k (.val (.bool (if op == .neq then !(x == y) else (x == y)))) := by
 have hsure : Sure P (Op.equal t (.bool x) (.bool y)) (x == y) := zjZ (d := 9999) ht;have e : ABin P op t (.val (.bool x)) (.val (.bool y)) k = ((op = .eql ∨ op = .neq) ∧ one1 (AV.raw (.val (.bool x))) fun X => one1 (AV.raw (.val (.bool y))) fun Y => eqKind X Y = true ∧ P.eqGuardType P.depth t = false ∧ ∃ e, Sure P (Op.equal t X Y) e ∧ k (.val (.bool (if op == .neq then !e else e)))) := rfl;rw [e];apply propext;constructor
 ·rintro ⟨_, _, _, b, h1, h2⟩
  rw [hsure.uniq h1]; exact h2
 ·intro h;exact ⟨hop, rfl, hg, _, hsure, h⟩
theorem F.u4 : Tryz.prog.underlying 4 = some .bool := by kernel_rfl
theorem F.g4 : Tryz.prog.eqGuardType Tryz.prog.depth 4 = false := by kernel_rfl
theorem B4.eql (x y : Bool) (k : AV → Prop) : ABin Tryz.prog .eql 4 (.val (.bool x)) (.val (.bool y)) k = k (.val (.bool (x == y))) := zfj (.inl rfl) F.u4 F.g4 x y k
theorem B4.neq (x y : Bool) (k : AV → Prop) : ABin Tryz.prog .neq 4 (.val (.bool x)) (.val (.bool y)) k = k (.val (.bool (x != y))) := zfj (.inr rfl) F.u4 F.g4 x y k
attribute [push_cast] B4.eql B4.neq
theorem zdk {ts vs : List (List Int × Nat)} {y : List Int × Nat} (h : (vs.map (·.2)).Nodup ∧ ∀ z ∈ vs, z ∈ ts) (hy : y ∈ ts) (hn : y.2 ∉ vs.map (·.2)) : ((vs ++ [y]).map (·.2)).Nodup ∧ ∀ z ∈ vs ++ [y], z ∈ ts := by
 refine ⟨?_, fun z hz => ?_⟩
 ·rw [List.map_append, List.nodup_append];refine ⟨h.1, by simp, fun a ha b hb => ?_⟩;simp at hb; subst hb;intro e; subst e; exact hn ha
 ·rcases List.mem_append.1 hz with h' | h'
  ·exact h.2 z h'
  ·rw [List.mem_singleton.1 h']; exact hy
theorem zdl {ts vs : List (List Int × Nat)} {y : List Int × Nat} (h : ((vs ++ [y]).map (·.2)).Nodup ∧ ∀ z ∈ vs ++ [y], z ∈ ts) : ts.length - (vs ++ [y]).length < ts.length - vs.length := by
 have h1 : (vs ++ [y]).Nodup := zbo _ h.1;have := h1.length_le_of_subset h.2;simp at this ⊢; omega
theorem zdm (vs : List (List Int × Nat)) (y : List Int × Nat) : ((vs.map (·.2)).toArray.push y.2) = ((vs ++ [y]).map (·.2)).toArray := by simp
theorem u8z (t : List Int) (k : Nat) {w : Int} (h : t[k]? = some w) : t.getD k 0 = w := by rw [List.getD_eq_getElem?_getD, h]; rfl
def inTruth (x : Ring) (t : List Int) (k : Nat) : Nat := opensM x k (t.getD k 0).toNat
theorem zdn {x : Ring} (hl4 : x.locks.length ≤ 8) (k w : Nat) : opensM x k w < 256 := by
 unfold opensM;split
 ·exact u8_of (zb5 _ _ _ _) hl4
 ·decide
def apartM (x : Ring) (t : List Int) (keys : List Int) (a b : Nat) : Bool := keys.any fun k => (inTruth x t k.toNat).testBit a != (inTruth x t k.toNat).testBit b
theorem any_take {α : Type} {f : α → Bool} {l : List α} {i : Nat} {a : α} (h : l[i]? = some a) : (l.take (i + 1)).any f = ((l.take i).any f || f a) := by
 obtain ⟨hj, rfl⟩ := List.getElem?_eq_some_iff.1 h;rw [List.take_succ_eq_append_getElem hj, List.any_append]; simp
theorem any_of {α : Type} {f : α → Bool} {l : List α} {i : Nat} {a : α} (h : l[i]? = some a) (hf : f a = true) : l.any f = true := List.any_eq_true.2 ⟨a, zas h, hf⟩
section
variable {lv : Bool} {H : List AObj} {k kp : AV → List AObj → Prop}
theorem f117_c {x : Ring} {t keys : List Int} {e : End} {a b : Nat} (hl4 : x.locks.length ≤ 8) (ht : t.length = 4) (htb : ∀ w ∈ t, 0 ≤ w ∧ w ≤ 2) (hkeys : ∀ q ∈ keys, 0 ≤ q ∧ q < 4) (hkl : keys.length < 2 ^ 30) (hk : k (bv (apartM x t keys a b)) H) : FnC lv Tryz.prog 117 H [.rp (x.l ++ opensL x), .agg (t.map iv), .sl keys.length (keys.map iv) e, iv a, iv b] k kp := by
 refine zak (rs := [.tmp 10]) (nt := 38) F.f117 rfl rfl rfl (by simp) fun hH hA => ?_;simp only [argsT, Nat.reduceAdd];(repeat apply zaa);refine zl5 ?_;simp only [push_cast, seval];(repeat apply zaa);refine zl5 ?_;simp only [push_cast, seval];(repeat apply zaa);refine zag ?_;refine zaB keys.length (fun i : Nat => [(16, iv i)]) (fun _ => H ++ [.cells (t.map iv) 132]) (fun i => (keys.take i).any (fun q => (inTruth x t q.toNat).testBit a != (inTruth x t q.toNat).testBit b) = false) (fun _ _ => rfl) (by simp only [push_cast, seval, List.forall_mem_cons, List.not_mem_nil, false_imp_iff, implies_true, List.forall_mem_nil]; simp [zaf, Wk.refl]) rfl (fun _ _ _ => rfl) (by simp) (fun hHs hLt i hin hi R hR => ?_);(repeat apply zaa);refine zl5 ?_;simp only [push_cast, seval];(repeat apply zaa);refine zae ?_;simp only [push_cast, seval];refine ⟨fun h => ?_, fun h => ?_⟩
 ·
  have hil : i < keys.length := by omega
  obtain ⟨q, hq⟩ := zaE hil;obtain ⟨hq0, hq4⟩ := hkeys q (zas hq);obtain ⟨kn, rfl⟩ : ∃ m : Nat, q = m := ⟨q.toNat, by omega⟩;obtain ⟨w, hw⟩ := zaE (xs := t) (i := kn) (by omega);have hwb := htb w (zas hw);obtain ⟨wn, rfl⟩ : ∃ n : Nat, w = n := ⟨w.toNat, by omega⟩;have b4 : (0 ≤ (kn : Int) ∧ (kn : Int) < 4) = True := by simp; omega
  have b3 : (0 ≤ (wn : Int) ∧ (wn : Int) < 3) = True := by simp; omega
  have hm := zdn hl4 kn wn;have hin : inTruth x t (kn : Int).toNat = opensM x kn wn := by unfold inTruth; rw [Int.toNat_natCast, u8z t kn hw]; rfl
  have sh4 : AV.shift 4 (.rp (x.l ++ opensL x)) = some (.rp (opensL x)) := by simp [Ring.l, zdf, zdg]
  (repeat apply zaa);refine zah ?_;simp only [push_cast, seval];(repeat apply zaa);refine zag ?_;(repeat apply zaa);refine zl5 ?_;simp only [push_cast, seval, za2 hq, zaz hil];(repeat apply zaa);refine zaT F.mixed 10 (by kernel_rfl) ?_;simp only [push_cast, seval, b4, b3, zbf hw, sh4, zcH x (show kn < 4 by omega), zb0 x (show kn < 4 by omega) (show wn < 3 by omega)];(repeat apply zaa);refine zl5 ?_;simp only [push_cast, seval];refine zl6 ((f135_c hm ?_));(try simp only [push_cast, seval]);refine zl6 ((f135_c hm ?_));(try simp only [push_cast, seval]);(repeat apply zaa);refine zae ?_;simp only [push_cast, seval];refine ⟨fun h2 => ?_, fun h2 => ?_⟩
  ·
   (repeat apply zaa);refine zl5 ?_;simp only [push_cast, seval];(repeat apply zaa);refine zai ?_;simp only [push_cast, seval];have hr : apartM x t keys a b = true := any_of hq (by rw [hin]; simpa using h2);rw [hr] at hk;exact endA hH (Wk.refl _) (by simp [zap]) hk
  ·
   (repeat apply zaa);refine zah ?_;simp only [push_cast, seval];have hi1 : IntKind.i64.wrap ((i : Int) + 1) = ((i + 1 : Nat) : Int) := (by rw [zau _ (by omega)]; rfl);(repeat apply zaa);refine zl5 ?_;simp only [push_cast, seval, hi1];refine hR _ ⟨hil, ?_, ?_⟩
   ·rw [any_take hq, hi, hin]; simpa using h2
   ·exact (zax (zam rfl rfl) (by simp only [push_cast, seval]; simp [zaf, Wk.refl]))
 ·
  have hix : i = keys.length := by omega
  subst hix;(repeat apply zaa);refine zaq ?_;simp only [push_cast, seval];(repeat apply zaa);refine zl5 ?_;simp only [push_cast, seval];(repeat apply zaa);refine zai ?_;simp only [push_cast, seval];rw [List.take_length] at hi;have hr : apartM x t keys a b = false := hi;rw [hr] at hk;exact endA hH (Wk.refl _) (by simp [zap]) hk
end
open Go.Conc Go.Proofs
theorem or_u8 {a b : Nat} (ha : a < 256) (hb : b < 256) : IntKind.u8.wrap (BitVec.ofInt IntKind.u8.bits (a : Int) ||| BitVec.ofInt IntKind.u8.bits (b : Int)).toNat = ((a ||| b : Nat) : Int) := by
 rw [BitVec.toNat_or, zk8 ha, zk8 hb];exact zfk (Nat.or_lt_two_pow (n := 8) ha hb)
theorem zlC {n : Nat} (h : n ≤ 4) : IntKind.u8.wrap (IntKind.u8.wrap (1 * 2 ^ (min n IntKind.u8.bits)) - 1) = ((2 ^ n - 1 : Nat) : Int) := by
 have : n = 0 ∨ n = 1 ∨ n = 2 ∨ n = 3 ∨ n = 4 := by omega
 rcases this with rfl | rfl | rfl | rfl | rfl <;> decide
def orM (x : Ring) (t : List Int) (keys : List Int) : Nat := keys.foldl (fun a q => a ||| inTruth x t q.toNat) 0
theorem orM_take {x : Ring} {t keys : List Int} {i : Nat} {q : Int} (h : keys[i]? = some q) : orM x t (keys.take (i + 1)) = orM x t (keys.take i) ||| inTruth x t q.toNat := by
 obtain ⟨hj, rfl⟩ := List.getElem?_eq_some_iff.1 h;unfold orM;rw [List.take_succ_eq_append_getElem hj, List.foldl_append]; rfl
theorem orM_lt {x : Ring} (hl4 : x.locks.length ≤ 8) (t keys : List Int) : orM x t keys < 256 := by
 unfold orM;have : ∀ (l : List Int) (a : Nat), a < 256 → l.foldl (fun a q => a ||| inTruth x t q.toNat) a < 256 := by
  intro l;induction l with
  | nil => exact fun a h => h
  | cons y l ih => exact fun a h => ih _ (Nat.or_lt_two_pow (n := 8) h (zdn hl4 _ _))
 exact this keys 0 (by decide)
def coverB (x : Ring) (ts : List (List Int × Nat)) (keys : List Int) : Bool := ts.all fun y => orM x y.1 keys == 2 ^ x.locks.length - 1
def coverM (x : Ring) : Option (List Int) := fewestM x.keys.length (coverB x (truthsM x []))
section
variable {lv : Bool} {H : List AObj} {k kp : AV → List AObj → Prop}
theorem f114_c {x : Ring} {keys : List Int} {e : End} {l r id ck : Nat} {ts : List (List Int × Nat)} (hl : H[l]? = some (.cells [.mp id] 118)) (hr : H[r]? = some (.cells [.rp (x.l ++ opensL x)] 100)) (hid : H[id]? = some (setObj ts ck)) (hb : ∀ y ∈ ts, y.2 < ck) (hnd : (ts.map (·.2)).Nodup) (hl4 : x.locks.length ≤ 4) (h4 : ∀ y ∈ ts, y.1.length = 4 ∧ ∀ w ∈ y.1, 0 ≤ w ∧ w ≤ 2) (hkeys : ∀ q ∈ keys, 0 ≤ q ∧ q < 4) (hkl : keys.length < 2 ^ 30) (hk : k (bv (coverB x ts keys)) H) : FnC lv Tryz.prog 114 H [.sl keys.length (keys.map iv) e, .op l 0, .op r 0] k kp := by
 refine zak (rs := [.tmp 4]) (nt := 44) F.f114 rfl rfl rfl (by simp) fun hH hA => ?_;simp only [argsT, Nat.reduceAdd];rw [setObj] at hid;(repeat apply zaa);refine zl5 ?_;simp only [push_cast, seval];(repeat apply zaa);refine zl5 ?_;simp only [push_cast, seval, hl, hid];have hid' : ∀ L : List AObj, (H ++ L)[id]? = some (AObj.obj (Obj.map (List.map setEntry ts).toArray ck)) := fun L => zay hid;have hr' : ∀ L : List AObj, (H ++ L)[r]? = some (.cells [.rp (x.l ++ opensL x)] 100) := fun L => zay hr;have hall := zcO ts ck hb;have hokI : ∀ sn, HOk (H ++ [AObj.iter id ck sn ck]) := fun sn z hz => by
  have hl := get_lt hid;rcases List.mem_append.1 hz with h | h
  ·exact (hH z h).mono (by simp)
  ·rw [List.mem_singleton.1 h]; show id < _; simp; omega
 (repeat apply zaa);refine zag ?_;refine za9 (measure fun vs : List (List Int × Nat) => ts.length - vs.length).wf (fun vs => []) (fun vs => H ++ [.iter id ck (vs.map (·.2)).toArray ck]) (fun vs => ((vs.map (·.2)).Nodup ∧ ∀ y ∈ vs, y ∈ ts) ∧ ∀ y ∈ vs, (orM x y.1 keys == 2 ^ x.locks.length - 1) = true) [] (fun _ _ => rfl) (by simp) (by simp) (fun _ _ => by simp) ⟨⟨by simp, by simp⟩, by simp⟩ (fun hHs hLt vs hok R hR => ?_);(repeat apply zaa);refine zl5 ?_;simp only [push_cast, seval, hid'];refine ⟨hall.elim .inl (fun h => .inr (.inl h)), fun e he hn => ?_, fun hs => ?_⟩
 ·obtain ⟨y, hy, rfl⟩ : ∃ y ∈ ts, setEntry y = e := by simpa using he
  have hyn : y.2 ∉ vs.map (·.2) := by simpa [setEntry] using hn
  have hok' := zdk hok.1 hy hyn;have hrel := zdl hok';(repeat apply zaa);refine zae ?_;simp only [push_cast, seval];(repeat apply zaa);refine zah ?_;simp only [push_cast, seval];(repeat apply zaa);refine zag ?_;obtain ⟨h41, h42⟩ := h4 y hy;have hborn : (setEntry y).born = y.2 := rfl;have hlen : (y.1.map iv).length = 4 := by simp [h41]
  have hdrop : List.drop 4 [AV.val (Value.int IntKind.i64 0), AV.val (Value.int IntKind.i64 0), AV.val (Value.int IntKind.i64 0), AV.val (Value.int IntKind.i64 0)] = [] := rfl;(repeat apply zaa);refine zl5 ?_;simp only [push_cast, seval, hid', Array.back?_push, hborn, zcL hnd hy, zb7, h41, hlen, hdrop];(repeat apply zaa);refine zl5 ?_;simp only [push_cast, seval];(repeat apply zaa);refine zl5 ?_;simp only [push_cast, seval];(repeat apply zaa);refine zag ?_;rw [zdm];have hokC : HOk (H ++ [AObj.iter id ck ((vs ++ [y]).map (·.2)).toArray ck, .cells (y.1.map iv) 132]) := by
   have h1 : (H ++ [AObj.iter id ck ((vs ++ [y]).map (·.2)).toArray ck, .cells (y.1.map iv) 132]) = (H ++ [AObj.iter id ck ((vs ++ [y]).map (·.2)).toArray ck]) ++ [.cells (y.1.map iv) 132] := (by simp);rw [h1];refine zc6 (hokI _) fun z hz n => ?_;rw [List.mem_singleton.1 hz];intro a ha;obtain ⟨w, _, rfl⟩ := List.mem_map.1 ha;exact .val _
  refine zaB keys.length (fun i : Nat => [(6, uv (orM x y.1 (keys.take i))), (17, iv i)]) (fun _ => H ++ [.iter id ck ((vs ++ [y]).map (·.2)).toArray ck, .cells (y.1.map iv) 132]) (fun i => True) (fun _ _ => rfl) (by simp only [push_cast, seval, List.forall_mem_cons, List.not_mem_nil, false_imp_iff, implies_true, List.forall_mem_nil]; simp [zaf, Wk.refl]; exact Wk.refl _) rfl (fun _ _ _ => rfl) trivial (fun hHs2 hLt2 i hin hi R2 hR2 => ?_);(repeat apply zaa);refine zl5 ?_;simp only [push_cast, seval];(repeat apply zaa);refine zae ?_;simp only [push_cast, seval];refine ⟨fun h => ?_, fun h => ?_⟩
  ·
   have hil : i < keys.length := (by omega);obtain ⟨q, hq⟩ := zaE hil;obtain ⟨hq0, hq4⟩ := hkeys q (zas hq);obtain ⟨kn, rfl⟩ : ∃ m : Nat, q = m := ⟨q.toNat, by omega⟩;obtain ⟨w, hw⟩ := zaE (xs := y.1) (i := kn) (by omega);have hwb := h42 w (zas hw);obtain ⟨wn, rfl⟩ : ∃ n : Nat, w = n := ⟨w.toNat, by omega⟩;have b4 : (0 ≤ (kn : Int) ∧ (kn : Int) < 4) = True := (by simp; omega);have b3 : (0 ≤ (wn : Int) ∧ (wn : Int) < 3) = True := (by simp; omega);have hm := zdn (x := x) (by omega) kn wn;have ho := orM_lt (x := x) (by omega) y.1 (keys.take i);have hin : inTruth x y.1 (kn : Int).toNat = opensM x kn wn := (by unfold inTruth; rw [Int.toNat_natCast, u8z y.1 kn hw]; rfl);have sh4 : AV.shift 4 (.rp (x.l ++ opensL x)) = some (.rp (opensL x)) := (by simp [Ring.l, zdf, zdg]);have hi1 : IntKind.i64.wrap ((i : Int) + 1) = ((i + 1 : Nat) : Int) := (by rw [zau _ (by omega)]; rfl);(repeat apply zaa);refine zah ?_;simp only [push_cast, seval];(repeat apply zaa);refine zag ?_;(repeat apply zaa);refine zl5 ?_;simp only [push_cast, seval, za2 hq, zaz hil];(repeat apply zaa);refine zaT F.mixed 12 (by kernel_rfl) ?_;simp only [push_cast, seval, b4, b3, hr', zbf hw, sh4, zcH x (show kn < 4 by omega), zb0 x (show kn < 4 by omega) (show wn < 3 by omega), zlp, or_u8 ho hm];(repeat apply zaa);refine zl5 ?_;simp only [push_cast, seval, hi1];refine hR2 _ ⟨hil, trivial, ?_⟩;rw [orM_take hq, hin];exact (zax (zam rfl rfl) (by simp only [push_cast, seval]; simp [zaf, Wk.refl]))
  ·
   have hix : i = keys.length := (by omega);subst hix;(repeat apply zaa);refine zaq ?_;simp only [push_cast, seval];rw [List.take_length];(repeat apply zaa);refine zl5 ?_;simp only [push_cast, seval, hr', Ring.l, aLocks, ziv, zlE, zlC hl4];(repeat apply zaa);refine zae ?_;simp only [push_cast, seval];refine ⟨fun h2 => ?_, fun h2 => ?_⟩
   ·
    have hne : ¬ orM x y.1 keys = 2 ^ x.locks.length - 1 := by
     intro e2;rw [e2] at h2;simp at h2
    have hr : coverB x ts keys = false := by
     apply Bool.eq_false_iff.2;intro hc;exact hne (by simpa using List.all_eq_true.1 hc y hy)
    (repeat apply zaa);refine zl5 ?_;simp only [push_cast, seval];(repeat apply zaa);refine zai ?_;simp only [push_cast, seval];rw [hr] at hk;exact endV hH hk
   ·
    have heq : orM x y.1 keys = 2 ^ x.locks.length - 1 := by
     have h3 : ((orM x y.1 keys : Nat) : Int) = ((2 ^ x.locks.length - 1 : Nat) : Int) := (by simpa using h2);exact Int.ofNat_inj.1 h3
    (repeat apply zaa);refine zah ?_;simp only [push_cast, seval];refine hR _ ⟨vs ++ [y], hrel, ⟨hok', fun z hz => ?_⟩, ?_⟩
    ·rcases List.mem_append.1 hz with h | h
     ·exact hok.2 z h
     ·rw [List.mem_singleton.1 h]; simpa using heq
    ·exact zat (zam rfl rfl) (by simp) (hokI _) (by simp)
 ·have hp : vs.Perm ts := zct hok.1.1 hnd hok.1.2 fun y hy => by
   have := hs (setEntry y) (by simp; exact ⟨y.1, y.2, hy, rfl⟩) (hb y hy);simpa [setEntry] using this
  have hr : coverB x ts keys = true := List.all_eq_true.2 fun y hy => hok.2 y (hp.mem_iff.2 hy);(repeat apply zaa);refine zae ?_;simp only [push_cast, seval];(repeat apply zaa);refine zaq ?_;simp only [push_cast, seval];(repeat apply zaa);refine zl5 ?_;simp only [push_cast, seval];(repeat apply zaa);refine zai ?_;simp only [push_cast, seval];rw [hr] at hk;exact endV hH hk
theorem so_cover {l r id ck : Nat} {x : Ring} {ts : List (List Int × Nat)} (hl : H[l]? = some (.cells [.mp id] 118)) (hr : H[r]? = some (.cells [.rp (x.l ++ opensL x)] 100)) (hid : H[id]? = some (setObj ts ck)) (hb : ∀ y ∈ ts, y.2 < ck) (hnd : (ts.map (·.2)).Nodup) (hl4 : x.locks.length ≤ 4) (h4 : ∀ y ∈ ts, y.1.length = 4 ∧ ∀ w ∈ y.1, 0 ≤ w ∧ w ≤ 2) : SoC lv H (.fn (.func 114) [] [.op l 0, .op r 0]) (coverB x ts) (fun xs => (∀ q ∈ xs, 0 ≤ q ∧ q < 4) ∧ xs.length ≤ 6) := fun L xs e k kp hp h =>
 zad (by kernel_rfl) (f114_c (zay hl) (zay hr) (zay hid) hb hnd hl4 h4 hp.1 (Nat.lt_of_le_of_lt hp.2 (by decide)) h)
theorem keysP {n : Nat} (hn : n ≤ 4) : ∀ k, k ≤ n → ∀ y ∈ levelM n k, (∀ q ∈ y, 0 ≤ q ∧ q < 4) ∧ y.length ≤ 6 := fun k hk y hy => by
 obtain ⟨h1, h2⟩ := zfE n (by omega) k (by omega) y hy;refine ⟨fun q hq => ?_, by omega⟩;have := h2 q hq;omega
theorem f38_c {x : Ring} (hnr : NewRingC lv) (hmain : H[0]? = some .main) (hs : x.Small) (h1 : openingE x none ≠ 0 → k (.tup [.sl 0 [] .exact, iv (openingE x none)]) H) (h2 : openingE x none = 0 → coverM x = none → k (.tup [.sl 0 [] .exact, iv 11]) H) (h3 : openingE x none = 0 → ∀ xs, coverM x = some xs → k (.tup [aInts xs, iv 0]) H) : FnC lv Tryz.prog 38 H [x.av] k kp := by
 have hmn : ∀ L : List AObj, (H ++ L)[0]? = some .main := fun L => zay hmain;refine zak (rs := [.tmp 2, .tmp 3]) (nt := 33) F.f38 rfl rfl rfl (by simp) fun hH hA => ?_;simp only [argsT, Nat.reduceAdd, Ring.av];(repeat apply zaa);refine zl5 ?_;simp only [push_cast, seval, Ring.l];(repeat apply zaa);refine zl5 ?_;simp only [push_cast, seval];refine zl6 ((f99_c hnr (hmn _) hs zbA (fun hz => ?_) (fun hz => ?_)))
 ·(try simp only [push_cast, seval]);(repeat apply zaa);refine zl5 ?_;simp only [push_cast, seval];(repeat apply zaa);refine zae ?_;simp only [push_cast, seval];refine ⟨fun h => ?_, fun h => absurd (by simpa using h) hz⟩;(repeat apply zaa);refine zl5 ?_;simp only [push_cast, seval];(repeat apply zaa);refine zai ?_;simp only [push_cast, seval];exact endA hH (Wk.refl _) (by simp [zap, zaD, zbh]) (h1 hz)
 ·(try simp only [push_cast, seval]);(repeat apply zaa);refine zl5 ?_;simp only [push_cast, seval];obtain ⟨ho, hne⟩ := zaP.1 hz;have hx := zbp ho;have hx4 := hx.keys;have hx5 := hx.locks;have hle := zbl hx [];have hlk : x.l ++ opensL x = iv x.cuts :: aKeys x.keys :: aLocks x.locks :: aTries x.tries :: opensL x := rfl;(repeat apply zaa);refine zae ?_;simp only [push_cast, seval];(repeat apply zaa);refine zah ?_;simp only [push_cast, seval];(repeat apply zaa);refine zl5 ?_;simp only [push_cast, seval, List.mapM_cons, List.mapM_nil, Option.pure_def, Option.bind_eq_bind, hlk, aKeys];refine zl6 ((f115_c (by omega) ?_));(try simp only [push_cast, seval]);refine zl6 ((f113_c (P := fun xs => (∀ q ∈ xs, 0 ≤ q ∧ q < 4) ∧ xs.length ≤ 6) (by omega) (so_cover (l := H.length + 4) (r := H.length + 3) (id := H.length + 2) (by simp only [push_cast, seval] <;> rfl) (by simp only [push_cast, seval] <;> rfl) (by simp only [push_cast, seval] <;> rfl) (zbm x []) (zba x []) hx5 (zbt hx [])) (keysP hx4) ?_));(try simp only [push_cast, seval]);rw [show fewestM x.keys.length (coverB x (truthsM x [])) = coverM x from rfl];(repeat apply zaa);refine zl5 ?_;simp only [push_cast, seval];(repeat apply zaa);refine zae ?_;simp only [push_cast, seval];cases hm : coverM x with
  | none =>
   refine ⟨fun h => ?_, fun h => by simp at h⟩;(repeat apply zaa);refine zl5 ?_;simp only [push_cast, seval];(repeat apply zaa);refine zai ?_;simp only [push_cast, seval];exact endA hH (Wk.refl _) (by simp [zap, zaD, zbh]) (h2 hz hm)
  | some xs =>
   refine ⟨fun h => by simp at h, fun h => ?_⟩;(repeat apply zaa);refine zah ?_;simp only [push_cast, seval];(repeat apply zaa);refine zl5 ?_;simp only [push_cast, seval];(repeat apply zaa);refine zai ?_;simp only [push_cast, seval];exact endA hH (Wk.refl _) (by simp [zap, zaD, zbi]) (h3 hz xs hm)
end
open Go.Conc Go.Proofs
def pairsB (x : Ring) (t keys : List Int) : Bool := (List.range x.locks.length).all fun b => (List.range b).all fun a => apartM x t keys a b
def tellB (x : Ring) (ts : List (List Int × Nat)) (keys : List Int) : Bool := ts.all fun y => pairsB x y.1 keys
def tellM (x : Ring) : Option (List Int) := fewestM x.keys.length (tellB x (truthsM x []))
section
variable {lv : Bool} {H : List AObj} {k kp : AV → List AObj → Prop}
theorem f120_c {x : Ring} {keys : List Int} {e : End} {l r id ck : Nat} {ts : List (List Int × Nat)} (hl : H[l]? = some (.cells [.mp id] 118)) (hr : H[r]? = some (.cells [.rp (x.l ++ opensL x)] 100)) (hid : H[id]? = some (setObj ts ck)) (hb : ∀ y ∈ ts, y.2 < ck) (hnd : (ts.map (·.2)).Nodup) (hl4 : x.locks.length ≤ 4) (h4 : ∀ y ∈ ts, y.1.length = 4 ∧ ∀ w ∈ y.1, 0 ≤ w ∧ w ≤ 2) (hkeys : ∀ q ∈ keys, 0 ≤ q ∧ q < 4) (hkl : keys.length < 2 ^ 30) (hk : k (bv (tellB x ts keys)) H) : FnC lv Tryz.prog 120 H [.sl keys.length (keys.map iv) e, .op l 0, .op r 0] k kp := by
 refine zak (rs := [.tmp 4]) (nt := 36) F.f120 rfl rfl rfl (by simp) fun hH hA => ?_;simp only [argsT, Nat.reduceAdd];rw [setObj] at hid;(repeat apply zaa);refine zl5 ?_;simp only [push_cast, seval];(repeat apply zaa);refine zl5 ?_;simp only [push_cast, seval, hl, hid];have hid' : ∀ L : List AObj, (H ++ L)[id]? = some (AObj.obj (Obj.map (List.map setEntry ts).toArray ck)) := fun L => zay hid;have hr' : ∀ L : List AObj, (H ++ L)[r]? = some (.cells [.rp (x.l ++ opensL x)] 100) := fun L => zay hr;have hall := zcO ts ck hb;have hokI : ∀ sn, HOk (H ++ [AObj.iter id ck sn ck]) := fun sn z hz => by
  have hl := get_lt hid;rcases List.mem_append.1 hz with h | h
  ·exact (hH z h).mono (by simp)
  ·rw [List.mem_singleton.1 h]; show id < _; simp; omega
 (repeat apply zaa);refine zag ?_;refine za9 (measure fun vs : List (List Int × Nat) => ts.length - vs.length).wf (fun vs => []) (fun vs => H ++ [.iter id ck (vs.map (·.2)).toArray ck]) (fun vs => ((vs.map (·.2)).Nodup ∧ ∀ y ∈ vs, y ∈ ts) ∧ ∀ y ∈ vs, pairsB x y.1 keys = true) [] (fun _ _ => rfl) (by simp) (by simp) (fun _ _ => by simp) ⟨⟨by simp, by simp⟩, by simp⟩ (fun hHs hLt vs hok R hR => ?_);(repeat apply zaa);refine zl5 ?_;simp only [push_cast, seval, hid'];refine ⟨hall.elim .inl (fun h => .inr (.inl h)), fun e he hn => ?_, fun hs => ?_⟩
 ·obtain ⟨y, hy, rfl⟩ : ∃ y ∈ ts, setEntry y = e := by simpa using he
  have hyn : y.2 ∉ vs.map (·.2) := by simpa [setEntry] using hn
  have hok' := zdk hok.1 hy hyn;have hrel := zdl hok';(repeat apply zaa);refine zae ?_;simp only [push_cast, seval];(repeat apply zaa);refine zah ?_;simp only [push_cast, seval];(repeat apply zaa);refine zag ?_;obtain ⟨h41, h42⟩ := h4 y hy;have hborn : (setEntry y).born = y.2 := rfl;have hlen : (y.1.map iv).length = 4 := by simp [h41]
  have hdrop : List.drop 4 [AV.val (Value.int IntKind.i64 0), AV.val (Value.int IntKind.i64 0), AV.val (Value.int IntKind.i64 0), AV.val (Value.int IntKind.i64 0)] = [] := rfl;(repeat apply zaa);refine zl5 ?_;simp only [push_cast, seval, hid', Array.back?_push, hborn, zcL hnd hy, zb7, h41, hlen, hdrop];rw [zdm];have hokC : HOk (H ++ [AObj.iter id ck ((vs ++ [y]).map (·.2)).toArray ck, .cells (y.1.map iv) 132]) := by
   have h1 : (H ++ [AObj.iter id ck ((vs ++ [y]).map (·.2)).toArray ck, .cells (y.1.map iv) 132]) = (H ++ [AObj.iter id ck ((vs ++ [y]).map (·.2)).toArray ck]) ++ [.cells (y.1.map iv) 132] := (by simp);rw [h1];refine zc6 (hokI _) fun z hz n => ?_;rw [List.mem_singleton.1 hz];intro a ha;obtain ⟨w, _, rfl⟩ := List.mem_map.1 ha;exact .val _
  (repeat apply zaa);refine zl5 ?_;simp only [push_cast, seval, hr', Ring.l, aLocks];(repeat apply zaa);refine zag ?_;refine zaB x.locks.length (fun b : Nat => [(20, iv b)]) (fun _ => H ++ [.iter id ck ((vs ++ [y]).map (·.2)).toArray ck, .cells (y.1.map iv) 132]) (fun b => ∀ b' < b, ∀ a < b', apartM x y.1 keys a b' = true) (fun _ _ => rfl) (by simp only [push_cast, seval, List.forall_mem_cons, List.not_mem_nil, false_imp_iff, implies_true, List.forall_mem_nil]; simp [zaf, Wk.refl]) rfl (fun _ _ _ => rfl) (fun b hb => by omega) (fun hHs2 hLt2 b hbn hbo R2 hR2 => ?_);(repeat apply zaa);refine zl5 ?_;simp only [push_cast, seval];(repeat apply zaa);refine zae ?_;simp only [push_cast, seval];refine ⟨fun h => ?_, fun h => ?_⟩
  ·
   have hbl : b < x.locks.length := (by omega);(repeat apply zaa);refine zah ?_;simp only [push_cast, seval];(repeat apply zaa);refine zag ?_;(repeat apply zaa);refine zl5 ?_;simp only [push_cast, seval];(repeat apply zaa);refine zl5 ?_;simp only [push_cast, seval];(repeat apply zaa);refine zag ?_;refine zaB b (fun a : Nat => [(24, iv a)]) (fun _ => H ++ [.iter id ck ((vs ++ [y]).map (·.2)).toArray ck, .cells (y.1.map iv) 132]) (fun a => ∀ a' < a, apartM x y.1 keys a' b = true) (fun _ _ => rfl) (by simp only [push_cast, seval, List.forall_mem_cons, List.not_mem_nil, false_imp_iff, implies_true, List.forall_mem_nil]; simp [zaf, Wk.refl]) rfl (fun _ _ _ => rfl) (fun a ha => by omega) (fun hHs3 hLt3 a han hao R3 hR3 => ?_);(repeat apply zaa);refine zl5 ?_;simp only [push_cast, seval];(repeat apply zaa);refine zae ?_;simp only [push_cast, seval];refine ⟨fun h2 => ?_, fun h2 => ?_⟩
   ·
    have hab : a < b := (by omega);(repeat apply zaa);refine zah ?_;simp only [push_cast, seval];(repeat apply zaa);refine zag ?_;(repeat apply zaa);refine zl5 ?_;simp only [push_cast, seval];have htk : List.take 4 (y.1.map iv) = y.1.map iv := List.take_of_length_le (by omega);(repeat apply zaa);refine zl5 ?_;simp only [push_cast, seval, hr', hlen, htk];refine zl6 ((f117_c (x := x) (by omega) h41 h42 hkeys hkl ?_));(try simp only [push_cast, seval]);(repeat apply zaa);refine zae ?_;simp only [push_cast, seval];refine ⟨fun h3 => ?_, fun h3 => ?_⟩
    ·
     have hr : tellB x ts keys = false := by
      apply Bool.eq_false_iff.2;intro hc;have h4 := List.all_eq_true.1 hc y hy;have h5 := List.all_eq_true.1 h4 b (List.mem_range.2 hbl);have h6 := List.all_eq_true.1 h5 a (List.mem_range.2 hab);rw [h6] at h3; simp at h3
     (repeat apply zaa);refine zl5 ?_;simp only [push_cast, seval];(repeat apply zaa);refine zai ?_;simp only [push_cast, seval];rw [hr] at hk;exact endV hH hk
    ·
     have ha1 : IntKind.i64.wrap ((a : Int) + 1) = ((a + 1 : Nat) : Int) := (by rw [zau _ (by omega)]; rfl);(repeat apply zaa);refine zah ?_;simp only [push_cast, seval];(repeat apply zaa);refine zl5 ?_;simp only [push_cast, seval, ha1];refine hR3 _ ⟨hab, fun a' ha' => ?_, ?_⟩
     ·by_cases e3 : a' = a
      ·subst e3; simpa using h3
      ·exact hao a' (by omega)
     ·exact (zax (zam rfl rfl) (by simp only [push_cast, seval]; simp [zaf, Wk.refl]))
   ·
    have hax : a = b := (by omega);subst hax;(repeat apply zaa);refine zaq ?_;simp only [push_cast, seval];have hb1 : IntKind.i64.wrap ((a : Int) + 1) = ((a + 1 : Nat) : Int) := (by rw [zau _ (by omega)]; rfl);(repeat apply zaa);refine zl5 ?_;simp only [push_cast, seval, hb1];refine hR2 _ ⟨hbl, fun b' hb' a' ha' => ?_, ?_⟩
    ·by_cases e3 : b' = a
     ·subst e3; exact hao a' ha'
     ·exact hbo b' (by omega) a' ha'
    ·exact (zax (zam rfl rfl) (by simp only [push_cast, seval]; simp [zaf, Wk.refl]))
  ·
   have hbx : b = x.locks.length := (by omega);subst hbx;(repeat apply zaa);refine zaq ?_;simp only [push_cast, seval];have heq : pairsB x y.1 keys = true := List.all_eq_true.2 fun b hb => List.all_eq_true.2 fun a ha => hbo b (List.mem_range.1 hb) a (List.mem_range.1 ha);refine hR _ ⟨vs ++ [y], hrel, ⟨hok', fun z hz => ?_⟩, ?_⟩
   ·rcases List.mem_append.1 hz with h | h
    ·exact hok.2 z h
    ·rw [List.mem_singleton.1 h]; exact heq
   ·exact zat (zam rfl rfl) (by simp) (hokI _) (by simp)
 ·have hp : vs.Perm ts := zct hok.1.1 hnd hok.1.2 fun y hy => by
   have := hs (setEntry y) (by simp; exact ⟨y.1, y.2, hy, rfl⟩) (hb y hy);simpa [setEntry] using this
  have hr : tellB x ts keys = true := List.all_eq_true.2 fun y hy => hok.2 y (hp.mem_iff.2 hy);(repeat apply zaa);refine zae ?_;simp only [push_cast, seval];(repeat apply zaa);refine zaq ?_;simp only [push_cast, seval];(repeat apply zaa);refine zl5 ?_;simp only [push_cast, seval];(repeat apply zaa);refine zai ?_;simp only [push_cast, seval];rw [hr] at hk;exact endV hH hk
theorem so_tell {l r id ck : Nat} {x : Ring} {ts : List (List Int × Nat)} (hl : H[l]? = some (.cells [.mp id] 118)) (hr : H[r]? = some (.cells [.rp (x.l ++ opensL x)] 100)) (hid : H[id]? = some (setObj ts ck)) (hb : ∀ y ∈ ts, y.2 < ck) (hnd : (ts.map (·.2)).Nodup) (hl4 : x.locks.length ≤ 4) (h4 : ∀ y ∈ ts, y.1.length = 4 ∧ ∀ w ∈ y.1, 0 ≤ w ∧ w ≤ 2) : SoC lv H (.fn (.func 120) [] [.op l 0, .op r 0]) (tellB x ts) (fun xs => (∀ q ∈ xs, 0 ≤ q ∧ q < 4) ∧ xs.length ≤ 6) := fun L xs e k kp hp h =>
 zad (by kernel_rfl) (f120_c (zay hl) (zay hr) (zay hid) hb hnd hl4 h4 hp.1 (Nat.lt_of_le_of_lt hp.2 (by decide)) h)
theorem f42_c {x : Ring} (hnr : NewRingC lv) (hmain : H[0]? = some .main) (hs : x.Small) (h1 : openingE x none ≠ 0 → k (.tup [.sl 0 [] .exact, iv (openingE x none)]) H) (h2 : openingE x none = 0 → tellM x = none → k (.tup [.sl 0 [] .exact, iv 11]) H) (h3 : openingE x none = 0 → ∀ xs, tellM x = some xs → k (.tup [aInts xs, iv 0]) H) : FnC lv Tryz.prog 42 H [x.av] k kp := by
 have hmn : ∀ L : List AObj, (H ++ L)[0]? = some .main := fun L => zay hmain;refine zak (rs := [.tmp 2, .tmp 3]) (nt := 33) F.f42 rfl rfl rfl (by simp) fun hH hA => ?_;simp only [argsT, Nat.reduceAdd, Ring.av];(repeat apply zaa);refine zl5 ?_;simp only [push_cast, seval, Ring.l];(repeat apply zaa);refine zl5 ?_;simp only [push_cast, seval];refine zl6 ((f99_c hnr (hmn _) hs zbA (fun hz => ?_) (fun hz => ?_)))
 ·(try simp only [push_cast, seval]);(repeat apply zaa);refine zl5 ?_;simp only [push_cast, seval];(repeat apply zaa);refine zae ?_;simp only [push_cast, seval];refine ⟨fun h => ?_, fun h => absurd (by simpa using h) hz⟩;(repeat apply zaa);refine zl5 ?_;simp only [push_cast, seval];(repeat apply zaa);refine zai ?_;simp only [push_cast, seval];exact endA hH (Wk.refl _) (by simp [zap, zaD, zbh]) (h1 hz)
 ·(try simp only [push_cast, seval]);(repeat apply zaa);refine zl5 ?_;simp only [push_cast, seval];obtain ⟨ho, hne⟩ := zaP.1 hz;have hx := zbp ho;have hx4 := hx.keys;have hx5 := hx.locks;have hle := zbl hx [];have hlk : x.l ++ opensL x = iv x.cuts :: aKeys x.keys :: aLocks x.locks :: aTries x.tries :: opensL x := rfl;(repeat apply zaa);refine zae ?_;simp only [push_cast, seval];(repeat apply zaa);refine zah ?_;simp only [push_cast, seval];(repeat apply zaa);refine zl5 ?_;simp only [push_cast, seval, List.mapM_cons, List.mapM_nil, Option.pure_def, Option.bind_eq_bind, hlk, aKeys];refine zl6 ((f115_c (by omega) ?_));(try simp only [push_cast, seval]);refine zl6 ((f113_c (P := fun xs => (∀ q ∈ xs, 0 ≤ q ∧ q < 4) ∧ xs.length ≤ 6) (by omega) (so_tell (l := H.length + 4) (r := H.length + 3) (id := H.length + 2) (by simp only [push_cast, seval] <;> rfl) (by simp only [push_cast, seval] <;> rfl) (by simp only [push_cast, seval] <;> rfl) (zbm x []) (zba x []) hx5 (zbt hx [])) (keysP hx4) ?_));(try simp only [push_cast, seval]);rw [show fewestM x.keys.length (tellB x (truthsM x [])) = tellM x from rfl];(repeat apply zaa);refine zl5 ?_;simp only [push_cast, seval];(repeat apply zaa);refine zae ?_;simp only [push_cast, seval];cases hm : tellM x with
  | none =>
   refine ⟨fun h => ?_, fun h => by simp at h⟩;(repeat apply zaa);refine zl5 ?_;simp only [push_cast, seval];(repeat apply zaa);refine zai ?_;simp only [push_cast, seval];exact endA hH (Wk.refl _) (by simp [zap, zaD, zbh]) (h2 hz hm)
  | some xs =>
   refine ⟨fun h => by simp at h, fun h => ?_⟩;(repeat apply zaa);refine zah ?_;simp only [push_cast, seval];(repeat apply zaa);refine zl5 ?_;simp only [push_cast, seval];(repeat apply zaa);refine zai ?_;simp only [push_cast, seval];exact endA hH (Wk.refl _) (by simp [zap, zaD, zbi]) (h3 hz xs hm)
end
open Go.Conc Go.Proofs
def sameB (x : Ring) (ts : List (List Int × Nat)) (keys : List Int) (a b : Nat) : Bool := ts.all fun y => !apartM x y.1 keys a b
def alikeTo (x : Ring) (ts : List (List Int × Nat)) (keys : List Int) : Nat → List Int × Nat
 | 0 => ([], 0)
 | b + 1 => match (List.range b).find? fun a => sameB x ts keys a b with
  | some a => ((alikeTo x ts keys b).1 ++ [(alikeTo x ts keys b).1.getD a 0], (alikeTo x ts keys b).2)
  | none => ((alikeTo x ts keys b).1 ++ [((alikeTo x ts keys b).2 : Int)], (alikeTo x ts keys b).2 + 1)
def alikeM (x : Ring) : List Int := (alikeTo x (truthsM x []) (belowM x.keys.length) x.locks.length).1
theorem zeV (x : Ring) (ts : List (List Int × Nat)) (keys : List Int) : ∀ b, (alikeTo x ts keys b).1.length = b
 | 0 => rfl
 | b + 1 => by
  unfold alikeTo;split <;> simp [zeV x ts keys b]
theorem zfi (x : Ring) (ts : List (List Int × Nat)) (keys : List Int) : ∀ b, (alikeTo x ts keys b).2 ≤ b
 | 0 => Nat.le_refl _
 | b + 1 => by
  have := zfi x ts keys b;unfold alikeTo;split <;> simp <;> omega
theorem zjl {f : Nat → Bool} {a b : Nat} (hab : a < b) (hf : f a = true) (h : ∀ a' < a, f a' = false) : (List.range b).find? f = some a :=
 zfN (j := a) (by simp [hab]) hf fun y hy => by
  have : List.take a (List.range b) = List.range a := by rw [List.take_range, Nat.min_eq_left (by omega)]
  rw [this] at hy;exact h y (List.mem_range.1 hy)
theorem zeF {f : Nat → Bool} {b : Nat} (h : ∀ a' < b, f a' = false) : (List.range b).find? f = none := zdt fun y hy => h y (List.mem_range.1 hy)
section
variable {lv : Bool} {H : List AObj} {k kp : AV → List AObj → Prop}
theorem f40_c {x : Ring} (hnr : NewRingC lv) (hmain : H[0]? = some .main) (hs : x.Small) (h1 : openingE x none ≠ 0 → k (.tup [.sl 0 [] .exact, iv (openingE x none)]) H) (h2 : openingE x none = 0 → k (.tup [aInts (alikeM x), iv 0]) H) : FnC lv Tryz.prog 40 H [x.av] k kp := by
 have hmn : ∀ L : List AObj, (H ++ L)[0]? = some .main := fun L => zay hmain;refine zak (rs := [.tmp 2, .tmp 3]) (nt := 70) F.f40 rfl rfl rfl (by simp) fun hH hA => ?_;simp only [argsT, Nat.reduceAdd, Ring.av];(repeat apply zaa);refine zl5 ?_;simp only [push_cast, seval, Ring.l];(repeat apply zaa);refine zcb ?_;(repeat apply zaa);refine zl5 ?_;simp only [push_cast, seval];refine zl6 ((f99_c hnr (hmn _) hs zbA (fun hz => ?_) (fun hz => ?_)))
 ·(try simp only [push_cast, seval]);(repeat apply zaa);refine zl5 ?_;simp only [push_cast, seval];(repeat apply zaa);refine zae ?_;simp only [push_cast, seval];refine ⟨fun h => ?_, fun h => absurd (by simpa using h) hz⟩;(repeat apply zaa);refine zl5 ?_;simp only [push_cast, seval];(repeat apply zaa);refine zai ?_;simp only [push_cast, seval];exact endA hH (Wk.refl _) (by simp [zap, zaD, zbh]) (h1 hz)
 ·(try simp only [push_cast, seval]);(repeat apply zaa);refine zl5 ?_;simp only [push_cast, seval];obtain ⟨ho, hne⟩ := zaP.1 hz;have hx := zbp ho;have hx4 := hx.keys;have hx5 := hx.locks;have hle := zbl hx [];have hlk : x.l ++ opensL x = iv x.cuts :: aKeys x.keys :: aLocks x.locks :: aTries x.tries :: opensL x := rfl;have hkeys : ∀ q ∈ belowM x.keys.length, 0 ≤ q ∧ q < 4 := fun q hq => by
   obtain ⟨m, hm, rfl⟩ := List.mem_map.1 hq;have := List.mem_range.1 hm;omega
  (repeat apply zaa);refine zae ?_;simp only [push_cast, seval];(repeat apply zaa);refine zah ?_;simp only [push_cast, seval];(repeat apply zaa);refine zl5 ?_;simp only [push_cast, seval, hlk, aKeys];refine zl6 ((f115_c (by omega) ?_));(try simp only [push_cast, seval]);(repeat apply zaa);refine zl5 ?_;simp only [push_cast, seval]
  (repeat apply zaa); refine zbV (t := 8) (sz := 1) (el := 3) (by simp only [push_cast, seval] <;> rfl) ?_
  (repeat apply zaa);refine zl5 ?_;simp only [push_cast, seval];(repeat apply zaa);refine zbQ ?_;simp only [push_cast, seval];(repeat apply zaa);refine zl5 ?_;simp only [push_cast, seval, aLocks];(repeat apply zaa);refine zag ?_;let ts := truthsM x [];let keys := belowM x.keys.length;let al := alikeTo x ts keys;have hal : ∀ b, (al b).1.length = b := zeV x ts keys;have hb := zbm x [];have hnd := zba x [];have h4 := zbt hx [];have hall := zcO (truthsM x []) (wears0 x).length hb;refine zaB x.locks.length (fun b : Nat => [(8, .sl b ((al b).1.map iv) (.opn (H.length + 3))), (9, iv (al b).2), (35, iv b)]) (fun b => H ++ [.cells x.l 26, .cells x.l 26, setObj (truthsM x []) (wears0 x).length, .tail b 1 3]) (fun _ => True) (fun _ _ => rfl) (by simp only [push_cast, seval, List.forall_mem_cons, List.not_mem_nil, false_imp_iff, implies_true, List.forall_mem_nil]; simp [zaf, Wk.refl]; first | exact Wk.refl _ | exact ⟨Wk.refl _, Wk.refl _⟩) rfl (fun _ _ _ => by simp) trivial (fun hHs hLt b hbn hbo R hR => ?_);(repeat apply zaa);refine zl5 ?_;simp only [push_cast, seval];(repeat apply zaa);refine zae ?_;simp only [push_cast, seval];refine ⟨fun h => ?_, fun h => ?_⟩
  ·
   have hbl : b < x.locks.length := (by omega);have hb1 : IntKind.i64.wrap ((b : Int) + 1) = ((b + 1 : Nat) : Int) := (by rw [zau _ (by omega)]; rfl);have hml : (al b).2 ≤ b := zfi x ts keys b;have hm1 : IntKind.i64.wrap (((al b).2 : Int) + 1) = (((al b).2 + 1 : Nat) : Int) := (by rw [zau _ (by omega)]; rfl);(repeat apply zaa);refine zah ?_;simp only [push_cast, seval];(repeat apply zaa);refine zag ?_;(repeat apply zaa);refine zl5 ?_;simp only [push_cast, seval];(repeat apply zaa);refine zcb ?_;(repeat apply zaa);refine zbQ ?_;simp only [push_cast, seval];(repeat apply zaa);refine zl5 ?_;simp only [push_cast, seval];(repeat apply zaa);refine zag ?_;refine zaB b (fun a : Nat => [(39, iv a)]) (fun _ => H ++ [.cells x.l 26, .cells x.l 26, setObj (truthsM x []) (wears0 x).length, .tail b 1 3]) (fun a => ∀ a' < a, sameB x ts keys a' b = false) (fun _ _ => rfl) (by simp only [push_cast, seval, List.forall_mem_cons, List.not_mem_nil, false_imp_iff, implies_true, List.forall_mem_nil]; simp [zaf, Wk.refl]) rfl (fun _ _ _ => rfl) (fun a ha => by omega) (fun hHs2 hLt2 a han hao R2 hR2 => ?_);(repeat apply zaa);refine zl5 ?_;simp only [push_cast, seval];(repeat apply zaa);refine zae ?_;simp only [push_cast, seval];refine ⟨fun h2 => ?_, fun h2 => ?_⟩
   ·
    have hab : a < b := (by omega);have ha1 : IntKind.i64.wrap ((a : Int) + 1) = ((a + 1 : Nat) : Int) := (by rw [zau _ (by omega)]; rfl);have hokB : HOk (H ++ [AObj.cells x.l 26, .cells x.l 26, setObj (truthsM x []) (wears0 x).length, .tail b 1 3]) := hHs2;have hokT : ∀ m, HOk (H ++ [AObj.cells x.l 26, .cells x.l 26, setObj (truthsM x []) (wears0 x).length, .tail m 1 3]) := fun m => by
     have h1 := zec (H := H ++ [AObj.cells x.l 26, .cells x.l 26, setObj (truthsM x []) (wears0 x).length]) (L := []) (o := .tail b 1 3) (o' := .tail m 1 3) (by simpa using hokB) (fun _ => trivial);simpa using h1
    have hokI : ∀ sn, HOk (H ++ [AObj.cells x.l 26, .cells x.l 26, setObj (truthsM x []) (wears0 x).length, .tail b 1 3, .iter (H.length + 1 + 1) (wears0 x).length sn (wears0 x).length]) := fun sn => by
     have h1 : (H ++ [AObj.cells x.l 26, .cells x.l 26, setObj (truthsM x []) (wears0 x).length, .tail b 1 3, .iter (H.length + 1 + 1) (wears0 x).length sn (wears0 x).length]) = (H ++ [AObj.cells x.l 26, .cells x.l 26, setObj (truthsM x []) (wears0 x).length, .tail b 1 3]) ++ [.iter (H.length + 1 + 1) (wears0 x).length sn (wears0 x).length] := (by simp);rw [h1];intro z hz;rcases List.mem_append.1 hz with h | h
     ·exact (hokB z h).mono (by simp)
     ·rw [List.mem_singleton.1 h]; show H.length + 1 + 1 < _; simp
    (repeat apply zaa);refine zah ?_;simp only [push_cast, seval];(repeat apply zaa);refine zag ?_;(repeat apply zaa);refine zl5 ?_;simp only [push_cast, seval];(repeat apply zaa);refine zl5 ?_;simp only [push_cast, seval, zaL];(repeat apply zaa);refine zag ?_;refine za9 (measure fun vs : List (List Int × Nat) => (truthsM x []).length - vs.length).wf (fun vs => []) (fun vs => H ++ [.cells x.l 26, .cells x.l 26, setObj (truthsM x []) (wears0 x).length, .tail b 1 3, .iter (H.length + 1 + 1) (wears0 x).length (vs.map (·.2)).toArray (wears0 x).length]) (fun vs => ((vs.map (·.2)).Nodup ∧ ∀ y ∈ vs, y ∈ truthsM x []) ∧ ∀ y ∈ vs, apartM x y.1 keys a b = false) [] (fun _ _ => rfl) (by simp) (by simp [zaL]) (fun _ _ => by simp) ⟨⟨by simp, by simp⟩, by simp⟩ (fun hHs3 hLt3 vs hok R3 hR3 => ?_);(repeat apply zaa);refine zl5 ?_;simp only [push_cast, seval, zaL];refine ⟨hall.elim .inl (fun h => .inr (.inl h)), fun e he hn => ?_, fun hs => ?_⟩
    ·obtain ⟨y, hy, rfl⟩ : ∃ y ∈ truthsM x [], setEntry y = e := (by simpa using he);have hyn : y.2 ∉ vs.map (·.2) := (by simpa [setEntry] using hn);have hok' := zdk hok.1 hy hyn;have hrel := zdl hok';(repeat apply zaa);refine zae ?_;simp only [push_cast, seval];(repeat apply zaa);refine zah ?_;simp only [push_cast, seval];(repeat apply zaa);refine zag ?_;obtain ⟨h41, h42⟩ := h4 y hy;have hborn : (setEntry y).born = y.2 := rfl;have hlen : (y.1.map iv).length = 4 := (by simp [h41]);have hdrop : List.drop 4 [AV.val (Value.int IntKind.i64 0), AV.val (Value.int IntKind.i64 0), AV.val (Value.int IntKind.i64 0), AV.val (Value.int IntKind.i64 0)] = [] := rfl;have htk : List.take 4 (y.1.map iv) = y.1.map iv := List.take_of_length_le (by omega);(repeat apply zaa);refine zl5 ?_;simp only [push_cast, seval, zaL, Array.back?_push, hborn, zcL hnd hy, zb7, h41, hlen, hdrop];(repeat apply zaa);refine zl5 ?_;simp only [push_cast, seval, hlen, htk];refine zl6 ((f117_c (x := x) (t := y.1) (keys := belowM x.keys.length) (e := .shut) (a := a) (b := b) (by omega) h41 h42 hkeys (by rw [zca]; omega) ?_));(try simp only [push_cast, seval]);(repeat apply zaa);refine zae ?_;simp only [push_cast, seval];refine ⟨fun h3 => ?_, fun h3 => ?_⟩
     ·
      (repeat apply zaa);refine zaq ?_;simp only [push_cast, seval];(repeat apply zaa);refine zl5 ?_;simp only [push_cast, seval, ha1];have hf : sameB x ts keys a b = false := by
       apply Bool.eq_false_iff.2;intro hc;have h5 := List.all_eq_true.1 hc y hy;have h6 : apartM x y.1 keys a b = true := h3;rw [h6] at h5; simp at h5
      refine hR2 _ ⟨hab, fun a' ha' => ?_, ?_⟩
      ·by_cases e3 : a' = a
       ·subst e3; exact hf
       ·exact hao a' (by omega)
      ·exact zat (zam rfl rfl) (by simp only [push_cast, seval]; simp [zaf, Wk.refl]) hokB (by simp [zap])
     ·
      (repeat apply zaa);refine zah ?_;simp only [push_cast, seval];rw [zdm];refine hR3 _ ⟨vs ++ [y], hrel, ⟨hok', fun z hz => ?_⟩, ?_⟩
      ·rcases List.mem_append.1 hz with h | h
       ·exact hok.2 z h
       ·rw [List.mem_singleton.1 h]; exact h3
      ·exact zat (zam rfl rfl) (by simp) (hokI _) (by simp)
    ·have hp : vs.Perm (truthsM x []) := zct hok.1.1 hnd hok.1.2 fun y hy => by
      have := hs (setEntry y) (by simp; exact ⟨y.1, y.2, hy, rfl⟩) (hb y hy);simpa [setEntry] using this
     have hf : sameB x ts keys a b = true := List.all_eq_true.2 fun y hy => by
      rw [hok.2 y (hp.mem_iff.2 hy)]; rfl
     have hfd := zjl hab hf hao;have hsucc : al (b + 1) = ((al b).1 ++ [(al b).1.getD a 0], (al b).2) := by
      show alikeTo x ts keys (b + 1) = _;rw [alikeTo, hfd]
     obtain ⟨v, hv⟩ := zaE (xs := (al b).1) (i := a) (by rw [hal]; exact hab);have hgv := u8z (al b).1 a hv;(repeat apply zaa);refine zae ?_;simp only [push_cast, seval];(repeat apply zaa);refine zaq ?_;simp only [push_cast, seval];(repeat apply zaa);refine zl5 ?_;simp only [push_cast, seval, za2 hv, zaz hab, z1, pow24, List.length_map, hal];refine ⟨by omega, ?_⟩;(repeat apply zaa);refine zaq ?_;simp only [push_cast, seval];(repeat apply zaa);refine zl5 ?_;simp only [push_cast, seval, hb1];refine hR _ ⟨hbl, trivial, ?_⟩;rw [hsucc, hgv, List.map_append];exact zat (zam rfl rfl) (by simp only [push_cast, seval]; simp [zaf, Wk.refl]) (hokT (b + 1)) (by simp [zap, zdq]; rintro a (⟨w, _, rfl⟩ | rfl) <;> exact .val _)
   ·
    have hax : a = b := (by omega);subst hax;(repeat apply zaa);refine zaq ?_;simp only [push_cast, seval];(repeat apply zaa);refine zl5 ?_;simp only [push_cast, seval, z1, pow24, List.length_map, hal];refine ⟨by omega, ?_⟩;(repeat apply zaa);refine zl5 ?_;simp only [push_cast, seval, hm1];(repeat apply zaa);refine zl5 ?_;simp only [push_cast, seval, hb1];have hfd := zeF hao;have hsucc : al (a + 1) = ((al a).1 ++ [((al a).2 : Int)], (al a).2 + 1) := by
     show alikeTo x ts keys (a + 1) = _;rw [alikeTo, hfd]
    refine hR _ ⟨hbl, trivial, ?_⟩;rw [hsucc, List.map_append];exact (zax (zam rfl rfl) (by simp only [push_cast, seval]; simp [zaf, Wk.refl]))
  ·
   have hbx : b = x.locks.length := (by omega);subst hbx;(repeat apply zaa);refine zaq ?_;simp only [push_cast, seval];(repeat apply zaa);refine zl5 ?_;simp only [push_cast, seval];(repeat apply zaa);refine zai ?_;simp only [push_cast, seval];have ea : aInts (alikeM x) = .sl x.locks.length ((al x.locks.length).1.map iv) .shut := by
    unfold aInts;rw [show (alikeM x).length = x.locks.length from hal _]; rfl
   rw [ea] at h2;exact endA hH (zdC (zaK _ _ _) (Wk.refl _)) (by simp [zap, zaD, za3]) (h2 hz)
end
open Go.Conc Go.Proofs
def whichFl (x : Ring) (us : List Turn) : Option Int := if us.length ≤ 6 then (if us.all fun u => inM u.key 0 (x.keys.length - 1) then none else some 0) else some 3
theorem zf3 {x : Ring} {us : List Turn} : whichFl x us = none ↔ us.length ≤ 6 ∧ ∀ u ∈ us, 0 ≤ u.key ∧ u.key ≤ x.keys.length - 1 := by
 unfold whichFl;split
 ·split
  ·rename_i h1 h2;simp only [true_iff];refine ⟨h1, fun u hu => zbU.1 (List.all_eq_true.1 h2 u hu)⟩
  ·rename_i h1 h2;simp only [reduceCtorEq, false_iff];intro h;exact h2 (List.all_eq_true.2 fun u hu => zbU.2 (h.2 u hu))
 ·rename_i h1;simp only [reduceCtorEq, false_iff];intro h; exact h1 h.1
section
variable {lv : Bool} {H : List AObj} {k kp : AV → List AObj → Prop}
theorem f121_c {r i : Nat} {x : Ring} {us : List Turn} (hx : x.Small) (hul : us.length < 2 ^ 30) (hr : H[r]? = some (.cells [aTurns us] 50)) (hi : H[i]? = some (.cells x.l 26)) (hk : whichFl x us = none → k (.tup []) H) (hp : ∀ f, whichFl x us = some f → kp (.ifc 106 (iv f)) H) : FnC lv Tryz.prog 121 H [.op r 0, .op i 0] k kp := by
 refine zak (rs := []) (nt := 20) F.f121 rfl rfl rfl (by simp) fun hH hA => ?_;simp only [argsT, Nat.reduceAdd];have hi2 := hi;rw [Ring.l] at hi2;(repeat apply zaa);refine zl5 ?_;simp only [push_cast, seval, hr, aTurns];refine zl6 ((f90_c (fun h => ?_) (fun h => ?_)))
 ·have h5 : (us.length : Int) ≤ 6 := by simpa using h
  have h6 : us.length ≤ 6 := by omega
  (try simp only [push_cast, seval]);(repeat apply zaa);refine zl5 ?_;simp only [push_cast, seval, hr, aTurns];(repeat apply zaa);refine zag ?_;refine zaB us.length (fun i : Nat => [(10, iv i)]) (fun _ => H) (fun i => (us.take i).all (fun u => inM u.key 0 (x.keys.length - 1)) = true) (fun _ _ => rfl) (by simp only [push_cast, seval, List.forall_mem_cons, List.not_mem_nil, false_imp_iff, implies_true, List.forall_mem_nil]; simp [zaf, Wk.refl]) rfl (fun _ _ _ => rfl) (by simp) (fun hHs hLt j hjn hj R hR => ?_);(repeat apply zaa);refine zl5 ?_;simp only [push_cast, seval];(repeat apply zaa);refine zae ?_;simp only [push_cast, seval];refine ⟨fun h2 => ?_, fun h2 => ?_⟩
  ·have hjl : j < us.length := (by omega);obtain ⟨u, hu⟩ := zaE hjl;have hj1 : IntKind.i64.wrap ((j : Int) + 1) = ((j + 1 : Nat) : Int) := (by rw [zau _ (by omega)]; rfl);have htk : (us.take (j + 1)).all (fun u => inM u.key 0 (x.keys.length - 1)) = ((us.take j).all (fun u => inM u.key 0 (x.keys.length - 1)) && inM u.key 0 (x.keys.length - 1)) := by
    obtain ⟨hj', rfl⟩ := List.getElem?_eq_some_iff.1 hu;rw [List.take_succ_eq_append_getElem hj', List.all_append]; simp
   (repeat apply zaa);refine zah ?_;simp only [push_cast, seval];(repeat apply zaa);refine zag ?_;(repeat apply zaa);refine zl5 ?_;simp only [push_cast, seval, zh5 hu, zaz hjl];(repeat apply zaa);refine zl5 ?_;simp only [push_cast, seval, zay hi2];refine zl6 ((f89_c (x := x) ?_));(try simp only [push_cast, seval]);refine zl6 ((f152_c hx (by simp only [push_cast, seval] <;> rfl) (by simp only [push_cast, seval] <;> rfl) (fun hin => ?_) (fun hin => ?_)))
   ·(try simp only [push_cast, seval]);(repeat apply zaa);refine zl5 ?_;simp only [push_cast, seval, hj1];refine hR _ ⟨hjl, by rw [htk, hj, hin]; rfl, ?_⟩;exact (by first | exact zaS (zam rfl rfl) (by simp only [push_cast, seval]; simp [zaf, Wk.refl]) hHs (by simp [zap]) | exact zat (zam rfl rfl) (by simp only [push_cast, seval]; simp [zaf, Wk.refl]) hHs (by simp [zap]))
   ·(try simp only [push_cast, seval]);have hw : whichFl x us = some 0 := by
     unfold whichFl;rw [if_pos h6, if_neg];intro hc;have := List.all_eq_true.1 hc u (zas hu);rw [hin] at this; cases this
    exact zaJ (Wk.refl _) rfl (Nat.le_refl _) hH (by simp [zap, zey]) (hp 0 hw)
  ·have hjx : j = us.length := (by omega);subst hjx;rw [List.take_length] at hj;(repeat apply zaa);refine zaq ?_;simp only [push_cast, seval];have hw : whichFl x us = none := by
    unfold whichFl;rw [if_pos h6, if_pos hj]
   exact zao (hk hw)
 ·have h5 : ¬ (us.length : Int) ≤ 6 := by simpa using h
  have h6 : ¬ us.length ≤ 6 := by omega
  exact zao (hp 3 (by unfold whichFl; rw [if_neg h6]))
theorem zlg {r i : Nat} {x : Ring} {us : List Turn} (hx : x.Small) (hul : us.length < 2 ^ 30) (hr : H[r]? = some (.cells [aTurns us] 50)) (hi : H[i]? = some (.cells x.l 26)) : AskC lv H (.fn (.func 121) [] [.op r 0, .op i 0]) (whichFl x us) := fun L k kp h1 h2 =>
 zad (by kernel_rfl) (f121_c hx hul (zay hr) (zay hi) h1 h2)
end
open Go.Conc Go.Proofs
def fitsB (x : Ring) (t : List Int) (n : Nat) (u : Turn) : Bool := (inTruth x t u.key.toNat).testBit n == u.opens
def bagB (x : Ring) (ts : List (List Int × Nat)) (us : List Turn) (n : Nat) : Bool := ts.any fun y => us.all (fitsB x y.1 n)
def whichTo (x : Ring) (us : List Turn) (n : Nat) : List Int := ((List.range n).filter (bagB x (truthsM x []) us)).map fun i : Nat => (i : Int)
def whichM (x : Ring) (us : List Turn) : List Int := whichTo x us x.locks.length
theorem ziB (x : Ring) (us : List Turn) (n : Nat) : (whichTo x us n).length ≤ n := by
 unfold whichTo;rw [List.length_map];have := List.length_filter_le (bagB x (truthsM x []) us) (List.range n);simpa using this
theorem zdS (x : Ring) (us : List Turn) (n : Nat) : whichTo x us (n + 1) = whichTo x us n ++ (if bagB x (truthsM x []) us n then [(n : Int)] else []) := by
 unfold whichTo;rw [List.range_succ, List.filter_append, List.map_append];congr 1;by_cases h : bagB x (truthsM x []) us n = true <;> simp [h]
section
variable {lv : Bool} {H : List AObj} {k kp : AV → List AObj → Prop}
theorem f46_c {x : Ring} {us : List Turn} (hnr : NewRingC lv) (hmain : H[0]? = some .main) (hs : x.Small) (hul : us.length < 2 ^ 30) (h1 : openingE x (whichFl x us) ≠ 0 → k (.tup [.sl 0 [] .exact, iv (openingE x (whichFl x us))]) H) (h2 : openingE x (whichFl x us) = 0 → k (.tup [aInts (whichM x us), iv 0]) H) : FnC lv Tryz.prog 46 H [x.av, aTurns us] k kp := by
 have hmn : ∀ L : List AObj, (H ++ L)[0]? = some .main := fun L => zay hmain;refine zak (rs := [.tmp 4, .tmp 5]) (nt := 81) F.f46 rfl rfl rfl (by simp) fun hH hA => ?_;simp only [argsT, Nat.reduceAdd, Ring.av];(repeat apply zaa);refine zl5 ?_;simp only [push_cast, seval, Ring.l, aTurns];(repeat apply zaa);refine zcb ?_;(repeat apply zaa);refine zl5 ?_;simp only [push_cast, seval, List.mapM_cons, List.mapM_nil, Option.pure_def, Option.bind_eq_bind];have hask : AskC lv (H ++ [.cells x.l 26, .cells [aTurns us] 50]) _ (whichFl x us) := zlg (r := H.length + 1) (i := H.length) hs hul (by simp only [push_cast, seval]) (by simp only [push_cast, seval]);refine zl6 ((f99_c hnr (hmn _) hs hask (fun hz => ?_) (fun hz => ?_)))
 ·(try simp only [push_cast, seval]);(repeat apply zaa);refine zl5 ?_;simp only [push_cast, seval];(repeat apply zaa);refine zae ?_;simp only [push_cast, seval];refine ⟨fun h => ?_, fun h => absurd (by simpa using h) hz⟩;(repeat apply zaa);refine zl5 ?_;simp only [push_cast, seval];(repeat apply zaa);refine zai ?_;simp only [push_cast, seval];exact endA hH (Wk.refl _) (by simp [zap, zaD, zbh]) (h1 hz)
 ·(try simp only [push_cast, seval]);(repeat apply zaa);refine zl5 ?_;simp only [push_cast, seval];obtain ⟨ho, hne⟩ := zaP.1 hz;have hx := zbp ho;have hx4 := hx.keys;have hx5 := hx.locks;have hle := zbl hx [];have hlk : x.l ++ opensL x = iv x.cuts :: aKeys x.keys :: aLocks x.locks :: aTries x.tries :: opensL x := rfl;obtain ⟨hu6, hus⟩ := zf3.1 (zaN.1 ho).2;(repeat apply zaa);refine zae ?_;simp only [push_cast, seval];(repeat apply zaa);refine zah ?_;simp only [push_cast, seval];(repeat apply zaa);refine zl5 ?_;simp only [push_cast, seval]
  (repeat apply zaa); refine zbV (t := 9) (sz := 1) (el := 3) (by simp only [push_cast, seval] <;> rfl) ?_
  (repeat apply zaa);refine zbQ ?_;simp only [push_cast, seval];(repeat apply zaa);refine zl5 ?_;simp only [push_cast, seval, hlk, aLocks];(repeat apply zaa);refine zag ?_;have hb := zbm x [];have hnd := zba x [];have h4 := zbt hx [];have hall := zcO (truthsM x []) (wears0 x).length hb;have hg3 : ∀ L : List AObj, (H ++ L)[H.length + 2 + 1]? = L[3]? := fun L => zbD H L 3;refine zaB x.locks.length (fun n : Nat => [(9, .sl (whichTo x us n).length ((whichTo x us n).map iv) (.opn (H.length + 4))), (31, iv n)]) (fun n => H ++ [AObj.cells x.l 26, .cells [aTurns us] 50, .cells x.l 26, setObj (truthsM x []) (wears0 x).length, .tail (whichTo x us n).length 1 3]) (fun _ => True) (fun _ _ => rfl) (by simp only [push_cast, seval, List.forall_mem_cons, List.not_mem_nil, false_imp_iff, implies_true, List.forall_mem_nil]; simp [zaf, Wk.refl]; first | exact Wk.refl _ | exact ⟨Wk.refl _, Wk.refl _⟩) rfl (fun _ _ _ => by simp) trivial (fun hHs hLt n hnn hno R hR => ?_);(repeat apply zaa);refine zl5 ?_;simp only [push_cast, seval];(repeat apply zaa);refine zae ?_;simp only [push_cast, seval];refine ⟨fun h => ?_, fun h => ?_⟩
  ·
   have hnl : n < x.locks.length := (by omega);have hn1 : IntKind.i64.wrap ((n : Int) + 1) = ((n + 1 : Nat) : Int) := (by rw [zau _ (by omega)]; rfl);have hwl := ziB x us n;have hokB0 : HOk (H ++ [AObj.cells x.l 26, .cells [aTurns us] 50, .cells x.l 26, setObj (truthsM x []) (wears0 x).length, .tail 0 1 3]) := hHs;have hokB : ∀ m, HOk (H ++ [AObj.cells x.l 26, .cells [aTurns us] 50, .cells x.l 26, setObj (truthsM x []) (wears0 x).length, .tail m 1 3]) := fun m => by
    have h1 := zec (H := H ++ [AObj.cells x.l 26, .cells [aTurns us] 50, .cells x.l 26, setObj (truthsM x []) (wears0 x).length]) (L := []) (o := .tail 0 1 3) (o' := .tail m 1 3) (by simpa using hokB0) (fun _ => trivial);simpa using h1
   have hokI : ∀ m sn, HOk (H ++ [AObj.cells x.l 26, .cells [aTurns us] 50, .cells x.l 26, setObj (truthsM x []) (wears0 x).length, .tail m 1 3, .iter (H.length + 2 + 1) (wears0 x).length sn (wears0 x).length]) := fun m sn => by
    have h1 : (H ++ [AObj.cells x.l 26, .cells [aTurns us] 50, .cells x.l 26, setObj (truthsM x []) (wears0 x).length, .tail m 1 3, .iter (H.length + 2 + 1) (wears0 x).length sn (wears0 x).length]) = (H ++ [AObj.cells x.l 26, .cells [aTurns us] 50, .cells x.l 26, setObj (truthsM x []) (wears0 x).length, .tail m 1 3]) ++ [.iter (H.length + 2 + 1) (wears0 x).length sn (wears0 x).length] := (by simp);rw [h1];intro z hz;rcases List.mem_append.1 hz with h | h
    ·exact (hokB m z h).mono (by simp)
    ·rw [List.mem_singleton.1 h]; show H.length + 2 + 1 < _; simp
   have hokC : ∀ m sn (t : List Int), HOk (H ++ [AObj.cells x.l 26, .cells [aTurns us] 50, .cells x.l 26, setObj (truthsM x []) (wears0 x).length, .tail m 1 3, .iter (H.length + 2 + 1) (wears0 x).length sn (wears0 x).length, .cells (t.map iv) 132]) := fun m sn t => by
    have h1 : (H ++ [AObj.cells x.l 26, .cells [aTurns us] 50, .cells x.l 26, setObj (truthsM x []) (wears0 x).length, .tail m 1 3, .iter (H.length + 2 + 1) (wears0 x).length sn (wears0 x).length, .cells (t.map iv) 132]) = (H ++ [AObj.cells x.l 26, .cells [aTurns us] 50, .cells x.l 26, setObj (truthsM x []) (wears0 x).length, .tail m 1 3, .iter (H.length + 2 + 1) (wears0 x).length sn (wears0 x).length]) ++ [.cells (t.map iv) 132] := (by simp);rw [h1];refine zc6 (hokI m sn) fun z hz n => ?_;rw [List.mem_singleton.1 hz];intro a ha;obtain ⟨w, _, rfl⟩ := List.mem_map.1 ha;exact .val _
   (repeat apply zaa);refine zah ?_;simp only [push_cast, seval];(repeat apply zaa);refine zag ?_;(repeat apply zaa);refine zl5 ?_;simp only [push_cast, seval];(repeat apply zaa);refine zcb ?_;(repeat apply zaa);refine zbQ ?_;simp only [push_cast, seval];(repeat apply zaa);refine zl5 ?_;simp only [push_cast, seval, zaL, hg3];(repeat apply zaa);refine zag ?_;refine za9 (measure fun vs : List (List Int × Nat) => (truthsM x []).length - vs.length).wf (fun vs => []) (fun vs => H ++ [AObj.cells x.l 26, .cells [aTurns us] 50, .cells x.l 26, setObj (truthsM x []) (wears0 x).length, .tail (whichTo x us n).length 1 3, .iter (H.length + 2 + 1) (wears0 x).length (vs.map (·.2)).toArray (wears0 x).length]) (fun vs => ((vs.map (·.2)).Nodup ∧ ∀ y ∈ vs, y ∈ truthsM x []) ∧ ∀ y ∈ vs, us.all (fitsB x y.1 n) = false) [] (fun _ _ => rfl) (by simp) (by simp [zaL, aTurns]) (fun _ _ => by simp) ⟨⟨by simp, by simp⟩, by simp⟩ (fun hHs3 hLt3 vs hok R3 hR3 => ?_);(repeat apply zaa);refine zl5 ?_;simp only [push_cast, seval, zaL, hg3];refine ⟨hall.elim .inl (fun h => .inr (.inl h)), fun e he hn => ?_, fun hs => ?_⟩
   ·obtain ⟨y, hy, rfl⟩ : ∃ y ∈ truthsM x [], setEntry y = e := (by simpa using he);have hyn : y.2 ∉ vs.map (·.2) := (by simpa [setEntry] using hn);have hok' := zdk hok.1 hy hyn;have hrel := zdl hok';(repeat apply zaa);refine zae ?_;simp only [push_cast, seval];(repeat apply zaa);refine zah ?_;simp only [push_cast, seval];(repeat apply zaa);refine zag ?_;obtain ⟨h41, h42⟩ := h4 y hy;have hborn : (setEntry y).born = y.2 := rfl;have hlen : (y.1.map iv).length = 4 := (by simp [h41]);have hdrop : List.drop 4 [AV.val (Value.int IntKind.i64 0), AV.val (Value.int IntKind.i64 0), AV.val (Value.int IntKind.i64 0), AV.val (Value.int IntKind.i64 0)] = [] := rfl;(repeat apply zaa);refine zl5 ?_;simp only [push_cast, seval, zaL, hg3, Array.back?_push, hborn, zcL hnd hy, zb7, h41, hlen, hdrop];(repeat apply zaa);refine zl5 ?_;simp only [push_cast, seval, aTurns];(repeat apply zaa);refine zag ?_;rw [zdm];refine zaB us.length (fun j : Nat => [(42, iv j)]) (fun _ => H ++ [AObj.cells x.l 26, .cells [aTurns us] 50, .cells x.l 26, setObj (truthsM x []) (wears0 x).length, .tail (whichTo x us n).length 1 3, .iter (H.length + 2 + 1) (wears0 x).length ((vs ++ [y]).map (·.2)).toArray (wears0 x).length, .cells (y.1.map iv) 132]) (fun j => (us.take j).all (fitsB x y.1 n) = true) (fun _ _ => rfl) (by simp only [push_cast, seval, List.forall_mem_cons, List.not_mem_nil, false_imp_iff, implies_true, List.forall_mem_nil]; simp [zaf, Wk.refl]) rfl (fun _ _ _ => rfl) (by simp) (fun hHs4 hLt4 j hjn hj R4 hR4 => ?_);(repeat apply zaa);refine zl5 ?_;simp only [push_cast, seval];(repeat apply zaa);refine zae ?_;simp only [push_cast, seval];refine ⟨fun h2 => ?_, fun h2 => ?_⟩
    ·
     have hjl : j < us.length := (by omega);obtain ⟨u, hu⟩ := zaE hjl;obtain ⟨hk0, hk1⟩ := hus u (zas hu);obtain ⟨uk, uo⟩ := u;simp only at hk0 hk1;obtain ⟨kn, rfl⟩ : ∃ m : Nat, uk = m := ⟨uk.toNat, by omega⟩;have hkn : kn < 4 := (by omega);have hj1 : IntKind.i64.wrap ((j : Int) + 1) = ((j + 1 : Nat) : Int) := (by rw [zau _ (by omega)]; rfl);have htk : (us.take (j + 1)).all (fitsB x y.1 n) = ((us.take j).all (fitsB x y.1 n) && fitsB x y.1 n ⟨kn, uo⟩) := by
      obtain ⟨hj', e5⟩ := List.getElem?_eq_some_iff.1 hu;rw [List.take_succ_eq_append_getElem hj', List.all_append, e5]; simp
     obtain ⟨w, hw⟩ := zaE (xs := y.1) (i := kn) (by omega);have hwb := h42 w (zas hw);obtain ⟨wn, rfl⟩ : ∃ n : Nat, w = n := ⟨w.toNat, by omega⟩;have b4 : (0 ≤ (kn : Int) ∧ (kn : Int) < 4) = True := (by simp; omega);have b3 : (0 ≤ (wn : Int) ∧ (wn : Int) < 3) = True := (by simp; omega);have hm := zdn (x := x) (by omega) kn wn;have hfit : fitsB x y.1 n ⟨kn, uo⟩ = ((opensM x kn wn).testBit n == uo) := by
      unfold fitsB inTruth;rw [Int.toNat_natCast, u8z y.1 kn hw]; rfl
     have hne0 : ((n : Int) != (n : Int)) = false := (by simp);(repeat apply zaa);refine zah ?_;simp only [push_cast, seval];(repeat apply zaa);refine zag ?_;(repeat apply zaa);refine zl5 ?_;simp only [push_cast, seval, zh5 hu, zaz hjl];(repeat apply zaa);refine zl5 ?_;simp only [push_cast, seval];refine zl6 ((f122_c ?_));(try simp only [push_cast, seval]);(repeat apply zaa);refine zaT F.mixed 23 (by kernel_rfl) ?_;simp only [push_cast, seval, b4, b3, zbf hw, zcH x hkn, zb0 x hkn (show wn < 3 by omega), zfz, List.mapM_cons, List.mapM_nil, Option.pure_def, Option.bind_eq_bind];refine qCall (iv n) (zad (by kernel_rfl) (f123_c ⟨rfl, rfl⟩)) ?_;(try simp only [push_cast, seval, hne0, b4, b3, zbf hw, zcH x hkn, zb0 x hkn (show wn < 3 by omega), zfz, List.mapM_cons, List.mapM_nil, Option.pure_def, Option.bind_eq_bind]);refine qInv (bv ((opensM x kn wn).testBit n == uo)) (zii hm ⟨rfl, rfl⟩) ?_;(try simp only [push_cast, seval]);(repeat apply zaa);refine zae ?_;simp only [push_cast, seval];refine ⟨fun h3 => ?_, fun h3 => ?_⟩
     ·
      have hff : fitsB x y.1 n ⟨kn, uo⟩ = false := (by rw [hfit]; simpa using h3);have hf : us.all (fitsB x y.1 n) = false := by
       apply Bool.eq_false_iff.2;intro hc;have h5 := List.all_eq_true.1 hc _ (zas hu);rw [hff] at h5; cases h5
      (repeat apply zaa);refine zaq ?_;simp only [push_cast, seval];refine hR3 _ ⟨vs ++ [y], hrel, ⟨hok', fun z hz => ?_⟩, ?_⟩
      ·rcases List.mem_append.1 hz with h | h
       ·exact hok.2 z h
       ·rw [List.mem_singleton.1 h]; exact hf
      ·exact zat (zam rfl rfl) (by simp) (hokI _ _) (by simp)
     ·
      have hff : fitsB x y.1 n ⟨kn, uo⟩ = true := (by rw [hfit]; simpa using h3);(repeat apply zaa);refine zah ?_;simp only [push_cast, seval];(repeat apply zaa);refine zl5 ?_;simp only [push_cast, seval, hj1];refine hR4 _ ⟨hjl, by rw [htk, hj, hff]; rfl, ?_⟩;exact zat (zam rfl rfl) (by simp only [push_cast, seval]; simp [zaf, Wk.refl]) (hokC _ _ _) (by simp [zap])
    ·
     have hjx : j = us.length := (by omega);subst hjx;rw [List.take_length] at hj;have hbag : bagB x (truthsM x []) us n = true := List.any_eq_true.2 ⟨y, hy, hj⟩;have hsucc : whichTo x us (n + 1) = whichTo x us n ++ [(n : Int)] := (by rw [zdS, if_pos hbag]);have hsl : (whichTo x us n ++ [(n : Int)]).length = (whichTo x us n).length + 1 := (by simp);(repeat apply zaa);refine zaq ?_;simp only [push_cast, seval];(repeat apply zaa);refine zl5 ?_;simp only [push_cast, seval, z1, pow24, List.length_map];refine ⟨by omega, ?_⟩;(repeat apply zaa);refine zaq ?_;simp only [push_cast, seval];(repeat apply zaa);refine zl5 ?_;simp only [push_cast, seval, hn1];refine hR _ ⟨hnl, trivial, ?_⟩;rw [hsucc, hsl, List.map_append];exact zat (zam rfl rfl) (by simp only [push_cast, seval]; simp [zaf, Wk.refl]) (hokB _) (by simp [zap, zdq]; rintro a (⟨w, _, rfl⟩ | rfl) <;> exact .val _)
   ·have hp : vs.Perm (truthsM x []) := zct hok.1.1 hnd hok.1.2 fun y hy => by
     have := hs (setEntry y) (by simp; exact ⟨y.1, y.2, hy, rfl⟩) (hb y hy);simpa [setEntry] using this
    have hbag : bagB x (truthsM x []) us n = false := by
     apply Bool.eq_false_iff.2;intro hc;obtain ⟨y, hy, hf⟩ := List.any_eq_true.1 hc;rw [hok.2 y (hp.mem_iff.2 hy)] at hf; cases hf
    have hsucc : whichTo x us (n + 1) = whichTo x us n := (by rw [zdS, hbag]; simp);(repeat apply zaa);refine zae ?_;simp only [push_cast, seval];(repeat apply zaa);refine zaq ?_;simp only [push_cast, seval];(repeat apply zaa);refine zl5 ?_;simp only [push_cast, seval, hn1];refine hR _ ⟨hnl, trivial, ?_⟩;rw [hsucc];exact zat (zam rfl rfl) (by simp only [push_cast, seval]; simp [zaf, Wk.refl]) (hokB _) (by simp [zap, zdq])
  ·
   have hnx : n = x.locks.length := (by omega);subst hnx;(repeat apply zaa);refine zaq ?_;simp only [push_cast, seval];(repeat apply zaa);refine zl5 ?_;simp only [push_cast, seval];(repeat apply zaa);refine zai ?_;simp only [push_cast, seval];exact endA hH (zdC (zaK _ _ _) (Wk.refl _)) (by simp [zap, zaD, za3]) (h2 hz)
end
def digs (c j : Nat) : List Int := (List.range 4).map fun p => if p < c then (((j / 4 ^ (c - 1 - p)) % 4 : Nat) : Int) else 0
def zeroed (c j t : Nat) : List Int := (List.range 4).map fun p => if c - t ≤ p then 0 else (digs c j).getD p 0
def threes (c j t : Nat) : Bool := (List.range c).all fun p => p < c - t || (digs c j).getD p 0 == 3
theorem zdu (c j : Nat) : (digs c j).length = 4 := by simp [digs]
theorem zcC (c j t : Nat) : (zeroed c j t).length = 4 := by simp [zeroed]
theorem zjp : ∀ c, c < 5 → ∀ j, j < 4 ^ c → zeroed c j 0 = digs c j ∧ (threes c j c = true → j + 1 = 4 ^ c) ∧ (∀ w ∈ digs c j, 0 ≤ w ∧ w ≤ 3) ∧ threes c j 0 = true := by decide +kernel
theorem digs_s1 : ∀ c, c < 5 → ∀ j, j < 4 ^ c → ∀ t, t < c → (zeroed c j t)[c - 1 - t]? = some ((digs c j).getD (c - 1 - t) 0) ∧ (zeroed c j t).set (c - 1 - t) 0 = zeroed c j (t + 1) := by decide +kernel
theorem digs_s2 : ∀ c, c < 5 → ∀ j, j < 4 ^ c → ∀ t, t < c → threes c j t = true → (digs c j).getD (c - 1 - t) 0 = 3 → threes c j (t + 1) = true := by decide +kernel
theorem digs_s3 : ∀ c, c < 5 → ∀ j, j < 4 ^ c → ∀ t, t < c → threes c j t = true → (digs c j).getD (c - 1 - t) 0 = 3 ∨ (zeroed c j t).set (c - 1 - t) ((digs c j).getD (c - 1 - t) 0 + 1) = digs c (j + 1) := by decide +kernel
theorem digs_s4 : ∀ c, c < 5 → ∀ j, j < 4 ^ c → ∀ t, t < c → threes c j t = true → (digs c j).getD (c - 1 - t) 0 = 3 ∨ j + 1 < 4 ^ c := by decide +kernel
theorem zkT (c : Nat) : digs c 0 = [0, 0, 0, 0] := by simp [digs, List.range_succ]
def firstM (c : Nat) (f : List Int → Bool) : Option (List Int) := (((List.range (4 ^ c)).map (digs c)).find? f).map fun d => d.take c
open Go.Conc Go.Proofs
theorem zh2 {T T' : List (Nat × AV)} (h : ∀ p ∈ T', ∃ b, look T p.1 = some b ∧ Wk b p.2) {t : Nat} {a : AV} (e : look T' t = some a) : ∃ b, look T t = some b ∧ Wk b a := h _ (zbB e)
section
variable {lv : Bool} {H : List AObj} {k kp : AV → List AObj → Prop}
def DoC (lv : Bool) (H : List AObj) (so : AV) (f : List Int → Bool) : Prop := ∀ (L : List AObj) (ds : List Int) (k kp : AV → List AObj → Prop), ds.length = 4 → (∀ w ∈ ds, 0 ≤ w ∧ w ≤ 3) → k (bv (f ds)) (H ++ L) → CallC lv Tryz.prog so (H ++ L) [.agg (ds.map iv)] k kp
def firstS (H : List AObj) (x : Ring) (so : AV) (c j : Nat) : AS := ⟨[(0, .rp (x.l ++ opensL x)), (1, so), (6, .op H.length 0)], H ++ [.cells ((digs c j).map iv) 108]⟩
theorem f137_c {x : Ring} {so : AV} {f : List Int → Bool} (hx : x.Ok) (hso : DoC lv H so f) (hk : k (.tup [aInts ((firstM x.cuts.toNat f).getD []), bv (firstM x.cuts.toNat f).isSome]) H) : FnC lv Tryz.prog 137 H [.rp (x.l ++ opensL x), so] k kp := by
 refine zak (rs := [.tmp 4, .tmp 5]) (nt := 43) F.f137 rfl rfl rfl (by simp) fun hH hA => ?_;simp only [argsT, Nat.reduceAdd];obtain ⟨hc1, hc4⟩ := hx.cuts;obtain ⟨c, hc⟩ : ∃ c : Nat, x.cuts = c := ⟨x.cuts.toNat, by omega⟩;have hcl : c < 5 := by omega
 have hp : 0 < 4 ^ c := Nat.pow_pos (by decide);have hlk : x.l ++ opensL x = iv x.cuts :: aKeys x.keys :: aLocks x.locks :: aTries x.tries :: opensL x := rfl;(repeat apply zaa);refine zl5 ?_;simp only [push_cast, seval];(repeat apply zaa);refine zjB (fun m => firstS H x so c (4 ^ c - 1 - m)) (fun m => m < 4 ^ c ∧ ∀ j < 4 ^ c - 1 - m, f (digs c j) = false) (l := 0) rfl (fun m hm => ?_) (fun hb => ⟨4 ^ c - 1, ?_⟩)
 ·obtain ⟨hm, hbef⟩ := hm;generalize hj : 4 ^ c - 1 - m = j at hbef ⊢;have hjl : j < 4 ^ c := by omega
  obtain ⟨hz0, hall3, hdb, ht0⟩ := zjp c hcl j hjl;have hdl : ((digs c j).map iv).length = 4 := by simp [zdu]
  have htk : List.take 4 ((digs c j).map iv) = (digs c j).map iv := List.take_of_length_le (by omega);unfold firstS;(repeat apply zaa);refine zl5 ?_;simp only [push_cast, seval, hdl, htk];refine callG (hso _ _ _ _ (zdu c j) hdb ?_);(try simp only [push_cast, seval]);(repeat apply zaa);refine zae ?_;simp only [push_cast, seval];refine ⟨fun h => ?_, fun h => ?_⟩
  ·
   have hcn : x.cuts.toNat = c := (by omega);have hfi : firstM x.cuts.toNat f = some ((digs c j).take c) := by
    rw [hcn];unfold firstM;rw [zfN (j := j) (x := digs c j) (by simp [hjl]) h fun y hy => by
     rw [← List.map_take, List.take_range, Nat.min_eq_left (by omega)] at hy;obtain ⟨j', hj', rfl⟩ := List.mem_map.1 hy;exact hbef j' (List.mem_range.1 hj')]
    rfl
   (repeat apply zaa);refine zl5 ?_;simp only [push_cast, seval, hlk];refine ⟨by omega, by omega, ?_⟩;refine zl6 ((f94_o (xs := (digs c j).take c) (by simp only [push_cast, seval] <;> rfl) (by rw [List.length_take, zdu]; omega) (by rw [List.map_take, hcn]; rfl) (by rw [List.length_take, zdu]; omega) ?_));(try simp only [push_cast, seval]);(repeat apply zaa);refine zai ?_;simp only [push_cast, seval];rw [hfi] at hk;exact endA hH (Wk.refl _) (by simp [zap, zaD, zbi]) hk
  ·
   have hw1 : IntKind.i64.wrap (x.cuts - 1) = (c : Int) - 1 := (by rw [zau _ (by omega), hc]);(repeat apply zaa);refine zah ?_;simp only [push_cast, seval];(repeat apply zaa);refine zl5 ?_;simp only [push_cast, seval, hlk];(repeat apply zaa);refine zag ?_;refine zaB c (fun t : Nat => [(7, iv ((c : Int) - 1 - (t : Int)))]) (fun t => H ++ [.cells ((zeroed c j t).map iv) 108]) (fun t => threes c j t = true) (fun _ _ => rfl) (by simp only [push_cast, seval, List.forall_mem_cons, List.not_mem_nil, false_imp_iff, implies_true, List.forall_mem_nil]; simp [zaf, Wk.refl]; rw [hw1]; exact Wk.refl _) (by rw [hz0]) (fun _ _ _ => by simp) ht0 (fun hHs hLt t htn hto R hR => ?_);by_cases htc : t < c
   ·have hat : (c : Int) - 1 - (t : Int) = ((c - 1 - t : Nat) : Int) := (by omega);have hge : decide (((c - 1 - t : Nat) : Int) ≥ 0) = true := (by simp);obtain ⟨hg, hset⟩ := digs_s1 c hcl j hjl t htc;have b4 : (0 ≤ ((c - 1 - t : Nat) : Int) ∧ ((c - 1 - t : Nat) : Int) < 4) = True := (by simp; omega);rw [hat];(repeat apply zaa);refine zl5 ?_;simp only [push_cast, seval, hge, decide_false, b4, zbf hg];(repeat apply zaa);refine zae ?_;simp only [push_cast, seval];refine ⟨fun h2 => ?_, fun h2 => ?_⟩
    ·
     have h3 : (digs c j).getD (c - 1 - t) 0 = 3 := (by simpa using h2);have hl4 : ((zeroed c j t).map iv).length = 4 := (by simp [zcC]);have hlt4 : c - 1 - t < (zeroed c j t).length := (by rw [zcC]; omega);have hoff : (c - 1 - t + 1 ≤ 4) = True := (by simp; omega);have hw2 : IntKind.i64.wrap (((c - 1 - t : Nat) : Int) - 1) = (c : Int) - 1 - ((t + 1 : Nat) : Int) := (by rw [zau _ (by omega)]; omega);(repeat apply zaa);refine zah ?_;simp only [push_cast, seval];(repeat apply zaa);refine zag ?_;(repeat apply zaa);refine zl5 ?_;simp only [push_cast, seval, b4, hl4, hoff, zfv hlt4, hset];refine ⟨by omega, ?_⟩;(repeat apply zaa);refine zl5 ?_;simp only [push_cast, seval, hw2];refine hR _ ⟨htc, digs_s2 c hcl j hjl t htc hto h3, ?_⟩;rw [← hat];exact (zax (zam rfl rfl) (by simp only [push_cast, seval]; simp [zaf, Wk.refl]))
    ·have h3 : ¬ (digs c j).getD (c - 1 - t) 0 = 3 := (by simpa using h2);have h4 := (digs_s3 c hcl j hjl t htc hto).resolve_left h3;have h5 := (digs_s4 c hcl j hjl t htc hto).resolve_left h3;have hl4 : ((zeroed c j t).map iv).length = 4 := (by simp [zcC]);have hlt4 : c - 1 - t < (zeroed c j t).length := (by rw [zcC]; omega);have hoff : (c - 1 - t + 1 ≤ 4) = True := (by simp; omega);have hdg : 0 ≤ (digs c j).getD (c - 1 - t) 0 ∧ (digs c j).getD (c - 1 - t) 0 ≤ 3 := by
      obtain ⟨w, hw⟩ := zaE (xs := digs c j) (i := c - 1 - t) (by rw [zdu]; omega);rw [u8z _ _ hw]; exact hdb w (zas hw)
     have hw3 : IntKind.i64.wrap ((digs c j).getD (c - 1 - t) 0 + 1) = (digs c j).getD (c - 1 - t) 0 + 1 := zau _ (by omega);(repeat apply zaa);refine zaq ?_;simp only [push_cast, seval];(repeat apply zaa);refine zl5 ?_;simp only [push_cast, seval, hge, decide_false];(repeat apply zaa);refine zae ?_;simp only [push_cast, seval];(repeat apply zaa);refine zl5 ?_;simp only [push_cast, seval, b4, hl4, hoff, zbf hg, hw3, zfv hlt4, h4];(repeat apply zaa);refine awp_goto ?_;simp only [push_cast, seval];refine ⟨rfl, m - 1, by omega, ⟨by omega, fun j' hj' => ?_⟩, ?_⟩
     ·by_cases e : j' = j
      ·rw [e]; exact h
      ·exact hbef j' (by omega)
     ·have e : 4 ^ c - 1 - (m - 1) = j + 1 := (by omega);show AS.Sub _ (firstS H x so c (4 ^ c - 1 - (m - 1)));rw [e];exact ⟨fun t' a e' => zh2 (by unfold firstS; simp only [push_cast, seval, List.forall_mem_cons, List.not_mem_nil, false_imp_iff, implies_true, List.forall_mem_nil]; simp [zaf, Wk.refl]; exact Wk.refl _) e', rfl⟩
   ·have htx : t = c := (by omega);subst htx;have hat : (t : Int) - 1 - (t : Int) = -1 := (by omega);have hge : decide ((-1 : Int) ≥ 0) = false := (by decide);rw [hat];(repeat apply zaa);refine zl5 ?_;simp only [push_cast, seval, hge, decide_false];(repeat apply zaa);refine zae ?_;simp only [push_cast, seval];(repeat apply zaa);refine zaq ?_;simp only [push_cast, seval];(repeat apply zaa);refine zl5 ?_;simp only [push_cast, seval, hge, decide_false];(repeat apply zaa);refine zae ?_;simp only [push_cast, seval];(repeat apply zaa);refine zah ?_;simp only [push_cast, seval];(repeat apply zaa);refine zl5 ?_;simp only [push_cast, seval];(repeat apply zaa);refine zai ?_;simp only [push_cast, seval];have hje := hall3 hto;have hcn : x.cuts.toNat = t := (by omega);have hfi : firstM x.cuts.toNat f = none := by
     rw [hcn];unfold firstM;rw [zdt fun y hy => by
      obtain ⟨j', hj', rfl⟩ := List.mem_map.1 hy;have := List.mem_range.1 hj';by_cases e : j' = j
      ·rw [e]; exact h
      ·exact hbef j' (by omega)]
     rfl
    rw [hfi] at hk;have hk : k (.tup [.sl 0 [] .shut, bv false]) H := hk;exact endA hH (zdC (zaK _ _ _) (Wk.refl _)) (by simp [zap, zaD, za3]) hk
 ·(repeat apply zaa);refine zl5 ?_;simp only [push_cast, seval];(repeat apply zaa);refine zl5 ?_;simp only [push_cast, seval];(repeat apply zaa);refine zbQ ?_;simp only [push_cast, seval];refine ziu ?_ (hb (4 ^ c - 1) ⟨by omega, fun j hj => by omega⟩);have e : 4 ^ c - 1 - (4 ^ c - 1) = 0 := by omega
  show AS.Sub _ (firstS H x so c (4 ^ c - 1 - (4 ^ c - 1)));rw [e];refine ⟨fun t' a e' => zh2 (by unfold firstS; simp only [push_cast, seval, List.forall_mem_cons, List.not_mem_nil, false_imp_iff, implies_true, List.forall_mem_nil]; simp [zaf, Wk.refl]) e', ?_⟩;show _ = H ++ [AObj.cells ((digs c 0).map iv) 108];rw [zkT]; rfl
end
open Go.Conc Go.Proofs
def cutS (x : Ring) : List Int → Nat → Nat × Option Int
 | [], due => (due, none)
 | n :: l, due => if inM n 0 (x.locks.length - 1) then (if due.testBit n.toNat then (due, some 2) else cutS x l (due ||| 2 ^ n.toNat)) else (due, some 1)
theorem zkZ {x : Ring} {l : List Int} {i : Nat} {n : Int} (h : l[i]? = some n) : ∀ due, cutS x (l.drop i) due = cutS x (n :: l.drop (i + 1)) due := fun due => by
 obtain ⟨hj, rfl⟩ := List.getElem?_eq_some_iff.1 h;rw [List.drop_eq_getElem_cons hj]
section
variable {lv : Bool} {H : List AObj} {k kp : AV → List AObj → Prop}
theorem f138_c {r d : Nat} {x : Ring} {ds : List Int} {due : Nat} (hx : x.Ok) (hds : ds.length = 4) (hdue : due < 256) (hr : H[r]? = some (.cells [.rp (x.l ++ opensL x)] 100)) (hd : H[d]? = some (.cells [uv due] 110)) (hk : k (bv (openedM x.cuts ds x.locks x.locks.length == due)) H) : FnC lv Tryz.prog 138 H [.agg (ds.map iv), .op r 0, .op d 0] k kp := by
 refine zak (rs := [.tmp 4]) (nt := 10) F.f138 rfl rfl rfl (by simp) fun hH hA => ?_;simp only [argsT, Nat.reduceAdd];have hdl : (ds.map iv).length = 4 := by simp [hds]
 have htk : List.take 4 (ds.map iv) = ds.map iv := List.take_of_length_le (by omega);have hc := hx.cuts;have hl := hx.locks;(repeat apply zaa);refine zl5 ?_;simp only [push_cast, seval];(repeat apply zaa);refine zaT F.mixed 5 (by kernel_rfl) ?_;simp only [push_cast, seval, zay hr, zay hd, hdl, htk];refine qCall (uv (openedM x.cuts ds x.locks x.locks.length)) (zad (by kernel_rfl) (f139_c hds (by omega) hl (fun l hl => by have := (hx.lock l hl).1; omega) ⟨rfl, rfl⟩)) ?_;(try simp only [push_cast, seval]);(repeat apply zaa);refine zai ?_;simp only [push_cast, seval];exact endA hH (Wk.refl _) (by simp [zap]) (by rw [show (((openedM x.cuts ds x.locks x.locks.length : Nat) : Int) == (due : Int)) = (openedM x.cuts ds x.locks x.locks.length == due) from by rw [Bool.eq_iff_iff]; simp only [beq_iff_eq]; omega]; exact hk)
def dueF (l : List Int) : Nat := l.foldl (fun due n => due ||| 2 ^ n.toNat) 0
theorem zkO {l : List Int} {i : Nat} {n : Int} (h : l[i]? = some n) : dueF (l.take (i + 1)) = dueF (l.take i) ||| 2 ^ n.toNat := by
 obtain ⟨hj, rfl⟩ := List.getElem?_eq_some_iff.1 h;unfold dueF;rw [List.take_succ_eq_append_getElem hj, List.foldl_append]; rfl
theorem f134_c {a b d : Nat} {x : Ring} {l : List Int} (hx : x.Ok) (hll : l.length < 2 ^ 30) (hl : H[a]? = some (.cells [aInts l] 30)) (hr : H[b]? = some (.cells x.l 26)) (hd : H[d]? = some (.cells [uv 0] 110)) (had : a ≠ d) (hbd : b ≠ d) (hk : (cutS x l 0).2 = none → k (.tup []) (H.set d (.cells [uv (cutS x l 0).1] 110))) (hp : ∀ f, (cutS x l 0).2 = some f → kp (.ifc 106 (iv f)) (H.set d (.cells [uv (cutS x l 0).1] 110))) : FnC lv Tryz.prog 134 H [.op a 0, .op b 0, .op d 0] k kp := by
 refine zak (rs := []) (nt := 27) F.f134 rfl rfl rfl (by simp) fun hH hA => ?_;simp only [argsT, Nat.reduceAdd];have hr2 := hr;rw [Ring.l] at hr2;have hx5 := hx.locks;have hw : IntKind.i64.wrap ((x.locks.length : Int) - 1) = x.locks.length - 1 := zau _ (by omega);have gx : ∀ z, (H.set d z)[b]? = some (.cells [iv x.cuts, aKeys x.keys, aLocks x.locks, aTries x.tries] 26) := fun z => by rw [List.getElem?_set_ne (Ne.symm hbd)]; exact hr2
 have gd : ∀ z, (H.set d z)[d]? = some z := fun z => List.getElem?_set_self (get_lt hd);have gs : ∀ z z', (H.set d z).set d z' = H.set d z' := fun z z' => List.set_set ..;have hokb : ∀ m, HOk (H.set d (.cells [uv m] 110)) := fun m y hy => by
  rw [List.length_set];rcases List.mem_or_eq_of_mem_set hy with h | h
  ·exact hH y h
  ·rw [h]; intro a ha; simp at ha; subst ha; exact .val _
 (repeat apply zaa);refine zl5 ?_;simp only [push_cast, seval, hl, aInts];(repeat apply zaa);refine zag ?_;refine zaB l.length (fun i : Nat => [(7, iv i)]) (fun i => H.set d (.cells [uv (dueF (l.take i))] 110)) (fun i => cutS x l 0 = cutS x (l.drop i) (dueF (l.take i)) ∧ dueF (l.take i) < 256) (fun _ _ => rfl) (by simp only [push_cast, seval, List.forall_mem_cons, List.not_mem_nil, false_imp_iff, implies_true, List.forall_mem_nil]; simp [zaf, Wk.refl]) (by exact zh7 hd) (fun _ _ _ => by simp) ⟨by simp [dueF], by simp [dueF]⟩ (fun hHs hLt i hin hi R hR => ?_);(repeat apply zaa);refine zl5 ?_;simp only [push_cast, seval];(repeat apply zaa);refine zae ?_;simp only [push_cast, seval];refine ⟨fun h => ?_, fun h => ?_⟩
 ·have hil : i < l.length := by omega
  obtain ⟨n, hn⟩ := zaE hil;have hi1 : IntKind.i64.wrap ((i : Int) + 1) = ((i + 1 : Nat) : Int) := by rw [zau _ (by omega)]; rfl
  (repeat apply zaa);refine zah ?_;simp only [push_cast, seval];(repeat apply zaa);refine zag ?_;(repeat apply zaa);refine zl5 ?_;simp only [push_cast, seval, za2 hn, zaz hil];(repeat apply zaa);refine zl5 ?_;simp only [push_cast, seval, gx, aLocks, hw];obtain ⟨hcut, hdl⟩ := hi;rw [zkZ hn] at hcut;refine zl6 ((f91_c ?_));(try simp only [push_cast, seval]);refine zl6 ((f90_c (fun h2 => ?_) (fun h2 => ?_)))
  ·have h3 : inM n 0 (x.locks.length - 1) = true := (by simpa [inM] using h2);obtain ⟨hn0, hn1⟩ := zbU.1 h3;obtain ⟨nn, rfl⟩ : ∃ m : Nat, n = m := ⟨n.toNat, by omega⟩;rw [cutS, if_pos h3, Int.toNat_natCast] at hcut;(try simp only [push_cast, seval]);(repeat apply zaa);refine zl5 ?_;simp only [push_cast, seval, gd];refine zl6 ((f135_c hdl ?_));(try simp only [push_cast, seval]);refine zl6 ((f90_c (fun h4 => ?_) (fun h4 => ?_)))
   ·have h5 : (dueF (l.take i)).testBit nn = false := (by simpa using h4);rw [h5] at hcut;simp only [Bool.false_eq_true, if_false] at hcut;(try simp only [push_cast, seval]);(repeat apply zaa);refine zl5 ?_;simp only [push_cast, seval, gd];refine zl6 ((f136_c hdl (by omega) ?_));(try simp only [push_cast, seval, gd, gs]);(repeat apply zaa);refine zl5 ?_;simp only [push_cast, seval, hi1];have hdt := zkO hn;rw [Int.toNat_natCast] at hdt;refine hR _ ⟨hil, ⟨by rw [hdt]; exact hcut, ?_⟩, ?_⟩
    ·rw [hdt]; exact Nat.or_lt_two_pow (n := 8) hdl (Nat.pow_lt_pow_right (by decide) (by omega))
    ·rw [hdt]; exact (zax (zam rfl rfl) (by simp only [push_cast, seval]; simp [zaf, Wk.refl]))
   ·have h5 : (dueF (l.take i)).testBit nn = true := (by simpa using h4);rw [h5, if_pos rfl] at hcut;have hp := hp 2 (by rw [hcut]);rw [hcut] at hp;exact zaJ (H' := H.set d (.cells [uv (dueF (l.take i))] 110)) (G := []) (Wk.refl _) (by simp) (by simp) (hokb _) (by simp [zap, zey]) hp
  ·have h3 : ¬ inM n 0 (x.locks.length - 1) = true := (by simpa [inM] using h2);rw [cutS, if_neg h3] at hcut;have hp := hp 1 (by rw [hcut]);rw [hcut] at hp;exact zaJ (H' := H.set d (.cells [uv (dueF (l.take i))] 110)) (G := []) (Wk.refl _) (by simp) (by simp) (hokb _) (by simp [zap, zey]) hp
 ·have hix : i = l.length := by omega
  subst hix;obtain ⟨hcut, hdl⟩ := hi;rw [List.drop_length, cutS, List.take_length] at hcut;(repeat apply zaa);refine zaq ?_;simp only [push_cast, seval];rw [List.take_length];have hk := hk (by rw [hcut]);rw [hcut] at hk;exact zaJ (H' := H.set d (.cells [uv (dueF l)] 110)) (G := []) (Wk.refl _) (by simp) (by simp) (hokb _) (by simp [zaD]) hk
end
open Go.Conc Go.Proofs
theorem zk0 {x : Ring} (hl : x.locks.length ≤ 4) : ∀ (l : List Int) (due : Nat), due < 256 → (cutS x l due).1 < 256
 | [], due, h => h
 | n :: l, due, h => by
  rw [cutS];split
  ·rename_i h2;have := zbU.1 h2;split
   ·exact h
   ·exact zk0 hl l _ (Nat.or_lt_two_pow (n := 8) h (Nat.pow_lt_pow_right (by decide) (by omega)))
  ·exact h
def newCutM (x : Ring) (l : List Int) : Option (List Int) := firstM x.cuts.toNat fun ds => openedM x.cuts ds x.locks x.locks.length == (cutS x l 0).1
section
variable {lv : Bool} {H : List AObj} {k kp : AV → List AObj → Prop}
theorem ask_cut {a b d : Nat} {x : Ring} {l : List Int} (hx : x.Ok) (hll : l.length < 2 ^ 30) (hl : H[a]? = some (.cells [aInts l] 30)) (hr : H[b]? = some (.cells x.l 26)) (hd : H[d]? = some (.cells [uv 0] 110)) (had : a ≠ d) (hbd : b ≠ d) : AskT lv H (H.set d (.cells [uv (cutS x l 0).1] 110)) (.fn (.func 134) [] [.op a 0, .op b 0, .op d 0]) (cutS x l 0).2 := fun L k kp h1 h2 => by
 have e : (H ++ L).set d (.cells [uv (cutS x l 0).1] 110) = H.set d (.cells [uv (cutS x l 0).1] 110) ++ L := List.set_append_left _ _ (get_lt hd);rw [← e] at h1 h2;exact zad (by kernel_rfl) (f134_c hx hll (zay hl) (zay hr) (zay hd) had hbd h1 h2)
theorem so_cut {r d : Nat} {x : Ring} {due : Nat} (hx : x.Ok) (hdue : due < 256) (hr : H[r]? = some (.cells [.rp (x.l ++ opensL x)] 100)) (hd : H[d]? = some (.cells [uv due] 110)) : DoC lv H (.fn (.func 138) [] [.op r 0, .op d 0]) (fun ds => openedM x.cuts ds x.locks x.locks.length == due) := fun L ds k kp h1 h2 h =>
 zad (by kernel_rfl) (f138_c hx h1 hdue (zay hr) (zay hd) h)
theorem f62_c {x : Ring} {l : List Int} (hnr : NewRingC lv) (hmain : H[0]? = some .main) (hs : x.Small) (hll : l.length < 2 ^ 30) (h1 : openE x (cutS x l 0).2 ≠ 0 → k (.tup [.sl 0 [] .exact, iv (openE x (cutS x l 0).2)]) H) (h2 : openE x (cutS x l 0).2 = 0 → newCutM x l = none → k (.tup [.sl 0 [] .exact, iv 11]) H) (h3 : openE x (cutS x l 0).2 = 0 → ∀ xs, newCutM x l = some xs → k (.tup [aInts xs, iv 0]) H) : FnC lv Tryz.prog 62 H [x.av, aInts l] k kp := by
 have hmn : ∀ L : List AObj, (H ++ L)[0]? = some .main := fun L => zay hmain;refine zak (rs := [.tmp 4, .tmp 5]) (nt := 29) F.f62 rfl rfl rfl (by simp) fun hH hA => ?_;simp only [argsT, Nat.reduceAdd, Ring.av];(repeat apply zaa);refine zl5 ?_;simp only [push_cast, seval, Ring.l];(repeat apply zaa);refine zl5 ?_;simp only [push_cast, seval];(repeat apply zaa);refine zl5 ?_;simp only [push_cast, seval, List.mapM_cons, List.mapM_nil, Option.pure_def, Option.bind_eq_bind];have hask : checkM x = 0 → AskT lv (H ++ [.cells x.l 26, .cells [aInts l] 30, .cells [.val (.int .u8 0)] 110]) (H ++ [.cells x.l 26, .cells [aInts l] 30, .cells [uv (cutS x l 0).1] 110]) (.fn (.func 134) [] [.op (H.length + 1) 0, .op H.length 0, .op (H.length + 2) 0]) (cutS x l 0).2 := fun hc => by
  have h := ask_cut (lv := lv) (H := H ++ [.cells x.l 26, .cells [aInts l] 30, .cells [.val (.int .u8 0)] 110]) (a := H.length + 1) (b := H.length) (d := H.length + 2) (zbH.1 hc) hll (by simp only [push_cast, seval]) (by simp only [push_cast, seval]) (by simp only [push_cast, seval] <;> rfl) (by omega) (by omega);rwa [show (H ++ [AObj.cells x.l 26, .cells [aInts l] 30, .cells [.val (.int .u8 0)] 110]).set (H.length + 2) (.cells [uv (cutS x l 0).1] 110) = H ++ [.cells x.l 26, .cells [aInts l] 30, .cells [uv (cutS x l 0).1] 110] from zbR H _ 2 _] at h
 refine zl6 ((f87_t hnr (H' := H ++ [AObj.cells x.l 26, AObj.cells [aInts l] 30, AObj.cells [uv (cutS x l 0).1] 110]) (hmn _) (by simp) (fun h => zc6 hH ?_) hs hask (fun hc => ?_) (fun hc hz => ?_) (fun hz => ?_)))
 ·intro z hz n;simp only [List.mem_cons, List.not_mem_nil, or_false] at hz;rcases hz with rfl | rfl | rfl
  ·intro a ha;simp only [Ring.l, List.mem_cons, List.not_mem_nil, or_false] at ha;rcases ha with rfl | rfl | rfl | rfl
   ·exact .val _
   ·rw [zc5]; trivial
   ·rw [zci]; trivial
   ·rw [zch]; trivial
  ·intro a ha; simp at ha; subst ha; rw [zbi]; trivial
  ·intro a ha; simp at ha; subst ha; exact .val _
 ·(try simp only [push_cast, seval]);(repeat apply zaa);refine zl5 ?_;simp only [push_cast, seval];have hz : openE x (cutS x l 0).2 ≠ 0 := fun e => hc (zaN.1 e).1;(repeat apply zaa);refine zae ?_;simp only [push_cast, seval];refine ⟨fun h => ?_, fun h => absurd (by simpa using h) hz⟩;(repeat apply zaa);refine zl5 ?_;simp only [push_cast, seval];(repeat apply zaa);refine zai ?_;simp only [push_cast, seval];exact endA hH (Wk.refl _) (by simp [zap, zaD, zbh]) (h1 hz)
 ·(try simp only [push_cast, seval]);(repeat apply zaa);refine zl5 ?_;simp only [push_cast, seval];(repeat apply zaa);refine zae ?_;simp only [push_cast, seval];refine ⟨fun h => ?_, fun h => absurd (by simpa using h) hz⟩;(repeat apply zaa);refine zl5 ?_;simp only [push_cast, seval];(repeat apply zaa);refine zai ?_;simp only [push_cast, seval];exact endA hH (Wk.refl _) (by simp [zap, zaD, zbh]) (h1 hz)
 ·(try simp only [push_cast, seval]);(repeat apply zaa);refine zl5 ?_;simp only [push_cast, seval];have hx := zbp hz;(repeat apply zaa);refine zae ?_;simp only [push_cast, seval];(repeat apply zaa);refine zah ?_;simp only [push_cast, seval];(repeat apply zaa);refine zl5 ?_;simp only [push_cast, seval, List.mapM_cons, List.mapM_nil, Option.pure_def, Option.bind_eq_bind];refine zl6 ((f137_c hx (so_cut (r := H.length + 3) (d := H.length + 2) hx (zk0 hx.locks l 0 (by decide)) (by simp only [push_cast, seval] <;> rfl) (by simp only [push_cast, seval] <;> rfl)) ?_));(try simp only [push_cast, seval]);rw [show firstM x.cuts.toNat (fun ds => openedM x.cuts ds x.locks x.locks.length == (cutS x l 0).1) = newCutM x l from rfl];(repeat apply zaa);refine zl5 ?_;simp only [push_cast, seval];(repeat apply zaa);refine zae ?_;simp only [push_cast, seval];cases hm : newCutM x l with
  | none =>
   refine ⟨fun h => ?_, fun h => by simp at h⟩;(repeat apply zaa);refine zl5 ?_;simp only [push_cast, seval];(repeat apply zaa);refine zai ?_;simp only [push_cast, seval];exact endA hH (Wk.refl _) (by simp [zap, zaD, zbh]) (h2 hz hm)
  | some xs =>
   refine ⟨fun h => by simp at h, fun h => ?_⟩;(repeat apply zaa);refine zah ?_;simp only [push_cast, seval];(repeat apply zaa);refine zl5 ?_;simp only [push_cast, seval];(repeat apply zaa);refine zai ?_;simp only [push_cast, seval];exact endA hH (Wk.refl _) (by simp [zap, zaD, zbi]) (h3 hz xs hm)
end
open Go.Conc Go.Proofs
def exR (ts : List Try) : Ring := ⟨2, [⟨[3, 1], ⟨0, 1⟩⟩, ⟨[2, 2], ⟨0, 0⟩⟩, ⟨[1, 3], ⟨0, 2⟩⟩], [[⟨2, 3⟩, ⟨0, 1⟩], [⟨2, 2⟩, ⟨1, 2⟩], [⟨0, 1⟩, ⟨2, 3⟩]], ts⟩
def exLast : Try := ⟨2, 2, true⟩
def exNever : Try := ⟨1, 1, false⟩
def exOne : Ring := ⟨2, [⟨[2, 2], ⟨0, 0⟩⟩], [[⟨2, 3⟩, ⟨0, 1⟩], [⟨2, 2⟩, ⟨1, 2⟩], [⟨0, 1⟩, ⟨2, 3⟩]], []⟩
theorem zbq {ts : List Try} (h : ts.length < 2 ^ 30) : (exR ts).Small := ⟨by show 3 < 2 ^ 30; decide, by show 3 < 2 ^ 30; decide, h, fun x hx => by simp only [exR, List.mem_cons, List.not_mem_nil, or_false] at hx; rcases hx with rfl | rfl | rfl <;> decide, fun x hx => by simp only [exR, List.mem_cons, List.not_mem_nil, or_false] at hx; rcases hx with rfl | rfl | rfl <;> decide⟩
theorem zhI : exOne.Small := ⟨by decide, by decide, by decide, by decide, by decide⟩
section
variable {H : List AObj} {k kp : AV → List AObj → Prop}
theorem ex_worn (hmain : H[0]? = some .main) (hk : k (.tup [aInts [0, 1], iv 0]) H) : FnC true Tryz.prog 30 H [(exR []).av, iv 2, iv 2] k kp :=
 f30_c zaQ hmain (zbq (by decide)) (fun h => absurd (by decide +kernel) h) fun _ => by
  rw [show wornOf (exR []) (2 : Int).toNat (2 : Int).toNat = [0, 1] by decide +kernel]; exact hk
theorem ex_opens (hmain : H[0]? = some .main) (hk : k (.tup [iv 3, iv 0]) H) : FnC true Tryz.prog 32 H [(exR []).av, iv 2, iv 2] k kp :=
 f32_c zaQ hmain (zbq (by decide)) (fun h => absurd (by decide +kernel) h) fun _ => by
  rw [show verdictM (cntM (exR []) (2 : Int).toNat (2 : Int).toNat (truthsM (exR []) [])) (truthsM (exR []) []).length = 3 by decide +kernel]; exact hk
theorem ex_count (hmain : H[0]? = some .main) (hk : k (.tup [iv 4, iv 0]) H) : FnC true Tryz.prog 53 H [(exR [exLast]).av] k kp :=
 f53_c zaQ hmain (zbq (by decide)) (fun h => absurd (by decide +kernel) h) fun _ => by
  rw [show (truthsM (exR [exLast]) []).length = 4 by decide +kernel]; exact hk
theorem ex_ask (hmain : H[0]? = some .main) (hk : k (.tup [iv 2, iv 2, iv 4, iv 0]) H) : FnC true Tryz.prog 55 H [(exR []).av] k kp :=
 f55_c zaQ hmain (zbq (by decide)) (fun h => absurd (by decide +kernel) h) (fun _ h => absurd h (by decide +kernel)) fun _ a b c h => by
  rw [show askR (exR []) = some (2, 2, 4) by decide +kernel] at h; cases h; exact hk
theorem ex_cover (hmain : H[0]? = some .main) (hk : k (.tup [aInts [0, 1, 2], iv 0]) H) : FnC true Tryz.prog 38 H [(exR [exLast]).av] k kp :=
 f38_c zaQ hmain (zbq (by decide)) (fun h => absurd (by decide +kernel) h) (fun _ h => absurd h (by decide +kernel)) fun _ xs h => by
  rw [show coverM (exR [exLast]) = some [0, 1, 2] by decide +kernel] at h; cases h; exact hk
theorem ex_alike (hmain : H[0]? = some .main) (hk : k (.tup [aInts [0, 1, 0], iv 0]) H) : FnC true Tryz.prog 40 H [exOne.av] k kp :=
 f40_c zaQ hmain zhI (fun h => absurd (by decide +kernel) h) fun _ => by
  rw [show alikeM exOne = [0, 1, 0] by decide +kernel]; exact hk
theorem ex_which (hmain : H[0]? = some .main) (hk : k (.tup [aInts [1, 2], iv 0]) H) : FnC true Tryz.prog 46 H [(exR []).av, aTurns [⟨0, false⟩]] k kp :=
 f46_c zaQ hmain (zbq (by decide)) (by decide) (fun h => absurd (by decide +kernel) h) fun _ => by
  rw [show whichM (exR []) [⟨0, false⟩] = [1, 2] by decide +kernel]; exact hk
theorem ex_cut (hmain : H[0]? = some .main) (hk : k (.tup [aInts [2, 1], iv 0]) H) : FnC true Tryz.prog 62 H [(exR []).av, aInts [0, 1]] k kp :=
 f62_c zaQ hmain (zbq (by decide)) (by decide) (fun h => absurd (by decide +kernel) h) (fun _ h => absurd h (by decide +kernel)) fun _ xs h => by
  rw [show newCutM (exR []) [0, 1] = some [2, 1] by decide +kernel] at h; cases h; exact hk
theorem ex_wrong (hmain : H[0]? = some .main) (hk : k (.tup [aInts [0], iv 0]) H) : FnC true Tryz.prog 51 H [(exR [exNever]).av] k kp :=
 f51_c zaQ hmain (zbq (by decide)) (fun h => absurd (by decide +kernel) h) fun _ => by
  rw [show wrongM (exR [exNever]) = [0] by decide +kernel]; exact hk
theorem ex_tell (hmain : H[0]? = some .main) (hk : k (.tup [aInts [0, 1], iv 0]) H) : FnC true Tryz.prog 42 H [(exR []).av] k kp :=
 f42_c zaQ hmain (zbq (by decide)) (fun h => absurd (by decide +kernel) h) (fun _ h => absurd h (by decide +kernel)) fun _ xs h => by
  rw [show tellM (exR []) = some [0, 1] by decide +kernel] at h; cases h; exact hk
end
open Go.Conc Go.Proofs
structure TinS where
 nums : List Int
 g : Int
 s : Int
def tinO (τ : TinS) : AObj := .cells [aInts τ.nums, .val (.int .i64 τ.g), .val (.int .u64 τ.s)] 98
def xorU (a b : Int) : Int := IntKind.u64.wrap (BitVec.ofInt IntKind.u64.bits a ^^^ BitVec.ofInt IntKind.u64.bits b).toNat
def word0 (g : Int) : Int := IntKind.u64.wrap (IntKind.u64.wrap (IntKind.u64.wrap g * 15074714826142052245) + 11400714819323198485)
def wordT (τ : TinS) : Int := match τ.nums[τ.g.toNat]? with
 | some x => xorU (word0 τ.g) (IntKind.u64.wrap (IntKind.u64.wrap x * 12620523164723586485))
 | none => word0 τ.g
def mix1 (s w : Int) : Int := IntKind.u64.wrap (IntKind.u64.wrap (s + w) * 13787848793156543929)
def mix2 (s : Int) : Int := xorU s (s.fdiv (2 ^ min 31 IntKind.u64.bits))
def out1 (s : Int) : Int := (xorU s (s.fdiv (2 ^ min 27 IntKind.u64.bits))).fdiv (2 ^ min 9 IntKind.u64.bits)
def tick (τ : TinS) : TinS := ⟨τ.nums, τ.g + 1, mix2 (mix1 τ.s (wordT τ))⟩
def outT (τ : TinS) : Int := out1 (IntKind.u64.wrap ((tick τ).s * 10723151780598845931))
def uptoT (τ : TinS) (n : Int) : Int := if n < 1 then 0 else (outT τ).tmod (n + 1)
def withinT (τ : TinS) (lo hi : Int) : Int := lo + uptoT τ (hi - lo)
def rarelyT (τ : TinS) (n : Int) : Bool := uptoT τ (n - 1) == 0
def bandT (τ : TinS) (lo hi : Int) : Band := ⟨withinT τ lo hi, withinT (tick τ) (withinT τ lo hi) hi⟩
structure TinAt (Gf : TinS → List AObj) (t N : Nat) : Prop where
 len : ∀ τ, (Gf τ).length = N
 get : ∀ τ, (Gf τ)[t]? = some (tinO τ)
 set : ∀ τ τ', (Gf τ).set t (tinO τ') = Gf τ'
 ok : ∀ m τ τ', (∀ z ∈ Gf τ, OLt m z) → ∀ z ∈ Gf τ', OLt m z
theorem TinAt.more {Gf : TinS → List AObj} {t N : Nat} (h : TinAt Gf t N) (L : List AObj) : TinAt (fun τ => Gf τ ++ L) t (N + L.length) where
 len := fun τ => by simp [h.len]
 get := fun τ => zay (h.get τ)
 set := fun τ τ' => by show (Gf τ ++ L).set t _ = _; rw [List.set_append_left _ _ (get_lt (h.get τ)), h.set]
 ok := fun m τ τ' hk z hz => (List.mem_append.1 hz).elim (fun hz => h.ok m τ τ' (fun v hv => hk v (List.mem_append_left _ hv)) z hz) (fun hz => hk z (List.mem_append_right _ hz))
theorem TinAt.hok {Gf : TinS → List AObj} {t N : Nat} (h : TinAt Gf t N) {τ : TinS} (hH : HOk (Gf τ)) (τ' : TinS) : HOk (Gf τ') := fun z hz => by
 have := h.ok N τ τ' (fun w hw => by have := hH w hw; rwa [h.len] at this) z hz;rwa [h.len]
section
variable {Gf : TinS → List AObj} {t N : Nat} (h : TinAt Gf t N)
include h
theorem TinAt.g0 (τ : TinS) (L : List AObj) : (Gf τ ++ L)[N]? = L[0]? := by have := zco (Gf τ) L 0; rwa [h.len] at this
theorem TinAt.g1 (τ : TinS) (L : List AObj) : (Gf τ ++ L)[N + 1]? = L[1]? := by have := zco (Gf τ) L 1; rwa [h.len] at this
theorem TinAt.g2 (τ : TinS) (L : List AObj) : (Gf τ ++ L)[N + 1 + 1]? = L[2]? := by have := zco (Gf τ) L 2; rwa [h.len] at this
theorem TinAt.g3 (τ : TinS) (L : List AObj) : (Gf τ ++ L)[N + 1 + 1 + 1]? = L[3]? := by have := zco (Gf τ) L 3; rwa [h.len] at this
theorem TinAt.h2 (τ : TinS) (L : List AObj) : (Gf τ ++ L)[N + 2]? = L[2]? := h.g2 τ L
theorem TinAt.h3 (τ : TinS) (L : List AObj) : (Gf τ ++ L)[N + 3]? = L[3]? := h.g3 τ L
theorem TinAt.s1 (τ : TinS) (L : List AObj) (x : AObj) : (Gf τ ++ L).set (N + 1) x = Gf τ ++ L.set 1 x := by have := zbR (Gf τ) L 1 x; rwa [h.len] at this
theorem TinAt.s2 (τ : TinS) (L : List AObj) (x : AObj) : (Gf τ ++ L).set (N + 1 + 1) x = Gf τ ++ L.set 2 x := by have := zbR (Gf τ) L 2 x; rwa [h.len] at this
theorem TinAt.s3 (τ : TinS) (L : List AObj) (x : AObj) : (Gf τ ++ L).set (N + 1 + 1 + 1) x = Gf τ ++ L.set 3 x := by have := zbR (Gf τ) L 3 x; rwa [h.len] at this
theorem TinAt.t2 (τ : TinS) (L : List AObj) (x : AObj) : (Gf τ ++ L).set (N + 2) x = Gf τ ++ L.set 2 x := h.s2 τ L x
theorem TinAt.t3 (τ : TinS) (L : List AObj) (x : AObj) : (Gf τ ++ L).set (N + 3) x = Gf τ ++ L.set 3 x := h.s3 τ L x
end
structure TinS.Ok (τ : TinS) (b : Int) : Prop where
 g0 : 0 ≤ τ.g
 g : τ.g ≤ b
 len : τ.nums.length ≤ 2 ^ 50
section
variable {lv : Bool} {H : List AObj} {k kp : AV → List AObj → Prop} {Gf : TinS → List AObj} {t N : Nat} {τ : TinS} {b : Int}
theorem TinS.Ok.tick (h : τ.Ok b) : (tick τ).Ok (b + 1) := ⟨by have := h.g0; show 0 ≤ τ.g + 1; omega, by have := h.g; show τ.g + 1 ≤ b + 1; omega, h.len⟩
theorem TinS.Ok.mono {b' : Int} (h : τ.Ok b) (hb : b ≤ b') : τ.Ok b' := ⟨h.g0, by have := h.g; omega, h.len⟩
end
open Go.Conc Go.Proofs
theorem zgb {xs ys : List Int} {i : Nat} {x y : Int} (hx : xs[i]? = some x) (hy : ys[i]? = some y) (h : xs.take i = ys.take i) (e : x = y) : xs.take (i + 1) = ys.take (i + 1) := by
 obtain ⟨hj, rfl⟩ := List.getElem?_eq_some_iff.1 hx;obtain ⟨hk, rfl⟩ := List.getElem?_eq_some_iff.1 hy;rw [List.take_succ_eq_append_getElem hj, List.take_succ_eq_append_getElem hk, h, e]
section
variable {lv : Bool} {H : List AObj} {k kp : AV → List AObj → Prop}
theorem f34_c {xs ys : List Int} {e e' : End} (hx : xs.length < 2 ^ 60) (hk : k (bv (decide (xs = ys))) H) : FnC lv Tryz.prog 34 H [.sl xs.length (xs.map iv) e, .sl ys.length (ys.map iv) e'] k kp := by
 refine zak (rs := [.tmp 4]) (nt := 26) F.f34 rfl rfl rfl (by simp) fun hH hA => ?_;simp only [argsT, Nat.reduceAdd];(repeat apply zaa);refine zl5 ?_;simp only [push_cast, seval];(repeat apply zaa);refine zl5 ?_;simp only [push_cast, seval];(repeat apply zaa);refine zae ?_;simp only [push_cast, seval];refine ⟨fun h => ?_, fun h => ?_⟩
 ·have h : xs ≠ ys := fun e => by subst e; simp at h
  (repeat apply zaa);refine zl5 ?_;simp only [push_cast, seval];(repeat apply zaa);refine zai ?_;simp only [push_cast, seval];rw [decide_eq_false h] at hk;exact zao hk
 ·have h : xs.length = ys.length := by
   have h : (xs.length : Int) = ys.length := (by simpa using h);omega
  (repeat apply zaa);refine zah ?_;simp only [push_cast, seval];(repeat apply zaa);refine zl5 ?_;simp only [push_cast, seval];(repeat apply zaa);refine zag ?_;refine zaB xs.length (fun i : Nat => [(5, iv i)]) (fun _ => _) (fun i => xs.take i = ys.take i) (fun _ _ => rfl) (by simp only [push_cast, seval, List.forall_mem_cons, List.not_mem_nil, false_imp_iff, implies_true, List.forall_mem_nil]; simp [zaf, Wk.refl]) rfl (fun _ _ _ => rfl) (by simp) (fun hHs hLt i hin hi R hR => ?_);(repeat apply zaa);refine zl5 ?_;simp only [push_cast, seval];(repeat apply zaa);refine zae ?_;simp only [push_cast, seval];refine ⟨fun h2 => ?_, fun h2 => ?_⟩
  ·have hlt : i < xs.length := (by omega);obtain ⟨x, hx1⟩ := zaE hlt;obtain ⟨y, hy1⟩ := zaE (xs := ys) (i := i) (by omega);(repeat apply zaa);refine zah ?_;simp only [push_cast, seval];(repeat apply zaa);refine zag ?_;(repeat apply zaa);refine zaT F.mixed 8 (by kernel_rfl) ?_;simp only [push_cast, seval, za2 hx1, za2 hy1, zaz hlt, zaz (get_lt hy1)];(repeat apply zaa);refine zae ?_;simp only [push_cast, seval];refine ⟨fun h3 => ?_, fun h3 => ?_⟩
   ·have h3 : xs ≠ ys := fun e => (by subst e; rw [hx1] at hy1; cases hy1; simp at h3);(repeat apply zaa);refine zl5 ?_;simp only [push_cast, seval];(repeat apply zaa);refine zai ?_;simp only [push_cast, seval];rw [decide_eq_false h3] at hk;exact zao hk
   ·have h3 : x = y := (by simpa using h3);(repeat apply zaa);refine zah ?_;simp only [push_cast, seval];(repeat apply zaa);refine zl5 ?_;simp only [push_cast, seval];refine hR _ ⟨hlt, zgb hx1 hy1 hi h3, ?_⟩;rw [zau _ (by omega)];exact (zax (zam rfl rfl) (by simp only [push_cast, seval]; simp [zaf, Wk.refl]))
  ·have hix : i = xs.length := (by omega);(repeat apply zaa);refine zaq ?_;simp only [push_cast, seval];(repeat apply zaa);refine zl5 ?_;simp only [push_cast, seval];(repeat apply zaa);refine zai ?_;simp only [push_cast, seval];have h3 : xs = ys := by
    rw [hix, List.take_length] at hi;rw [hi, h, List.take_length]
   rw [decide_eq_true h3] at hk;exact zao hk
end
open Go.Conc Go.Proofs
inductive Wks : List AV → List AV → Prop
 | nil : Wks [] []
 | cons {a b : AV} {l m : List AV} (h : Wk a b) (t : Wks l m) : Wks (a :: l) (b :: m)
theorem Wks.len {l m : List AV} (h : Wks l m) : l.length = m.length := by
 induction h with
 | nil => rfl
 | cons _ _ ih => simp [ih]
theorem Wks.at {l m : List AV} (h : Wks l m) : ∀ (i : Nat) (a b : AV), m[i]? = some a → l[i]? = some b → Wk b a := by
 induction h with
 | nil => intro i a b h; simp at h
 | cons h _ ih =>
  intro i a b h1 h2
  match i with
  | 0 => cases h1; cases h2; exact h
  | i + 1 => exact ih i a b h1 h2
theorem zhX {l l' : List AV} (h : Wks l l') : Wk (.agg l) (.agg l') := fun E v hd => by
 cases hd with
 | agg hs h1 =>
  refine .agg (by rw [hs, h.len]) fun i x hx => ?_;obtain ⟨y, hy⟩ := zaE (xs := l) (i := i) (by rw [h.len]; exact get_lt hx);exact h.at i x y hx hy E _ (h1 i y hy)
theorem wk_sl {n : Nat} {l l' : List AV} {e : End} (h : Wks l l') : Wk (.sl n l e) (.sl n l' .shut) := zhW (zeg h.len h.at) (zaK _ _ _)
theorem zr2 : zeroRow (Value.int .i64 0) 2 = [iv 0, iv 0] := rfl
theorem zr3 : zeroRow (Value.int .i64 0) 3 = [iv 0, iv 0, iv 0] := rfl
theorem zk3 : zeroRow (.agg #[.slice none 0 0, .int .i64 0, .int .i64 0]) 3 = [.sl 0 [] .exact, iv 0, iv 0] := rfl
theorem zk9 : zeroRow (.agg #[.slice none 0 0, .int .i64 0, .int .i64 0]) 9 = [.sl 0 [] .exact, iv 0, iv 0, .sl 0 [] .exact, iv 0, iv 0, .sl 0 [] .exact, iv 0, iv 0] := rfl
theorem zb4 : zeroRow (.agg #[.int .i64 0, .int .i64 0]) 4 = [iv 0, iv 0, iv 0, iv 0] := rfl
theorem zs3 : zeroRow (Value.slice none 0 0) 3 = [.sl 0 [] .exact, .sl 0 [] .exact, .sl 0 [] .exact] := rfl
theorem zt3 : zeroRow (.agg #[.int .i64 0, .int .i64 0, .bool false]) 3 = [iv 0, iv 0, bv false] := rfl
theorem zu2 : zeroRow (.agg #[.int .i64 0, .bool false]) 2 = [iv 0, bv false] := rfl
theorem zeh : (4 ≤ 2 ^ 24) = True := by simp
theorem p24_9 : (9 ≤ 2 ^ 24) = True := by simp
theorem zhq : (1 ≤ 2 ^ 24) = True := by simp
theorem zes : (2 ≤ 2 ^ 24) = True := by simp
theorem zd5 : (3 ≤ 2 ^ 24) = True := by simp
theorem zkE (x : List Int) : (aInts x).leaf = true := rfl
theorem zfd (x : List Band) : (aBands x).leaf = true := rfl
theorem zkC (x : List Key) : (aKeys x).leaf = true := rfl
theorem zjd (x : List (List Band)) : (aLocks x).leaf = true := rfl
theorem zjc (x : List Try) : (aTries x).leaf = true := rfl
attribute [push_cast] zkE zfd zkC zjd zjc
theorem zfC (n : Nat) (x : Ring) : Lt n x.av = True := by simp [Ring.av, Ring.l, zfa, zc5, zci, zch, zap, iv]
section
variable {lv : Bool} {H : List AObj} {k kp : AV → List AObj → Prop}
theorem f81_c {lo hi : Int} (hk : k (Band.mk lo hi).av H) : FnC lv Tryz.prog 81 H [iv lo, iv hi] k kp := by
 refine zak (rs := [.cell 4 63]) (nt := 8) F.f81 rfl rfl rfl (by simp) fun hH hA => ?_;simp only [argsT, Nat.reduceAdd];(repeat apply zaa);refine zl5 ?_;simp only [push_cast, seval];(repeat apply zaa);refine zl5 ?_;simp only [push_cast, seval];(repeat apply zaa);refine zai ?_;simp only [push_cast, seval];exact endA (b := (Band.mk lo hi).av) hH (Wk.refl _) (by simp [zap, zfa, Band.av, Band.l, iv]) hk
theorem f149_c {lo hi : Int} {xs : List Int} {e : End} (hk : k (Key.mk xs ⟨lo, hi⟩).av H) : FnC lv Tryz.prog 149 H [iv lo, iv hi, .sl xs.length (xs.map iv) e] k kp := by
 refine zak (rs := [.cell 6 65]) (nt := 12) F.f149 rfl rfl rfl (by simp) fun hH hA => ?_;simp only [argsT, Nat.reduceAdd];(repeat apply zaa);refine zl5 ?_;simp only [push_cast, seval];(repeat apply zaa);refine zl5 ?_;simp only [push_cast, seval];refine zl6 ((f81_c ?_));(try simp only [push_cast, seval, Band.av, Band.l]);(repeat apply zaa);refine zai ?_;simp only [push_cast, seval];exact endA (b := (Key.mk xs ⟨lo, hi⟩).av) hH (zhX (.cons (zaK _ _ _) (.cons (Wk.refl _) (.cons (Wk.refl _) .nil)))) (by simp [zap, zfa, Key.av, Key.l, iv, zbi]) hk
theorem f80_c {ts : List Try} {e : End} (hts : ts.length < 2 ^ 30) (hk : k (exR ts).av H) : FnC lv Tryz.prog 80 H [.sl ts.length (ts.flatMap Try.l) e] k kp := by
 refine zak (rs := [.cell 2 26]) (nt := 22) F.f80 rfl rfl rfl (by simp) fun hH hA => ?_;simp only [argsT, Nat.reduceAdd];(repeat apply zaa);refine zl5 ?_;simp only [push_cast, seval];(repeat apply zaa);refine zl5 ?_;simp only [push_cast, seval, zr2, zes];refine zl6 ((f149_c (xs := [3, 1]) ?_));(try simp only [push_cast, seval, Key.av, Key.l, zr2, zes]);refine zl6 ((f149_c (xs := [2, 2]) ?_));(try simp only [push_cast, seval, Key.av, Key.l, zr2, zes]);refine zl6 ((f149_c (xs := [1, 3]) ?_));(try simp only [push_cast, seval, Key.av, Key.l, zk9, p24_9]);refine zl6 ((f81_c ?_));(try simp only [push_cast, seval, Band.av, Band.l]);refine zl6 ((f81_c ?_));(try simp only [push_cast, seval, Band.av, Band.l, zb4, zeh]);refine zl6 ((f81_c ?_));(try simp only [push_cast, seval, Band.av, Band.l]);refine zl6 ((f81_c ?_));(try simp only [push_cast, seval, Band.av, Band.l, zb4, zeh]);refine zl6 ((f81_c ?_));(try simp only [push_cast, seval, Band.av, Band.l]);refine zl6 ((f81_c ?_));(try simp only [push_cast, seval, Band.av, Band.l, zb4, zs3, zeh, zd5]);(repeat apply zaa);refine zai ?_;simp only [push_cast, seval];exact endA (b := (exR ts).av) hH (zhX (.cons (Wk.refl _) (.cons (zaK _ _ _) (.cons (wk_sl (.cons (zaK _ _ _) (.cons (zaK _ _ _) (.cons (zaK _ _ _) .nil)))) (.cons (zaK _ _ _) .nil))))) (by rw [zfC]; trivial) hk
theorem f82_c (hk : k exLast.av H) : FnC lv Tryz.prog 82 H [] k kp := by
 refine zak (rs := [.cell 0 28]) (nt := 2) F.f82 rfl rfl rfl (by simp) fun hH hA => ?_;simp only [argsT, Nat.reduceAdd];(repeat apply zaa);refine zl5 ?_;simp only [push_cast, seval];(repeat apply zaa);refine zl5 ?_;simp only [push_cast, seval];(repeat apply zaa);refine zai ?_;simp only [push_cast, seval];exact endA (b := exLast.av) hH (Wk.refl _) (by simp [zap, zfa, Try.av, Try.l, exLast, iv, bv]) hk
theorem f83_c (hk : k exNever.av H) : FnC lv Tryz.prog 83 H [] k kp := by
 refine zak (rs := [.cell 0 28]) (nt := 2) F.f83 rfl rfl rfl (by simp) fun hH hA => ?_;simp only [argsT, Nat.reduceAdd];(repeat apply zaa);refine zl5 ?_;simp only [push_cast, seval];(repeat apply zaa);refine zl5 ?_;simp only [push_cast, seval];(repeat apply zaa);refine zai ?_;simp only [push_cast, seval];exact endA (b := exNever.av) hH (Wk.refl _) (by simp [zap, zfa, Try.av, Try.l, exNever, iv, bv]) hk
theorem f34_same {xs : List Int} {e e' : End} (hx : xs.length < 2 ^ 60) (hk : k (bv true) H) : FnC lv Tryz.prog 34 H [.sl xs.length (xs.map iv) e, .sl xs.length (xs.map iv) e'] k kp :=
 f34_c hx (by rw [decide_eq_true rfl]; exact hk)
theorem f84_c (hk : k exOne.av H) : FnC lv Tryz.prog 84 H [] k kp := by
 refine zak (rs := [.cell 0 26]) (nt := 8) F.f84 rfl rfl rfl (by simp) fun hH hA => ?_;simp only [argsT, Nat.reduceAdd];(repeat apply zaa);refine zl5 ?_;simp only [push_cast, seval];(repeat apply zaa);refine zl5 ?_;simp only [push_cast, seval];refine zl6 ((f80_c (ts := []) (by decide) ?_));(try simp only [push_cast, seval, Ring.av, Ring.l, exR]);(repeat apply zaa);refine zl5 ?_;simp only [push_cast, seval, aKeys, List.flatMap_cons, List.flatMap_nil, Key.l, Bool.false_and, ite_self, zlD];(repeat apply zaa);refine zl5 ?_;simp only [push_cast, seval];(repeat apply zaa);refine zai ?_;simp only [push_cast, seval];exact endA (b := exOne.av) hH (Wk.refl _) (by rw [zfC]; trivial) hk
end
open Go.Conc Go.Proofs
def lockStep (sm : Bool) (p : List Band × TinS) (d : Int) : List Band × TinS :=
 if sm then (p.1 ++ [⟨uptoT (tick (tick p.2)) d, withinT (tick (tick (tick p.2))) d 3⟩], tick (tick (tick (tick p.2)))) else (p.1 ++ [bandT p.2 0 3], tick (tick p.2))
def lockTo (sm : Bool) (τ : TinS) (ds : List Int) (i : Nat) : List Band × TinS := (ds.take i).foldl (lockStep sm) ([], τ)
def lockT (sm : Bool) (τ : TinS) (ds : List Int) : List Band × TinS := ds.foldl (lockStep sm) ([], τ)
section
variable {lv : Bool} {k kp : AV → List AObj → Prop} {Gf : TinS → List AObj} {t N : Nat} {τ : TinS} {b : Int}
end
open Go.Conc Go.Proofs
section
variable {Gf : TinS → List AObj} {t N : Nat} (h : TinAt Gf t N)
include h
theorem TinAt.hi (i : Nat) (τ : TinS) (L : List AObj) : (Gf τ ++ L)[N + i]? = L[i]? := by have := zco (Gf τ) L i; rwa [h.len] at this
theorem TinAt.ti (i : Nat) (τ : TinS) (L : List AObj) (x : AObj) : (Gf τ ++ L).set (N + i) x = Gf τ ++ L.set i x := by have := zbR (Gf τ) L i x; rwa [h.len] at this
theorem TinAt.h4 : type_of% (h.hi 4) := h.hi 4
theorem TinAt.h5 : type_of% (h.hi 5) := h.hi 5
theorem TinAt.h6 : type_of% (h.hi 6) := h.hi 6
theorem TinAt.h7 : type_of% (h.hi 7) := h.hi 7
theorem TinAt.h8 : type_of% (h.hi 8) := h.hi 8
theorem TinAt.t4 : type_of% (h.ti 4) := h.ti 4
end
theorem zho (bs : List Band) : (aBands bs).parts = some [aBands bs] := rfl
structure KeysP (c : Int) (ks : List Key) (ws : List Int) : Prop where
 len : ws.length = ks.length
 key : ∀ y ∈ ks, (y.cuts.length : Int) = c ∧ (∀ n ∈ y.cuts, 0 ≤ n ∧ n ≤ 3) ∧ y.wear.Ok 2
 worn : ∀ (i : Nat) y w, ks[i]? = some y → ws[i]? = some w → y.wear.min ≤ w ∧ w ≤ y.wear.max
def opensW (ks : List Key) (ws : List Int) (ls : List (List Band)) (k l : Int) : Bool := fitsM (wornM (ws.getD k.toNat 0) ((ks[k.toNat]?).map (·.cuts) |>.getD [])) (ls.getD l.toNat [])
structure RingP (K L T : Nat) (wr : Bool) (x : Ring) (ws : List Int) : Prop where
 cuts : 1 ≤ x.cuts ∧ x.cuts ≤ 3
 keys : 1 ≤ x.keys.length ∧ x.keys.length ≤ K
 kp : KeysP x.cuts x.keys ws
 locks : x.locks.length ≤ L
 lock : ∀ l ∈ x.locks, (l.length : Int) = x.cuts ∧ ∀ b ∈ l, b.Ok 3
 tries : x.tries.length ≤ T
 tried : ∀ t ∈ x.tries, (0 ≤ t.key ∧ t.key < x.keys.length) ∧ 0 ≤ t.lock ∧ t.lock < x.locks.length
 told : wr = false → ∀ t ∈ x.tries, t.opens = opensW x.keys ws x.locks t.key t.lock
theorem keys_len (ks : List Key) : (ks.flatMap Key.l).length = ks.length * 3 := by
 induction ks with
 | nil => rfl
 | cons b bs ih => rw [List.flatMap_cons, List.length_append, ih]; simp [Key.l]; omega
theorem zf5 (ks : List Try) : (ks.flatMap Try.l).length = ks.length * 3 := by
 induction ks with
 | nil => rfl
 | cons b bs ih => rw [List.flatMap_cons, List.length_append, ih]; simp [Try.l]; omega
theorem lt_opnk (n m k : Nat) (bs : List Key) : Lt n (.sl m (bs.flatMap Key.l) (.opn k)) = (k < n) := by
 rw [zdq, eq_iff_iff];refine ⟨fun h => h.1, fun h => ⟨h, fun a ha => ?_⟩⟩;have := zc5 n bs;rw [aKeys, za3] at this;exact this.mpr trivial a ha
theorem lt_opnl (n m k : Nat) (bs : List (List Band)) : Lt n (.sl m (bs.map aBands) (.opn k)) = (k < n) := by
 rw [zdq, eq_iff_iff];refine ⟨fun h => h.1, fun h => ⟨h, fun a ha => ?_⟩⟩;have := zci n bs;rw [aLocks, za3] at this;exact this.mpr trivial a ha
def roL (N : Nat) (c : Int) (ks : List Key) (ls : List (List Band)) (ts : List Try) : List AObj :=
 [.cells [iv 0, .sl 0 [] .exact, .sl 0 [] .exact, .sl 0 [] .exact] 26, .cells [iv c, .sl ks.length (ks.flatMap Key.l) (.opn (N + 2)), .sl ls.length (ls.map aBands) (.opn (N + 3)), .sl ts.length (ts.flatMap Try.l) (.opn (N + 4))] 26, .tail ks.length 3 65, .tail ls.length 1 29, .tail ts.length 3 28, .tail ks.length 1 3]
def roE (N : Nat) (c : Int) (ks : List Key) (ls : List (List Band)) (ts : List Try) : List AObj := .cells [iv c, .sl ks.length (ks.flatMap Key.l) (.opn (N + 2)), .sl ls.length (ls.map aBands) (.opn (N + 3)), .sl ts.length (ts.flatMap Try.l) (.opn (N + 4))] 26 :: (roL N c ks ls ts).tail
def roK (N : Nat) (c : Int) (ks : List Key) (cs : List Int) : List AObj := roL N c ks [] [] ++ [.cells [.sl cs.length (cs.map iv) (.opn (N + 7)), iv 0, iv 0] 65, .tail cs.length 1 3]
def roM (N : Nat) (c : Int) (nk : Nat) (kl : List AV) (n1 n2 : Nat) (cs : List Int) (bd : Band) : List AObj := [.cells [iv 0, .sl 0 [] .exact, .sl 0 [] .exact, .sl 0 [] .exact] 26, .cells [iv c, .sl nk kl (.opn (N + 2)), .sl 0 [] (.opn (N + 3)), .sl 0 [] (.opn (N + 4))] 26, .tail n1 3 65, .tail 0 1 29, .tail 0 3 28, .tail n2 1 3, .cells [.sl cs.length (cs.map iv) .shut, iv bd.min, iv bd.max] 65, .tail cs.length 1 3]
def roP (N : Nat) (c : Int) (ks : List Key) (nl : Nat) (ll : List AV) (n1 : Nat) : List AObj := [.cells [iv 0, .sl 0 [] .exact, .sl 0 [] .exact, .sl 0 [] .exact] 26, .cells [iv c, .sl ks.length (ks.flatMap Key.l) (.opn (N + 2)), .sl nl ll (.opn (N + 3)), .sl 0 [] (.opn (N + 4))] 26, .tail ks.length 3 65, .tail n1 1 29, .tail 0 3 28, .tail ks.length 1 3]
theorem zce {base Vi Vn T : List (Nat × AV)} {H H' : List AObj} (G : List AObj) (hk : Keeps T (Vi ++ base) Vn) (hv : ∀ p ∈ Vn, ∃ b, look T p.1 = some b ∧ Wk b p.2) (hok : HOk H) (hlt : ∀ p ∈ Vn, Lt H.length p.2) (hG : H' = H ++ G) : RoundEnd base Vi Vn H ⟨T, H'⟩ := ⟨hk, hv, G, hG, .inr ⟨hok, hlt⟩⟩
section
variable {lv : Bool} {k kp : AV → List AObj → Prop} {Gf : TinS → List AObj} {t N : Nat} {τ : TinS} {b : Int}
end
def withT (x : Ring) (t : Try) : Ring := ⟨x.cuts, x.keys, x.locks, x.tries ++ [t]⟩
def bestStep (all : Nat) (s : Option (Nat × Nat × Nat)) (t : Nat × Nat × Nat) : Option (Nat × Nat × Nat) := if t.2.2 < (match s with | none => all | some b => b.2.2) then some t else s
def askB (x : Ring) (k n : Nat) : Option (Nat × Nat × Nat) := (testsAt x k n).foldl (bestStep (truthsM x []).length) none
open Go.Conc Go.Proofs
section
variable {lv : Bool} {H : List AObj} {k kp : AV → List AObj → Prop}
def AskIs (x : Ring) (a b c e : Int) : Prop := (askR x = none ∧ a = 0 ∧ b = 0 ∧ c = 0 ∧ e = 11) ∨ ∃ p q r : Nat, askR x = some (p, q, r) ∧ a = p ∧ b = q ∧ c = r ∧ e = 0
end
theorem RingP.ok {K L T : Nat} {wr : Bool} {x : Ring} {ws : List Int} (h : RingP K L T wr x ws) (hK : K ≤ 4) (hL : L ≤ 4) (hT : T ≤ 6) : x.Ok where
 cuts := ⟨h.cuts.1, by have := h.cuts.2; omega⟩
 keys := by have := h.keys.2; omega
 key := h.kp.key
 locks := by have := h.locks; omega
 lock := h.lock
 tries := by have := h.tries; omega
 tried := h.tried
theorem Ring.Ok.small {x : Ring} (h : x.Ok) : x.Small where
 keys := by have := h.keys; omega
 locks := by have := h.locks; omega
 tries := by have := h.tries; omega
 cuts := fun y hy => by have := (h.key y hy).1; have := h.cuts; omega
 bands := fun l hl => by have := (h.lock l hl).1; have := h.cuts; omega
open Go.Conc Go.Proofs
section
variable {lv : Bool} {H : List AObj} {k kp : AV → List AObj → Prop}
theorem zcw {P : Program} {f : FuncId} {l l' : List AV} (h : Wks l l') (hf : FnC lv P f H l' k kp) : FnC lv P f H l k kp := fun E V vs hc hd => by
 refine hf E V vs hc ⟨by rw [hd.1, h.len], fun i a ha => ?_⟩;obtain ⟨b, hb⟩ := zaE (xs := l) (i := i) (by rw [h.len]; exact get_lt ha);exact h.at i a b ha hb E _ (hd.2 i b hb)
theorem f25_c (hmain : H[0]? = some .main) (hk : k (bv true) H) : FnC true Tryz.prog 25 H [] k kp := by
 refine zak (rs := [.tmp 0]) (nt := 177) F.f25 rfl rfl rfl (by simp) fun hH hA => ?_;simp only [argsT, Nat.reduceAdd];(repeat apply zaa);refine zl5 ?_;simp only [push_cast, seval];(repeat apply zaa);refine zl5 ?_;simp only [push_cast, seval];refine zl6 ((f80_c (ts := []) (by decide) ?_));(try simp only [push_cast, seval]);refine zl6 ((ex_worn hmain ?_));(try simp only [push_cast, seval]);(repeat apply zaa);refine zl5 ?_;simp only [push_cast, seval];refine zl6 ((f80_c (ts := []) (by decide) ?_));(try simp only [push_cast, seval]);refine zl6 ((ex_opens hmain ?_));(try simp only [push_cast, seval]);(repeat apply zaa);refine zl5 ?_;simp only [push_cast, seval];refine zl6 ((f82_c ?_));(try simp only [push_cast, seval, Try.av, Try.l, exLast, zt3, zd5]);refine zl6 ((f80_c (ts := [exLast]) (by decide) ?_));(try simp only [push_cast, seval]);refine zl6 ((ex_count hmain ?_));(try simp only [push_cast, seval]);(repeat apply zaa);refine zl5 ?_;simp only [push_cast, seval];refine zl6 ((f80_c (ts := []) (by decide) ?_));(try simp only [push_cast, seval]);refine zl6 ((ex_ask hmain ?_));(try simp only [push_cast, seval]);(repeat apply zaa);refine zl5 ?_;simp only [push_cast, seval];refine zl6 ((f82_c ?_));(try simp only [push_cast, seval, Try.av, Try.l, exLast, zt3, zd5]);refine zl6 ((f80_c (ts := [exLast]) (by decide) ?_));(try simp only [push_cast, seval]);refine zl6 ((ex_cover hmain ?_));(try simp only [push_cast, seval]);(repeat apply zaa);refine zl5 ?_;simp only [push_cast, seval];refine zl6 ((f84_c ?_));(try simp only [push_cast, seval]);refine zl6 ((ex_alike hmain ?_));(try simp only [push_cast, seval]);(repeat apply zaa);refine zl5 ?_;simp only [push_cast, seval];refine zl6 ((f80_c (ts := []) (by decide) ?_));(try simp only [push_cast, seval, zu2, zes]);refine zl6 ((zcw (.cons (Wk.refl _) (.cons (zaK _ _ _) .nil)) (ex_which hmain ?_)));(try simp only [push_cast, seval]);(repeat apply zaa);refine zl5 ?_;simp only [push_cast, seval];refine zl6 ((f80_c (ts := []) (by decide) ?_));(try simp only [push_cast, seval, zr2, zes]);refine zl6 ((zcw (.cons (Wk.refl _) (.cons (zaK _ _ _) .nil)) (ex_cut hmain ?_)));(try simp only [push_cast, seval]);(repeat apply zaa);refine zl5 ?_;simp only [push_cast, seval];refine zl6 ((f83_c ?_));(try simp only [push_cast, seval, Try.av, Try.l, exNever, zt3, zd5]);refine zl6 ((f80_c (ts := [exNever]) (by decide) ?_));(try simp only [push_cast, seval]);refine zl6 ((ex_wrong hmain ?_));(try simp only [push_cast, seval]);(repeat apply zaa);refine zl5 ?_;simp only [push_cast, seval];refine zl6 ((f80_c (ts := []) (by decide) ?_));(try simp only [push_cast, seval]);refine zl6 ((ex_tell hmain ?_));(try simp only [push_cast, seval]);(repeat apply zaa);refine zl5 ?_;simp only [push_cast, seval, List.append_eq, beq_self_eq_true, zr2, zes];refine zl6 ((f34_same (xs := [0, 1]) (by decide) ?_));(try simp only [push_cast, seval, List.append_eq, beq_self_eq_true, zr3, zd5]);refine zl6 ((f34_same (xs := [0, 1, 2]) (by decide) ?_));(try simp only [push_cast, seval, List.append_eq, beq_self_eq_true, zr3, zd5]);refine zl6 ((f34_same (xs := [0, 1, 0]) (by decide) ?_));(try simp only [push_cast, seval, List.append_eq, beq_self_eq_true, zr2, zes]);refine zl6 ((f34_same (xs := [1, 2]) (by decide) ?_));(try simp only [push_cast, seval, List.append_eq, beq_self_eq_true, zr2, zes]);refine zl6 ((f34_same (xs := [2, 1]) (by decide) ?_));(try simp only [push_cast, seval, List.append_eq, beq_self_eq_true, z1, zhq]);refine zl6 ((f34_same (xs := [0]) (by decide) ?_));(try simp only [push_cast, seval, List.append_eq, beq_self_eq_true, zr2, zes]);refine zl6 ((f34_same (xs := [0, 1]) (by decide) ?_));(try simp only [push_cast, seval]);(repeat apply zaa);refine zai ?_;simp only [push_cast, seval];exact zao hk
end
open Go.Conc
structure Kept3 (X Y Z : Prop) : Type where
 n : Nat
def UG (a : AV) (want : Bool) (X Y Z : Prop) (_t : Kept3 X Y Z) : Prop := (∃ b, a = .val (.bool b) ∧ (b = want → X) ∧ (b = !want → Y)) ∨ (a = .val undef ∧ Z)
theorem ug_b {b want : Bool} {X Y Z : Prop} {t : Kept3 X Y Z} : UG (.val (.bool b)) want X Y Z t = ((b = want → X) ∧ (b = !want → Y)) := by
 unfold UG;refine propext ⟨fun h => ?_, fun h => .inl ⟨b, rfl, h⟩⟩;rcases h with ⟨b', e, h⟩ | ⟨e, _⟩
 ·cases e; exact h
 ·cases e
theorem ug_tt (X Y Z : Prop) (t : Kept3 X Y Z) : UG (.val (.bool true)) true X Y Z t = X := by rw [ug_b]; simp
theorem ug_tf (X Y Z : Prop) (t : Kept3 X Y Z) : UG (.val (.bool true)) false X Y Z t = Y := by rw [ug_b]; simp
theorem ug_ft (X Y Z : Prop) (t : Kept3 X Y Z) : UG (.val (.bool false)) true X Y Z t = Y := by rw [ug_b]; simp
theorem ug_ff (X Y Z : Prop) (t : Kept3 X Y Z) : UG (.val (.bool false)) false X Y Z t = X := by rw [ug_b]; simp
theorem ug_u (want : Bool) (X Y Z : Prop) (t : Kept3 X Y Z) : UG (.val undef) want X Y Z t = Z := by
 unfold UG;refine propext ⟨fun h => ?_, fun h => .inr ⟨rfl, h⟩⟩;rcases h with ⟨b', e, _⟩ | ⟨_, h⟩
 ·cases e
 ·exact h
section
variable (lv : Bool) (P : Program)
def UOps (all : Array Oper) : List Oper → AS → (AS → Prop) → (AV → AS → Prop) → Prop
 | [], s, next, _ => next s
 | o :: rest, s, next, bad => match o.guard with
  | none => AStep lv P s o (fun s' => UOps all rest s' next bad) bad
  | some (j, want) => one1 ((all[j]?).bind (·.dst)) fun d => one1 (look s.T d) fun a => UG a want (AStep lv P ⟨(d, .val (.bool want)) :: s.T, s.H⟩ o (fun s' => UOps all rest s' next bad) bad) (UOps all rest ((⟨(d, .val (.bool !want)) :: s.T, s.H⟩ : AS).put o.dst (.val undef)) next bad) (UOps all rest (s.put o.dst (.val undef)) next bad) ⟨0⟩
end
theorem uOps_n : type_of% @UOps.eq_1 := by intros; rw [UOps.eq_1]
theorem uOps_c : type_of% @UOps.eq_2 := by intros; rw [UOps.eq_2]
@[congr] theorem uOps_congr {lv : Bool} {P : Program} {s s' : AS} {all : Array Oper} {l : List Oper} {next : AS → Prop} {bad : AV → AS → Prop} (h : s = s') : UOps lv P all l s next bad = UOps lv P all l s' next bad := by rw [h]
attribute [push_cast] uOps_n uOps_c ug_tt ug_tf ug_ft ug_ff ug_u
section
variable {lv : Bool} {P : Program} {r : Option Nat} {s : AS}
end
open Go.Conc
section
variable {lv : Bool} {P : Program} {r : Option Nat} {o : Oper} {s : AS} {next : AS → Prop} {bad : AV → AS → Prop}
end
section
variable (lv : Bool) (P : Program) (r : Option Nat)
def SOps : List Oper → AS → (AS → Prop) → (AV → AS → Prop) → Prop
 | [], s, K, _ => K s
 | o :: rest, s, K, bad => o.guard = none ∧ Step lv P r o s (fun s' => SOps rest s' K bad) bad
end
section
variable {lv : Bool} {P : Program} {r : Option Nat} {s : AS}
theorem zf9 {nt : Nat} {all : Array Oper} {Φ : AEx → AS → Prop} (hdst : ∀ o ∈ all, ∀ d, o.dst = some d → d < nt) (hdef : ∀ o ∈ all, r = none ∨ isDefer o.op = false) : ∀ (n k : Nat) (s : AS), k + n = all.size → SOps lv P r (all.toList.drop k) s (Φ .normal) (fun pv s => Φ (.panic pv) s) →
  ∀ (E : Env) (V : View) (a : Act) (Q : Ex → Act → View → Prop), At E V s a nt → (∀ ae e E' V' a' s', Kept E E' V V' a a' → At E' V' s' a' nt → ExDen E' ae e → Φ ae s' → Q e a' V') → WPOps lv P r all Q (List.range' k n) a V
 | 0, k, s, hk, h, E, V, a, Q, hat, hQ => by
  have : all.toList.drop k = [] := by simp; omega
  rw [this] at h;exact hQ .normal .normal E V a s (Kept.refl E V a) hat trivial h
 | n + 1, k, s, hk, h, E, V, a, Q, hat, hQ => by
  have hlt : k < all.size := by omega
  have hd : all.toList.drop k = all[k] :: all.toList.drop (k + 1) := by
   rw [List.drop_eq_getElem_cons (by simpa using hlt)]; simp
  rw [hd] at h;have hmem : all[k] ∈ all := Array.getElem_mem hlt;have ho : all[k]? = some all[k] := Array.getElem?_eq_getElem hlt;simp only [List.range'_succ, WPOps, ho];obtain ⟨hg, h⟩ := h;have hw : Region.wanted all[k] (yielded all a.tmps) = true := by unfold Region.wanted; rw [hg]
  rw [if_pos hw];refine .inl (h E V a _ Q hat.conc hat.tok (fun d e => by rw [hat.size]; exact hdst _ hmem d e) (hdef _ hmem) (fun E' V' a' s' hk' hc' ht' hn => ?_) (fun E' V' s' pv v hk' hc' ht' hden hb => ?_))
  ·exact zf9 hdst hdef n (k + 1) s' (by omega) hn E' V' a' Q ⟨hc', ht', hk'.size.trans hat.size⟩ (fun ae e E'' V'' a'' s'' hk'' hat'' he hΦ => hQ ae e E'' V'' a'' s'' (hk'.trans hk'') hat'' he hΦ)
  ·exact hQ (.panic pv) (.panic _) E' V' a s' hk' ⟨hc', ht', hat.size⟩ ⟨v, rfl, hden⟩ hb
theorem zjT {nt id : Nat} {ops : Array Oper} {Φ : AEx → AS → Prop} (hd : dstsOk nt ops = true) (h : SOps lv P r ops.toList s (Φ .normal) (fun pv s => Φ (.panic pv) s)) : AWP lv P r nt (.region id ops false) s Φ := by
 intro E V a Q hat hQ;refine zda ?_;rw [List.range_eq_range'];exact zf9 (Φ := Φ) (fun o ho d e => (dstsOk.out hd ho).1 d e) (fun o ho => .inr (dstsOk.out hd ho).2) ops.size 0 s (by omega) (by simpa using h) E V a Q hat hQ
end
open Go.Conc
section
variable {lv : Bool} {P : Program} {r : Option Nat} {o : Oper} {s : AS} {next : AS → Prop} {bad : AV → AS → Prop}
theorem zaX {nt id : Nat} {c : Code} {l : List AV} {el : TypeId} {Φ : AEx → AS → Prop} (hid : s.H[id]? = some (.cells l el)) (h : AWP lv P r nt c ⟨s.T, s.H.set id (.part l.length l el)⟩ Φ) : AWP lv P r nt c s Φ := fun E V a Q hat hQ => by
 have hc := hat.conc;obtain ⟨⟨cs, hown, hd⟩, himm⟩ := hc.obj id _ hid;have g : Ghost V (V.pubp (E.blk id) cs (fun o => decide (o < l.length))) := zb9 hown (fun o _ => himm o);refine WP.ghost g ?_;have hI : ∀ b o v, E.I b o = some v → (V.pubp (E.blk id) cs (fun o => decide (o < l.length))).imm b o = some v := fun b o v e => by
  rw [hc.I] at e;have hb : b ≠ E.blk id := fun hb => by rw [hb, himm] at e; cases e
  simp only [View.pubp];rw [if_neg (fun x => hb x.1)]; exact e
 have hle : E.Le { E with I := (V.pubp (E.blk id) cs (fun o => decide (o < l.length))).imm } := ⟨hI, Nat.le_refl _, fun _ _ => rfl, fun _ _ => Nat.le_refl _, fun _ _ _ _ => rfl, rfl, rfl⟩;have hc2 : Conc { E with I := (V.pubp (E.blk id) cs (fun o => decide (o < l.length))).imm } (V.pubp (E.blk id) cs (fun o => decide (o < l.length))) (s.H.set id (.part l.length l el)) := by
  refine hc.turn id _ hle rfl (by rw [List.length_set]; exact hc.n) zaF rfl (fun _ _ _ => rfl) (fun b y hno hy => ⟨hy, fun o => ?_⟩) ⟨⟨cs, hown, hd.mono hle, fun o ho => ?_⟩, fun o ho => ?_⟩ (fun b hb => .inl ⟨_, hid, hb⟩)
  ·have hb : b ≠ E.blk id := fun hb => hno _ hid (by rw [hb]; rfl);simp only [View.pubp];rw [if_neg (fun x => hb x.1)]
  ·simp only [View.pubp];rw [if_pos ⟨trivial, by simpa using ho⟩]
  ·simp only [View.pubp];rw [if_neg (fun x => by have := x.2; simp at this; omega)];exact himm o
 exact h _ _ a Q ⟨hc2, hat.tok.mono hle, hat.size⟩ fun ae e E' V'' a' s' hk => hQ ae e E' V'' a' s' ((⟨hle, rfl, rfl, rfl, rfl⟩ : Kept E _ V (V.pubp (E.blk id) cs (fun o => decide (o < l.length))) a a).trans hk)
def WkH (H : List AObj) (b a : AV) : Prop := ∀ E V v, Conc E V H → Den E b v → Den E a v
theorem WkH.of {H : List AObj} {b a : AV} (h : Wk b a) : WkH H b a := fun E _ v _ d => h E v d
theorem wkH_own {H : List AObj} {id n cap m p : Nat} {l : List AV} {el : TypeId} (hid : H[id]? = some (.part p l el)) (hn : n ≤ cap) (hm : m ≤ p) (hp : p ≤ l.length) : WkH H (.osl id 0 n cap) (.sl n (l.take m) .shut) := fun E V v hc hd => by
 cases hd with
 | osl hi =>
  obtain ⟨⟨cs, ho, hdl, hi2⟩, _⟩ := hc.obj id _ hid;refine .sl (E.blk id) 0 cap (fun i => cs.getD i undef) hn trivial (fun i hi' => ?_) (fun i x hx => ?_)
  ·rw [List.length_take] at hi';have hlt : i < cs.size := (by rw [hdl.1]; omega);rw [hc.I, Nat.zero_add, hi2 i (by omega), Array.getD_eq_getD_getElem?, Array.getElem?_eq_getElem hlt]; rfl
  ·rw [List.getElem?_take] at hx;split at hx
   ·exact hdl.2 i x hx
   ·cases hx
theorem zez {nt id j : Nat} {c : Code} {l : List AV} {x y : AV} {el : TypeId} {Φ : AEx → AS → Prop} (hid : s.H[id]? = some (.cells l el)) (hj : l[j]? = some x) (hw : WkH s.H x y) (h : AWP lv P r nt c ⟨s.T, s.H.set id (.cells (l.set j y) el)⟩ Φ) : AWP lv P r nt c s Φ := fun E V a Q hat hQ => by
 have hc := hat.conc;obtain ⟨⟨cs, hown, hd⟩, himm⟩ := hc.obj id _ hid;have hc2 : Conc E V (s.H.set id (.cells (l.set j y) el)) :=
  hc.turn id _ (Env.Le.refl _) hc.I (by rw [hc.n, List.length_set]) zaF rfl (fun _ _ _ => rfl) (fun b y _ hy => ⟨hy, fun _ => rfl⟩) ⟨⟨cs, hown, zld hd hj (fun v d => hw E V v hc d)⟩, himm⟩ (fun b hb' => .inl ⟨_, hid, hb'⟩)
 exact h E V a Q ⟨hc2, hat.tok, hat.size⟩ hQ
theorem zb2 {t e : TypeId} {len sz : Nat} {z : Value} {parts : Array (Nat × Operand)} {avs : List (Nat × AV)} {l : List AV} (ho : o.op = .buildSlice t len parts) (ht : SliceOf P t = some (e, sz, z)) (hsz : len * sz ≤ 2 ^ 24) (hp : evp s parts.toList = some avs)
  (hl : fillA (Places.at (.elems sz)) (zeroRow z (len * sz)) avs = some l) (hn : next ((⟨s.T, s.H ++ [.cells l e]⟩ : AS).put o.dst (.osl s.H.length 0 len len))) : Step lv P r o s next bad := by
 intro E V a N Q hc htk hd hdf h1 _;unfold SliceOf at ht;split at ht
 ·rename_i e' hu;obtain ⟨i, hi, ht⟩ := Option.bind_eq_some_iff.1 ht;obtain ⟨z', hz, ht⟩ := Option.map_eq_some_iff.1 ht;cases ht;refine ⟨hdf, ?_⟩;unfold execOp; rw [ho];dsimp only;refine zac ?_;unfold Instr.buildSlice;refine zaj hu ?_;dsimp only;refine zav hi ?_;rw [if_neg (by omega)];obtain ⟨hlen, hden⟩ := zhJ htk hp;obtain ⟨cs', hfill, hcs'⟩ := zfO (zd2 (E := E) z (len * i.size)) hlen hden hl;have fin : ∀ (rr : Nat), V.fresh rr → SemOk P (V.upd rr (.cells cs' e)) (pure (Next.value (.slice (some ⟨rr, 0, none⟩) len len))) (Upon lv P r o a N Q) (fun v V' => Q (.panic [{ v, recovered := false }]) a V') := fun rr hf => by
   have hlE : E.Le (E.add rr V.imm) := E.le_add rr (fun b o v h => by rw [← hc.I]; exact h);have hc' : Conc (E.add rr V.imm) (V.upd rr (.cells cs' e)) (s.H ++ [.cells l e]) := by
    refine hc.add hf _ ⟨⟨_, ?_, hcs'.mono hlE⟩, fun o => ?_⟩ (fun b e => ?_)
    ·rw [Env.add_blk]; simp [View.upd]
    ·rw [Env.add_blk]; exact hf.2 o
    ·simp only [blkOf, Env.add_blk, Option.some.injEq] at e; exact e.symm
   have hdn : Den (E.add rr V.imm) (.osl s.H.length 0 len len) (.slice (some ⟨rr, 0, none⟩) len len) := by
    have := Den.osl (E := E.add rr V.imm) (id := s.H.length) (off := 0) (n := len) (cap := len) (by show _ < E.n + 1; rw [hc.n]; omega);have e : (E.add rr V.imm).blk s.H.length = rr := (by rw [← hc.n]; exact E.add_blk rr _);rwa [e] at this
   exact semOk_pure' (h1 _ _ (a.put o.dst _) _ ⟨hlE, zaA _ _ _, zaw _ _ _, rfl, rfl⟩ (by rw [zbx]; exact hc') (TOk.putd (s := ⟨s.T, s.H ++ [.cells l e]⟩) (htk.mono hlE) hd hdn) hn)
  have e2 : (fun j => some (j * i.size, i.size)) = Places.at (.elems i.size) := rfl;rw [e2];by_cases h0 : len * i.size = 0
  ·rw [if_pos h0];refine zac (semOk_pure' ?_);rw [h0] at hfill ⊢;rw [show Array.range 0 = #[] from rfl] at hfill ⊢;simp only [List.map_toArray, List.map_nil, Array.toList_map] at hfill ⊢;rw [hfill];unfold newRow;exact zac (zac (zac (za7 fun rr hf => zan (semOk_pure' (semOk_pure' (semOk_pure' (fin rr hf)))))))
  ·rw [if_neg h0];refine zac (zac ?_);unfold typeInfo;refine zac (zaG (zan ?_));rw [hi];refine semOk_pure' ?_;rw [hz];refine semOk_pure' (zac (semOk_pure' ?_));rw [Array.toList_map, hfill];unfold newRow;exact zac (zac (zac (za7 fun rr hf => zan (semOk_pure' (semOk_pure' (semOk_pure' (fin rr hf)))))))
 ·cases ht
end
open Go.Conc Go.Proofs
def wearsFl (x : Ring) (n : Int) : Option Int := if inM n 0 (x.keys.length - 1) then none else some 0
def metB (ts : List (List Int × Nat)) (n w : Nat) : Bool := ts.any fun y => y.1.getD n 0 == (w : Int)
def wearsTo (ts : List (List Int × Nat)) (n i : Nat) : List Int := ((List.range i).filter (metB ts n)).map fun i : Nat => (i : Int)
def wearsM (x : Ring) (n : Nat) : List Int := wearsTo (truthsM x []) n 3
theorem zlz (vs : List (List Int × Nat)) (y : List Int × Nat) (n w : Nat) : metB (vs ++ [y]) n w = (metB vs n w || y.1.getD n 0 == (w : Int)) := by
 unfold metB; rw [List.any_append]; simp
theorem zlA {a b : List (List Int × Nat)} (h : a.Perm b) (n w : Nat) : metB a n w = metB b n w := by
 unfold metB;rw [Bool.eq_iff_iff, List.any_eq_true, List.any_eq_true];exact exists_congr fun y => and_congr_left fun _ => h.mem_iff
theorem zgX (ts : List (List Int × Nat)) (n i : Nat) : wearsTo ts n (i + 1) = wearsTo ts n i ++ (if metB ts n i then [(i : Int)] else []) := by
 unfold wearsTo;rw [List.range_succ, List.filter_append, List.map_append];congr 1;by_cases h : metB ts n i = true <;> simp [h]
theorem zlj (ts : List (List Int × Nat)) (n i : Nat) : (wearsTo ts n i).length ≤ i := by
 unfold wearsTo;rw [List.length_map];have := List.length_filter_le (metB ts n) (List.range i);simpa using this
section
variable {lv : Bool} {H : List AObj} {k kp : AV → List AObj → Prop}
set_option maxRecDepth 4000 in
theorem f69_c {x : Ring} {n : Int} (hnr : NewRingC lv) (hmain : H[0]? = some .main) (hs : x.Small) (h1 : openingE x (wearsFl x n) ≠ 0 → k (.tup [.sl 0 [] .exact, iv (openingE x (wearsFl x n))]) H) (h2 : openingE x (wearsFl x n) = 0 → k (.tup [aInts (wearsM x n.toNat), iv 0]) H) : FnC lv Tryz.prog 69 H [x.av, iv n] k kp := by
 have hmn : ∀ L : List AObj, (H ++ L)[0]? = some .main := fun L => zay hmain;refine zak (rs := [.tmp 4, .tmp 5]) (nt := 48) F.f69 rfl rfl rfl (by simp) fun hH hA => ?_;simp only [argsT, Nat.reduceAdd, Ring.av];(repeat apply zaa);refine zl5 ?_;simp only [push_cast, seval, Ring.l];have hask : AskC lv (H ++ [.cells x.l 26, .cells x.l 26, .cells [iv n] 3]) (.fn (.func 152) [] [.op (H.length + 2) 0, .op (H.length + 1) 0]) (wearsFl x n) := zlH hs (by simp only [push_cast, seval] <;> rfl) (by simp only [push_cast, seval] <;> rfl);by_cases hz : openingE x (wearsFl x n) = 0
 ·(repeat apply zaa);refine zbE [3, 4] [0, 1, 2, 3, 4, 5, 6, 7, 8, 9, 10, 11] [⟨0, false, [], [([3], [3])]⟩, ⟨1, false, [], []⟩, ⟨2, false, [], []⟩, ⟨3, true, [3], []⟩, ⟨4, true, [3, 4], []⟩, ⟨5, false, [3, 4], []⟩, ⟨6, false, [3, 4], []⟩, ⟨7, false, [3, 4], []⟩, ⟨8, false, [3, 4], []⟩, ⟨9, false, [3, 4], []⟩, ⟨10, false, [3, 4], []⟩, ⟨11, false, [3, 4], []⟩] (fun D => bif isDone 4 D then H ++ [.cells x.l 26, .cells x.l 26, .cells [iv n] 3, .cells x.l 26, setObj (truthsM x []) (wears0 x).length] else bif isDone 3 D then H ++ [.cells x.l 26, .cells x.l 26, .cells [iv n] 3] else H ++ [.cells x.l 26]) F.mixed (by kernel_rfl) (by kernel_rfl) (by first | rfl | simp only [push_cast, seval]) ?_;simp only [push_cast, seval, Ring.l];refine eCall _ _ (zad (by kernel_rfl) (f89_c (x := x) ⟨rfl, rfl⟩)) ?_;(try simp only [push_cast, seval, Ring.l]);refine eCall _ _ (zad (by kernel_rfl) (f99_c hnr (hmn _) hs hask (fun h => absurd hz h) (fun _ => ⟨rfl, rfl⟩))) ?_;(try simp only [push_cast, seval, Ring.l]);obtain ⟨ho, hne⟩ := zaP.1 hz;have hx := zbp ho;have hkn : 0 ≤ n ∧ n ≤ (x.keys.length : Int) - 1 := by
   have := (zaN.1 ho).2;unfold wearsFl inM at this;by_cases hq : 0 ≤ n ∧ n ≤ (x.keys.length : Int) - 1
   ·exact hq
   ·simp [hq] at this
  obtain ⟨kn, rfl⟩ : ∃ m : Nat, n = m := ⟨n.toNat, by omega⟩;have hx4 := hx.keys;have hle := zbl hx [];(repeat apply zaa);refine zl5 ?_;simp only [push_cast, seval];(repeat apply zaa);refine zae ?_;simp only [push_cast, seval];(repeat apply zaa);refine zah ?_;simp only [push_cast, seval];(repeat apply zaa);refine zl5 ?_;simp only [push_cast, seval];have hg4 : ∀ L : List AObj, (H ++ L)[H.length + 3 + 1]? = L[4]? := fun L => zbD H L 4;(repeat apply zaa);refine zl5 ?_;simp only [push_cast, seval, zaL, hg4];(repeat apply zaa);refine zag ?_;have hb := zbm x [];have hnd := zba x [];have h4 := zbt hx [];have hall := zcO (truthsM x []) (wears0 x).length hb;refine za9 (measure fun vs : List (List Int × Nat) => (truthsM x []).length - vs.length).wf (fun vs => []) (fun vs => H ++ [AObj.cells x.l 26, .cells x.l 26, .cells [iv kn] 3, .cells x.l 26, setObj (truthsM x []) (wears0 x).length, .cells [bv (metB vs kn 0), bv (metB vs kn 1), bv (metB vs kn 2)] 155, .iter (H.length + 3 + 1) (wears0 x).length (vs.map (·.2)).toArray (wears0 x).length]) (fun vs => ((vs.map (·.2)).Nodup ∧ ∀ y ∈ vs, y ∈ truthsM x [])) [] (fun _ _ => rfl) (by simp) (by simp [zaL, metB, Ring.l]) (fun _ _ => by simp) ⟨by simp, by simp⟩ (fun hHs3 hLt3 vs hok R3 hR3 => ?_);clear hLt3;have hokI : ∀ (a b c : Bool) sn, HOk (H ++ [AObj.cells x.l 26, .cells x.l 26, .cells [iv kn] 3, .cells x.l 26, setObj (truthsM x []) (wears0 x).length, .cells [bv a, bv b, bv c] 155, .iter (H.length + 3 + 1) (wears0 x).length sn (wears0 x).length]) := fun a b c sn => by
   have h0 : HOk (H ++ [AObj.cells x.l 26, .cells x.l 26, .cells [iv kn] 3, .cells x.l 26, setObj (truthsM x []) (wears0 x).length, .cells [bv false, bv false, bv false] 155, .iter (H.length + 3 + 1) (wears0 x).length #[] (wears0 x).length]) := hHs3;have h1 := zec (H := H ++ [AObj.cells x.l 26, .cells x.l 26, .cells [iv kn] 3, .cells x.l 26, setObj (truthsM x []) (wears0 x).length]) (L := [.iter (H.length + 3 + 1) (wears0 x).length #[] (wears0 x).length]) (o := .cells [bv false, bv false, bv false] 155) (o' := .cells [bv a, bv b, bv c] 155) (by simpa using h0) (fun _ => by
    intro q hq;simp only [List.mem_cons, List.not_mem_nil, or_false] at hq;rcases hq with rfl | rfl | rfl <;> exact .val _)
   intro z hz;have hl : (H ++ [AObj.cells x.l 26, .cells x.l 26, .cells [iv kn] 3, .cells x.l 26, setObj (truthsM x []) (wears0 x).length, .cells [bv a, bv b, bv c] 155, .iter (H.length + 3 + 1) (wears0 x).length sn (wears0 x).length]).length = ((H ++ [AObj.cells x.l 26, .cells x.l 26, .cells [iv kn] 3, .cells x.l 26, setObj (truthsM x []) (wears0 x).length]) ++ AObj.cells [bv a, bv b, bv c] 155 :: [AObj.iter (H.length + 3 + 1) (wears0 x).length #[] (wears0 x).length]).length := (by simp);rw [hl];have hz2 : z ∈ (H ++ [AObj.cells x.l 26, .cells x.l 26, .cells [iv kn] 3, .cells x.l 26, setObj (truthsM x []) (wears0 x).length]) ++ AObj.cells [bv a, bv b, bv c] 155 :: [AObj.iter (H.length + 3 + 1) (wears0 x).length #[] (wears0 x).length] ∨ z = .iter (H.length + 3 + 1) (wears0 x).length sn (wears0 x).length := by
    simp only [List.mem_append, List.mem_cons, List.not_mem_nil, or_false] at hz ⊢;rcases hz with hz | hz | hz | hz | hz | hz | hz | hz <;> simp [hz]
   rcases hz2 with hz2 | rfl
   ·exact h1 z hz2
   ·show H.length + 3 + 1 < _;simp
  (repeat apply zaa);refine zl5 ?_;simp only [push_cast, seval, zaL, hg4];refine ⟨hall.elim .inl (fun h => .inr (.inl h)), fun e he hn => ?_, fun hs => ?_⟩
  ·obtain ⟨y, hy, rfl⟩ : ∃ y ∈ truthsM x [], setEntry y = e := (by simpa using he);have hyn : y.2 ∉ vs.map (·.2) := (by simpa [setEntry] using hn);have hok' := zdk hok hy hyn;have hrel := zdl hok';(repeat apply zaa);refine zae ?_;simp only [push_cast, seval];(repeat apply zaa);refine zah ?_;simp only [push_cast, seval];(repeat apply zaa);refine zag ?_;obtain ⟨h41, h42⟩ := h4 y hy;have hborn : (setEntry y).born = y.2 := rfl;have hlen : (y.1.map iv).length = 4 := (by simp [h41]);have hdrop : List.drop 4 [AV.val (Value.int IntKind.i64 0), AV.val (Value.int IntKind.i64 0), AV.val (Value.int IntKind.i64 0), AV.val (Value.int IntKind.i64 0)] = [] := rfl;(repeat apply zaa);refine zl5 ?_;simp only [push_cast, seval, zaL, hg4, Array.back?_push, hborn, zcL hnd hy, zb7, h41, hlen, hdrop];have hkl : kn < y.1.length := (by omega);obtain ⟨w, hw⟩ := zaE hkl;have hwb := h42 w (zas hw);obtain ⟨wn, rfl⟩ : ∃ n : Nat, w = n := ⟨w.toNat, by omega⟩;have b4 : (0 ≤ (kn : Int) ∧ (kn : Int) < 4) = True := (by simp; omega);have hget : y.1.getD kn 0 = (wn : Int) := (by rw [List.getD_eq_getElem?_getD, hw]; rfl);have hmm : ∀ w' : Nat, metB (vs ++ [y]) kn w' = (metB vs kn w' || decide (wn = w')) := fun w' => by
    rw [zlz, hget];congr 1;by_cases e : wn = w'
    ·simp [e]
    ·have : ¬ (wn : Int) = w' := (by omega);simp [e, this]
   have d00 : decide ((0 : Nat) = 0) = true := rfl;have d01 : decide ((0 : Nat) = 1) = false := rfl;have d02 : decide ((0 : Nat) = 2) = false := rfl;have d10 : decide ((1 : Nat) = 0) = false := rfl;have d11 : decide ((1 : Nat) = 1) = true := rfl;have d12 : decide ((1 : Nat) = 2) = false := rfl;have d20 : decide ((2 : Nat) = 0) = false := rfl;have d21 : decide ((2 : Nat) = 1) = false := rfl;have d22 : decide ((2 : Nat) = 2) = true := rfl;have hw3 : wn = 0 ∨ wn = 1 ∨ wn = 2 := (by omega);rcases hw3 with rfl | rfl | rfl
   all_goals
    (repeat apply zaa);refine zl5 ?_;simp only [push_cast, seval, b4, zbf hw];rw [zdm];refine hR3 _ ⟨vs ++ [y], hrel, hok', ?_⟩;simp only [hmm, d00, d01, d02, d10, d11, d12, d20, d21, d22, decide_true, decide_false, Bool.or_true, Bool.or_false];exact zat (zam rfl rfl) (by simp [zaf, Wk.refl]) (hokI _ _ _ _) (by simp [zap])
  ·have hp : vs.Perm (truthsM x []) := zct hok.1 hnd hok.2 fun y hy => by
    have := hs (setEntry y) (by simp; exact ⟨y.1, y.2, hy, rfl⟩) (hb y hy);simpa [setEntry] using this
   simp only [zlA hp];clear hR3;(repeat apply zaa);refine zae ?_;simp only [push_cast, seval];(repeat apply zaa);refine zaq ?_;simp only [push_cast, seval];(repeat apply zaa);refine zl5 ?_;simp only [push_cast, seval]
   (repeat apply zaa); refine zbV (t := 11) (sz := 1) (el := 3) (by simp only [push_cast, seval] <;> rfl) ?_
   (try simp only [push_cast, seval]);(repeat apply zaa);refine zl5 ?_;simp only [push_cast, seval];(repeat apply zaa);refine zag ?_;have hwt := zgX (truthsM x []) kn;have hwl := zlj (truthsM x []) kn;have hnil : wearsTo (truthsM x []) kn 0 = [] := rfl;have v1 : IntKind.i64.wrap (0 + 1) = 1 := zau _ (by omega);have v2 : IntKind.i64.wrap (1 + 1) = 2 := zau _ (by omega);have v3 : IntKind.i64.wrap (2 + 1) = 3 := zau _ (by omega);have w1 : IntKind.i64.wrap 1 = 1 := zau _ (by omega);have w2 : IntKind.i64.wrap 2 = 2 := zau _ (by omega);have w3 : IntKind.i64.wrap 3 = 3 := zau _ (by omega);refine zaB 3 (fun i : Nat => [(37, iv i), (11, .sl (wearsTo (truthsM x []) kn i).length ((wearsTo (truthsM x []) kn i).map iv) (.opn (H.length + 7)))]) (fun i => H ++ [AObj.cells x.l 26, .cells x.l 26, .cells [iv kn] 3, .cells x.l 26, setObj (truthsM x []) (wears0 x).length, .cells [bv (metB (truthsM x []) kn 0), bv (metB (truthsM x []) kn 1), bv (metB (truthsM x []) kn 2)] 155, .iter (H.length + 3 + 1) (wears0 x).length (vs.map (·.2)).toArray (wears0 x).length, .tail (wearsTo (truthsM x []) kn i).length 1 3]) (fun _ => True) (fun _ _ => rfl) (by simp only [push_cast, seval, List.forall_mem_cons, List.not_mem_nil, false_imp_iff, implies_true, List.forall_mem_nil]; simp [zaf, Wk.refl]; first | exact Wk.refl _ | exact ⟨Wk.refl _, Wk.refl _⟩) rfl (fun _ _ _ => by simp) trivial (fun hHs hLt i hin hi R hR => ?_);clear hHs hLt;(repeat apply zaa);refine zl5 ?_;simp only [push_cast, seval];(repeat apply zaa);refine zae ?_;simp only [push_cast, seval];refine ⟨fun h => ?_, fun h => ?_⟩
   ·have hi3 : i = 0 ∨ i = 1 ∨ i = 2 := (by omega);(repeat apply zaa);refine zah ?_;simp only [push_cast, seval];(repeat apply zaa);refine zag ?_;rcases hi3 with rfl | rfl | rfl
    all_goals
     (repeat apply zaa);refine zl5 ?_;simp only [push_cast, seval];(repeat apply zaa);refine zl5 ?_;simp only [push_cast, seval];(repeat apply zaa);refine zae ?_;simp only [push_cast, seval]
    ·refine ⟨fun h2 => ?_, fun h2 => ?_⟩
     ·have hsuc := hwt 0;have hl0 := hwl 0;rw [if_pos (by simpa using h2)] at hsuc;(repeat apply zaa);refine zl5 ?_;simp only [push_cast, seval, z1, zhq, List.length_map]
      first | refine ⟨by omega, by omega, ?_⟩ | refine ⟨by omega, ?_⟩
      (repeat apply zaa);refine zl5 ?_;simp only [push_cast, seval, w1, v1];refine hR _ ⟨by omega, trivial, ?_⟩;rw [hsuc];simp only [List.map_append, List.map_cons, List.map_nil, List.length_append, List.length_cons, List.length_nil];exact (zax (zam rfl rfl) (by simp only [push_cast, seval]; simp [zaf, Wk.refl]))
     ·have hsuc := hwt 0;rw [if_neg (by simpa using h2), List.append_nil] at hsuc;(repeat apply zaa);refine zah ?_;simp only [push_cast, seval];(repeat apply zaa);refine zl5 ?_;simp only [push_cast, seval, w1, v1];refine hR _ ⟨by omega, trivial, ?_⟩;rw [hsuc];exact (zax (zam rfl rfl) (by simp only [push_cast, seval]; simp [zaf, Wk.refl]))
    ·refine ⟨fun h2 => ?_, fun h2 => ?_⟩
     ·have hsuc := hwt 1;have hl0 := hwl 1;rw [if_pos (by simpa using h2)] at hsuc;(repeat apply zaa);refine zl5 ?_;simp only [push_cast, seval, z1, zhq, List.length_map]
      first | refine ⟨by omega, by omega, ?_⟩ | refine ⟨by omega, ?_⟩
      (repeat apply zaa);refine zl5 ?_;simp only [push_cast, seval, w2, v2];refine hR _ ⟨by omega, trivial, ?_⟩;rw [hsuc];simp only [List.map_append, List.map_cons, List.map_nil, List.length_append, List.length_cons, List.length_nil];exact (zax (zam rfl rfl) (by simp only [push_cast, seval]; simp [zaf, Wk.refl]))
     ·have hsuc := hwt 1;rw [if_neg (by simpa using h2), List.append_nil] at hsuc;(repeat apply zaa);refine zah ?_;simp only [push_cast, seval];(repeat apply zaa);refine zl5 ?_;simp only [push_cast, seval, w2, v2];refine hR _ ⟨by omega, trivial, ?_⟩;rw [hsuc];exact (zax (zam rfl rfl) (by simp only [push_cast, seval]; simp [zaf, Wk.refl]))
    ·refine ⟨fun h2 => ?_, fun h2 => ?_⟩
     ·have hsuc := hwt 2;have hl0 := hwl 2;rw [if_pos (by simpa using h2)] at hsuc;(repeat apply zaa);refine zl5 ?_;simp only [push_cast, seval, z1, zhq, List.length_map]
      first | refine ⟨by omega, by omega, ?_⟩ | refine ⟨by omega, ?_⟩
      (repeat apply zaa);refine zl5 ?_;simp only [push_cast, seval, w3, v3];refine hR _ ⟨by omega, trivial, ?_⟩;rw [hsuc];simp only [List.map_append, List.map_cons, List.map_nil, List.length_append, List.length_cons, List.length_nil];exact (zax (zam rfl rfl) (by simp only [push_cast, seval]; simp [zaf, Wk.refl]))
     ·have hsuc := hwt 2;rw [if_neg (by simpa using h2), List.append_nil] at hsuc;(repeat apply zaa);refine zah ?_;simp only [push_cast, seval];(repeat apply zaa);refine zl5 ?_;simp only [push_cast, seval, w3, v3];refine hR _ ⟨by omega, trivial, ?_⟩;rw [hsuc];exact (zax (zam rfl rfl) (by simp only [push_cast, seval]; simp [zaf, Wk.refl]))
   ·have hi3 : i = 3 := (by omega);subst hi3;clear hR;(repeat apply zaa);refine zaq ?_;simp only [push_cast, seval];(repeat apply zaa);refine zl5 ?_;simp only [push_cast, seval];(repeat apply zaa);refine zai ?_;simp only [push_cast, seval];rw [Int.toNat_natCast] at h2;exact endA hH (zdC (zaK _ _ _) (Wk.refl _)) (by simp [zap, zaD, za3]) (h2 hz)
 ·(repeat apply zaa);refine zbE [3, 4] [0, 1, 2, 3, 4, 5, 6, 7, 8, 9, 10, 11] [⟨0, false, [], [([3], [3])]⟩, ⟨1, false, [], []⟩, ⟨2, false, [], []⟩, ⟨3, true, [3], []⟩, ⟨4, true, [3, 4], []⟩, ⟨5, false, [3, 4], []⟩, ⟨6, false, [3, 4], []⟩, ⟨7, false, [3, 4], []⟩, ⟨8, false, [3, 4], []⟩, ⟨9, false, [3, 4], []⟩, ⟨10, false, [3, 4], []⟩, ⟨11, false, [3, 4], []⟩] (fun D => bif isDone 3 D then H ++ [.cells x.l 26, .cells x.l 26, .cells [iv n] 3] else H ++ [.cells x.l 26]) F.mixed (by kernel_rfl) (by kernel_rfl) (by first | rfl | simp only [push_cast, seval]) ?_;simp only [push_cast, seval, Ring.l];refine eCall _ _ (zad (by kernel_rfl) (f89_c (x := x) ⟨rfl, rfl⟩)) ?_;(try simp only [push_cast, seval, Ring.l]);refine eCall _ _ (zad (by kernel_rfl) (f99_c hnr (hmn _) hs hask (fun _ => ⟨rfl, rfl⟩) (fun h => absurd h hz))) ?_;(try simp only [push_cast, seval, Ring.l]);(repeat apply zaa);refine zl5 ?_;simp only [push_cast, seval];(repeat apply zaa);refine zae ?_;simp only [push_cast, seval];refine ⟨fun h => ?_, fun h => absurd (by simpa using h) hz⟩;(repeat apply zaa);refine zl5 ?_;simp only [push_cast, seval];(repeat apply zaa);refine zai ?_;simp only [push_cast, seval];exact endA hH (Wk.refl _) (by simp [zap, zaD, zbh]) (h1 hz)
end
open Go.Conc Go.Proofs
def lastF (x : Ring) (m : Nat) (ds : List Int) : Bool := (List.range (m + 1)).all fun n : Nat => openedM x.cuts (wornM n ds) x.locks x.locks.length == 2 ^ x.locks.length - 1
def masterTo (x : Ring) : Nat → Option (List Int × Nat)
 | 0 => none
 | m + 1 => match firstM x.cuts.toNat (lastF x m) with
  | some d => some (d, m)
  | none => masterTo x m
section
variable {lv : Bool} {H : List AObj} {k kp : AV → List AObj → Prop}
theorem f147_c {a r d : Nat} {x : Ring} {ds : List Int} {m : Nat} (hx : x.Ok) (hds : ds.length = 4) (hdb : ∀ w ∈ ds, 0 ≤ w ∧ w ≤ 3) (hm : m ≤ 2) (ha : H[a]? = some (.cells [iv m] 3)) (hr : H[r]? = some (.cells [.rp (x.l ++ opensL x)] 100)) (hd : H[d]? = some (.cells [uv (2 ^ x.locks.length - 1 : Nat)] 110)) (hk : k (bv (lastF x m ds)) H) : FnC lv Tryz.prog 147 H [.agg (ds.map iv), .op a 0, .op r 0, .op d 0] k kp := by
 refine zak (rs := [.tmp 5]) (nt := 20) F.f147 rfl rfl rfl (by simp) fun hH hA => ?_;simp only [argsT, Nat.reduceAdd];have hdl : (ds.map iv).length = 4 := by simp [hds]
 have htk : List.take 4 (ds.map iv) = ds.map iv := List.take_of_length_le (by omega);have hc := hx.cuts;have hl := hx.locks;have hw : IntKind.i64.wrap ((m : Int) + 1) = m + 1 := zau _ (by omega);(repeat apply zaa);refine zl5 ?_;simp only [push_cast, seval];(repeat apply zaa);refine zl5 ?_;simp only [push_cast, seval, zay ha, hw];(repeat apply zaa);refine zag ?_;refine zaB (m + 1) (fun i : Nat => [(9, iv i)]) (fun _ => _) (fun i => ((List.range i).all fun n : Nat => openedM x.cuts (wornM n ds) x.locks x.locks.length == 2 ^ x.locks.length - 1) = true) (fun _ _ => rfl) (by simp only [push_cast, seval, List.forall_mem_cons, List.not_mem_nil, false_imp_iff, implies_true, List.forall_mem_nil]; simp [zaf, Wk.refl]) rfl (fun _ _ _ => rfl) rfl (fun hHs hLt i hin hi R hR => ?_);(repeat apply zaa);refine zl5 ?_;simp only [push_cast, seval];(repeat apply zaa);refine zae ?_;simp only [push_cast, seval];refine ⟨fun h => ?_, fun h => ?_⟩
 ·have him : i < m + 1 := by omega
  have hwi : IntKind.i64.wrap ((i : Int) + 1) = i + 1 := zau _ (by omega);have hwl : (wornM i ds).length = 4 := by simp [wornM, hds]
  (repeat apply zaa);refine zah ?_;simp only [push_cast, seval];(repeat apply zaa);refine zag ?_;(repeat apply zaa);refine zl5 ?_;simp only [push_cast, seval];(repeat apply zaa);refine zaT F.mixed 6 (by kernel_rfl) ?_;simp only [push_cast, seval, zay hr, zay hd, hdl, htk];refine qCall (.agg ((wornM i ds).map iv)) (zad (by kernel_rfl) (f93_c hds hdb (by omega) ⟨rfl, rfl⟩)) ?_;refine qCall (uv (openedM x.cuts (wornM i ds) x.locks x.locks.length)) (zad (by kernel_rfl) (f139_c hwl (by omega) hl (fun l hl => by have := (hx.lock l hl).1; omega) ⟨rfl, rfl⟩)) ?_;(try simp only [push_cast, seval, zay hr, zay hd, hdl, htk]);(repeat apply zaa);refine zae ?_;simp only [push_cast, seval];refine ⟨fun h2 => ?_, fun h2 => ?_⟩
  ·(repeat apply zaa);refine zl5 ?_;simp only [push_cast, seval];(repeat apply zaa);refine zai ?_;simp only [push_cast, seval];have h3 : lastF x m ds = false := by
    refine Bool.eq_false_iff.2 fun e => ?_;have := (List.all_eq_true.1 e) i (List.mem_range.2 him);rw [beq_iff_eq] at this;rw [this] at h2;simp at h2
   rw [h3] at hk;exact endA hH (Wk.refl _) (by simp [zap]) hk
  ·(repeat apply zaa);refine zah ?_;simp only [push_cast, seval];(repeat apply zaa);refine zl5 ?_;simp only [push_cast, seval, hwi];refine hR _ ⟨him, ?_, (zax (zam rfl rfl) (by simp only [push_cast, seval]; simp [zaf, Wk.refl]))⟩;rw [List.range_succ, List.all_append, hi, Bool.true_and];have h3 : ((openedM x.cuts (wornM i ds) x.locks x.locks.length : Nat) : Int) = ((2 ^ x.locks.length - 1 : Nat) : Int) := (by simpa using h2);have h4 := Int.ofNat_inj.1 h3;simp [h4]
 ·have hie : i = m + 1 := by omega
  subst hie;(repeat apply zaa);refine zaq ?_;simp only [push_cast, seval];(repeat apply zaa);refine zl5 ?_;simp only [push_cast, seval];(repeat apply zaa);refine zai ?_;simp only [push_cast, seval];have h3 : lastF x m ds = true := hi;rw [h3] at hk;exact endA hH (Wk.refl _) (by simp [zap]) hk
theorem zly {a r d : Nat} {x : Ring} {m : Nat} (hx : x.Ok) (hm : m ≤ 2) (ha : H[a]? = some (.cells [iv m] 3)) (hr : H[r]? = some (.cells [.rp (x.l ++ opensL x)] 100)) (hd : H[d]? = some (.cells [uv (2 ^ x.locks.length - 1 : Nat)] 110)) : DoC lv H (.fn (.func 147) [] [.op a 0, .op r 0, .op d 0]) (lastF x m) := fun L ds k kp h1 h2 h =>
 zad (by kernel_rfl) (f147_c hx h1 h2 hm (zay ha) (zay hr) (zay hd) h)
def masterD (i : Nat) : List AObj := (List.range i).map fun j : Nat => .cells [iv (2 - (j : Int))] 3
def masterO (H : List AObj) (x : Ring) (i : Nat) : List AObj := (H ++ [.cells x.l 26, .cells [.rp (x.l ++ opensL x)] 100, .cells [uv (2 ^ x.locks.length - 1 : Nat)] 110]) ++ masterD i
def masterS (H : List AObj) (x : Ring) (i : Nat) : AS := ⟨[(5, .op (H.length + 1) 0), (7, .op (H.length + 2) 0), (8, .op (H.length + 3 + i) 0)], masterO H x i ++ [.cells [iv (2 - (i : Int))] 3]⟩
theorem zfA (H : List AObj) (x : Ring) (i : Nat) : (masterO H x i).length = H.length + 3 + i := by simp [masterO, masterD]; omega
theorem zhC (H : List AObj) (x : Ring) (i : Nat) : masterO H x (i + 1) = masterO H x i ++ [.cells [iv (2 - (i : Int))] 3] := by
 unfold masterO masterD; rw [List.range_succ, List.map_append, List.append_assoc, List.append_assoc]; simp
theorem f76_c {x : Ring} (hnr : NewRingC lv) (hmain : H[0]? = some .main) (hs : x.Small) (h1 : openE x none ≠ 0 → k (.tup [.sl 0 [] .exact, iv 0, iv (openE x none)]) H) (h2 : openE x none = 0 → masterTo x 3 = none → k (.tup [.sl 0 [] .exact, iv 0, iv 11]) H) (h3 : openE x none = 0 → ∀ d m, masterTo x 3 = some (d, m) → k (.tup [aInts d, iv m, iv 0]) H) : FnC lv Tryz.prog 76 H [x.av] k kp := by
 have hmn : ∀ L : List AObj, (H ++ L)[0]? = some .main := fun L => zay hmain;refine zak (rs := [.tmp 2, .tmp 3, .tmp 4]) (nt := 41) F.f76 rfl rfl rfl (by simp) fun hH hA => ?_;simp only [argsT, Nat.reduceAdd, Ring.av];(repeat apply zaa);refine zl5 ?_;simp only [push_cast, seval, Ring.l];(repeat apply zaa);refine zl5 ?_;simp only [push_cast, seval];refine zl6 ((f87_c hnr (hmn _) hs zbA (fun hz => ?_) (fun hz => ?_)))
 ·(try simp only [push_cast, seval]);(repeat apply zaa);refine zl5 ?_;simp only [push_cast, seval];(repeat apply zaa);refine zae ?_;simp only [push_cast, seval];refine ⟨fun h => ?_, fun h => absurd (by simpa using h) hz⟩;(repeat apply zaa);refine zl5 ?_;simp only [push_cast, seval];(repeat apply zaa);refine zai ?_;simp only [push_cast, seval];exact endA hH (Wk.refl _) (by simp [zap, zaD, zbh]) (h1 hz)
 ·(try simp only [push_cast, seval]);(repeat apply zaa);refine zl5 ?_;simp only [push_cast, seval];have hx := zbp hz;have h2 := h2 hz;have h3 := h3 hz;have hl4 := hx.locks;have hlk : x.l ++ opensL x = iv x.cuts :: aKeys x.keys :: aLocks x.locks :: aTries x.tries :: opensL x := rfl;(repeat apply zaa);refine zae ?_;simp only [push_cast, seval];(repeat apply zaa);refine zah ?_;simp only [push_cast, seval];(repeat apply zaa);refine zl5 ?_;simp only [push_cast, seval, hlk, aLocks, ziv, zlE, zlC hl4];(repeat apply zaa);refine zl5 ?_;simp only [push_cast, seval];(repeat apply zaa);refine zag ?_;refine zli (measure fun i => 4 - i).wf (masterS H x) (fun i => i ≤ 3 ∧ masterTo x 3 = masterTo x (3 - i)) 0 ⟨fun t' a e => zh2 (by unfold masterS; simp only [push_cast, seval, List.forall_mem_cons, List.not_mem_nil, false_imp_iff, implies_true, List.forall_mem_nil]; simp [zaf, Wk.refl]) e, by simp [masterS, masterO, masterD, Ring.l, aLocks]⟩ ⟨by omega, rfl⟩ (fun i _ => by simp only [masterS, List.length_append, zfA]; simp) (fun i hok => ?_);obtain ⟨hi3, hmt⟩ := hok;have hsuc := zhC H x i;have hE : ∀ G : List AObj, ∃ G', masterO H x i ++ G = H ++ G' := fun G => ⟨[.cells x.l 26, .cells [.rp (x.l ++ opensL x)] 100, .cells [uv (2 ^ x.locks.length - 1 : Nat)] 110] ++ masterD i ++ G, by simp [masterO]⟩;have hKl := zfA H x i;have g1 : (masterO H x i)[H.length + 1]? = some (.cells [.rp (x.l ++ opensL x)] 100) := zay (zbD H _ 1);have g2 : (masterO H x i)[H.length + 2]? = some (.cells [uv (2 ^ x.locks.length - 1 : Nat)] 110) := zay (zbD H _ 2);unfold masterS;generalize masterO H x i = K at hKl g1 g2 hsuc hE ⊢;rw [← hKl];(repeat apply zaa);refine zl5 ?_;simp only [push_cast, seval];(repeat apply zaa);refine zae ?_;simp only [push_cast, seval];refine ⟨fun h => ?_, fun h => ?_⟩
  ·have hi2 : i ≤ 2 := by
    have : (0 : Int) ≤ 2 - i := (by simpa using h);omega
   have hm : (2 : Int) - i = ((2 - i : Nat) : Int) := (by omega);have hm1 : IntKind.i64.wrap (((2 - i : Nat) : Int) - 1) = 2 - ((i + 1 : Nat) : Int) := (by rw [zau _ (by omega)]; omega);have h3i : 3 - i = (2 - i) + 1 := (by omega);have hmt := hmt.trans (show masterTo x (3 - i) = match firstM x.cuts.toNat (lastF x (2 - i)) with
    | some d => some (d, 2 - i)
    | none => masterTo x (2 - i) from by rw [h3i]; rfl)
   rw [hm];(repeat apply zaa);refine zah ?_;simp only [push_cast, seval];(repeat apply zaa);refine zag ?_;(repeat apply zaa);refine zl5 ?_;simp only [push_cast, seval, zay g1, List.mapM_cons, List.mapM_nil, Option.pure_def, Option.bind_eq_bind];refine zl6 ((f137_c hx (zly (a := K.length) (r := H.length + 1) (d := H.length + 2) (m := 2 - i) hx (by omega) (by simp only [push_cast, seval] <;> rfl) (zay g1) (zay g2)) ?_));(try simp only [push_cast, seval]);(repeat apply zaa);refine zl5 ?_;simp only [push_cast, seval];(repeat apply zaa);refine zae ?_;simp only [push_cast, seval];cases hf : firstM x.cuts.toNat (lastF x (2 - i)) with
   | some d =>
    rw [hf] at hmt;refine ⟨fun h4 => ?_, fun h4 => by simp at h4⟩;(repeat apply zaa);refine zaT F.mixed 3 (by kernel_rfl) ?_;simp only [push_cast, seval];(repeat apply zaa);refine zai ?_;simp only [push_cast, seval];obtain ⟨G, hG⟩ := hE [.cells [iv ((2 - i : Nat) : Int)] 3];simp only [iv] at hG;rw [hG];exact endA hH (Wk.refl _) (by simp [zap, zaD, zbi]) (h3 d (2 - i) hmt)
   | none =>
    rw [hf] at hmt;refine ⟨fun h4 => by simp at h4, fun h4 => ?_⟩;(repeat apply zaa);refine zah ?_;simp only [push_cast, seval];(repeat apply zaa);refine zl5 ?_;simp only [push_cast, seval];(repeat apply zaa);refine zl5 ?_;simp only [push_cast, seval];(repeat apply zaa);refine zl5 ?_;simp only [push_cast, seval, hm1];have h8 : H.length + 3 + (i + 1) = K.length + 1 := (by omega);refine ⟨i + 1, by show 4 - (i + 1) < 4 - i; omega, ⟨by omega, hmt.trans (by rw [show 3 - (i + 1) = 2 - i by omega])⟩, .inl ⟨fun t' a e => zh2 (T' := [(5, .op (H.length + 1) 0), (7, .op (H.length + 2) 0), (8, .op (H.length + 3 + (i + 1)) 0)]) (by rw [h8]; simp only [push_cast, seval, List.forall_mem_cons, List.not_mem_nil, false_imp_iff, implies_true, List.forall_mem_nil]; simp [zaf, Wk.refl]) e, ?_⟩⟩;show _ = masterO H x (i + 1) ++ [.cells [iv (2 - ((i + 1 : Nat) : Int))] 3];rw [hsuc, hm];simp
  ·have hi2 : i = 3 := by
    have : ¬ (0 : Int) ≤ 2 - i := (by simpa using h);omega
   subst hi2;(repeat apply zaa);refine zaq ?_;simp only [push_cast, seval];(repeat apply zaa);refine zl5 ?_;simp only [push_cast, seval];(repeat apply zaa);refine zai ?_;simp only [push_cast, seval];obtain ⟨G, hG⟩ := hE [.cells [iv (-1)] 3];simp only [iv] at hG;rw [hG];exact endA hH (Wk.refl _) (by simp [zap, zaD, zbh]) (h2 hmt)
end
def subsetsM (n : Nat) : Nat → Nat → List (List Int)
 | 0, _ => [[]]
 | k + 1, first => (List.range' first (n - k - first)).flatMap fun i => (subsetsM n k (i + 1)).map ((i : Int) :: ·)
def choicesM (n : Nat) : List (List Int) := (List.range (n + 1)).flatMap fun k => subsetsM n k 0
def butM (x : Ring) (but : List Int) : Nat → List Try
 | 0 => []
 | i + 1 => butM x but i ++ (match x.tries[i]? with | some r => if but.contains (i : Int) then [] else [r] | none => [])
def withoutR (x : Ring) (but : List Int) : Ring := ⟨x.cuts, x.keys, x.locks, butM x but x.tries.length⟩
def okAll (x : Ring) (row : List Int) (ts : List Try) : Bool := ts.all (triedM x row)
open Go.Conc Go.Proofs
section
variable {lv : Bool} {H : List AObj} {k kp : AV → List AObj → Prop}
end
section
variable {lv : Bool} {H : List AObj} {k kp : AV → List AObj → Prop}
end
open Go.Conc Go.Proofs
def listsM (n : Nat) : Nat → List (List Int)
 | 0 => [[]]
 | k + 1 => (List.range n).flatMap fun i : Nat => (listsM n k).map ((i : Int) :: ·)
def listJ (n kk j : Nat) : List (List Int) := (List.range j).flatMap fun i : Nat => (listsM n kk).map ((i : Int) :: ·)
section
variable {lv : Bool}
end
section
variable {lv : Bool} {H : List AObj} {k kp : AV → List AObj → Prop}
end
open Go.Conc Go.Proofs
def wearOk (x : Ring) (t : List Int) : Nat → Bool
 | 0 => true
 | k + 1 => wearOk x t k && (match x.keys[k]?, t[k]? with | some y, some w => decide (y.wear.min ≤ w) && decide (w ≤ y.wear.max) | _, _ => true)
def triesOk (x : Ring) (t : List Int) : Nat → Bool
 | 0 => true
 | i + 1 => triesOk x t i && (match x.tries[i]? with | some r => opensW x.keys t x.locks r.key r.lock == r.opens | none => true)
def fineW (x : Ring) (t : List Int) : Bool := wearOk x t x.keys.length && triesOk x t x.tries.length
def truthsL (x : Ring) : List (List Int) := (listsM 3 x.keys.length).filter (fineW x)
section
variable {lv : Bool} {H : List AObj} {k kp : AV → List AObj → Prop}
end
open Go.Conc Go.Proofs
section
variable {lv : Bool} {H : List AObj} {k kp : AV → List AObj → Prop}
end
open Go.Conc Go.Proofs
def allIn (n : Nat) (t : List Int) : Bool := (List.range n).all fun k : Nat => decide ((k : Int) ∈ t)
def ordersM (n : Nat) : List (List Int) := (listsM n n).filter (allIn n)
section
variable {lv : Bool} {H : List AObj} {k kp : AV → List AObj → Prop}
end
open Go.Conc Go.Proofs
theorem zgH {ks : List Key} {i : Nat} {y : Key} (h : ks[i]? = some y) : (ks.take (i + 1)).flatMap Key.l = (ks.take i).flatMap Key.l ++ y.l := by
 obtain ⟨hj, rfl⟩ := List.getElem?_eq_some_iff.1 h;rw [List.take_succ_eq_append_getElem hj, List.flatMap_append]; simp
theorem zf8 {ls : List (List Band)} {i : Nat} {l : List Band} (h : ls[i]? = some l) : (ls.take (i + 1)).map aBands = (ls.take i).map aBands ++ [aBands l] := by
 obtain ⟨hj, rfl⟩ := List.getElem?_eq_some_iff.1 h;rw [List.take_succ_eq_append_getElem hj, List.map_append]; simp
def krO (N : Nat) (x : Ring) (z : AObj) (nk : Nat) (kl : List AV) (tk nl : Nat) (ll : List AV) (tl : Nat) : List AObj := [.cells x.l 26, z, .cells [iv x.cuts, .sl nk kl (.opn (N + 3)), .sl nl ll (.opn (N + 4)), aTries x.tries] 26, .tail tk 3 65, .tail tl 1 29]
section
variable {lv : Bool} {H : List AObj} {k kp : AV → List AObj → Prop}
end
open Go.Conc Go.Proofs
def eqShape (P : Program) (fs : Array Field) (ks : List Bool) : Bool := fs.toList.all fun f => match P.underlying f.type, ks[f.offset]? with
 | some (.int _), some true => true
 | some .bool, some false => true
 | _, _ => false
theorem zlx {P : Program} {ι : Type} {body : ι → Option Bool × Unit → Sem (ForInStep (Option Bool × Unit))} (l : List ι) (h : ∀ i ∈ l, Sure P (body i (none, ())) (.yield (none, ()))) : Sure P (forIn l (none, ()) body) (none, ()) := by
 have := zh1 (P := P) (p := fun _ => true) l (by simpa using h);simpa using this
theorem ze9 {P : Program} {t : TypeId} {fs : Array Field} {xs : Array Value} {ks : List Bool} {d : Nat} (ht : P.underlying t = some (.struct fs)) (hp : P.stoodInHeld t = false) (hs : eqShape P fs ks = true) (h1 : ∀ i : Nat, ks[i]? = some true → ∃ k z, xs[i]? = some (.int k z)) (h2 : ∀ i : Nat, ks[i]? = some false → ∃ b, xs[i]? = some (.bool b)) : Sure P (Op.equalIn (d + 2) t (.agg xs) (.agg xs)) true := by
 rw [Op.equalIn];refine zaR ht ?_;dsimp only;refine zgd ?_;rw [hp];simp only [Bool.false_eq_true, if_false];rw [← Array.forIn_toList];refine za0 (a := (none, ())) (zlx _ fun f hf => ?_) (zaH _);have hsf := (List.all_eq_true.1 hs) f hf;split
 ·split at hsf
  ·rename_i k hu hk;obtain ⟨j, z, hv⟩ := h1 _ hk;refine zej hu rfl hv (zej hu rfl hv (za0 (zkv hu) ?_));simp only [beq_self_eq_true, Bool.not_true, Bool.false_eq_true, if_false];exact zaH _
  ·rename_i hu hk;obtain ⟨b, hv⟩ := h2 _ hk;refine zej hu rfl hv (zej hu rfl hv (za0 (zjZ hu) ?_));simp only [beq_self_eq_true, Bool.not_true, Bool.false_eq_true, if_false];exact zaH _
  ·cases hsf
 ·exact zaH _
def structOk (P : Program) (t : TypeId) (ks : List Bool) : Bool := match P.underlying t with
 | some (.struct fs) => eqShape P fs ks && !P.stoodInHeld t
 | _ => false
theorem za1 {P : Program} {t : TypeId} {xs : Array Value} {ks : List Bool} {d : Nat} (h : structOk P t ks = true) (h1 : ∀ i : Nat, ks[i]? = some true → ∃ k z, xs[i]? = some (.int k z)) (h2 : ∀ i : Nat, ks[i]? = some false → ∃ b, xs[i]? = some (.bool b)) : Sure P (Op.equalIn (d + 2) t (.agg xs) (.agg xs)) true := by
 unfold structOk at h;split at h
 ·rename_i fs hu;rw [Bool.and_eq_true, Bool.not_eq_true'] at h;exact ze9 hu h.2 h.1 h1 h2
 ·cases h
theorem F.sh63 : structOk Tryz.prog 63 [true, true] = true := by kernel_rfl
theorem F.sh28 : structOk Tryz.prog 28 [true, true, false] = true := by kernel_rfl
theorem F.g63 : Tryz.prog.eqGuardType Tryz.prog.depth 63 = false := by kernel_rfl
theorem F.g28 : Tryz.prog.eqGuardType Tryz.prog.depth 28 = false := by kernel_rfl
theorem sure63 (a b : Int) : Sure Tryz.prog (Op.equal 63 (.agg #[.int .i64 a, .int .i64 b]) (.agg #[.int .i64 a, .int .i64 b])) true :=
 za1 (d := 9998) F.sh63 (fun i h => match i, h with
  | 0, _ => ⟨_, _, rfl⟩
  | 1, _ => ⟨_, _, rfl⟩
  | _ + 2, h => by cases h) (fun i h => match i, h with
  | 0, h => by cases h
  | 1, h => by cases h
  | _ + 2, h => by cases h)
theorem sure28 (a b : Int) (c : Bool) : Sure Tryz.prog (Op.equal 28 (.agg #[.int .i64 a, .int .i64 b, .bool c]) (.agg #[.int .i64 a, .int .i64 b, .bool c])) true :=
 za1 (d := 9998) F.sh28 (fun i h => match i, h with
  | 0, _ => ⟨_, _, rfl⟩
  | 1, _ => ⟨_, _, rfl⟩
  | 2, h => by cases h
  | _ + 3, h => by cases h) (fun i h => match i, h with
  | 0, h => by cases h
  | 1, h => by cases h
  | 2, _ => ⟨_, rfl⟩
  | _ + 3, h => by cases h)
theorem zhQ {t : TypeId} {l : List AV} {V : Value} (hr : AV.raw (.agg l) = some V) (hk : eqKind V V = true) (hg : Tryz.prog.eqGuardType Tryz.prog.depth t = false) (hs : Sure Tryz.prog (Op.equal t V V) true) (k : AV → Prop) : ABin Tryz.prog .neq t (.agg l) (.agg l) k = k (bv false) := by
 have e : ABin Tryz.prog .neq t (.agg l) (.agg l) k = ((BinOp.neq = .eql ∨ BinOp.neq = .neq) ∧ one1 (AV.raw (.agg l)) fun X => one1 (AV.raw (.agg l)) fun Y => eqKind X Y = true ∧ Tryz.prog.eqGuardType Tryz.prog.depth t = false ∧ ∃ e, Sure Tryz.prog (Op.equal t X Y) e ∧ k (.val (.bool (if BinOp.neq == .neq then !e else e)))) := rfl;rw [e, hr, zet, zet];apply propext;constructor
 ·rintro ⟨_, _, _, b, h1, h2⟩
  have := hs.uniq h1;subst this;exact h2
 ·intro h;exact ⟨.inr rfl, hk, hg, true, hs, h⟩
theorem B63.same (a b : Int) (k : AV → Prop) : ABin Tryz.prog .neq 63 (.agg [.val (.int .i64 a), .val (.int .i64 b)]) (.agg [.val (.int .i64 a), .val (.int .i64 b)]) k = k (.val (.bool false)) := zhQ (V := .agg #[.int .i64 a, .int .i64 b]) rfl rfl F.g63 (sure63 a b) k
theorem B28.same (a b : Int) (c : Bool) (k : AV → Prop) : ABin Tryz.prog .neq 28 (.agg [.val (.int .i64 a), .val (.int .i64 b), .val (.bool c)]) (.agg [.val (.int .i64 a), .val (.int .i64 b), .val (.bool c)]) k = k (.val (.bool false)) := zhQ (V := .agg #[.int .i64 a, .int .i64 b, .bool c]) rfl rfl F.g28 (sure28 a b c) k
attribute [push_cast] B63.same B28.same
section
variable {lv : Bool} {H : List AObj} {k kp : AV → List AObj → Prop}
theorem f111_same {xs : List Band} {e e' : End} (hl : xs.length < 2 ^ 30) (hk : k (bv true) H) : FnC lv Tryz.prog 111 H [.sl xs.length (xs.flatMap Band.l) e, .sl xs.length (xs.flatMap Band.l) e'] k kp := by
 refine zak (rs := [.tmp 4]) (nt := 26) F.f111 rfl rfl rfl (by simp) fun hH hA => ?_;simp only [argsT, Nat.reduceAdd];(repeat apply zaa);refine zl5 ?_;simp only [push_cast, seval];(repeat apply zaa);refine zl5 ?_;simp only [push_cast, seval, bne_self_eq_false];(repeat apply zaa);refine zae ?_;simp only [push_cast, seval];(repeat apply zaa);refine zah ?_;simp only [push_cast, seval];(repeat apply zaa);refine zl5 ?_;simp only [push_cast, seval];(repeat apply zaa);refine zag ?_;refine zaB xs.length (fun i : Nat => [(5, iv i)]) (fun _ => _) (fun _ => True) (fun _ _ => rfl) (by simp only [push_cast, seval, List.forall_mem_cons, List.not_mem_nil, false_imp_iff, implies_true, List.forall_mem_nil]; simp [zaf, Wk.refl]) rfl (fun _ _ _ => rfl) trivial (fun hHs hLt i hin hi R hR => ?_);(repeat apply zaa);refine zl5 ?_;simp only [push_cast, seval];(repeat apply zaa);refine zae ?_;simp only [push_cast, seval];refine ⟨fun h => ?_, fun h => ?_⟩
 ·have hil : i < xs.length := by omega
  obtain ⟨y, hy⟩ := zaE hil;have hw : IntKind.i64.wrap ((i : Int) + 1) = i + 1 := zau _ (by omega);(repeat apply zaa);refine zah ?_;simp only [push_cast, seval];(repeat apply zaa);refine zag ?_;(repeat apply zaa);refine zaT F.mixed 8 (by kernel_rfl) ?_;simp only [push_cast, seval, zdh hy, zaz hil];(repeat apply zaa);refine zae ?_;simp only [push_cast, seval];(repeat apply zaa);refine zah ?_;simp only [push_cast, seval];(repeat apply zaa);refine zl5 ?_;simp only [push_cast, seval, hw];refine hR _ ⟨hil, trivial, (zax (zam rfl rfl) (by simp only [push_cast, seval]; simp [zaf, Wk.refl]))⟩
 ·clear hR;(repeat apply zaa);refine zaq ?_;simp only [push_cast, seval];(repeat apply zaa);refine zl5 ?_;simp only [push_cast, seval];(repeat apply zaa);refine zai ?_;simp only [push_cast, seval];exact zao hk
theorem f37_same {x : Ring} (hs : x.Small) (hk : k (bv true) H) : FnC lv Tryz.prog 37 H [x.av, x.av] k kp := by
 refine zak (rs := [.tmp 4]) (nt := 113) F.f37 rfl rfl rfl (by simp) fun hH hA => ?_;simp only [argsT, Nat.reduceAdd, Ring.av];have hs1 := hs.keys;have hs2 := hs.locks;have hs3 := hs.tries;(repeat apply zaa);refine zl5 ?_;simp only [push_cast, seval, Ring.l];(repeat apply zaa);refine zl5 ?_;simp only [push_cast, seval, bne_self_eq_false, aKeys, aLocks, aTries];(repeat apply zaa);refine zae ?_;simp only [push_cast, seval];(repeat apply zaa);refine zah ?_;simp only [push_cast, seval];(repeat apply zaa);refine zl5 ?_;simp only [push_cast, seval];(repeat apply zaa);refine zag ?_;refine zaB x.keys.length (fun i : Nat => [(5, iv i)]) (fun _ => _) (fun _ => True) (fun _ _ => rfl) (by simp only [push_cast, seval, List.forall_mem_cons, List.not_mem_nil, false_imp_iff, implies_true, List.forall_mem_nil]; simp [zaf, Wk.refl]) rfl (fun _ _ _ => rfl) trivial (fun hHs hLt i hin hi R hR => ?_);clear hHs hLt;(repeat apply zaa);refine zl5 ?_;simp only [push_cast, seval, aKeys];(repeat apply zaa);refine zae ?_;simp only [push_cast, seval];refine ⟨fun h => ?_, fun h => ?_⟩
 ·have hil : i < x.keys.length := by omega
  obtain ⟨y, hy⟩ := zaE hil;have hyc := hs.cuts y (zas hy);have hw : IntKind.i64.wrap ((i : Int) + 1) = i + 1 := zau _ (by omega);(repeat apply zaa);refine zah ?_;simp only [push_cast, seval];(repeat apply zaa);refine zag ?_;(repeat apply zaa);refine zaT F.mixed 27 (by kernel_rfl) ?_;simp only [push_cast, seval, zc2 hy, zaz hil, aKeys, aInts];refine qCall (bv true) (zad (by kernel_rfl) (f34_same (xs := y.cuts) (by omega) ⟨rfl, rfl⟩)) ?_;(try simp only [push_cast, seval, zc2 hy, zaz hil, aKeys, aInts]);(repeat apply zaa);refine zae ?_;simp only [push_cast, seval];(repeat apply zaa);refine zah ?_;simp only [push_cast, seval];(repeat apply zaa);refine zl5 ?_;simp only [push_cast, seval, hw];refine hR _ ⟨hil, trivial, (zax (zam rfl rfl) (by simp only [push_cast, seval]; simp [zaf, Wk.refl]))⟩
 ·clear hR;(repeat apply zaa);refine zaq ?_;simp only [push_cast, seval];(repeat apply zaa);refine zl5 ?_;simp only [push_cast, seval];(repeat apply zaa);refine zag ?_;refine zaB x.locks.length (fun i : Nat => [(6, iv i)]) (fun _ => _) (fun _ => True) (fun _ _ => rfl) (by simp only [push_cast, seval, List.forall_mem_cons, List.not_mem_nil, false_imp_iff, implies_true, List.forall_mem_nil]; simp [zaf, Wk.refl]) rfl (fun _ _ _ => rfl) trivial (fun hHs hLt i hin hi R hR => ?_);clear hHs hLt;(repeat apply zaa);refine zl5 ?_;simp only [push_cast, seval, aLocks];(repeat apply zaa);refine zae ?_;simp only [push_cast, seval];refine ⟨fun h => ?_, fun h => ?_⟩
  ·have hil : i < x.locks.length := (by omega);obtain ⟨y, hy⟩ := zaE hil;have hyc := hs.bands y (zas hy);have hw : IntKind.i64.wrap ((i : Int) + 1) = i + 1 := zau _ (by omega);(repeat apply zaa);refine zah ?_;simp only [push_cast, seval];(repeat apply zaa);refine zag ?_;(repeat apply zaa);refine zaT F.mixed 10 (by kernel_rfl) ?_;simp only [push_cast, seval, zfu hy, zaz hil, aLocks];refine zl6 ((f111_same (xs := y) (by omega) ?_));(try simp only [push_cast, seval]);(repeat apply zaa);refine zae ?_;simp only [push_cast, seval];(repeat apply zaa);refine zah ?_;simp only [push_cast, seval];(repeat apply zaa);refine zl5 ?_;simp only [push_cast, seval, hw];refine hR _ ⟨hil, trivial, (zax (zam rfl rfl) (by simp only [push_cast, seval]; simp [zaf, Wk.refl]))⟩
  ·clear hR;(repeat apply zaa);refine zaq ?_;simp only [push_cast, seval];(repeat apply zaa);refine zl5 ?_;simp only [push_cast, seval];(repeat apply zaa);refine zag ?_;refine zaB x.tries.length (fun i : Nat => [(7, iv i)]) (fun _ => _) (fun _ => True) (fun _ _ => rfl) (by simp only [push_cast, seval, List.forall_mem_cons, List.not_mem_nil, false_imp_iff, implies_true, List.forall_mem_nil]; simp [zaf, Wk.refl]) rfl (fun _ _ _ => rfl) trivial (fun hHs hLt i hin hi R hR => ?_);clear hHs hLt;(repeat apply zaa);refine zl5 ?_;simp only [push_cast, seval, aTries];(repeat apply zaa);refine zae ?_;simp only [push_cast, seval];refine ⟨fun h => ?_, fun h => ?_⟩
   ·have hil : i < x.tries.length := (by omega);obtain ⟨y, hy⟩ := zaE hil;have hw : IntKind.i64.wrap ((i : Int) + 1) = i + 1 := zau _ (by omega);(repeat apply zaa);refine zah ?_;simp only [push_cast, seval];(repeat apply zaa);refine zag ?_;(repeat apply zaa);refine zaT F.mixed 10 (by kernel_rfl) ?_;simp only [push_cast, seval, zh6 hy, zaz hil, aTries];(repeat apply zaa);refine zae ?_;simp only [push_cast, seval];(repeat apply zaa);refine zah ?_;simp only [push_cast, seval];(repeat apply zaa);refine zl5 ?_;simp only [push_cast, seval, hw];refine hR _ ⟨hil, trivial, (zax (zam rfl rfl) (by simp only [push_cast, seval]; simp [zaf, Wk.refl]))⟩
   ·clear hR;(repeat apply zaa);refine zaq ?_;simp only [push_cast, seval];(repeat apply zaa);refine zl5 ?_;simp only [push_cast, seval];(repeat apply zaa);refine zai ?_;simp only [push_cast, seval];exact endA hH (Wk.refl _) (by simp [zap]) hk
end
open Go.Conc Go.Proofs
def addFl (x : Ring) (t : Try) : Option Int := if x.tries.length < 6 then (if inM t.key 0 (x.keys.length - 1) then (if inM t.lock 0 (x.locks.length - 1) then none else some 1) else some 0) else some 3
theorem zlu {x : Ring} {t : Try} : addFl x t = none ↔ x.tries.length < 6 ∧ (0 ≤ t.key ∧ t.key ≤ x.keys.length - 1) ∧ 0 ≤ t.lock ∧ t.lock ≤ x.locks.length - 1 := by
 unfold addFl;split
 ·split
  ·rename_i h1 h2;split
   ·rename_i h3; exact ⟨fun _ => ⟨h1, zbU.1 h2, zbU.1 h3⟩, fun _ => rfl⟩
   ·rename_i h3; exact ⟨fun h => by simp at h, fun h => absurd (zbU.2 h.2.2) h3⟩
  ·rename_i h1 h2; exact ⟨fun h => by simp at h, fun h => absurd (zbU.2 h.2.1) h2⟩
 ·rename_i h1; exact ⟨fun h => by simp at h, fun h => absurd h.1 h1⟩
theorem zlw {x : Ring} {t : Try} (hx : x.Ok) (h : addFl x t = none) : (withT x t).Ok := by
 obtain ⟨h1, h2, h3⟩ := zlu.1 h;refine ⟨hx.cuts, hx.keys, hx.key, hx.locks, hx.lock, by show (x.tries ++ [t]).length ≤ 6; simp; omega, fun r hr => ?_⟩;rcases List.mem_append.1 hr with hr | hr
 ·exact hx.tried r hr
 ·rw [List.mem_singleton.1 hr];show (0 ≤ t.key ∧ t.key < (x.keys.length : Nat)) ∧ 0 ≤ t.lock ∧ t.lock < (x.locks.length : Nat);omega
section
variable {lv : Bool} {H : List AObj} {k kp : AV → List AObj → Prop}
theorem f142_c {r i : Nat} {x : Ring} {t : Try} (hx : x.Small) (hr : H[r]? = some (.cells x.l 26)) (hi : H[i]? = some (.cells t.l 28)) (hk : addFl x t = none → k (.tup []) H) (hp : ∀ f, addFl x t = some f → kp (.ifc 106 (iv f)) H) : FnC lv Tryz.prog 142 H [.op r 0, .op i 0] k kp := by
 refine zak (rs := []) (nt := 20) F.f142 rfl rfl rfl (by simp) fun hH hA => ?_;simp only [argsT, Nat.reduceAdd];have hl := hx.locks;have hw : IntKind.i64.wrap ((x.locks.length : Int) - 1) = x.locks.length - 1 := zau _ (by omega);have hr2 := hr;rw [Ring.l] at hr2;have hi2 := hi;rw [Try.l] at hi2;(repeat apply zaa);refine zl5 ?_;simp only [push_cast, seval, hr2, aTries];refine zl6 ((f90_c (fun h => ?_) (fun h => ?_)))
 ·have h5 : (x.tries.length : Int) < 6 := by simpa using h
  have h6 : x.tries.length < 6 := by omega
  (try simp only [push_cast, seval]);(repeat apply zaa);refine zl5 ?_;simp only [push_cast, seval, hr2, hi2];refine zl6 ((f89_c (x := x) ?_));(try simp only [push_cast, seval]);refine zl6 ((f152_c hx (by simp only [push_cast, seval] <;> rfl) (by simp only [push_cast, seval] <;> rfl) (fun hin => ?_) (fun hin => ?_)))
  ·(try simp only [push_cast, seval]);(repeat apply zaa);refine zl5 ?_;simp only [push_cast, seval, zay hi2, zay hr2, hw, aLocks];refine zl6 ((f91_c ?_));(try simp only [push_cast, seval]);refine zl6 ((f90_c (fun h => ?_) (fun h => ?_)))
   ·have h : inM t.lock 0 (x.locks.length - 1) = true := (by simpa [inM] using h);exact zaJ (Wk.refl _) rfl (Nat.le_refl _) hH (by simp [zaD]) (hk (by rw [addFl, if_pos h6, if_pos hin, if_pos h]))
   ·have h : inM t.lock 0 (x.locks.length - 1) = false := (by simpa [inM] using h);exact zaJ (Wk.refl _) rfl (Nat.le_refl _) hH (by simp [zap, zey]) (hp 1 (by rw [addFl, if_pos h6, if_pos hin, h]; rfl))
  ·exact zaJ (Wk.refl _) rfl (Nat.le_refl _) hH (by simp [zap, zey]) (hp 0 (by rw [addFl, if_pos h6, hin]; rfl))
 ·have h5 : ¬ (x.tries.length : Int) < 6 := by simpa using h
  exact zao (hp 3 (by rw [addFl, if_neg (by omega)]))
theorem ask_add {r i : Nat} {x : Ring} {t : Try} (hx : x.Small) (hr : H[r]? = some (.cells x.l 26)) (hi : H[i]? = some (.cells t.l 28)) : AskC lv H (.fn (.func 142) [] [.op r 0, .op i 0]) (addFl x t) := fun L k kp h1 h2 =>
 zad (by kernel_rfl) (f142_c hx (zay hr) (zay hi) h1 h2)
def addO (N : Nat) (x : Ring) (t : Try) (ks : List Key) (ls : List (List Band)) : List AObj := [.cells x.l 26, .cells t.l 28, .cells [iv 0, .sl 0 [] .exact, .sl 0 [] .exact, .sl 0 [] .exact] 26, .cells [iv x.cuts, .sl ks.length (ks.flatMap Key.l) (.opn (N + 4)), .sl ls.length (ls.map aBands) (.opn (N + 5)), aTries (x.tries ++ [t])] 26, .tail ks.length 3 65, .tail ls.length 1 29]
theorem addO_ok (hH : HOk H) (x : Ring) (t : Try) (ks : List Key) (ls : List (List Band)) : HOk (H ++ addO H.length x t ks ls) := fun z hz => by
 have hl : (H ++ addO H.length x t ks ls).length = H.length + 6 := by simp [addO]
 rcases List.mem_append.1 hz with hz | hz
 ·exact (hH z hz).mono (by simp)
 ·simp only [addO, List.mem_cons, List.not_mem_nil, or_false] at hz;rw [hl];rcases hz with rfl | rfl | rfl | rfl | rfl | rfl
  ·intro a ha;simp only [Ring.l, List.mem_cons, List.not_mem_nil, or_false] at ha;rcases ha with rfl | rfl | rfl | rfl
   ·exact .val _
   ·rw [zc5]; trivial
   ·rw [zci]; trivial
   ·rw [zch]; trivial
  ·intro a ha; simp [Try.l, iv, bv] at ha; rcases ha with rfl | rfl | rfl <;> exact .val _
  ·intro a ha; simp [iv] at ha; rcases ha with rfl | rfl <;> simp [zap, zbh]
  ·intro a ha;simp only [List.mem_cons, List.not_mem_nil, or_false] at ha;rcases ha with rfl | rfl | rfl | rfl
   ·exact .val _
   ·rw [lt_opnk]; omega
   ·rw [lt_opnl]; omega
   ·rw [zch]; trivial
  all_goals trivial
def noRing : AV := .agg [iv 0, .sl 0 [] .exact, .sl 0 [] .exact, .sl 0 [] .exact]
theorem f73_c {x : Ring} {t : Try} (hnr : NewRingC lv) (hmain : H[0]? = some .main) (hs : x.Small) (h1 : openE x (addFl x t) ≠ 0 → k (.tup [noRing, iv (openE x (addFl x t))]) H) (h2 : openE x (addFl x t) = 0 → truthsM x [] ≠ [] → truthsM (withT x t) [] = [] → k (.tup [noRing, iv 9]) H) (h3 : openE x (addFl x t) = 0 → (truthsM x [] = [] ∨ truthsM (withT x t) [] ≠ []) → k (.tup [(withT x t).av, iv 0]) H) : FnC lv Tryz.prog 73 H [x.av, t.av] k kp := by
 have hmn : ∀ L : List AObj, (H ++ L)[0]? = some .main := fun L => zay hmain;refine zak (rs := [.cell 4 26, .tmp 5]) (nt := 85) F.f73 rfl rfl rfl (by simp) fun hH hA => ?_;simp only [argsT, Nat.reduceAdd, Ring.av, Try.av];have h11 : H.length + 1 + 1 = H.length + 2 := rfl;(repeat apply zaa);refine zl5 ?_;simp only [push_cast, seval, Ring.l, Try.l, h11];(repeat apply zaa);refine zl5 ?_;simp only [push_cast, seval, List.mapM_cons, List.mapM_nil, Option.pure_def, Option.bind_eq_bind];have hask : AskC lv (H ++ [.cells x.l 26, .cells t.l 28, .cells [iv 0, .sl 0 [] .exact, .sl 0 [] .exact, .sl 0 [] .exact] 26]) _ (addFl x t) := ask_add (r := H.length) (i := H.length + 1) hs (by simp only [push_cast, seval]) (by simp only [push_cast, seval]);refine zl6 ((f87_c hnr (hmn _) hs hask (fun hz => ?_) (fun hz => ?_)))
 ·(try simp only [push_cast, seval]);(repeat apply zaa);refine zl5 ?_;simp only [push_cast, seval];(repeat apply zaa);refine zae ?_;simp only [push_cast, seval];refine ⟨fun h => ?_, fun h => absurd (by simpa using h) hz⟩;(repeat apply zaa);refine zl5 ?_;simp only [push_cast, seval];(repeat apply zaa);refine zai ?_;simp only [push_cast, seval];exact endA (b := .tup [noRing, iv (openE x (addFl x t))]) hH (Wk.refl _) (by simp [noRing, zap, zaD, zfa, zbh]) (h1 hz)
 ·(try simp only [push_cast, seval]);(repeat apply zaa);refine zl5 ?_;simp only [push_cast, seval];have h2 := h2 hz;have h3 := h3 hz;have hx := zbp hz;have hfl := (zaN.1 hz).2;(repeat apply zaa);refine zae ?_;simp only [push_cast, seval];(repeat apply zaa);refine zah ?_;simp only [push_cast, seval];have htr := hx.tries;have htln := zf5 x.tries;have hnn : (0 ≤ (x.tries.length : Int)) = True := by simp
  have htk : (x.tries.flatMap Try.l).take (x.tries.length * 3) = x.tries.flatMap Try.l := List.take_of_length_le (by omega);(repeat apply zaa);refine zbE [15, 16] [0, 1, 2, 3, 4, 5, 6, 7, 8, 9, 10, 11, 12, 13, 14, 15, 16] [⟨0, false, [], [([15], [15])]⟩, ⟨1, false, [], [([15], [15])]⟩, ⟨2, false, [], [([15], [15])]⟩, ⟨3, false, [], [([15], [15])]⟩, ⟨4, false, [], [([15], [15])]⟩, ⟨5, false, [], [([15], [15])]⟩, ⟨6, false, [], [([15], [15])]⟩, ⟨7, false, [], [([15], [15])]⟩, ⟨8, false, [], [([15], [15])]⟩, ⟨9, false, [], [([15], [15])]⟩, ⟨10, false, [], [([15], [15])]⟩, ⟨11, false, [], [([15], [15])]⟩, ⟨12, false, [], [([15], [15])]⟩, ⟨13, false, [], [([15], [15])]⟩, ⟨14, false, [], [([15], [15])]⟩, ⟨15, true, [15], []⟩, ⟨16, true, [15, 16], []⟩] (fun D => H ++ (.cells [iv x.cuts, aKeys x.keys, aLocks x.locks, aTries x.tries] 26 :: .cells [iv t.key, iv t.lock, bv t.opens] 28 :: .cells [iv 0, .sl 0 [] .exact, .sl 0 [] .exact, .sl 0 [] .exact] 26 :: (bif isDone 16 D then [.cells [iv x.cuts, .sl 0 [] .exact, .sl 0 [] .exact, .sl (x.tries.length + 1) (x.tries.flatMap Try.l ++ [iv t.key, iv t.lock, bv t.opens]) .shut] 26] else bif isDone 15 D then [.cells [iv 0, .sl 0 [] .exact, .sl 0 [] .exact, .sl 0 [] .exact] 26] else []))) F.mixed (by kernel_rfl) (by kernel_rfl) (by first | rfl | simp only [push_cast, seval]) ?_;simp only [push_cast, seval, htln, aTries, zt3, zd5, Bool.true_and, beq_self_eq_true, hnn, htk];refine ⟨by omega, by omega, ?_⟩;have hat : aTries (x.tries ++ [t]) = .sl (x.tries.length + 1) (x.tries.flatMap Try.l ++ [iv t.key, iv t.lock, bv t.opens]) .shut := by
   unfold aTries;rw [List.flatMap_append, List.length_append]; rfl
  have hat2 : aTries x.tries = .sl x.tries.length (x.tries.flatMap Try.l) .shut := rfl
  (repeat apply zaa); refine zdw (id := H.length + 3) (j := 1) (sz := 3) (el' := 65) (by simp only [push_cast, seval] <;> rfl) rfl ?_
  try simp only [push_cast, seval]
  (repeat apply zaa); refine zdw (id := H.length + 3) (j := 2) (sz := 1) (el' := 29) (by simp only [push_cast, seval] <;> rfl) rfl ?_
  (try simp only [push_cast, seval]);have hks := hx.keys;have hls := hx.locks;have w1 : ∀ i : Nat, i ≤ 2 ^ 31 → IntKind.i64.wrap ((i : Int) + 1) = i + 1 := fun i _ => zau _ (by omega);(repeat apply zaa);refine zl5 ?_;simp only [push_cast, seval, aKeys];(repeat apply zaa);refine zag ?_;refine zaB x.keys.length (fun i : Nat => [(41, iv i)]) (fun i => H ++ addO H.length x t (x.keys.take i) []) (fun _ => True) (fun _ _ => rfl) (by simp only [push_cast, seval, List.forall_mem_cons, List.not_mem_nil, false_imp_iff, implies_true, List.forall_mem_nil]; simp [zaf, Wk.refl]) (by simp only [addO, hat]; rfl) (fun _ _ _ => by simp [addO]) trivial (fun hHs hLt i hin hi R hR => ?_);clear hHs hLt;have hti : (x.keys.take i).length = i := by rw [List.length_take]; omega
  (repeat apply zaa);refine zl5 ?_;simp only [push_cast, seval, addO, Ring.l, Try.l, hti];(repeat apply zaa);refine zae ?_;simp only [push_cast, seval];refine ⟨fun h => ?_, fun h => ?_⟩
  ·have hil : i < x.keys.length := (by omega);obtain ⟨y, hy⟩ := zaE hil;have hyc := hs.cuts y (zas hy);have hwi := w1 i (by omega);have hkl : ((x.keys.take i).flatMap Key.l).length = i * 3 := (by rw [keys_len, hti]);have hti2 : (x.keys.take (i + 1)).length = i + 1 := (by rw [List.length_take]; omega);have hsu := zgH hy;(repeat apply zaa);refine zah ?_;simp only [push_cast, seval];(repeat apply zaa);refine zag ?_;(repeat apply zaa);refine zl5 ?_;simp only [push_cast, seval, zc2 hy, zaz hil, aInts];(repeat apply zaa);refine zaT F.mixed 9 (by kernel_rfl) ?_;simp only [push_cast, seval, hkl, zk3, zd5];refine qCall (aInts y.cuts) (zad (by kernel_rfl) (f94_c (xs := y.cuts) (by omega) ⟨rfl, rfl⟩)) ?_;(try simp only [push_cast, seval, hkl, zk3, zd5, aInts]);refine ⟨by omega, ?_⟩;(repeat apply zaa);refine zl5 ?_;simp only [push_cast, seval, hwi];refine hR _ ⟨hil, trivial, ?_⟩;refine zce [.cells [aInts y.cuts, iv y.wear.min, iv y.wear.max] 65] (zam rfl rfl) (by simp only [push_cast, seval]; simp [zaf, Wk.refl]) (addO_ok hH _ _ _ _) (by simp only [List.forall_mem_cons, zap, iv]; simp) (by simp [addO, hsu, hti2, Key.l, aInts, Ring.l, Try.l, aKeys, hat, hat2])
  ·have hix : i = x.keys.length := (by omega);subst hix;clear hR;rw [List.take_length];(repeat apply zaa);refine zaq ?_;simp only [push_cast, seval];(repeat apply zaa);refine zl5 ?_;simp only [push_cast, seval, aLocks];(repeat apply zaa);refine zag ?_;refine zaB x.locks.length (fun i : Nat => [(60, iv i)]) (fun i => H ++ addO H.length x t x.keys (x.locks.take i)) (fun _ => True) (fun _ _ => rfl) (by simp only [push_cast, seval, List.forall_mem_cons, List.not_mem_nil, false_imp_iff, implies_true, List.forall_mem_nil]; simp [zaf, Wk.refl]) rfl (fun _ _ _ => by simp [addO]) trivial (fun hHs hLt i hin hi R hR => ?_);clear hHs hLt;have hti : (x.locks.take i).length = i := (by rw [List.length_take]; omega);(repeat apply zaa);refine zl5 ?_;simp only [push_cast, seval, addO, Ring.l, Try.l, hti];(repeat apply zaa);refine zae ?_;simp only [push_cast, seval];refine ⟨fun h => ?_, fun h => ?_⟩
   ·have hil : i < x.locks.length := (by omega);obtain ⟨l, hl⟩ := zaE hil;have hlb := hs.bands l (zas hl);have hwi := w1 i (by omega);have hml : ((x.locks.take i).map aBands).length = i := (by rw [List.length_map, hti]);have hti2 : (x.locks.take (i + 1)).length = i + 1 := (by rw [List.length_take]; omega);have hzs1 : zeroRow (Value.slice none 0 0) 1 = [.sl 0 [] .exact] := rfl;have hsu := zf8 hl;(repeat apply zaa);refine zah ?_;simp only [push_cast, seval];(repeat apply zaa);refine zag ?_;(repeat apply zaa);refine zl5 ?_;simp only [push_cast, seval, zfu hl, zaz hil];(repeat apply zaa);refine zaT F.mixed 5 (by kernel_rfl) ?_;simp only [push_cast, seval, hml, hzs1, zhq];refine qCall (aBands l) (zad (by kernel_rfl) (f143_c (xs := l) (by omega) ⟨rfl, rfl⟩)) ?_;(try simp only [push_cast, seval, hml, hzs1, zhq, zfd, zho]);refine ⟨by omega, ?_⟩;(repeat apply zaa);refine zl5 ?_;simp only [push_cast, seval, hwi];refine hR _ ⟨hil, trivial, ?_⟩;rw [addO, hsu, hti2];exact (zax (zam rfl rfl) (by simp only [push_cast, seval]; simp [zaf, Wk.refl]))
   ·have hix : i = x.locks.length := (by omega);subst hix;clear hR;rw [List.take_length];(repeat apply zaa);refine zaq ?_;simp only [push_cast, seval]
    (repeat apply zaa); refine zdy (id := H.length + 3) (j := 1) (y := aKeys x.keys) (by simp only [push_cast, seval, addO] <;> rfl) rfl (zaK _ _ _) ?_
    try simp only [push_cast, seval, addO]
    (repeat apply zaa); refine zdy (id := H.length + 3) (j := 2) (y := aLocks x.locks) (by simp only [push_cast, seval] <;> rfl) rfl (zaK _ _ _) ?_
    (try simp only [push_cast, seval]);have hy := zlw hx hfl;by_cases hD : truthsM x [] = []
    ·have hsz : ((List.map setEntry (truthsM x [])).toArray.size : Int) = 0 := (by rw [hD]; rfl);(repeat apply zaa);refine zl5 ?_;simp only [push_cast, seval];refine zl6 ((f129_c (but := []) (e := .exact) hx (by decide) ?_));(try simp only [push_cast, seval, zaL, hsz, decide_false]);(repeat apply zaa);refine zae ?_;simp only [push_cast, seval];(repeat apply zaa);refine zah ?_;simp only [push_cast, seval];(repeat apply zaa);refine zl5 ?_;simp only [push_cast, seval];(repeat apply zaa);refine zai ?_;simp only [push_cast, seval];exact endA (b := .tup [(withT x t).av, iv 0]) hH (Wk.refl _) (by simp [zaD, zfC, zap]) (h3 (.inl hD))
    ·have hpos : 0 < (truthsM x []).length := List.length_pos_iff.2 hD;have hsz : decide (((List.map setEntry (truthsM x [])).toArray.size : Int) > 0) = true := decide_eq_true (by simp; omega);(repeat apply zaa);refine zl5 ?_;simp only [push_cast, seval];refine zl6 ((f129_c (but := []) (e := .exact) hx (by decide) ?_));(try simp only [push_cast, seval, zaL, hsz]);refine zl6 ((hnr (withT x t) _ _ _ (hmn _) (zbH.2 hy) hy.small ?_));(try simp only [push_cast, seval]);refine zl6 ((f129_c (x := withT x t) (but := []) (e := .exact) hy (by decide) ?_));by_cases hE : truthsM (withT x t) [] = []
     ·have hsz2 : ((List.map setEntry (truthsM (withT x t) [])).toArray.size : Int) = 0 := (by rw [hE]; rfl);(try simp only [push_cast, seval, zaL, hsz2, beq_self_eq_true]);(repeat apply zaa);refine zae ?_;simp only [push_cast, seval];(repeat apply zaa);refine zl5 ?_;simp only [push_cast, seval];(repeat apply zaa);refine zai ?_;simp only [push_cast, seval];exact endA (b := .tup [noRing, iv 9]) hH (Wk.refl _) (by simp [noRing, zap, zaD, zfa, zbh]) (h2 hD hE)
     ·have hpos2 : 0 < (truthsM (withT x t) []).length := List.length_pos_iff.2 hE;have hsz2 : (((List.map setEntry (truthsM (withT x t) [])).toArray.size : Int) == 0) = false := (by simp; exact hE);(try simp only [push_cast, seval, zaL, hsz2]);(repeat apply zaa);refine zae ?_;simp only [push_cast, seval];(repeat apply zaa);refine zah ?_;simp only [push_cast, seval];(repeat apply zaa);refine zl5 ?_;simp only [push_cast, seval];(repeat apply zaa);refine zai ?_;simp only [push_cast, seval];exact endA (b := .tup [(withT x t).av, iv 0]) hH (Wk.refl _) (by simp [zaD, zfC, zap]) (h3 (.inr hE))
end
open Go.Conc Go.Proofs
def exTwo : Ring := ⟨2, (exR []).keys, [[⟨2, 3⟩, ⟨0, 1⟩], [⟨2, 2⟩, ⟨1, 2⟩]], []⟩
theorem zjS : exTwo.Small := ⟨by decide, by decide, by decide, by decide, by decide⟩
def exKeyed (ks : List Key) : Ring := ⟨2, ks, (exR []).locks, []⟩
section
variable {H : List AObj} {k kp : AV → List AObj → Prop}
theorem e2_worn (hmain : H[0]? = some .main) (hk : k (.tup [aInts [2, 0], iv 0]) H) : FnC true Tryz.prog 30 H [(exR []).av, iv 0, iv 1] k kp :=
 f30_c zaQ hmain (zbq (by decide)) (fun h => absurd (by decide +kernel) h) fun _ => by
  rw [show wornOf (exR []) (0 : Int).toNat (1 : Int).toNat = [2, 0] by decide +kernel]; exact hk
theorem e3_worn (hmain : H[0]? = some .main) (hk : k (.tup [.sl 0 [] .exact, iv 1]) H) : FnC true Tryz.prog 30 H [(exR []).av, iv 2, iv 3] k kp :=
 f30_c zaQ hmain (zbq (by decide)) (fun _ => by rw [show openE (exR []) (wornFl (exR []) 2 3) = 1 by decide +kernel]; exact hk) fun h => absurd h (by decide +kernel)
theorem e2_opens (hmain : H[0]? = some .main) (hk : k (.tup [iv 1, iv 0]) H) : FnC true Tryz.prog 32 H [(exR []).av, iv 0, iv 0] k kp :=
 f32_c zaQ hmain (zbq (by decide)) (fun h => absurd (by decide +kernel) h) fun _ => by
  rw [show verdictM (cntM (exR []) (0 : Int).toNat (0 : Int).toNat (truthsM (exR []) [])) (truthsM (exR []) []).length = 1 by decide +kernel]; exact hk
theorem e3_opens (hmain : H[0]? = some .main) (hk : k (.tup [iv 2, iv 0]) H) : FnC true Tryz.prog 32 H [(exR []).av, iv 0, iv 1] k kp :=
 f32_c zaQ hmain (zbq (by decide)) (fun h => absurd (by decide +kernel) h) fun _ => by
  rw [show verdictM (cntM (exR []) (0 : Int).toNat (1 : Int).toNat (truthsM (exR []) [])) (truthsM (exR []) []).length = 2 by decide +kernel]; exact hk
theorem e4_opens (hmain : H[0]? = some .main) (hk : k (.tup [iv 1, iv 0]) H) : FnC true Tryz.prog 32 H [(exR [exLast]).av, iv 2, iv 2] k kp :=
 f32_c zaQ hmain (zbq (by decide)) (fun h => absurd (by decide +kernel) h) fun _ => by
  rw [show verdictM (cntM (exR [exLast]) (2 : Int).toNat (2 : Int).toNat (truthsM (exR [exLast]) [])) (truthsM (exR [exLast]) []).length = 1 by decide +kernel]; exact hk
theorem e5_opens (hmain : H[0]? = some .main) (hk : k (.tup [iv 0, iv 11]) H) : FnC true Tryz.prog 32 H [(exR [exNever]).av, iv 0, iv 0] k kp :=
 f32_c zaQ hmain (zbq (by decide)) (fun _ => by rw [show openingE (exR [exNever]) (opensFl (exR [exNever]) 0 0) = 11 by decide +kernel]; exact hk) fun h => absurd h (by decide +kernel)
theorem e2_count (hmain : H[0]? = some .main) (hk : k (.tup [iv 6, iv 0]) H) : FnC true Tryz.prog 53 H [(exR []).av] k kp :=
 f53_c zaQ hmain (zbq (by decide)) (fun h => absurd (by decide +kernel) h) fun _ => by
  rw [show (truthsM (exR []) []).length = 6 by decide +kernel]; exact hk
theorem e3_count (hmain : H[0]? = some .main) (hk : k (.tup [iv 0, iv 0]) H) : FnC true Tryz.prog 53 H [(exR [exNever]).av] k kp :=
 f53_c zaQ hmain (zbq (by decide)) (fun h => absurd (by decide +kernel) h) fun _ => by
  rw [show (truthsM (exR [exNever]) []).length = 0 by decide +kernel]; exact hk
theorem e1_wears (hmain : H[0]? = some .main) (hk : k (.tup [aInts [0, 1], iv 0]) H) : FnC true Tryz.prog 69 H [(exR [exLast]).av, iv 2] k kp :=
 f69_c zaQ hmain (zbq (by decide)) (fun h => absurd (by decide +kernel) h) fun _ => by
  rw [show wearsM (exR [exLast]) (2 : Int).toNat = [0, 1] by decide +kernel]; exact hk
theorem e2_wears (hmain : H[0]? = some .main) (hk : k (.tup [aInts [0, 1], iv 0]) H) : FnC true Tryz.prog 69 H [(exR [exLast]).av, iv 0] k kp :=
 f69_c zaQ hmain (zbq (by decide)) (fun h => absurd (by decide +kernel) h) fun _ => by
  rw [show wearsM (exR [exLast]) (0 : Int).toNat = [0, 1] by decide +kernel]; exact hk
theorem e2_wrong (hmain : H[0]? = some .main) (hk : k (.tup [aInts [], iv 0]) H) : FnC true Tryz.prog 51 H [(exR []).av] k kp :=
 f51_c zaQ hmain (zbq (by decide)) (fun h => absurd (by decide +kernel) h) fun _ => by
  rw [show wrongM (exR []) = [] by decide +kernel]; exact hk
theorem e2_ask (hmain : H[0]? = some .main) (hk : k (.tup [iv 0, iv 0, iv 0, iv 11]) H) : FnC true Tryz.prog 55 H [(exR [exLast]).av] k kp :=
 f55_c zaQ hmain (zbq (by decide)) (fun h => absurd (by decide +kernel) h) (fun _ _ => hk) fun _ a b c h => by
  rw [show askR (exR [exLast]) = none by decide +kernel] at h; cases h
theorem e2_cover (hmain : H[0]? = some .main) (hk : k (.tup [.sl 0 [] .exact, iv 11]) H) : FnC true Tryz.prog 38 H [(exR []).av] k kp :=
 f38_c zaQ hmain (zbq (by decide)) (fun h => absurd (by decide +kernel) h) (fun _ _ => hk) fun _ xs h => by
  rw [show coverM (exR []) = none by decide +kernel] at h; cases h
theorem e2_alike (hmain : H[0]? = some .main) (hk : k (.tup [aInts [0, 1, 2], iv 0]) H) : FnC true Tryz.prog 40 H [(exR []).av] k kp :=
 f40_c zaQ hmain (zbq (by decide)) (fun h => absurd (by decide +kernel) h) fun _ => by
  rw [show alikeM (exR []) = [0, 1, 2] by decide +kernel]; exact hk
theorem e2_tell (hmain : H[0]? = some .main) (hk : k (.tup [.sl 0 [] .exact, iv 11]) H) : FnC true Tryz.prog 42 H [exOne.av] k kp :=
 f42_c zaQ hmain zhI (fun h => absurd (by decide +kernel) h) (fun _ _ => hk) fun _ xs h => by
  rw [show tellM exOne = none by decide +kernel] at h; cases h
theorem e2_which (hmain : H[0]? = some .main) (hk : k (.tup [aInts [2], iv 0]) H) : FnC true Tryz.prog 46 H [(exR []).av, aTurns [⟨0, false⟩, ⟨1, false⟩]] k kp :=
 f46_c zaQ hmain (zbq (by decide)) (by decide) (fun h => absurd (by decide +kernel) h) fun _ => by
  rw [show whichM (exR []) [⟨0, false⟩, ⟨1, false⟩] = [2] by decide +kernel]; exact hk
theorem e3_which (hmain : H[0]? = some .main) (hk : k (.tup [aInts [0], iv 0]) H) : FnC true Tryz.prog 46 H [(exR []).av, aTurns [⟨0, true⟩]] k kp :=
 f46_c zaQ hmain (zbq (by decide)) (by decide) (fun h => absurd (by decide +kernel) h) fun _ => by
  rw [show whichM (exR []) [⟨0, true⟩] = [0] by decide +kernel]; exact hk
theorem e4_which (hmain : H[0]? = some .main) (hk : k (.tup [.sl 0 [] .exact, iv 3]) H) : FnC true Tryz.prog 46 H [(exR []).av, aTurns [⟨3, false⟩]] k kp :=
 f46_c zaQ hmain (zbq (by decide)) (by decide) (fun _ => by rw [show openingE (exR []) (whichFl (exR []) [⟨3, false⟩]) = 3 by decide +kernel]; exact hk) fun h => absurd h (by decide +kernel)
theorem e2_cut (hmain : H[0]? = some .main) (hk : k (.tup [aInts [2, 0], iv 0]) H) : FnC true Tryz.prog 62 H [(exR []).av, aInts [0]] k kp :=
 f62_c zaQ hmain (zbq (by decide)) (by decide) (fun h => absurd (by decide +kernel) h) (fun _ h => absurd h (by decide +kernel)) fun _ xs h => by
  rw [show newCutM (exR []) [0] = some [2, 0] by decide +kernel] at h; cases h; exact hk
theorem e3_cut (hmain : H[0]? = some .main) (hk : k (.tup [.sl 0 [] .exact, iv 11]) H) : FnC true Tryz.prog 62 H [(exR []).av, aInts [0, 2]] k kp :=
 f62_c zaQ hmain (zbq (by decide)) (by decide) (fun h => absurd (by decide +kernel) h) (fun _ _ => hk) fun _ xs h => by
  rw [show newCutM (exR []) [0, 2] = none by decide +kernel] at h; cases h
theorem e4_cut (hmain : H[0]? = some .main) (hk : k (.tup [aInts [0, 0], iv 0]) H) : FnC true Tryz.prog 62 H [(exR []).av, aInts []] k kp :=
 f62_c zaQ hmain (zbq (by decide)) (by decide) (fun h => absurd (by decide +kernel) h) (fun _ h => absurd h (by decide +kernel)) fun _ xs h => by
  rw [show newCutM (exR []) [] = some [0, 0] by decide +kernel] at h; cases h; exact hk
theorem e5_cut (hmain : H[0]? = some .main) (hk : k (.tup [.sl 0 [] .exact, iv 4]) H) : FnC true Tryz.prog 62 H [(exR []).av, aInts [0, 0]] k kp :=
 f62_c zaQ hmain (zbq (by decide)) (by decide) (fun _ => by rw [show openE (exR []) (cutS (exR []) [0, 0] 0).2 = 4 by decide +kernel]; exact hk) (fun h => absurd h (by decide +kernel)) fun h => absurd h (by decide +kernel)
theorem zlG (hmain : H[0]? = some .main) (hk : k (.tup [.sl 0 [] .exact, iv 0, iv 11]) H) : FnC true Tryz.prog 76 H [(exR []).av] k kp :=
 f76_c zaQ hmain (zbq (by decide)) (fun h => absurd (by decide +kernel) h) (fun _ _ => hk) fun _ d m h => by
  rw [show masterTo (exR []) 3 = none by decide +kernel] at h; cases h
theorem zlF (hmain : H[0]? = some .main) (hk : k (.tup [aInts [2, 1], iv 0, iv 0]) H) : FnC true Tryz.prog 76 H [exTwo.av] k kp :=
 f76_c zaQ hmain zjS (fun h => absurd (by decide +kernel) h) (fun _ h => absurd h (by decide +kernel)) fun _ d m h => by
  rw [show masterTo exTwo 3 = some ([2, 1], 0) by decide +kernel] at h; cases h; exact hk
theorem e1_add (hmain : H[0]? = some .main) (hk : k (.tup [(exR [exLast]).av, iv 0]) H) : FnC true Tryz.prog 73 H [(exR []).av, exLast.av] k kp :=
 f73_c zaQ hmain (zbq (by decide)) (fun h => absurd (by decide +kernel) h) (fun _ _ h => absurd h (by decide +kernel)) fun _ _ => hk
theorem e2_add (hmain : H[0]? = some .main) (hk : k (.tup [noRing, iv 9]) H) : FnC true Tryz.prog 73 H [(exR []).av, exNever.av] k kp :=
 f73_c zaQ hmain (zbq (by decide)) (fun h => absurd (by decide +kernel) h) (fun _ _ _ => hk) fun _ h => absurd h (by decide +kernel)
theorem e3_add (hmain : H[0]? = some .main) (hk : k (.tup [noRing, iv 3]) H) : FnC true Tryz.prog 73 H [(exR []).av, (Try.mk 3 0 true).av] k kp :=
 f73_c zaQ hmain (zbq (by decide)) (fun _ => by rw [show openE (exR []) (addFl (exR []) ⟨3, 0, true⟩) = 3 by decide +kernel]; exact hk) (fun h => absurd h (by decide +kernel)) fun h => absurd h (by decide +kernel)
theorem f85_c {lv : Bool} (hk : k exTwo.av H) : FnC lv Tryz.prog 85 H [] k kp := by
 refine zak (rs := [.cell 0 26]) (nt := 8) F.f85 rfl rfl rfl (by simp) fun hH hA => ?_;simp only [argsT, Nat.reduceAdd];(repeat apply zaa);refine zl5 ?_;simp only [push_cast, seval];(repeat apply zaa);refine zl5 ?_;simp only [push_cast, seval];refine zl6 ((f80_c (ts := []) (by decide) ?_));(try simp only [push_cast, seval, Ring.av, Ring.l, exR]);(repeat apply zaa);refine zl5 ?_;simp only [push_cast, seval, aLocks, Bool.false_and, ite_self, zlD];(repeat apply zaa);refine zl5 ?_;simp only [push_cast, seval];(repeat apply zaa);refine zai ?_;simp only [push_cast, seval];exact endA (b := exTwo.av) hH (zhX (.cons (Wk.refl _) (.cons (Wk.refl _) (.cons (zaK _ _ _) (.cons (Wk.refl _) .nil))))) (by rw [zfC]; trivial) hk
set_option maxRecDepth 4000 in
theorem f80_o {lv : Bool} (hk : ∀ z, k (.agg [iv 2, .osl (H.length + 1) 0 3 3, aLocks (exR []).locks, .sl 0 [] .exact]) (H ++ [z, .cells ((exR []).keys.flatMap Key.l) 65])) : FnC lv Tryz.prog 80 H [.sl 0 [] .exact] k kp := by
 refine zak (rs := [.cell 2 26]) (nt := 22) F.f80 rfl rfl rfl (by simp) fun hH hA => ?_;simp only [argsT, Nat.reduceAdd];(repeat apply zaa);refine zl5 ?_;simp only [push_cast, seval];(repeat apply zaa);refine zjT (by kernel_rfl) ?_;refine ⟨rfl, AStep.sound ?_⟩;(try simp only [push_cast, seval, zr2, zes]);refine ⟨rfl, AStep.sound ?_⟩;(try simp only [push_cast, seval]);refine zl6 ((f149_c (xs := [3, 1]) ?_));(try simp only [push_cast, seval, Key.av, Key.l]);refine ⟨rfl, AStep.sound ?_⟩;(try simp only [push_cast, seval, zr2, zes]);refine ⟨rfl, AStep.sound ?_⟩;(try simp only [push_cast, seval]);refine zl6 ((f149_c (xs := [2, 2]) ?_));(try simp only [push_cast, seval, Key.av, Key.l]);refine ⟨rfl, AStep.sound ?_⟩;(try simp only [push_cast, seval, zr2, zes]);refine ⟨rfl, AStep.sound ?_⟩;(try simp only [push_cast, seval]);refine zl6 ((f149_c (xs := [1, 3]) ?_));(try simp only [push_cast, seval, Key.av, Key.l]);refine ⟨rfl, zb2 rfl F.SliceOf_22 (by decide) (avs := [(0, (Key.mk [3, 1] ⟨0, 1⟩).av), (1, (Key.mk [2, 2] ⟨0, 0⟩).av), (2, (Key.mk [1, 3] ⟨0, 2⟩).av)]) (l := (exR []).keys.flatMap Key.l) (by simp only [push_cast, seval, Key.av, Key.l]) rfl ?_⟩;generalize (exR []).keys.flatMap Key.l = kc at hk ⊢;refine ⟨rfl, AStep.sound ?_⟩;(try simp only [push_cast, seval, Band.av, Band.l]);refine zl6 ((f81_c ?_));(try simp only [push_cast, seval, Band.av, Band.l]);refine ⟨rfl, AStep.sound ?_⟩;(try simp only [push_cast, seval, Band.av, Band.l]);refine zl6 ((f81_c ?_));(try simp only [push_cast, seval, Band.av, Band.l]);refine ⟨rfl, AStep.sound ?_⟩;(try simp only [push_cast, seval, zb4, zeh]);refine ⟨rfl, AStep.sound ?_⟩;(try simp only [push_cast, seval, Band.av, Band.l]);refine zl6 ((f81_c ?_));(try simp only [push_cast, seval, Band.av, Band.l]);refine ⟨rfl, AStep.sound ?_⟩;(try simp only [push_cast, seval, Band.av, Band.l]);refine zl6 ((f81_c ?_));(try simp only [push_cast, seval, Band.av, Band.l]);refine ⟨rfl, AStep.sound ?_⟩;(try simp only [push_cast, seval, zb4, zeh]);refine ⟨rfl, AStep.sound ?_⟩;(try simp only [push_cast, seval, Band.av, Band.l]);refine zl6 ((f81_c ?_));(try simp only [push_cast, seval, Band.av, Band.l]);refine ⟨rfl, AStep.sound ?_⟩;(try simp only [push_cast, seval, Band.av, Band.l]);refine zl6 ((f81_c ?_));(try simp only [push_cast, seval, Band.av, Band.l]);refine ⟨rfl, AStep.sound ?_⟩;(try simp only [push_cast, seval, zb4, zeh]);refine ⟨rfl, AStep.sound ?_⟩;(try simp only [push_cast, seval, zs3, zd5]);refine ⟨rfl, AStep.sound ?_⟩;(try simp only [push_cast, seval]);refine ⟨rfl, AStep.sound ?_⟩;(try simp only [push_cast, seval]);refine ⟨rfl, AStep.sound ?_⟩;(try simp only [push_cast, seval, SOps]);(repeat apply zaa);refine zai ?_;simp only [push_cast, seval];exact ⟨_, zhX (.cons (Wk.refl _) (.cons (Wk.refl _) (.cons (wk_sl (.cons (zaK _ _ _) (.cons (zaK _ _ _) (.cons (zaK _ _ _) .nil)))) (.cons (Wk.refl _) .nil)))), .inl (hk _)⟩
end
end Go.Gg
