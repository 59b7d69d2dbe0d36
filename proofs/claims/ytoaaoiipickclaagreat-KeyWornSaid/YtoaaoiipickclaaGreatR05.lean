/- A part of the proof. -/
import Derived.Test.YtoaaoiipickclaaGreatR04
import Derived.Conc.LeavingOf
import Derived.Conc.Holds
import Derived.ProofKit
import Derived.Test.YtoaaoiipickclaaGreatChecked
import Derived.Test.YtoaaoiipickclaaGreatRows
set_option linter.all false
namespace Go.Gg
open Go.Conc Go.Proofs
section
variable {Gf : TinS → List AObj} {t N : Nat} (h : TinAt Gf t N)
include h
theorem TinAt.hi (i : Nat) (τ : TinS) (L : List AObj) : (Gf τ ++ L)[N + i]? = L[i]? := by have := zco (Gf τ) L i; rwa [h.len] at this
theorem TinAt.ti (i : Nat) (τ : TinS) (L : List AObj) (x : AObj) : (Gf τ ++ L).set (N + i) x = Gf τ ++ L.set i x := by have := zbR (Gf τ) L i x; rwa [h.len] at this
theorem TinAt.h4 : type_of% (h.hi 4) := h.hi 4
theorem TinAt.h5 : type_of% (h.hi 5) := h.hi 5
theorem TinAt.h6 : type_of% (h.hi 6) := h.hi 6
theorem TinAt.h7 : type_of% (h.hi 7) := h.hi 7
theorem TinAt.h8 : type_of% (h.hi 8) := h.hi 8
theorem TinAt.t4 : type_of% (h.ti 4) := h.ti 4
theorem TinAt.t5 : type_of% (h.ti 5) := h.ti 5
theorem TinAt.t6 : type_of% (h.ti 6) := h.ti 6
theorem TinAt.t7 : type_of% (h.ti 7) := h.ti 7
theorem TinAt.t8 : type_of% (h.ti 8) := h.ti 8
end
theorem TinAt.am {Gf : TinS → List AObj} {t N : Nat} (h : TinAt Gf t N) : (type_of% h.len) ∧ (type_of% h.g0) ∧ (type_of% h.g1) ∧ (type_of% h.h2) ∧ (type_of% h.h3) ∧ (type_of% h.h4) ∧ (type_of% h.h5) ∧ (type_of% h.h6) ∧ (type_of% h.h7) ∧ (type_of% h.h8) ∧ (type_of% h.s0) ∧ (type_of% h.s1) ∧ (type_of% h.t2) ∧ (type_of% h.t3) ∧ (type_of% h.t4) ∧ (type_of% h.t5) ∧ (type_of% h.t6) ∧ (type_of% h.t7) ∧ (type_of% h.t8) := ⟨h.len, h.g0, h.g1, h.h2, h.h3, h.h4, h.h5, h.h6, h.h7, h.h8, h.s0, h.s1, h.t2, h.t3, h.t4, h.t5, h.t6, h.t7, h.t8⟩
theorem zho (bs : List Band) : (aBands bs).parts = some [aBands bs] := rfl
structure KeysP (c : Int) (ks : List Key) (ws : List Int) : Prop where
 len : ws.length = ks.length
 key : ∀ y ∈ ks, (y.cuts.length : Int) = c ∧ (∀ n ∈ y.cuts, 0 ≤ n ∧ n ≤ 3) ∧ y.wear.Ok 2
 worn : ∀ (i : Nat) y w, ks[i]? = some y → ws[i]? = some w → y.wear.min ≤ w ∧ w ≤ y.wear.max
theorem KeysP.snoc {c : Int} {ks : List Key} {ws : List Int} (h : KeysP c ks ws) {y : Key} {w : Int} (hc : (y.cuts.length : Int) = c) (hn : ∀ n ∈ y.cuts, 0 ≤ n ∧ n ≤ 3) (hb : y.wear.Ok 2) (hw : y.wear.min ≤ w ∧ w ≤ y.wear.max) : KeysP c (ks ++ [y]) (ws ++ [w]) where
 len := by simp [h.len]
 key := fun z hz => by
  rcases List.mem_append.1 hz with hz | hz
  ·exact h.key z hz
  ·rw [List.mem_singleton.1 hz]; exact ⟨hc, hn, hb⟩
 worn := fun i z v h1 h2 => by
  by_cases hi : i < ks.length
  ·rw [List.getElem?_append_left hi] at h1;rw [List.getElem?_append_left (by rw [h.len]; exact hi)] at h2;exact h.worn i z v h1 h2
  ·have hi2 : i = ks.length := (by have := get_lt h1; simp at this; omega);subst hi2;rw [List.getElem?_append_right (Nat.le_refl _)] at h1;rw [← h.len, List.getElem?_append_right (Nat.le_refl _)] at h2;simp at h1 h2;subst h1 h2;exact hw
def opensW (ks : List Key) (ws : List Int) (ls : List (List Band)) (k l : Int) : Bool := fitsM (wornM (ws.getD k.toNat 0) ((ks[k.toNat]?).map (·.cuts) |>.getD [])) (ls.getD l.toNat [])
structure RingP (K L T : Nat) (wr : Bool) (x : Ring) (ws : List Int) : Prop where
 cuts : 1 ≤ x.cuts ∧ x.cuts ≤ 3
 keys : 1 ≤ x.keys.length ∧ x.keys.length ≤ K
 kp : KeysP x.cuts x.keys ws
 locks : x.locks.length ≤ L
 lock : ∀ l ∈ x.locks, (l.length : Int) = x.cuts ∧ ∀ b ∈ l, b.Ok 3
 tries : x.tries.length ≤ T
 tried : ∀ t ∈ x.tries, (0 ≤ t.key ∧ t.key < x.keys.length) ∧ 0 ≤ t.lock ∧ t.lock < x.locks.length
 told : wr = false → ∀ t ∈ x.tries, t.opens = opensW x.keys ws x.locks t.key t.lock
theorem keys_len (ks : List Key) : (ks.flatMap Key.l).length = ks.length * 3 := by
 induction ks with
 | nil => rfl
 | cons b bs ih => rw [List.flatMap_cons, List.length_append, ih]; simp [Key.l]; omega
theorem zf5 (ks : List Try) : (ks.flatMap Try.l).length = ks.length * 3 := by
 induction ks with
 | nil => rfl
 | cons b bs ih => rw [List.flatMap_cons, List.length_append, ih]; simp [Try.l]; omega
theorem lt_opnk (n m k : Nat) (bs : List Key) : Lt n (.sl m (bs.flatMap Key.l) (.opn k)) = (k < n) := by
 rw [zdq, eq_iff_iff];refine ⟨fun h => h.1, fun h => ⟨h, fun a ha => ?_⟩⟩;have := zc5 n bs;rw [aKeys, za3] at this;exact this.mpr trivial a ha
theorem lt_opnt (n m k : Nat) (bs : List Try) : Lt n (.sl m (bs.flatMap Try.l) (.opn k)) = (k < n) := by
 rw [zdq, eq_iff_iff];refine ⟨fun h => h.1, fun h => ⟨h, fun a ha => ?_⟩⟩;have := zch n bs;rw [aTries, za3] at this;exact this.mpr trivial a ha
theorem lt_opnl (n m k : Nat) (bs : List (List Band)) : Lt n (.sl m (bs.map aBands) (.opn k)) = (k < n) := by
 rw [zdq, eq_iff_iff];refine ⟨fun h => h.1, fun h => ⟨h, fun a ha => ?_⟩⟩;have := zci n bs;rw [aLocks, za3] at this;exact this.mpr trivial a ha
theorem lt_opni (n m k : Nat) (bs : List Int) : Lt n (.sl m (bs.map iv) (.opn k)) = (k < n) := by
 rw [zdq, eq_iff_iff];refine ⟨fun h => h.1, fun h => ⟨h, fun a ha => ?_⟩⟩;have := zbi n bs;rw [aInts, za3] at this;exact this.mpr trivial a ha
def roL (N : Nat) (c : Int) (ks : List Key) (ls : List (List Band)) (ts : List Try) : List AObj :=
 [.cells [iv 0, .sl 0 [] .exact, .sl 0 [] .exact, .sl 0 [] .exact] 26, .cells [iv c, .sl ks.length (ks.flatMap Key.l) (.opn (N + 2)), .sl ls.length (ls.map aBands) (.opn (N + 3)), .sl ts.length (ts.flatMap Try.l) (.opn (N + 4))] 26, .tail ks.length 3 65, .tail ls.length 1 29, .tail ts.length 3 28, .tail ks.length 1 3]
def roE (N : Nat) (c : Int) (ks : List Key) (ls : List (List Band)) (ts : List Try) : List AObj := .cells [iv c, .sl ks.length (ks.flatMap Key.l) (.opn (N + 2)), .sl ls.length (ls.map aBands) (.opn (N + 3)), .sl ts.length (ts.flatMap Try.l) (.opn (N + 4))] 26 :: (roL N c ks ls ts).tail
def roK (N : Nat) (c : Int) (ks : List Key) (cs : List Int) : List AObj := roL N c ks [] [] ++ [.cells [.sl cs.length (cs.map iv) (.opn (N + 7)), iv 0, iv 0] 65, .tail cs.length 1 3]
theorem roK_snoc (N : Nat) (c : Int) (ks : List Key) (cs : List Int) (v : Int) : roK N c ks (cs ++ [v]) = roL N c ks [] [] ++ [.cells [.sl (cs.length + 1) (cs.map iv ++ [iv v]) (.opn (N + 7)), iv 0, iv 0] 65, .tail (cs.length + 1) 1 3] := by simp [roK]
def roM (N : Nat) (c : Int) (nk : Nat) (kl : List AV) (n1 n2 : Nat) (cs : List Int) (bd : Band) : List AObj := [.cells [iv 0, .sl 0 [] .exact, .sl 0 [] .exact, .sl 0 [] .exact] 26, .cells [iv c, .sl nk kl (.opn (N + 2)), .sl 0 [] (.opn (N + 3)), .sl 0 [] (.opn (N + 4))] 26, .tail n1 3 65, .tail 0 1 29, .tail 0 3 28, .tail n2 1 3, .cells [.sl cs.length (cs.map iv) .shut, iv bd.min, iv bd.max] 65, .tail cs.length 1 3]
def roP (N : Nat) (c : Int) (ks : List Key) (nl : Nat) (ll : List AV) (n1 : Nat) : List AObj := [.cells [iv 0, .sl 0 [] .exact, .sl 0 [] .exact, .sl 0 [] .exact] 26, .cells [iv c, .sl ks.length (ks.flatMap Key.l) (.opn (N + 2)), .sl nl ll (.opn (N + 3)), .sl 0 [] (.opn (N + 4))] 26, .tail ks.length 3 65, .tail n1 1 29, .tail 0 3 28, .tail ks.length 1 3]
theorem zce {base Vi Vn T : List (Nat × AV)} {H H' : List AObj} (G : List AObj) (hk : Keeps T (Vi ++ base) Vn) (hv : ∀ p ∈ Vn, ∃ b, look T p.1 = some b ∧ Wk b p.2) (hok : HOk H) (hlt : ∀ p ∈ Vn, Lt H.length p.2) (hG : H' = H ++ G) : RoundEnd base Vi Vn H ⟨T, H'⟩ := ⟨hk, hv, G, hG, .inr ⟨hok, hlt⟩⟩
theorem zh9 {Gf : TinS → List AObj} {t N : Nat} (h : TinAt Gf t N) {τ : TinS} (hH : HOk (Gf τ)) (τ' : TinS) (c : Int) (ks : List Key) (ls : List (List Band)) (ts : List Try) : HOk (Gf τ' ++ roL N c ks ls ts) := fun z hz => by
 rcases List.mem_append.1 hz with hz | hz
 ·exact (h.hok hH τ' z hz).mono (by simp)
 ·simp only [roL, List.mem_cons, List.not_mem_nil, or_false] at hz;have hl : (Gf τ' ++ roL N c ks ls ts).length = N + 6 := by simp [h.len, roL]
  rw [hl];rcases hz with rfl | rfl | rfl | rfl | rfl | rfl
  ·intro a ha; simp [iv] at ha; rcases ha with rfl | rfl <;> simp [zap, zbh]
  ·intro a ha;simp only [List.mem_cons, List.not_mem_nil, or_false] at ha;rcases ha with rfl | rfl | rfl | rfl
   ·exact .val _
   ·rw [lt_opnk]; omega
   ·rw [lt_opnl]; omega
   ·rw [lt_opnt]; omega
  all_goals trivial
section
variable {lv : Bool} {k kp : AV → List AObj → Prop} {Gf : TinS → List AObj} {t N : Nat} {τ : TinS} {b : Int}
set_option maxHeartbeats 2000000 in
theorem f49_g {K L T : Nat} {wr : Bool} (hT : TinAt Gf t N) (hτ : τ.Ok b) (hb : b < 2 ^ 30) (hK : 1 ≤ K ∧ K ≤ 4) (hL : L ≤ 4) (hTn : T ≤ 6)
  (hk : ∀ x ws τ', RingP K L T wr x ws → τ'.Ok (b + 1000) → HOk (Gf τ') → ws.length = x.keys.length → EndOf N (Gf τ' ++ roE N x.cuts x.keys x.locks x.tries) (.tup [.agg [iv x.cuts, .sl x.keys.length (x.keys.flatMap Key.l) (.opn (N + 2)), .sl x.locks.length (x.locks.map aBands) (.opn (N + 3)), .sl x.tries.length (x.tries.flatMap Try.l) (.opn (N + 4))], .sl x.keys.length (ws.map iv) (.opn (N + 5))]) k) : FnC lv Tryz.prog 49 (Gf τ) [.op t 0, iv K, iv L, iv T, bv wr] k kp := by
 refine zak (rs := [.cell 10 26, .tmp 11]) (nt := 162) F.f49 rfl rfl rfl (by simp) fun hH hA => ?_;simp only [argsT, Nat.reduceAdd];(repeat apply zaa);refine zl5 ?_;simp only [push_cast, seval];(repeat apply zaa);refine zl5 ?_;simp only [push_cast, seval, hT.am];refine zl6 ((f125_c (hT.more _) hτ (by omega) (by omega) (by omega) ?_));try simp only [push_cast, seval, hT.am]
 (repeat apply zaa); refine zdw (id := N + 1) (j := 1) (sz := 3) (el' := 65) (by simp only [push_cast, seval, hT.am] <;> rfl) rfl ?_
 try simp only [push_cast, seval, hT.am]
 (repeat apply zaa); refine zdw (id := N + 1) (j := 2) (sz := 1) (el' := 29) (by simp only [push_cast, seval, hT.am] <;> rfl) rfl ?_
 try simp only [push_cast, seval, hT.am]
 (repeat apply zaa); refine zdw (id := N + 1) (j := 3) (sz := 3) (el' := 28) (by simp only [push_cast, seval, hT.am] <;> rfl) rfl ?_
 (try simp only [push_cast, seval, hT.am]);(repeat apply zaa);refine zl5 ?_;simp only [push_cast, seval]
 (repeat apply zaa); refine zbV (t := 13) (sz := 1) (el := 3) (by simp only [push_cast, seval] <;> rfl) ?_
 (try simp only [push_cast, seval, hT.am]);have hc := za1 τ (show (1 : Int) ≤ 3 by decide);generalize hcd : withinT τ 1 3 = c at hc ⊢;(repeat apply zaa);refine zl5 ?_;simp only [push_cast, seval, hT.am];refine zl6 ((f125_c (hT.more _) hτ.tick (by omega) (by omega) (by omega) ?_));(try simp only [push_cast, seval, hT.am]);have ht := za1 (tick τ) (show (1 : Int) ≤ K by omega);generalize withinT (tick τ) 1 K = tot at ht;obtain ⟨tot, rfl⟩ : ∃ n : Nat, tot = n := ⟨tot.toNat, by omega⟩;(repeat apply zaa);refine zag ?_;refine za9 (measure fun m : List Key × List Int × TinS => tot - m.1.length).wf (fun m => [(14, iv ((tot : Int) - m.1.length)), (13, .sl m.1.length (m.2.1.map iv) (.opn (N + 5)))]) (fun m => Gf m.2.2 ++ roL N c m.1 [] []) (fun m => KeysP c m.1 m.2.1 ∧ m.1.length ≤ tot ∧ m.2.2.Ok (b + 2 + 10 * m.1.length)) ([], [], tick (tick τ)) (fun _ _ => rfl) (by simp only [push_cast, seval, List.forall_mem_cons, List.not_mem_nil, false_imp_iff, implies_true, List.forall_mem_nil]; simp [zaf, Wk.refl]) rfl (fun _ _ => by simp [hT.len, roL]) ⟨⟨rfl, by simp, by simp⟩, by simp, hτ.tick.tick.mono (by simp only [List.length_nil]; omega)⟩ (fun hHs hLt m hok R hR => ?_);clear hHs hLt;obtain ⟨ks, ws, τ'⟩ := m;obtain ⟨hkp, hkt, hto⟩ := hok;simp only at hkp hkt hto;(repeat apply zaa);refine zl5 ?_;simp only [push_cast, seval, roL, List.flatMap_nil, hT.am];(repeat apply zaa);refine zae ?_;simp only [push_cast, seval];refine ⟨fun h => ?_, fun h => ?_⟩
 ·have hlt : ks.length < tot := by omega
  (repeat apply zaa);refine zah ?_;simp only [push_cast, seval];(repeat apply zaa);refine zag ?_;(repeat apply zaa);refine zl5 ?_;simp only [push_cast, seval, hT.am]
  (repeat apply zaa); refine zdw (id := N + 6) (j := 0) (sz := 1) (el' := 3) (by simp only [push_cast, seval, hT.am] <;> rfl) rfl ?_
  (try simp only [push_cast, seval, hT.am]);(repeat apply zaa);refine zl5 ?_;simp only [push_cast, seval, hT.am];(repeat apply zaa);refine zag ?_;refine za9 (measure fun m : List Int × TinS => c.toNat - m.1.length).wf (fun m => [(16, iv m.1.length)]) (fun m => Gf m.2 ++ roK N c ks m.1) (fun m => m.1.length ≤ c.toNat ∧ (∀ n ∈ m.1, 0 ≤ n ∧ n ≤ 3) ∧ m.2.Ok (b + 2 + 10 * ks.length + m.1.length)) ([], τ') (fun _ _ => rfl) (by simp only [push_cast, seval, List.forall_mem_cons, List.not_mem_nil, false_imp_iff, implies_true, List.forall_mem_nil]; simp [zaf, Wk.refl]) rfl (fun _ _ => by simp [hT.len, roK, roL]) ⟨by simp, by simp, hto.mono (by simp)⟩ (fun hHs2 hLt2 m2 hok2 R2 hR2 => ?_);clear hHs2 hLt2;obtain ⟨cs, τ''⟩ := m2;obtain ⟨hcl, hcb, hto2⟩ := hok2;simp only at hcl hcb hto2;(repeat apply zaa);refine zl5 ?_;simp only [push_cast, seval, roK, roL, List.flatMap_nil, hT.am];(repeat apply zaa);refine zae ?_;simp only [push_cast, seval];refine ⟨fun h2 => ?_, fun h2 => ?_⟩
  ·have hw2 : IntKind.i64.wrap ((cs.length : Int) + 1) = cs.length + 1 := zau _ (by omega);have hv := zaX τ'' 3;(repeat apply zaa);refine zah ?_;simp only [push_cast, seval];(repeat apply zaa);refine zag ?_;(repeat apply zaa);refine zbE [3, 5, 7] [0, 1, 2, 3, 4, 5, 6, 7] [⟨0, false, [], [([3], [3])]⟩, ⟨1, false, [], [([3], [3])]⟩, ⟨2, false, [], []⟩, ⟨3, true, [3], []⟩, ⟨4, false, [3], []⟩, ⟨5, true, [3, 5], []⟩, ⟨6, false, [3, 5], []⟩, ⟨7, true, [3, 5, 7], []⟩] (fun D => bif isDone 7 D then Gf (tick τ'') ++ (roL N c ks [] [] ++ [.cells [.sl (cs.length + 1) (cs.map iv ++ [iv (uptoT τ'' 3)]) (.opn (N + 7)), iv 0, iv 0] 65, .tail (cs.length + 1) 1 3]) else bif isDone 5 D then Gf (tick τ'') ++ (roL N c ks [] [] ++ [.cells [.sl cs.length (cs.map iv) (.opn (N + 7)), iv 0, iv 0] 65, .tail (cs.length + 1) 1 3]) else bif isDone 3 D then Gf (tick τ'') ++ (roL N c ks [] [] ++ [.cells [.sl cs.length (cs.map iv) (.opn (N + 7)), iv 0, iv 0] 65, .tail cs.length 1 3]) else Gf τ'' ++ (roL N c ks [] [] ++ [.cells [.sl cs.length (cs.map iv) (.opn (N + 7)), iv 0, iv 0] 65, .tail cs.length 1 3])) F.mixed (by kernel_rfl) (by kernel_rfl) (by first | rfl | simp only [push_cast, seval]) ?_;simp only [push_cast, seval, z1, zhq, List.length_map, roL, List.flatMap_nil, hT.am];refine eCall _ _ (zad (by kernel_rfl) (f29_c (hT.more _) hto2 (by omega) (by omega) ⟨rfl, rfl⟩)) ?_;(try simp only [push_cast, seval, z1, zhq, List.length_map, roL, List.flatMap_nil, hT.am]);refine ⟨by omega, ?_⟩;(repeat apply zaa);refine zl5 ?_;simp only [push_cast, seval, hw2];refine hR2 _ ⟨(cs ++ [uptoT τ'' 3], tick τ''), by show c.toNat - (cs ++ [_]).length < c.toNat - cs.length; simp; omega, ⟨by simp; omega, fun n hn => ?_, hto2.tick.mono (by simp; omega)⟩, ?_⟩
   ·rcases List.mem_append.1 hn with hn | hn
    ·exact hcb n hn
    ·rw [List.mem_singleton.1 hn]; exact ⟨hv.1, hv.2.elim id fun h => by rw [h]; decide⟩
   ·simp only [roK_snoc, List.length_append];exact (zax (zam rfl rfl) (by simp only [push_cast, seval]; simp [zaf, Wk.refl]))
  ·have hcc : (cs.length : Int) = c := (by omega);(repeat apply zaa);refine zaq ?_;simp only [push_cast, seval]
   (repeat apply zaa); refine awp_wkO (id := N + 6) (j := 0) (by simp only [push_cast, seval, hT.am] <;> rfl) rfl (zaK _ _ _) ?_
   simp only [push_cast, seval, hT.am];(repeat apply zaa);refine zl5 ?_;simp only [push_cast, seval, hT.am];refine zl6 ((f126_c (hT.more _) hto2 (by omega) (by omega) (by omega) ?_));(try simp only [push_cast, seval, Band.av, Band.l, hT.am]);have hbd := zir τ'' (show (0 : Int) ≤ 2 by decide);have hto3 := hto2.tick.tick;generalize bandT τ'' 0 2 = bd at hbd ⊢;generalize tick (tick τ'') = τ3 at hto3 ⊢;obtain ⟨hbd0, hbd1, hbd2⟩ := hbd;have hww := za1 τ3 hbd1;have hkl := keys_len ks;have hwl := hkp.len;(repeat apply zaa);refine zbE [4, 13, 15, 17] [0, 1, 2, 3, 4, 5, 6, 7, 8, 9, 10, 11, 12, 13, 14, 15, 16, 17, 18] [⟨0, false, [], []⟩, ⟨1, false, [], []⟩, ⟨2, false, [], []⟩, ⟨3, false, [], []⟩, ⟨4, true, [4], []⟩, ⟨5, false, [4], [([], []), ([4, 13], [4, 13])]⟩, ⟨6, false, [4], [([], [])]⟩, ⟨7, false, [4], [([], [])]⟩, ⟨8, false, [4], [([], [])]⟩, ⟨9, false, [4], [([], [])]⟩, ⟨10, false, [4], [([], [])]⟩, ⟨11, false, [4], [([], [])]⟩, ⟨12, false, [4], [([], [])]⟩, ⟨13, true, [4, 13], []⟩, ⟨14, false, [4, 13], []⟩, ⟨15, true, [4, 13, 15], []⟩, ⟨16, false, [4, 13, 15], [([4], [4]), ([4, 13], [4, 13])]⟩, ⟨17, true, [4, 13, 15, 17], []⟩, ⟨18, false, [4, 13, 15, 17], []⟩] (fun D => bif isDone 17 D then Gf (tick τ3) ++ roM N c (ks.length + 1) (ks.flatMap Key.l ++ [.sl cs.length (cs.map iv) .shut, iv bd.min, iv bd.max]) (ks.length + 1) (ks.length + 1) cs bd else bif isDone 15 D then Gf (tick τ3) ++ roM N c ks.length (ks.flatMap Key.l) (ks.length + 1) (ks.length + 1) cs bd else bif isDone 13 D then Gf (tick τ3) ++ roM N c ks.length (ks.flatMap Key.l) (ks.length + 1) ks.length cs bd else bif isDone 4 D then Gf τ3 ++ roM N c ks.length (ks.flatMap Key.l) (ks.length + 1) ks.length cs bd else Gf τ3 ++ roM N c ks.length (ks.flatMap Key.l) ks.length ks.length cs bd) F.mixed (by kernel_rfl) (by kernel_rfl) (by first | rfl | simp only [push_cast, seval]) ?_;simp only [push_cast, seval, z1, zk3, zhq, zd5, hkl, hwl, List.length_map, roM, hT.am];refine ⟨by omega, ?_⟩;refine eCall _ _ (zad (by kernel_rfl) (f125_c (hT.more _) hto3 (by omega) (by omega) (by omega) ⟨rfl, rfl⟩)) ?_;(try simp only [push_cast, seval, z1, zk3, zhq, zd5, hkl, hwl, List.length_map, roM, hT.am]);have hw3 : IntKind.i64.wrap ((tot : Int) - ks.length - 1) = tot - (ks.length + 1) := (by rw [zau _ (by omega)]; omega);refine ⟨by omega, ?_⟩;(repeat apply zaa);refine zl5 ?_;simp only [push_cast, seval, hw3];refine hR _ ⟨(ks ++ [⟨cs, bd⟩], ws ++ [withinT τ3 bd.min bd.max], tick τ3), by show tot - (ks ++ [_]).length < tot - ks.length; simp; omega, ⟨hkp.snoc hcc hcb ⟨hbd0, hbd2, hbd1⟩ hww, by simp; omega, hto3.tick.mono (by simp; omega)⟩, ?_⟩;refine zce [.cells [.sl cs.length (cs.map iv) .shut, iv bd.min, iv bd.max] 65, .tail cs.length 1 3] (zam rfl rfl) (by simp only [push_cast, seval, List.length_append, List.map_append]; simp [zaf, Wk.refl]) (zh9 hT hH _ _ _ _ _) (by simp only [List.forall_mem_cons, zap, lt_opni, iv]; simp [hT.len, roL]) (by simp [roL, Key.l, aInts])
 ·have hkn : 1 ≤ ks.length ∧ ks.length ≤ K := by omega
  have hwl := hkp.len;(repeat apply zaa);refine zaq ?_;simp only [push_cast, seval];(repeat apply zaa);refine zl5 ?_;simp only [push_cast, seval, hT.am];refine zl6 ((f29_c (hT.more _) hto (by omega) (by omega) ?_));(try simp only [push_cast, seval, hT.am]);have htl := zaX τ' L;generalize uptoT τ' L = totl at htl ⊢;obtain ⟨totl, rfl⟩ : ∃ n : Nat, totl = n := ⟨totl.toNat, by omega⟩;have htl2 : totl ≤ L := by omega
  clear htl;have hto1 := hto.tick.mono (b' := b + 100) (by omega);generalize tick τ' = τ4 at hto1 ⊢;(repeat apply zaa);refine zag ?_;refine za9 (measure fun m : List (List Band) × TinS => totl - m.1.length).wf (fun m => [(17, iv ((totl : Int) - m.1.length))]) (fun m => Gf m.2 ++ roL N c ks m.1 []) (fun m => (∀ l ∈ m.1, (l.length : Int) = c ∧ ∀ b ∈ l, b.Ok 3) ∧ m.1.length ≤ totl ∧ m.2.Ok (b + 100 + 20 * m.1.length)) ([], τ4) (fun _ _ => rfl) (by simp only [push_cast, seval, List.forall_mem_cons, List.not_mem_nil, false_imp_iff, implies_true, List.forall_mem_nil]; simp [zaf, Wk.refl]) (by simp [roL]) (fun _ _ => by simp [hT.len, roL]) ⟨by simp, by simp, hto1.mono (by simp)⟩ (fun hHs hLt m hok R2 hR2 => ?_);clear hHs hLt hR hto1 hto;obtain ⟨ls, τ5⟩ := m;obtain ⟨hlk, hlt, hto⟩ := hok;simp only at hlk hlt hto;(repeat apply zaa);refine zl5 ?_;simp only [push_cast, seval, roL, List.flatMap_nil, hT.am];(repeat apply zaa);refine zae ?_;simp only [push_cast, seval];refine ⟨fun h2 => ?_, fun h2 => ?_⟩
  ·have hllt : ls.length < totl := (by omega);(repeat apply zaa);refine zah ?_;simp only [push_cast, seval];(repeat apply zaa);refine zag ?_;have hw4 : IntKind.i64.wrap ((ks.length : Int) - 1) = ks.length - 1 := zau _ (by omega);(repeat apply zaa);refine zl5 ?_;simp only [push_cast, seval, hw4, hT.am];refine zl6 ((f29_c (hT.more _) hto (by omega) (by omega) ?_));(try simp only [push_cast, seval, hT.am]);have hkr := zaX τ5 ((ks.length : Int) - 1);generalize uptoT τ5 ((ks.length : Int) - 1) = kx at hkr ⊢;obtain ⟨kn, rfl⟩ : ∃ n : Nat, kx = n := ⟨kx.toNat, by omega⟩;have hknl : kn < ks.length := (by omega);obtain ⟨y, hy⟩ := zaE hknl;obtain ⟨w, hw⟩ := zaE (xs := ws) (i := kn) (by omega);obtain ⟨hyc, hyb, hyw⟩ := hkp.key y (zas hy);have hwb := hkp.worn kn y w hy hw;have hw0 := hyw.min;have hw2' := hyw.max;have hto6 := hto.tick;generalize tick τ5 = τ6 at hto6 ⊢;have hds : ∀ d ∈ wornM w y.cuts, 0 ≤ d ∧ d ≤ 3 := fun d hd => by
    unfold wornM at hd;obtain ⟨x, hx, rfl⟩ := List.mem_map.1 hd;have := hyb x hx;omega
   have hdl : (wornM w y.cuts).length = y.cuts.length := (by simp [wornM]);obtain ⟨hf1, hf2, hf3⟩ := zcw (sm := !rarelyT τ6 3) hto6.tick hds _ (Nat.le_refl _);have hfe : lockTo (!rarelyT τ6 3) (tick τ6) (wornM w y.cuts) (wornM w y.cuts).length = lockT (!rarelyT τ6 3) (tick τ6) (wornM w y.cuts) := (by unfold lockTo lockT; rw [List.take_length]);rw [hfe] at hf1 hf2 hf3;have hml : (ls.map aBands).length = ls.length := List.length_map ..;have hzs1 : zeroRow (Value.slice none 0 0) 1 = [.sl 0 [] .exact] := rfl;(repeat apply zaa);refine zbE [15, 17, 19, 21] [0, 1, 2, 3, 4, 5, 6, 7, 8, 9, 10, 11, 12, 13, 14, 15, 16, 17, 18, 19, 20, 21] [⟨0, false, [], [([15], [15]), ([15, 17], [15, 17])]⟩, ⟨1, false, [], [([15], [15]), ([15, 17], [15, 17])]⟩, ⟨2, false, [], [([15], [15])]⟩, ⟨3, false, [], []⟩, ⟨4, false, [], []⟩, ⟨5, false, [], []⟩, ⟨6, false, [], []⟩, ⟨7, false, [], []⟩, ⟨8, false, [], []⟩, ⟨9, false, [], []⟩, ⟨10, false, [], []⟩, ⟨11, false, [], []⟩, ⟨12, false, [], []⟩, ⟨13, false, [], []⟩, ⟨14, false, [], []⟩, ⟨15, true, [15], []⟩, ⟨16, false, [15], []⟩, ⟨17, true, [15, 17], []⟩, ⟨18, false, [15, 17], []⟩, ⟨19, true, [15, 17, 19], []⟩, ⟨20, false, [15, 17, 19], []⟩, ⟨21, true, [15, 17, 19, 21], []⟩] (fun D => bif isDone 21 D then Gf (lockT (!rarelyT τ6 3) (tick τ6) (wornM w y.cuts)).2 ++ roP N c ks (ls.length + 1) (ls.map aBands ++ [aBands (lockT (!rarelyT τ6 3) (tick τ6) (wornM w y.cuts)).1]) (ls.length + 1) else bif isDone 19 D then Gf (lockT (!rarelyT τ6 3) (tick τ6) (wornM w y.cuts)).2 ++ roP N c ks ls.length (ls.map aBands) (ls.length + 1) else bif isDone 17 D then Gf (lockT (!rarelyT τ6 3) (tick τ6) (wornM w y.cuts)).2 ++ roP N c ks ls.length (ls.map aBands) ls.length else bif isDone 15 D then Gf (tick τ6) ++ roP N c ks ls.length (ls.map aBands) ls.length else Gf τ6 ++ roP N c ks ls.length (ls.map aBands) ls.length) F.mixed (by kernel_rfl) (by kernel_rfl) (by first | rfl | simp only [push_cast, seval]) ?_;simp only [push_cast, seval, zc2 hy, zaz hknl, za2 hw, zaz (get_lt hw), hwl, hml, hzs1, zhq, roP, hT.am];refine qCall _ (zad (by kernel_rfl) (f78_c hyb ⟨by omega, by omega⟩ (by omega) ⟨rfl, rfl⟩)) ?_;refine eCall _ _ (zad (by kernel_rfl) (f44_c (hT.more _) hto6 (by omega) (by omega) ⟨rfl, rfl⟩)) ?_;(try simp only [push_cast, seval, hT.am]);refine eCall _ _ (zad (by kernel_rfl) (f127_c (hT.more _) hto6.tick (by omega) hds (by omega) ⟨rfl, rfl⟩)) ?_;(try simp only [push_cast, seval, hwl, hml, hzs1, zhq, roP, hT.am, zfd, zho]);generalize lockT (!rarelyT τ6 3) (tick τ6) (wornM w y.cuts) = q at hf1 hf2 hf3 ⊢;obtain ⟨lk, τ7⟩ := q;simp only at hf1 hf2 hf3;have hw5 : IntKind.i64.wrap ((totl : Int) - ls.length - 1) = totl - (ls.length + 1) := (by rw [zau _ (by omega)]; omega);refine ⟨by omega, ?_⟩;(repeat apply zaa);refine zl5 ?_;simp only [push_cast, seval, hw5];refine hR2 _ ⟨(ls ++ [lk], τ7), by show totl - (ls ++ [_]).length < totl - ls.length; simp; omega, ⟨fun l hl => ?_, by simp; omega, hf2.mono (by simp; omega)⟩, ?_⟩
   ·rcases List.mem_append.1 hl with hl | hl
    ·exact hlk l hl
    ·rw [List.mem_singleton.1 hl]; exact ⟨by omega, hf3⟩
   ·have e : roL N c ks (ls ++ [lk]) [] = roP N c ks (ls.length + 1) (ls.map aBands ++ [aBands lk]) (ls.length + 1) := (by simp [roL, roP]);rw [e];simp only [roP];refine zax (zam rfl rfl) (by simp only [push_cast, seval, List.length_append]; simp [zaf, Wk.refl])
  ·have hll : ls.length ≤ 4 := (by omega);(repeat apply zaa);refine zaq ?_;simp only [push_cast, seval];(repeat apply zaa);refine zl5 ?_;simp only [push_cast, seval, hT.am];refine zl6 ((f29_c (hT.more _) hto (by omega) (by omega) ?_));(try simp only [push_cast, seval, hT.am]);have htl := zaX τ5 T;generalize uptoT τ5 T = tott at htl ⊢;obtain ⟨tott, rfl⟩ : ∃ n : Nat, tott = n := ⟨tott.toNat, by omega⟩;have htl2 : tott ≤ T := (by omega);clear htl;have hto1 := hto.tick.mono (b' := b + 200) (by omega);generalize tick τ5 = τ8 at hto1 ⊢;(repeat apply zaa);refine zag ?_;refine za9 (measure fun m : List Try × TinS => tott - m.1.length).wf (fun m => [(19, iv ((tott : Int) - m.1.length))]) (fun m => Gf m.2 ++ roL N c ks ls m.1) (fun m => ((∀ t ∈ m.1, (0 ≤ t.key ∧ t.key < ks.length) ∧ 0 ≤ t.lock ∧ t.lock < ls.length) ∧ (wr = false → ∀ t ∈ m.1, t.opens = opensW ks ws ls t.key t.lock)) ∧ m.1.length ≤ tott ∧ m.2.Ok (b + 200 + 20 * m.1.length)) ([], τ8) (fun _ _ => rfl) (by simp only [push_cast, seval, List.forall_mem_cons, List.not_mem_nil, false_imp_iff, implies_true, List.forall_mem_nil]; simp [zaf, Wk.refl]) (by simp [roL]) (fun _ _ => by simp [hT.len, roL]) ⟨by simp, by simp, hto1.mono (by simp)⟩ (fun hHs hLt m hok R hR => ?_);clear hHs hLt hR2 hto1 hto;obtain ⟨ts, τ9⟩ := m;obtain ⟨⟨htr, htd⟩, htl3, hto⟩ := hok;simp only at htr htd htl3 hto;have hend : EndOf N (Gf τ9 ++ roE N c ks ls ts) (.tup [.agg [iv c, .sl ks.length (ks.flatMap Key.l) (.opn (N + 2)), .sl ls.length (ls.map aBands) (.opn (N + 3)), .sl ts.length (ts.flatMap Try.l) (.opn (N + 4))], .sl ks.length (ws.map iv) (.opn (N + 5))]) k := hk ⟨c, ks, ls, ts⟩ ws τ9 ⟨hc, hkn, hkp, by show ls.length ≤ L; omega, hlk, by show ts.length ≤ T; omega, htr, htd⟩ (hto.mono (by omega)) (hT.hok hH _) hwl;(repeat apply zaa);refine zl5 ?_;simp only [push_cast, seval, roL, hT.am];refine guardI (fun h3 => ?_) (fun h3 => ?_)
   ·have htlt : ts.length < tott := by
     have : (0 : Int) < tott - ts.length := (by simpa using h3);omega
    (try simp only [push_cast, seval, roL, hT.am]);(repeat apply zaa);refine zae ?_;simp only [push_cast, seval];refine ⟨fun h4 => ?_, fun h4 => ?_⟩
    ·have hll1 : 1 ≤ ls.length := (by omega);(repeat apply zaa);refine zah ?_;simp only [push_cast, seval];(repeat apply zaa);refine zag ?_;have hw4 : IntKind.i64.wrap ((ks.length : Int) - 1) = ks.length - 1 := zau _ (by omega);have hw6 : IntKind.i64.wrap ((ls.length : Int) - 1) = ls.length - 1 := zau _ (by omega);have hkr := zaX τ9 ((ks.length : Int) - 1);have hlr := zaX (tick τ9) ((ls.length : Int) - 1);(repeat apply zaa);refine zbE [5, 11, 13, 14] [0, 1, 2, 3, 4, 5, 6, 7, 8, 9, 10, 11, 12, 13, 14] [⟨0, false, [], [([13], [13])]⟩, ⟨1, false, [], [([13], [13])]⟩, ⟨2, false, [], [([13], [13])]⟩, ⟨3, false, [], [([13], [13])]⟩, ⟨4, false, [], [([13], [13])]⟩, ⟨5, true, [5], [([13], [5, 13])]⟩, ⟨6, false, [5], [([], []), ([13], [13]), ([5, 13], [5, 13])]⟩, ⟨7, false, [5], [([], []), ([13], [13]), ([5, 13], [5, 13])]⟩, ⟨8, false, [5], [([], []), ([13], [13]), ([5, 13], [5, 13])]⟩, ⟨9, false, [5], [([], []), ([13], [13]), ([5, 13], [5, 13])]⟩, ⟨10, false, [5], [([], []), ([13], [13]), ([5, 13], [5, 13])]⟩, ⟨11, true, [5, 11], [([5, 13], [5, 11, 13])]⟩, ⟨12, false, [5, 11], [([5, 11, 13], [5, 11, 13])]⟩, ⟨13, true, [5, 11, 13], [([], [13]), ([5], [5, 13])]⟩, ⟨14, true, [5, 11, 13, 14], []⟩] (fun D => Gf (bif isDone 11 D then tick (tick τ9) else bif isDone 5 D then tick τ9 else τ9) ++ (roL N c ks ls ts ++ (bif isDone 14 D then [.cells [iv (uptoT τ9 ((ks.length : Int) - 1)), iv (uptoT (tick τ9) ((ls.length : Int) - 1)), bv false] 28] else bif isDone 13 D then [.cells [iv 0, iv 0, bv false] 28] else []))) F.mixed (by kernel_rfl) (by kernel_rfl) (by first | rfl | simp only [push_cast, seval]) ?_;simp only [push_cast, seval, hw4, hw6, List.append_nil, roL, hT.am];refine eCall _ _ (zad (by kernel_rfl) (f29_c (hT.more _) hto (by omega) (by omega) ⟨rfl, rfl⟩)) ?_;(try simp only [push_cast, seval, hw4, hw6, List.append_nil, roL, hT.am]);refine ⟨eCall _ _ (zad (by kernel_rfl) (f29_c (hT.more _) hto (by omega) (by omega) ⟨rfl, rfl⟩)) ⟨rfl, rfl⟩, ?_⟩;refine eCall _ _ (zad (by kernel_rfl) (f29_c (hT.more _) hto.tick (by omega) (by omega) ⟨rfl, rfl⟩)) ?_;(try simp only [push_cast, seval, hw4, hw6, List.append_nil, roL, hT.am]);refine ⟨eCall _ _ (zad (by kernel_rfl) (f29_c (hT.more _) hto.tick (by omega) (by omega) ⟨rfl, rfl⟩)) ⟨rfl, rfl⟩, ?_⟩;have hto3 := hto.tick.tick;generalize uptoT τ9 ((ks.length : Int) - 1) = kx at hkr ⊢;generalize uptoT (tick τ9) ((ls.length : Int) - 1) = lx at hlr ⊢;generalize tick (tick τ9) = τa at hto3 ⊢;obtain ⟨kn, rfl⟩ : ∃ n : Nat, kx = n := ⟨kx.toNat, by omega⟩;obtain ⟨ln, rfl⟩ : ∃ n : Nat, lx = n := ⟨lx.toNat, by omega⟩;have hknl : kn < ks.length := (by omega);have hlnl : ln < ls.length := (by omega);obtain ⟨y, hy⟩ := zaE hknl;obtain ⟨w, hw⟩ := zaE (xs := ws) (i := kn) (by omega);obtain ⟨l, hl⟩ := zaE hlnl;obtain ⟨hyc, hyb, hyw⟩ := hkp.key y (zas hy);obtain ⟨hlc, hlb⟩ := hlk l (zas hl);have hwb := hkp.worn kn y w hy hw;have hw0 := hyw.min;have hw2' := hyw.max;have hdl : (wornM w y.cuts).length = y.cuts.length := (by simp [wornM]);have how : opensW ks ws ls kn ln = fitsM (wornM w y.cuts) l := by
      unfold opensW;simp only [Int.toNat_natCast, List.getD_eq_getElem?_getD, hy, hw, hl, Option.map_some, Option.getD_some]
     (repeat apply zaa);refine zaT F.mixed 19 (by kernel_rfl) ?_;simp only [push_cast, seval, zc2 hy, zaz hknl, za2 hw, zaz (get_lt hw), zfu hl, zaz hlnl, hwl, hT.am];refine qCall _ (zad (by kernel_rfl) (f78_c hyb ⟨by omega, by omega⟩ (by omega) ⟨rfl, rfl⟩)) ?_;refine zl6 ((f64_c (by omega) (by omega) ?_));(try simp only [push_cast, seval, hT.am]);have htln := zf5 ts;have hw7 : IntKind.i64.wrap ((tott : Int) - ts.length - 1) = tott - (ts.length + 1) := (by rw [zau _ (by omega)]; omega);have hnew : ∀ (o : Bool) (τb : TinS), τb.Ok (b + 200 + 20 * ts.length + 3) → (wr = false → o = fitsM (wornM w y.cuts) l) → ((∀ t : Try, t ∈ ts ++ [⟨kn, ln, o⟩] → (0 ≤ t.key ∧ t.key < (ks.length : Int)) ∧ 0 ≤ t.lock ∧ t.lock < (ls.length : Int)) ∧ (wr = false → ∀ t : Try, t ∈ ts ++ [⟨kn, ln, o⟩] → t.opens = opensW ks ws ls t.key t.lock)) ∧ (ts ++ [(⟨kn, ln, o⟩ : Try)]).length ≤ tott ∧ τb.Ok (b + 200 + 20 * ((ts ++ [(⟨kn, ln, o⟩ : Try)]).length : Nat)) := fun o τb hok ho => by
      refine ⟨⟨fun t ht => ?_, fun hwr t ht => ?_⟩, by simp; omega, hok.mono (by simp; omega)⟩
      ·rcases List.mem_append.1 ht with ht | ht
       ·exact htr t ht
       ·rw [List.mem_singleton.1 ht]; exact ⟨⟨by show (0 : Int) ≤ kn; omega, by show (kn : Int) < _; omega⟩, by show (0 : Int) ≤ ln; omega, by show (ln : Int) < _; omega⟩
      ·rcases List.mem_append.1 ht with ht | ht
       ·exact htd hwr t ht
       ·rw [List.mem_singleton.1 ht]; exact (ho hwr).trans how.symm
     (repeat apply zaa);refine zl5 ?_;simp only [push_cast, seval, hT.am];refine guardI (fun h5 => ?_) (fun h5 => ?_)
     ·(try simp only [push_cast, seval, hT.am]);refine zl6 ((f44_c (hT.more _) hto3 (by omega) (by omega) ?_));(try simp only [push_cast, seval, hT.am]);(repeat apply zaa);refine zae ?_;simp only [push_cast, seval];refine ⟨fun h6 => ?_, fun h6 => ?_⟩
      ·(repeat apply zaa);refine zl5 ?_;simp only [push_cast, seval, hT.am];(repeat apply zaa);refine zl5 ?_;simp only [push_cast, seval, zt3, zd5, htln, hT.am];refine ⟨by omega, ?_⟩;(repeat apply zaa);refine zl5 ?_;simp only [push_cast, seval, hw7];refine hR _ ⟨(ts ++ [⟨kn, ln, !(fitsM (wornM w y.cuts) l)⟩], tick τa), by show tott - (ts ++ [_]).length < tott - ts.length; simp; omega, hnew _ _ (hto3.tick.mono (by omega)) (fun e => absurd (h5.symm.trans e) (by decide)), ?_⟩;refine zce [.cells [iv kn, iv ln, bv (!(fitsM (wornM w y.cuts) l))] 28] (zam rfl rfl) (by simp only [push_cast, seval, List.length_append]; simp [zaf, Wk.refl]) (zh9 hT hH _ _ _ _ _) (by simp only [List.forall_mem_cons, zap, iv]; simp) (by simp [roL, Try.l])
      ·(repeat apply zaa);refine zah ?_;simp only [push_cast, seval];(repeat apply zaa);refine zl5 ?_;simp only [push_cast, seval, zt3, zd5, htln, hT.am];refine ⟨by omega, ?_⟩;(repeat apply zaa);refine zl5 ?_;simp only [push_cast, seval, hw7];refine hR _ ⟨(ts ++ [⟨kn, ln, fitsM (wornM w y.cuts) l⟩], tick τa), by show tott - (ts ++ [_]).length < tott - ts.length; simp; omega, hnew _ _ (hto3.tick.mono (by omega)) (fun _ => rfl), ?_⟩;refine zce [.cells [iv kn, iv ln, bv (fitsM (wornM w y.cuts) l)] 28] (zam rfl rfl) (by simp only [push_cast, seval, List.length_append]; simp [zaf, Wk.refl]) (zh9 hT hH _ _ _ _ _) (by simp only [List.forall_mem_cons, zap, iv]; simp) (by simp [roL, Try.l])
     ·(try simp only [push_cast, seval, hT.am]);(repeat apply zaa);refine zae ?_;simp only [push_cast, seval];(repeat apply zaa);refine zah ?_;simp only [push_cast, seval];(repeat apply zaa);refine zl5 ?_;simp only [push_cast, seval, zt3, zd5, htln, hT.am];refine ⟨by omega, ?_⟩;(repeat apply zaa);refine zl5 ?_;simp only [push_cast, seval, hw7];refine hR _ ⟨(ts ++ [⟨kn, ln, fitsM (wornM w y.cuts) l⟩], τa), by show tott - (ts ++ [_]).length < tott - ts.length; simp; omega, hnew _ _ (hto3.mono (by omega)) (fun _ => rfl), ?_⟩;refine zce [.cells [iv kn, iv ln, bv (fitsM (wornM w y.cuts) l)] 28] (zam rfl rfl) (by simp only [push_cast, seval, List.length_append]; simp [zaf, Wk.refl]) (zh9 hT hH _ _ _ _ _) (by simp only [List.forall_mem_cons, zap, iv]; simp) (by simp [roL, Try.l])
    ·(repeat apply zaa);refine zaq ?_;simp only [push_cast, seval];(repeat apply zaa);refine zl5 ?_;simp only [push_cast, seval, hT.am];(repeat apply zaa);refine zai ?_;simp only [push_cast, seval, hT.am];exact hend
   ·have h3 : ¬ (0 : Int) < tott - ts.length := (by simpa using h3);(try simp only [push_cast, seval, roL, hT.am]);(repeat apply zaa);refine zae ?_;simp only [push_cast, seval];(repeat apply zaa);refine zaq ?_;simp only [push_cast, seval];(repeat apply zaa);refine zl5 ?_;simp only [push_cast, seval, hT.am];(repeat apply zaa);refine zai ?_;simp only [push_cast, seval, hT.am];exact hend
theorem f49_c {K L T : Nat} {wr : Bool} (hT : TinAt Gf t N) (hτ : τ.Ok b) (hb : b < 2 ^ 30) (hK : 1 ≤ K ∧ K ≤ 4) (hL : L ≤ 4) (hTn : T ≤ 6)
  (hk : ∀ x ws τ', RingP K L T wr x ws → τ'.Ok (b + 1000) → k (.tup [x.av, aInts ws]) (Gf τ')) : FnC lv Tryz.prog 49 (Gf τ) [.op t 0, iv K, iv L, iv T, bv wr] k kp :=
 f49_g hT hτ hb hK hL hTn fun x ws τ' hP hto hok hwl => by
  rw [← hT.len τ'];exact endA (b := .tup [x.av, aInts ws]) hok (zdC (zhX (.cons (Wk.refl _) (.cons (zaK _ _ _) (.cons (zaK _ _ _) (.cons (zaK _ _ _) .nil))))) (by rw [← hwl]; exact zaK _ _ _)) (by simp only [zaD, List.forall_mem_cons, zfC, zbi]; simp) (hk x ws τ' hP hto)
end
def withT (x : Ring) (t : Try) : Ring := ⟨x.cuts, x.keys, x.locks, x.tries ++ [t]⟩
def bestStep (all : Nat) (s : Option (Nat × Nat × Nat)) (t : Nat × Nat × Nat) : Option (Nat × Nat × Nat) := if t.2.2 < (match s with | none => all | some b => b.2.2) then some t else s
def askB (x : Ring) (k n : Nat) : Option (Nat × Nat × Nat) := (testsAt x k n).foldl (bestStep (truthsM x []).length) none
open Go.Conc Go.Proofs
section
variable {lv : Bool} {H : List AObj} {k kp : AV → List AObj → Prop}
def AskIs (x : Ring) (a b c e : Int) : Prop := (askR x = none ∧ a = 0 ∧ b = 0 ∧ c = 0 ∧ e = 11) ∨ ∃ p q r : Nat, askR x = some (p, q, r) ∧ a = p ∧ b = q ∧ c = r ∧ e = 0
end
theorem tinOk0 {nums : List Int} (h : nums.length ≤ 2 ^ 50) (s : Int) : (⟨nums, 0, s⟩ : TinS).Ok 0 := ⟨Int.le_refl _, Int.le_refl _, h⟩
theorem RingP.ok {K L T : Nat} {wr : Bool} {x : Ring} {ws : List Int} (h : RingP K L T wr x ws) (hK : K ≤ 4) (hL : L ≤ 4) (hT : T ≤ 6) : x.Ok where
 cuts := ⟨h.cuts.1, by have := h.cuts.2; omega⟩
 keys := by have := h.keys.2; omega
 key := h.kp.key
 locks := by have := h.locks; omega
 lock := h.lock
 tries := by have := h.tries; omega
 tried := h.tried
theorem Ring.Ok.small {x : Ring} (h : x.Ok) : x.Small where
 keys := by have := h.keys; omega
 locks := by have := h.locks; omega
 tries := by have := h.tries; omega
 cuts := fun y hy => by have := (h.key y hy).1; have := h.cuts; omega
 bands := fun l hl => by have := (h.lock l hl).1; have := h.cuts; omega
open Go.Conc Go.Proofs
section
variable {lv : Bool} {H : List AObj} {k kp : AV → List AObj → Prop}
theorem fnC_wk {P : Program} {f : FuncId} {l l' : List AV} (h : Wks l l') (hf : FnC lv P f H l' k kp) : FnC lv P f H l k kp := fun E V vs hc hd => by
 refine hf E V vs hc ⟨by rw [hd.1, h.len], fun i a ha => ?_⟩;obtain ⟨b, hb⟩ := zaE (xs := l) (i := i) (by rw [h.len]; exact get_lt ha);exact h.at i a b ha hb E _ (hd.2 i b hb)
theorem f25_c (hmain : H[0]? = some .main) (hk : k (bv true) H) : FnC true Tryz.prog 25 H [] k kp := by
 refine zak (rs := [.tmp 0]) (nt := 177) F.f25 rfl rfl rfl (by simp) fun hH hA => ?_;simp only [argsT, Nat.reduceAdd];(repeat apply zaa);refine zl5 ?_;simp only [push_cast, seval];(repeat apply zaa);refine zl5 ?_;simp only [push_cast, seval];refine zl6 ((f80_c (ts := []) (by decide) ?_));(try simp only [push_cast, seval]);refine zl6 ((ex_worn hmain ?_));(try simp only [push_cast, seval]);(repeat apply zaa);refine zl5 ?_;simp only [push_cast, seval];refine zl6 ((f80_c (ts := []) (by decide) ?_));(try simp only [push_cast, seval]);refine zl6 ((ex_opens hmain ?_));(try simp only [push_cast, seval]);(repeat apply zaa);refine zl5 ?_;simp only [push_cast, seval];refine zl6 ((f82_c ?_));(try simp only [push_cast, seval, Try.av, Try.l, exLast, zt3, zd5]);refine zl6 ((f80_c (ts := [exLast]) (by decide) ?_));(try simp only [push_cast, seval]);refine zl6 ((ex_count hmain ?_));(try simp only [push_cast, seval]);(repeat apply zaa);refine zl5 ?_;simp only [push_cast, seval];refine zl6 ((f80_c (ts := []) (by decide) ?_));(try simp only [push_cast, seval]);refine zl6 ((ex_ask hmain ?_));(try simp only [push_cast, seval]);(repeat apply zaa);refine zl5 ?_;simp only [push_cast, seval];refine zl6 ((f82_c ?_));(try simp only [push_cast, seval, Try.av, Try.l, exLast, zt3, zd5]);refine zl6 ((f80_c (ts := [exLast]) (by decide) ?_));(try simp only [push_cast, seval]);refine zl6 ((ex_cover hmain ?_));(try simp only [push_cast, seval]);(repeat apply zaa);refine zl5 ?_;simp only [push_cast, seval];refine zl6 ((f84_c ?_));(try simp only [push_cast, seval]);refine zl6 ((ex_alike hmain ?_));(try simp only [push_cast, seval]);(repeat apply zaa);refine zl5 ?_;simp only [push_cast, seval];refine zl6 ((f80_c (ts := []) (by decide) ?_));(try simp only [push_cast, seval, zu2, zes]);refine zl6 ((fnC_wk (.cons (Wk.refl _) (.cons (zaK _ _ _) .nil)) (ex_which hmain ?_)));(try simp only [push_cast, seval]);(repeat apply zaa);refine zl5 ?_;simp only [push_cast, seval];refine zl6 ((f80_c (ts := []) (by decide) ?_));(try simp only [push_cast, seval, zr2, zes]);refine zl6 ((fnC_wk (.cons (Wk.refl _) (.cons (zaK _ _ _) .nil)) (ex_cut hmain ?_)));(try simp only [push_cast, seval]);(repeat apply zaa);refine zl5 ?_;simp only [push_cast, seval];refine zl6 ((f83_c ?_));(try simp only [push_cast, seval, Try.av, Try.l, exNever, zt3, zd5]);refine zl6 ((f80_c (ts := [exNever]) (by decide) ?_));(try simp only [push_cast, seval]);refine zl6 ((ex_wrong hmain ?_));(try simp only [push_cast, seval]);(repeat apply zaa);refine zl5 ?_;simp only [push_cast, seval];refine zl6 ((f80_c (ts := []) (by decide) ?_));(try simp only [push_cast, seval]);refine zl6 ((ex_tell hmain ?_));(try simp only [push_cast, seval]);(repeat apply zaa);refine zl5 ?_;simp only [push_cast, seval, List.append_eq, beq_self_eq_true, zr2, zes];refine zl6 ((f34_same (xs := [0, 1]) (by decide) ?_));(try simp only [push_cast, seval, List.append_eq, beq_self_eq_true, zr3, zd5]);refine zl6 ((f34_same (xs := [0, 1, 2]) (by decide) ?_));(try simp only [push_cast, seval, List.append_eq, beq_self_eq_true, zr3, zd5]);refine zl6 ((f34_same (xs := [0, 1, 0]) (by decide) ?_));(try simp only [push_cast, seval, List.append_eq, beq_self_eq_true, zr2, zes]);refine zl6 ((f34_same (xs := [1, 2]) (by decide) ?_));(try simp only [push_cast, seval, List.append_eq, beq_self_eq_true, zr2, zes]);refine zl6 ((f34_same (xs := [2, 1]) (by decide) ?_));(try simp only [push_cast, seval, List.append_eq, beq_self_eq_true, z1, zhq]);refine zl6 ((f34_same (xs := [0]) (by decide) ?_));(try simp only [push_cast, seval, List.append_eq, beq_self_eq_true, zr2, zes]);refine zl6 ((f34_same (xs := [0, 1]) (by decide) ?_));(try simp only [push_cast, seval]);(repeat apply zaa);refine zai ?_;simp only [push_cast, seval];exact zao hk
end
open Go.Conc Go.Proofs Go.ChangeShapes Go.WideShapes Go.ChangeAt Go.RowKit
def view0 (W : World) : View := ⟨fun b o => W.cell? ⟨b, o, none⟩, fun _ => none, 0, .plain⟩
def env0 (W : World) : Env := ⟨(view0 W).imm, 1, fun _ => 0, fun _ _ => (none, 0), fun _ => 0, fun _ => none, true⟩
theorem sat0 (W : World) : Sat (view0 W) W := ⟨fun _ _ _ h => h, fun _ _ h => by cases h⟩
theorem conc0 (W : World) : Conc (env0 W) (view0 W) [.main] where
 I := rfl
 n := rfl
 obj := fun k x h => by
  match k, h with
  | 0, h => cases h; exact rfl
  | k + 1, h => cases h
 inj := fun i j x y b hi hj h1 h2 => by
  match i, hi with
  | 0, hi => cases hi; cases h1
  | i + 1, hi => cases hi
 group := fun g h => by cases h
 chan := fun c h => by cases h
 top := fun _ => ⟨rfl, rfl⟩
 fr := fun b y h => by cases h
theorem zjf {f : FuncId} {W : World} {args : Array Value} {avs : List AV} {Q : Value → Prop} (hi : Tryz.prog.inits.idxOf? f = none) (hd : Denl (env0 W) avs args) (h : FnC true Tryz.prog f [.main] avs (fun a _ => ∀ E v, Den E a v → Q v) (fun _ _ => False)) :
  ∃ M last o w' t', runNT Tryz.prog (M + 1) (solo (G (Frame.enter Tryz.prog f args .normal) []) W) #[] = (.ended o w', t') ∧ runN Tryz.prog M (solo (G (Frame.enter Tryz.prog f args .normal) []) W) = .next last ∧ step Tryz.prog last = .ended o w' ∧ Conc.Good Tryz.prog (fun v w => Q v ∧ Left W.heap.size W w) last o w' t' :=
 zgE hi (V := view0 W) rfl rfl rfl (sat0 W) (h (env0 W) (view0 W) args (conc0 W) hd) fun o V' r => by
  cases o with
  | ret v =>
   obtain ⟨av, E', H', _, hro, _, hden, _, hk⟩ := r;exact ⟨hro, v, rfl, fun w _ hl => ⟨hk _ _ hden, hl⟩⟩
  | panic ch =>
   obtain ⟨pv, v, E', H', _, _, _, _, _, _, hf⟩ := r;exact hf.elim
theorem zkY {W : World} {b o len cap : Nat} {zs : List Int} (hl : zs.length = len) (hc : len ≤ cap) (h : ∀ i, i < len → W.cell? ⟨b, o + i, none⟩ = some (.int .i64 (zs.getD i 0))) : Den (env0 W) (aInts zs) (.slice (some ⟨b, o, none⟩) len cap) := by
 subst hl;refine .sl b o cap (fun i => .int .i64 (zs.getD i 0)) hc trivial (fun i hi => ?_) (fun i x hx => ?_)
 ·exact h i (by simpa using hi)
 ·rw [List.getElem?_map] at hx;obtain ⟨z, hz, rfl⟩ := Option.map_eq_some_iff.1 hx;rw [List.getD_eq_getElem?_getD, hz];exact .val _
theorem Left.below {W w : World} (h : Left W.heap.size W w) : Below W.heap.size W w := ⟨h.os, h.tape, h.out, h.size, h.old⟩
theorem Tz.own : ownKnob Tryz.prog.godebug = none := by kernel_rfl
theorem Tz.laidOut : laidOutB Tryz.prog = true := by kernel_rfl
theorem Tz.u30 : Tryz.prog.underlying 30 = some (.slice 3) := by kernel_rfl
theorem Tz.u3 : Tryz.prog.underlying 3 = some (.int .i64) := by kernel_rfl
theorem Tz.u4 : Tryz.prog.underlying 4 = some .bool := by kernel_rfl
theorem Tz.c3 : Tryz.prog.cellsOf 3 = 1 := by kernel_rfl
theorem Tz.b3 : Tryz.prog.bytesOf 3 = 8 := by kernel_rfl
theorem Tz.r30 : Tryz.prog.readableRec 30 = true := by kernel_rfl
theorem Tz.l30 : 30 < Tryz.prog.types.size := of_decide_eq_true (by kernel_rfl)
def LawInts (f : FuncId) : Prop := ∀ nums : List Int, nums.length ≤ 2 ^ 50 → FnC true Tryz.prog f [.main] [aInts nums] (fun a _ => a = bv true) (fun _ _ => False)
set_option maxRecDepth 100000 in
theorem zhC {f : FuncId} {fn : Func} {s : ChangeSpec} (hf : Tryz.prog.funcs[f]? = some fn) (hp : fn.params = #[30]) (hr : fn.resultTypes = #[4]) (hv : s.vars = []) (hs : ∀ (H : Type) (d : DataW H), s.fn H [d] = { results := [.lit (.bool true)], args := [d] }) (hi : Tryz.prog.inits.idxOf? f = none) (hlaw : LawInts f)
  (os : Os) (started : os.Started) (H : Type) (enc : TypeId × Value → H)
  (hwit : ∃ (w : World) (tape : Tape) (i : Input), w.os = os ∧ (w.forCall tape i).Shaped Tryz.checked.prog ∧ i.vars = [] ∧ Input.okWide Tryz.checked.prog (w.forCall tape i) .any w.heap.size f i ∧
   s.pre6 enc Tryz.checked.prog fn [] false (w.forCall tape i).memory i.args ∧ ({} : Assume).holds Tryz.checked.prog (lone (Frame.enter Tryz.checked.prog f i.args .normal) [] (w.forCall tape i))) :
  ReturnsInLeavingWide {} Tryz.checked os f .any (s.pre6 enc Tryz.prog fn [] false) (s.post enc Tryz.prog fn false true false false) := by
 refine returnsInLeavingWide_of_change_sized (C := Tryz.checked) Tz.own started hf hwit ?_;intro W base args ds gs before hval0 hW _ hsz0 _;have hsz : (DataW.weightsEach Tryz.prog (fn.params.toList ++ s.plain.varTypes Tryz.prog) (ds ++ gs)).all (· ≤ reachBytes) = true := hsz0;clear hsz0;have hval : ∀ (j : Nat) t v, fn.params[j]? = some t → args[j]? = some v → Value.okWide Tryz.prog W .any base t v := hval0;have hW' := hW;obtain ⟨p, q, hA0, hV, rfl, _, _⟩ := hW;have hA : DataW.TrodAll enc Tryz.prog W 0 (fun _ => true) true fn.params.toList args.toList ds p := hA0;rw [hp] at hA hval hsz;obtain ⟨v0, d0, rfl, rfl, h0⟩ := trodAll_one hA;rw [hv] at hV;obtain ⟨rfl, rfl⟩ := trodVars_none hV;have hok := hval 0 30 v0 rfl rfl;obtain ⟨a0, len, cap, rfl⟩ := okWide_slice Tz.u30 hok;have h0k := h0;obtain ⟨fuel, hfu⟩ := h0;clear hA0 hval0;simp only [List.append_nil] at hW';have hlt : ∀ x ∈ p, x.block < W.heap.size := fun x hx => by simpa using hW'.lt x hx
 have hargs : ∀ (W' : World), Below W.heap.size W W' → DataW.Trod enc Tryz.prog W' 0 (fun b => decide (b < W.heap.size)) true 30 (.slice a0 len cap) d0 p :=
  fun W' hn => Below.trod Tz.laidOut Tz.r30 Tz.l30 h0k hn hlt
 have close : ∀ nums : List Int, nums.length ≤ 2 ^ 50 → Den (env0 W) (aInts nums) (.slice a0 len cap) →
   ∃ M last o w' t', runNT Tryz.checked.prog (M + 1) (solo (G (Frame.enter Tryz.checked.prog f #[.slice a0 len cap] .normal) []) W) #[] = (.ended o w', t') ∧
    runN Tryz.checked.prog M (solo (G (Frame.enter Tryz.checked.prog f #[.slice a0 len cap] .normal) []) W) = .next last ∧ step Tryz.checked.prog last = .ended o w' ∧
    Conc.Good Tryz.checked.prog (fun v W' => s.post enc Tryz.checked.prog fn false true false false W #[.slice a0 len cap] v W') last o w' t' := by
  intro nums hn hd;obtain ⟨M, last, o, w', t', h1, h2, h3, h4⟩ := zjf (Q := fun v => v = .bool true) (args := #[.slice a0 len cap]) (avs := [aInts nums]) hi ⟨rfl, fun i a e => by
   match i, e with
   | 0, e => cases e; exact hd⟩ ((hlaw nums hn).mono (fun a H' e E v hden => by subst e; cases hden; rfl) fun _ _ h => h)
  refine ⟨M, last, o, w', t', h1, h2, h3, h4.mono fun v ⟨hQ, hL⟩ => ?_⟩;subst hQ;have hb := hL.below;refine ⟨[d0], [], _, [], p, [], hW', ?_, ?_, by rw [hv]; exact (by rw [show ([d0] ++ [] : List (DataW H)) = [d0] from rfl, hs]; rfl), hb.frame _, fun h => by cases h⟩
  ·rw [show ([d0] ++ [] : List (DataW H)) = [d0] from rfl, hs, hr];exact trodAll_mk1 (shut_bool Tz.u4 true)
  ·rw [show ([d0] ++ [] : List (DataW H)) = [d0] from rfl, hs, hp];exact trodAll_mk1 (hargs _ hb)
 rcases open_ints Tz.u30 Tz.u3 Tz.c3 hfu with ⟨hcs, hx⟩ | ⟨a, len', cap', zs, hcs, _, hl, hm, hz, hx, hcell, hwz⟩
 ·simp [Value.cells] at hcs;obtain ⟨rfl, rfl, rfl⟩ := hcs;exact close [] (by simp) (.nil trivial)
 ·simp [Value.cells] at hcs;obtain ⟨rfl, rfl, rfl⟩ := hcs;simp only [Prod.mk.injEq] at hx;obtain ⟨rfl, rfl⟩ := hx;simp only [if_true] at hz;have hspot : a.spot = none := by
   have := hok;simp only [Value.okWide, Tz.u30, Cell.okWide, Cell.ok] at this;exact this.2.2.2.1
  have hreach : len * 8 ≤ 140737488355328 := by
   have := sized_slice hsz (j := 0) (t := 30) (e := 3) rfl rfl Tz.u30;rw [Tz.b3] at this;simp only [lits, List.length_map, List.length_take, List.length_drop, reachBytes] at this;omega
  obtain ⟨bl, off, spot⟩ := a;simp only at hspot;subst hspot;have hzl : (zs.take len).length = len := by rw [List.length_take]; omega
  refine close (zs.take len) (by rw [hzl]; omega) (zkY hzl hl fun i hi => ?_);have := hcell i (by omega);rw [show (Addr.add ⟨bl, off, none⟩ i) = ⟨bl, off + i, none⟩ by simp [Addr.add]] at this;rw [this, List.getD_eq_getElem?_getD, List.getD_eq_getElem?_getD, List.getElem?_take_of_lt hi]
open Go.Proofs
def ioCodes : List Nat := [104,97,114,110,101,115,115,32,99,51,50,57,53,49,56,50,100,99,53,57,97,55,97,98,51,48,51,102,54,57,97,97,100,57,54,56,102,52,99,57,49,98,53,97,48,49,101,51,101,101,55,53,50,49,99,100,54,56,54,49,50,99,48,52,54,49,101,48,97,49,50,98,32,99,117,116,32,97,116,32,103,108,97,100,115,116,111,110,101,47,103,108,97,100,115,116,111,110,101,108,97,119,48,56,46,75,101,121,67,104,101,99,107,115,32,103,108,97,100,115,116,111,110,101,47,103,108,97,100,115,116,111,110,101,108,97,119,48,56,46,75,101,121,67,111,118,101,114,115,32,103,108,97,100,115,116,111,110,101,47,103,108,97,100,115,116,111,110,101,108,97,119,48,56,46,75,101,121,66,97,103,115,32,103,108,97,100,115,116,111,110,101,47,103,108,97,100,115,116,111,110,101,108,97,119,48,56,46,75,101,121,87,111,114,110,32,103,108,97,100,115,116,111,110,101,47,103,108,97,100,115,116,111,110,101,108,97,119,48,56,46,75,101,121,87,114,111,110,103,32,103,108,97,100,115,116,111,110,101,47,103,108,97,100,115,116,111,110,101,108,97,119,48,56,46,75,101,121,65,115,107,32,103,108,97,100,115,116,111,110,101,47,103,108,97,100,115,116,111,110,101,108,97,119,48,56,46,75,101,121,67,111,118,101,114,32,103,108,97,100,115,116,111,110,101,47,103,108,97,100,115,116,111,110,101,108,97,119,48,56,46,75,101,121,65,108,105,107,101,32,103,108,97,100,115,116,111,110,101,47,103,108,97,100,115,116,111,110,101,108,97,119,48,56,46,75,101,121,84,101,108,108,32,103,108,97,100,115,116,111,110,101,47,103,108,97,100,115,116,111,110,101,108,97,119,48,56,46,75,101,121,66,97,103,32,103,108,97,100,115,116,111,110,101,47,103,108,97,100,115,116,111,110,101,108,97,119,48,56,46,75,101,121,67,117,116,32,103,108,97,100,115,116,111,110,101,47,103,108,97,100,115,116,111,110,101,108,97,119,48,56,46,75,101,121,78,117,109,98,101,114,101,100,32,103,108,97,100,115,116,111,110,101,47,103,108,97,100,115,116,111,110,101,108,97,119,48,56,46,75,101,121,67,111,117,110,116,115,32,103,108,97,100,115,116,111,110,101,47,103,108,97,100,115,116,111,110,101,108,97,119,48,56,46,75,101,121,65,108,108,32,103,108,97,100,115,116,111,110,101,47,103,108,97,100,115,116,111,110,101,108,97,119,48,56,46,75,101,121,84,114,117,101,32,103,108,97,100,115,116,111,110,101,47,103,108,97,100,115,116,111,110,101,108,97,119,48,56,46,75,101,121,65,115,107,115,32,103,108,97,100,115,116,111,110,101,47,103,108,97,100,115,116,111,110,101,108,97,119,48,56,46,75,101,121,78,101,119,115,32,103,108,97,100,115,116,111,110,101,47,103,108,97,100,115,116,111,110,101,108,97,119,48,56,46,75,101,121,77,97,115,116,101,114,32,103,108,97,100,115,116,111,110,101,47,103,108,97,100,115,116,111,110,101,108,97,119,48,56,46,75,101,121,77,111,114,101,32,103,108,97,100,115,116,111,110,101,47,103,108,97,100,115,116,111,110,101,108,97,119,48,56,46,75,101,121,84,117,114,110,101,100,32,103,108,97,100,115,116,111,110,101,47,103,108,97,100,115,116,111,110,101,108,97,119,48,56,46,75,101,121,75,110,111,119,110]
set_option maxRecDepth 100000 in
theorem ioL : Tryz.prog.initOrder.toList = ioCodes.map Char.ofNat := by
 have h : Tryz.prog.initOrder = String.ofList (ioCodes.map Char.ofNat) := by kernel_rfl
 rw [h, String.toList_ofList]
def ioWords : List (List Char) := ([[99,117,116],[97,116],[103,108,97,100,115,116,111,110,101,47,103,108,97,100,115,116,111,110,101,108,97,119,48,56,46,75,101,121,67,104,101,99,107,115],[103,108,97,100,115,116,111,110,101,47,103,108,97,100,115,116,111,110,101,108,97,119,48,56,46,75,101,121,67,111,118,101,114,115],[103,108,97,100,115,116,111,110,101,47,103,108,97,100,115,116,111,110,101,108,97,119,48,56,46,75,101,121,66,97,103,115],[103,108,97,100,115,116,111,110,101,47,103,108,97,100,115,116,111,110,101,108,97,119,48,56,46,75,101,121,87,111,114,110],[103,108,97,100,115,116,111,110,101,47,103,108,97,100,115,116,111,110,101,108,97,119,48,56,46,75,101,121,87,114,111,110,103],[103,108,97,100,115,116,111,110,101,47,103,108,97,100,115,116,111,110,101,108,97,119,48,56,46,75,101,121,65,115,107],[103,108,97,100,115,116,111,110,101,47,103,108,97,100,115,116,111,110,101,108,97,119,48,56,46,75,101,121,67,111,118,101,114],[103,108,97,100,115,116,111,110,101,47,103,108,97,100,115,116,111,110,101,108,97,119,48,56,46,75,101,121,65,108,105,107,101],[103,108,97,100,115,116,111,110,101,47,103,108,97,100,115,116,111,110,101,108,97,119,48,56,46,75,101,121,84,101,108,108],[103,108,97,100,115,116,111,110,101,47,103,108,97,100,115,116,111,110,101,108,97,119,48,56,46,75,101,121,66,97,103],[103,108,97,100,115,116,111,110,101,47,103,108,97,100,115,116,111,110,101,108,97,119,48,56,46,75,101,121,67,117,116],[103,108,97,100,115,116,111,110,101,47,103,108,97,100,115,116,111,110,101,108,97,119,48,56,46,75,101,121,78,117,109,98,101,114,101,100],[103,108,97,100,115,116,111,110,101,47,103,108,97,100,115,116,111,110,101,108,97,119,48,56,46,75,101,121,67,111,117,110,116,115],[103,108,97,100,115,116,111,110,101,47,103,108,97,100,115,116,111,110,101,108,97,119,48,56,46,75,101,121,65,108,108],[103,108,97,100,115,116,111,110,101,47,103,108,97,100,115,116,111,110,101,108,97,119,48,56,46,75,101,121,84,114,117,101],[103,108,97,100,115,116,111,110,101,47,103,108,97,100,115,116,111,110,101,108,97,119,48,56,46,75,101,121,65,115,107,115],[103,108,97,100,115,116,111,110,101,47,103,108,97,100,115,116,111,110,101,108,97,119,48,56,46,75,101,121,78,101,119,115],[103,108,97,100,115,116,111,110,101,47,103,108,97,100,115,116,111,110,101,108,97,119,48,56,46,75,101,121,77,97,115,116,101,114],[103,108,97,100,115,116,111,110,101,47,103,108,97,100,115,116,111,110,101,108,97,119,48,56,46,75,101,121,77,111,114,101],[103,108,97,100,115,116,111,110,101,47,103,108,97,100,115,116,111,110,101,108,97,119,48,56,46,75,101,121,84,117,114,110,101,100],[103,108,97,100,115,116,111,110,101,47,103,108,97,100,115,116,111,110,101,108,97,119,48,56,46,75,101,121,75,110,111,119,110]] : List (List Nat)).map fun l => l.map Char.ofNat
set_option maxRecDepth 100000 in
theorem ioW : behindMainWord (wordsSigns Tryz.prog.initOrder.toList) = ioWords := by
 rw [ioL]
 kernel_rfl
section
variable {P : Program} {c : List Char} {rest : List (List Char)}
theorem zhx (h : behindMainWord (wordsSigns P.initOrder.toList) = c :: rest) (hc : c = "cut".toList) (h1 : stripLifts liftWords (c :: rest) = ([], c :: rest)) (h2 : P.laysLater = false) (h3 : P.bearsReflect = false) (h4 : P.doorFits [] = true) : P.mayEnter = true := by
 unfold Program.mayEnter;rw [h];subst hc;simp only [h1, h2, h3, h4, List.head?_cons, beq_self_eq_true, List.contains_nil, Bool.not_false, Bool.false_or, Bool.or_true, Bool.and_self, Bool.true_and]
theorem zgB (h : behindMainWord (wordsSigns P.initOrder.toList) = c :: rest) (hc : c = "cut".toList) (h1 : stripLifts liftWords (c :: rest) = ([], c :: rest)) : P.headLifts = [] := by
 unfold Program.headLifts;rw [h];simp only [h1, ite_self]
theorem lifts_of (h : behindMainWord (wordsSigns P.initOrder.toList) = c :: rest) (hc : c = "cut".toList) (h1 : stripLifts liftWords (c :: rest) = ([], c :: rest)) : P.liftsFinal = false := by
 unfold Program.liftsFinal;rw [zgB h hc h1, h];subst hc;simp only [List.head?_cons, List.contains_nil, Bool.or_false];have : (some "cut".toList == some "carried".toList) = false := by decide +kernel
 rw [this, Bool.false_and]
theorem make_of (h : behindMainWord (wordsSigns P.initOrder.toList) = c :: rest) (hc : c = "cut".toList) : P.make = some .cut := by
 unfold Program.make;rw [h];subst hc;have e1 : ("cut".toList == "gc".toList) = false := by decide +kernel
 have e2 : ("cut".toList == "spec".toList) = false := by decide +kernel
 simp only [e1, e2, Bool.or_self, Bool.false_eq_true, if_false, beq_self_eq_true, Bool.true_or, if_true]
end
def ioHead : List Char := ioWords.headD []
def ioTail : List (List Char) := ioWords.tail
theorem ioW2 : behindMainWord (wordsSigns Tryz.prog.initOrder.toList) = ioHead :: ioTail := ioW.trans (by kernel_rfl)
theorem ioC : ioHead = "cut".toList := by kernel_rfl
theorem ioS : stripLifts liftWords (ioHead :: ioTail) = ([], ioHead :: ioTail) := by kernel_rfl
theorem Tz.mayEnter : Tryz.prog.mayEnter = true := zhx ioW2 ioC ioS (by kernel_rfl) (by kernel_rfl) (by kernel_rfl)
theorem Tz.lifts : Tryz.prog.liftsFinal = false := lifts_of ioW2 ioC ioS
theorem Tz.make : Tryz.prog.make = some .cut := make_of ioW2 ioC
open Go.Proofs
theorem zkH {P : Program} {f : FuncId} {fn : Func} {s : ChangeSpec} {c : OpenClaim}
  (k0 : (c.wf (OpenSpec.ofChange s)) = true)
  (k1 : (laidOutB P) = true)
  (k2 : (mapsRowed P) = true)
  (k3 : (fn.params.all (P.readableRec ·)) = true)
  (k4 : (namedTie P c.named s.vars) = true)
  (k5 : ((c.stops == [])) = true)
  (k6 : ((P.stops == [])) = true)
  (k7 : ((c.knobs == [])) = true)
  (k8 : ((P.stopKnobs == [])) = true)
  (k9 : ((c.inPlace == P.inPlace f)) = true)
  (k10 : ((c.unfollowed == P.unfollowed f)) = true)
  (k11 : ((c.recurses == P.recurses f)) = true)
  (k12 : ((c.named == P.varsNamed f)) = true)
  (k13 : ((c.maps == (fn.params.toList ++ s.plain.varTypes P).any (P.mapsRec ·))) = true)
  (k14 : ((c.ifaces == (fn.params.toList ++ s.plain.varTypes P).any (P.ifacesRec ·))) = true)
  (k15 : ((c.mapsOut == P.mapsAmong fn.resultTypes.toList)) = true)
  (k16 : ((c.loops == (fn.params.toList ++ s.plain.varTypes P).any (P.loopsFrom ·))) = true)
  (k17 : ((c.wideKeys == (fn.params.toList ++ s.plain.varTypes P ++ fn.resultTypes.toList).any (P.wideKeysFrom ·))) = true)
  (k18 : (s.vars.all (P.varReadable ·)) = true)
  (k19 : (fn.resultTypes.all (fun t => P.readableRec t && decide (t < P.types.size))) = true)
  (k20 : ((c.ifacesOut == fn.resultTypes.toList.any (P.ifacesRec ·))) = true)
  (k21 : ((c.loopsOut == fn.resultTypes.toList.any (P.loopsFrom ·))) = true)
  (k22 : ((c.plainKeys == P.plainKeys)) = true)
  (k23 : (c.shortTexts.isNone) = true)
  (k24 : (P.stopsHeard) = true)
  (k25 : (P.mayEnter) = true)
  (k26 : ((c.lifted == P.liftsFinal)) = true)
  (k27 : ((P.make == some c.make)) = true)
  (k28 : c.domain.isEmpty = true) (k28' : c.kinds = [])
  (k29 : ((c.pinned == c.pinnedBy)) = true)
  (k30 : ((c.veiled == (fn.params.toList ++ s.plain.varTypes P ++ fn.resultTypes.toList).any (P.veiledRec ·))) = true)
  (k31 : (c.veiledFits P fn.params.toList (fn.params.toList ++ s.plain.varTypes P ++ fn.resultTypes.toList)) = true) : joinedFacts P f fn s c = true := by
 simp only [joinedFacts, k0, k1, k2, k3, k4, k5, k6, k7, k8, k9, k10, k11, k12, k13, k14, k15, k16, k17, k18, k19, k20, k21, k22, k23, k24, k25, k26, k27, k28, k28', if_true, beq_self_eq_true, k29, k30, k31, Bool.and_self]
theorem zkB {c : OpenClaim} (h : c.lifted = false) : (c.lifted == Tryz.prog.liftsFinal) = true := by rw [Tz.lifts, h]; rfl
theorem make_of' {c : OpenClaim} (h : c.make = .cut) : (Tryz.prog.make == some c.make) = true := by rw [Tz.make, h]; rfl
end Go.Gg
