/- The law TopStacked answers true at every list of numbers. No condition. -/
import Derived.Test.YtfalifflpppchaaDoorTopStackedCard3
import Derived.Conc.CrowdStepC
import Derived.Conc.LeavingOf
import Derived.Handed
import Derived.Conc.LoneCalls
import Derived.Conc.Holds
import Derived.JoinedOf
import Derived.LaidLaws
import Derived.LaidHandle
import Derived.Stop.Joined
import Derived.Test.YtfalifflpppchaaDoorRows
import Derived.ProofKit
import Derived.Test.YtfalifflpppchaaDoorChecked
import Derived.LaidMore
import Derived.SevenTiedAt
import Derived.Test.YtfalifflpppchaaDoorTie
import Derived.Test.YtfalifflpppchaaDoorCards
set_option linter.all false
set_option maxRecDepth 4000
set_option maxHeartbeats 1000000
namespace Go.Gg
open Go.Conc Go.ConcN
section
variable {P : Program} {n0 : Nat} {W0 : World} {V : View} {gs gs' : Array Goroutine} {w w' : World} {sl : Option (Nat × Nat)} {t : Trace} {K : Nat -> GS} {Im : Imm} {ic : Nat} {p : Phase} {st st' : Option Stage}
theorem WgAt.set_state {Wg : Nat} {a b : Int} (h : WgAt P Wg w a b) (v : Int) : WgAt P Wg (w.setCell (stateAt Wg) (.int .u64 v)) v b := by
 unfold WgAt at h ⊢
 unfold World.setCell
 rw [Array.getElem?_modify]
 simp [stateAt, h, wgBlock]
theorem WgAt.set_sema {Wg : Nat} {a b : Int} (h : WgAt P Wg w a b) (v : Int) : WgAt P Wg (w.setCell (semaAt Wg) (.int .u32 v)) a v := by
 unfold WgAt at h ⊢
 unfold World.setCell
 rw [Array.getElem?_modify]
 simp [semaAt, h, wgBlock]
theorem WgAt.inj {Wg : Nat} {a b a' b' : Int} (h : WgAt P Wg w a b) (k : WgAt P Wg w a' b') : a = a' /\ b = b' := by
 unfold WgAt at h k
 rw [h] at k
 simp [wgBlock] at k
 exact k
theorem Inv.atomStep (h : Inv P n0 W0 V gs w t K Im ic (some p) st) (hrv : p.recv = true) {i : Nat} {gi gi' : Goroutine} {es : Array Event} {k' : GS} {s : Stage} {a : Addr} (hs : st = some s) (hi : 0 < i) (hgi : gs[i]? = some gi) (hst : stepG P false gi w = .go gi' w' es) (hd : Deaf t i = 1)
  (ha : Atom a es) (haW : a = stateAt p.Wg \/ a = semaAt p.Wg) (hw' : w' = w \/ ∃ x, w' = w.setCell a x) (hk : k'.is P p.c p.Wg Im p.Ss 1 gi') (hless : Less (k'.view Im) ((K i).view Im)) (hclo : k'.closer = true -> i = ic) (hidx : k'.idx = none) (hidxK : (K i).idx = none)
  (hact : i = ic \/ (K i).cnt = 1 \/ (K i).late = 1) (hopen : ∃ n, w.heap[p.c]? = some (.chan 0 #[] false n n false))
  (hmode : Mode P p.c p.Wg gs.size w' ((gs.map (woken P gi gi' w')).setIfInBounds i gi') (t ++ MemOp.ofEvents i gi.frame.fn gi.frame.place es) (upd K i k') ic s) (hrank : RankLt k'.rank (K i).rank) : Went P n0 W0 V gs w sl t K Im ic (some p) st i := by
 have hlt : i < gs.size := (Array.getElem?_eq_some_iff.1 hgi).1
 have hblk : a.block = p.Wg := by rcases haW with rfl | rfl <;> rfl
 have hcW : p.c ≠ p.Wg := h.phase.2.2.1
 have hfr : ∀ b, b ≠ p.Wg -> w'.heap[b]? = w.heap[b]? := fun b hb => by
  rcases hw' with rfl | ⟨x, rfl⟩
  ·rfl
  ·exact heap_setCell_ne _ _ _ (by rw [hblk]; exact Ne.symm hb)
 have hsz : w'.heap.size = w.heap.size := by rcases hw' with rfl | ⟨x, rfl⟩; rfl; exact size_setCell' _ _ _
 refine h.shared hrv hi hgi hst (by rw [hd, ha.behind]; exact hk) hless hclo hidx (fun j hj => by rw [hidxK] at hj; cases hj) (hact.imp id .inr) (fun e he x hx => .inl ?_) (fun e he => ha.low (by rw [hblk]; exact h.low.2) he) (fun e he b => ha.norel he b) hsz (fun b _ hb => hfr b hb)
  (by rcases hw' with rfl | ⟨x, rfl⟩ <;> rfl) (by rcases hw' with rfl | ⟨x, rfl⟩ <;> rfl) (by rcases hw' with rfl | ⟨x, rfl⟩ <;> rfl) hmode (.inl (by rw [hfr _ hcW]; exact hopen)) ?_ (muOf hlt hrank)
 ·have := ha.touch he hx
  exact ⟨by rw [this.1]; exact hblk, this.2⟩
 ·have hr : Rest p.Wg t K ic st := h.out.2.2.1
  rw [hs] at hr
  exact hr.atom ha hd fun m => by
   by_cases hm : m = i
   ·subst hm; rw [upd_at, hidx, hidxK]
   ·rw [upd_not _ _ hm]
theorem Inv.addStep (h : Inv P n0 W0 V gs w t K Im ic (some p) st) (hrv : p.recv = true) {i n : Nat} {gi : Goroutine} (hi : 0 < i) (hgi : gs[i]? = some gi) (hK : K i = .add n) (hstop : DAdd P p.Wg (Deaf t i) gi) : Went P n0 W0 V gs w sl t K Im ic (some p) st i := by
 have hlt : i < gs.size := (Array.getElem?_eq_some_iff.1 hgi).1
 obtain ⟨s, hs, hic0, hicl, hm⟩ := h.mode hrv
 have hcn : (K i).cnt = 1 := by rw [hK]; rfl
 have hla : (K i).late = 0 := by rw [hK]; rfl
 have hidxK : (K i).idx = none := by rw [hK]; rfl
 have hopen := (h.counted hi hlt hcn).1
 have hne : ic ≠ i := fun e => by have := (Mode.waits hm).1; rw [e, hcn] at this; cases this
 obtain ⟨hd, hrun, hstp⟩ := hstop
 have hle : (K i).cnt <= sumTo gs.size fun i => (K i).cnt := le_sumTo (f := fun i => (K i).cnt) hlt
 have hcW : p.c ≠ p.Wg := h.phase.2.2.1
 have hq : ∀ (k' : GS), sumTo gs.size (fun a => (upd K i k' a).cnt) + (K i).cnt = sumTo gs.size (fun a => (K a).cnt) + k'.cnt := fun k' => sum_upd K k' GS.cnt hlt
 have hq' : ∀ (k' : GS), sumTo gs.size (fun a => (upd K i k' a).late) + (K i).late = sumTo gs.size (fun a => (K a).late) + k'.late := fun k' => sum_upd K k' GS.late hlt
 have hless : ∀ k' : GS, k'.view Im = noView -> Less (k'.view Im) ((K i).view Im) := fun k' e => by rw [e]; exact less_none _
 have leave : ∀ (wt v : Nat), wt <= 1 -> v + 1 = (sumTo gs.size fun i => (K i).cnt) -> v < 4 -> ¬ (v = 0 /\ wt = 1) -> s = .early -> (sumTo gs.size fun i => (K i).late) = 0 -> WgAt P p.Wg w (((v + 1 : Nat) : Int) * KK + wt) 0 ->
   ((wt = 0 /\ ((∃ k, (K ic).shape = .head k 0 /\ v < k) \/ (∃ u, (K ic).shape = .cas u 0 /\ v <= u /\ 0 < u))) \/ (wt = 1 /\ ((K ic).shape = .said 0 \/ (K ic).shape = .csem 0))) -> Went P n0 W0 V gs w sl t K Im ic (some p) st i := by
  intro wt v hwt hv hv16 hno hse hla0 hW hcl
  obtain ⟨g', hst, _, hql⟩ := hstp v wt hwt hv16
  obtain ⟨q, hql⟩ := hql hno
  have hqc := hq (.gone q)
  have hqL := hq' (.gone q)
  simp only [hcn, hla] at hqc hqL
  rw [show (GS.gone q).cnt = 0 from rfl] at hqc
  rw [show (GS.gone q).late = 0 from rfl] at hqL
  refine h.atomStep hrv (k' := .gone q) (a := stateAt p.Wg) hs hi hgi (hst w hW) hd (.inr (.inr (.inl rfl))) (.inl rfl) (.inr ⟨_, rfl⟩) hql (hless _ rfl) (fun x => by cases x) rfl hidxK (.inr (.inl hcn)) hopen ?_ (by rw [hK]; exact .inl (by simp [GS.rank]))
  have hW' := hW.set_state ((v : Int) * KK + wt)
  unfold Mode
  simp only [upd_not _ _ hne]
  have ecn : sumTo gs.size (fun a => (upd K i (.gone q) a).cnt) = v := by omega
  have ela : sumTo gs.size (fun a => (upd K i (.gone q) a).late) = 0 := by omega
  simp only [ecn, ela]
  have ho : ∃ n, (w.setCell (stateAt p.Wg) (.int .u64 ((v : Int) * KK + wt))).heap[p.c]? = some (.chan 0 #[] false n n false) := by
   obtain ⟨n, hn⟩ := hopen
   exact ⟨n, by rw [heap_setCell_ne _ _ _ (Ne.symm hcW)]; exact hn⟩
  rcases hcl with ⟨rfl, hcl⟩ | ⟨rfl, hcl⟩
  ·exact .inl ⟨ho, hse, trivial, by omega, by simpa using hW', hcl⟩
  ·exact .inr (.inl ⟨ho, hse, trivial, by omega, by omega, by simpa using hW', hcl⟩)
 unfold Mode at hm
 rcases hm with m | m | m | m | m | m | m
 ·obtain ⟨m1, m2, m3, m4, m5, m6⟩ := m
  refine leave 0 ((sumTo gs.size fun i => (K i).cnt) - 1) (by omega) (by omega) (by omega) (by omega) m2 m3 ?_ (.inl ⟨rfl, ?_⟩)
  ·rw [show (sumTo gs.size fun i => (K i).cnt) - 1 + 1 = (sumTo gs.size fun i => (K i).cnt) by omega]; simpa using m5
  ·rcases m6 with ⟨k, e1, e2⟩ | ⟨u, e1, e2, e3⟩
   ·exact .inl ⟨k, e1, by omega⟩
   ·exact .inr ⟨u, e1, by omega, e3⟩
 ·obtain ⟨m1, m2, m3, m4, m5, m6, m7⟩ := m
  by_cases hv : (sumTo gs.size fun i => (K i).cnt) = 1
  ·
   obtain ⟨g', hst, hll, _⟩ := hstp 0 1 (by omega) (by omega)
   obtain ⟨n', hll⟩ := hll ⟨rfl, rfl⟩
   have hqc := hq (.load n')
   have hqL := hq' (.load n')
   simp only [hcn, hla] at hqc hqL
   rw [show (GS.load n').cnt = 0 from rfl] at hqc
   rw [show (GS.load n').late = 1 from rfl] at hqL
   rw [hv] at m6
   have hW : WgAt P p.Wg w (((0 + 1 : Nat) : Int) * KK + (1 : Nat)) 0 := by simpa using m6
   refine h.atomStep hrv (k' := .load n') (a := stateAt p.Wg) hs hi hgi (hst w hW) hd (.inr (.inr (.inl rfl))) (.inl rfl) (.inr ⟨_, rfl⟩) hll (hless _ rfl) (fun x => by cases x) rfl hidxK (.inr (.inl hcn)) hopen ?_ (by rw [hK]; exact .inl (by simp [GS.rank]))
   have hW' := hW.set_state (((0 : Nat) : Int) * KK + (1 : Nat))
   unfold Mode
   simp only [upd_not _ _ hne]
   have ecn : sumTo gs.size (fun a => (upd K i (.load n') a).cnt) = 0 := by omega
   have ela : sumTo gs.size (fun a => (upd K i (.load n') a).late) = 1 := by omega
   simp only [ecn, ela]
   have ho : ∃ n, (w.setCell (stateAt p.Wg) (.int .u64 (((0 : Nat) : Int) * KK + (1 : Nat)))).heap[p.c]? = some (.chan 0 #[] false n n false) := by
    obtain ⟨n, hn⟩ := hopen
    exact ⟨n, by rw [heap_setCell_ne _ _ _ (Ne.symm hcW)]; exact hn⟩
   refine .inr (.inr (.inl ⟨ho, m2, trivial, trivial, m7, fun _ _ _ => by simpa using hW', fun m hm hsem => ?_⟩))
   exfalso
   have hmi : m ≠ i := fun e => by subst e; rw [upd_at] at hsem; cases hsem
   rw [upd_not _ _ hmi] at hsem
   have hlm : (K m).late <= sumTo gs.size fun i => (K i).late := le_sumTo (f := fun i => (K i).late) hm
   rw [m3, <- GS.late_shape, hsem] at hlm
   simp [GS.late] at hlm
  ·refine leave 1 ((sumTo gs.size fun i => (K i).cnt) - 1) (by omega) (by omega) (by omega) (by omega) m2 m3 ?_ (.inr ⟨rfl, m7⟩)
   rw [show (sumTo gs.size fun i => (K i).cnt) - 1 + 1 = (sumTo gs.size fun i => (K i).cnt) by omega]; simpa using m6
 ·have := m.2.2.2.1; omega
 ·have := m.2.2.2.1; omega
 ·have := m.2.2.2.1; omega
 ·have := m.2.2.2.1; omega
 ·have := m.2.2.1; omega
theorem Mode.lateOf {c Wg N : Nat} {s : Stage} (hm : Mode P c Wg N w gs t K ic s) {i : Nat} (hlt : i < N) (hla : (K i).late = 1) :
  (∃ n, w.heap[c]? = some (.chan 0 #[] false n n false)) /\ s = .early /\ (sumTo N fun i => (K i).late) = 1 /\ (sumTo N fun i => (K i).cnt) = 0 /\ ((K ic).shape = .said 0 \/ (K ic).shape = .csem 0) /\
  (((K i).shape = .load 0 \/ (K i).shape = .store 0) -> WgAt P Wg w 1 0) /\ ((K i).shape = .sem 0 -> WgAt P Wg w 0 0) := by
 have hle : (K i).late <= sumTo N fun i => (K i).late := le_sumTo (f := fun i => (K i).late) hlt
 unfold Mode at hm
 rcases hm with m | m | m | m | m | m | m
 ·have := m.2.2.1; omega
 ·have := m.2.2.1; omega
 ·exact ⟨m.1, m.2.1, m.2.2.1, m.2.2.2.1, m.2.2.2.2.1, m.2.2.2.2.2.1 i hlt, m.2.2.2.2.2.2 i hlt⟩
 ·have := m.2.2.1; omega
 ·have := m.2.2.1; omega
 ·have := m.2.2.1; omega
 ·have := m.2.1; omega
theorem one_late {N : Nat} (h : (sumTo N fun i => (K i).late) = 1) {i m : Nat} (hi : i < N) (hm : m < N) (hne : m ≠ i) (hla : (K i).late = 1) : (K m).late = 0 := by
 have := sum_upd K (.gone 0) GS.late hi
 have h2 : ((upd K i (.gone 0)) m).late <= sumTo N fun a => (upd K i (.gone 0) a).late := le_sumTo (f := fun a => (upd K i (.gone 0) a).late) hm
 rw [upd_not _ _ hne] at h2
 simp only [hla, h, show (GS.gone 0).late = 0 from rfl] at this
 omega
theorem Inv.lateStep (h : Inv P n0 W0 V gs w t K Im ic (some p) st) (hrv : p.recv = true) {i : Nat} {gi gi' : Goroutine} {es : Array Event} {k' : GS} {a : Addr} (hi : 0 < i) (hgi : gs[i]? = some gi) (hst : stepG P false gi w = .go gi' w' es) (hd : Deaf t i = 1)
  (ha : Atom a es) (haW : a = stateAt p.Wg \/ a = semaAt p.Wg) (hw' : w' = w \/ ∃ x, w' = w.setCell a x) (hk : k'.is P p.c p.Wg Im p.Ss 1 gi') (hv : k'.view Im = noView) (hidx : k'.idx = none) (hidxK : (K i).idx = none) (hcnt : (K i).cnt = 0) (hcnt' : k'.cnt = 0) (hclo : k'.closer = false) (hla : (K i).late = 1)
  (hend : (k'.late = 1 /\ ((k'.shape = .load 0 \/ k'.shape = .store 0) -> WgAt P p.Wg w' 1 0) /\ (k'.shape = .sem 0 -> WgAt P p.Wg w' 0 0)) \/
   (k'.late = 0 /\ WgAt P p.Wg w' 0 1 /\ ∀ g, ((gs.map (woken P gi gi' w')).setIfInBounds i gi')[ic]? = some g -> g.status = .running)) (hrank : RankLt k'.rank (K i).rank) : Went P n0 W0 V gs w sl t K Im ic (some p) st i := by
 have hlt : i < gs.size := (Array.getElem?_eq_some_iff.1 hgi).1
 obtain ⟨s, hs, hic0, hicl, hm⟩ := h.mode hrv
 obtain ⟨m1, m2, m3, m4, m5, m6, m7⟩ := hm.lateOf hlt hla
 have hne : ic ≠ i := fun e => by have := (Mode.waits hm).2; rw [e, hla] at this; cases this
 have hcW : p.c ≠ p.Wg := h.phase.2.2.1
 have hblk : a.block = p.Wg := by rcases haW with rfl | rfl <;> rfl
 have hfr : ∀ b, b ≠ p.Wg -> w'.heap[b]? = w.heap[b]? := fun b hb => by
  rcases hw' with rfl | ⟨x, rfl⟩
  ·rfl
  ·exact heap_setCell_ne _ _ _ (by rw [hblk]; exact Ne.symm hb)
 refine h.atomStep hrv hs hi hgi hst hd ha haW hw' hk (by rw [hv]; exact less_none _) (fun x => by rw [hclo] at x; cases x) hidx hidxK (.inr (.inr hla)) m1 ?_ hrank
 have e1 : sumTo gs.size (fun a => (upd K i k' a).cnt) = 0 := by have := sum_upd K k' GS.cnt hlt; simp only [hcnt, hcnt', m4] at this; omega
 unfold Mode
 simp only [upd_not _ _ hne, e1, hfr _ hcW]
 rcases hend with ⟨x1, x2, x3⟩ | ⟨x1, x2, x3⟩
 ·have e2 : sumTo gs.size (fun a => (upd K i k' a).late) = 1 := by have := sum_upd K k' GS.late hlt; simp only [hla, x1, m3] at this; omega
  refine .inr (.inr (.inl ⟨m1, m2, e2, trivial, m5, fun m hm hsh => ?_, fun m hm hsh => ?_⟩))
  ·by_cases hmi : m = i
   ·subst hmi; rw [upd_at] at hsh; exact x2 hsh
   ·rw [upd_not _ _ hmi] at hsh
    have := one_late m3 hlt hm hmi hla
    rw [<- GS.late_shape] at this
    rcases hsh with e | e <;> rw [e] at this <;> cases this
  ·by_cases hmi : m = i
   ·subst hmi; rw [upd_at] at hsh; exact x3 hsh
   ·rw [upd_not _ _ hmi] at hsh
    have := one_late m3 hlt hm hmi hla
    rw [<- GS.late_shape, hsh] at this; cases this
 ·have e2 : sumTo gs.size (fun a => (upd K i k' a).late) = 0 := by have := sum_upd K k' GS.late hlt; simp only [hla, x1, m3] at this; omega
  exact .inr (.inr (.inr (.inl ⟨m1, m2, e2, trivial, x2, x3, m5⟩)))
theorem Inv.loadStep (h : Inv P n0 W0 V gs w t K Im ic (some p) st) (hrv : p.recv = true) {i n : Nat} {gi : Goroutine} (hi : 0 < i) (hgi : gs[i]? = some gi) (hK : K i = .load n) (hstop : DLoad P p.Wg (Deaf t i) gi) : Went P n0 W0 V gs w sl t K Im ic (some p) st i := by
 have hlt : i < gs.size := (Array.getElem?_eq_some_iff.1 hgi).1
 obtain ⟨s, hs, hic0, hicl, hm⟩ := h.mode hrv
 have hla : (K i).late = 1 := by rw [hK]; rfl
 obtain ⟨m1, m2, m3, m4, m5, m6, m7⟩ := hm.lateOf hlt hla
 obtain ⟨hd, hrun, g', hst, n', hsl⟩ := hstop
 have hW := m6 (by rw [hK]; exact .inl rfl)
 exact h.lateStep hrv (k' := .store n') (a := stateAt p.Wg) hi hgi (hst w hW) hd (.inl rfl) (.inl rfl) (.inl rfl) hsl rfl rfl (by rw [hK]; rfl) (by rw [hK]; rfl) rfl rfl hla (.inl ⟨rfl, fun _ => hW, fun x => by cases x⟩) (by rw [hK]; exact .inl (by simp [GS.rank]))
theorem Inv.storeStep (h : Inv P n0 W0 V gs w t K Im ic (some p) st) (hrv : p.recv = true) {i n : Nat} {gi : Goroutine} (hi : 0 < i) (hgi : gs[i]? = some gi) (hK : K i = .store n) (hstop : DStore P p.Wg (Deaf t i) gi) : Went P n0 W0 V gs w sl t K Im ic (some p) st i := by
 have hlt : i < gs.size := (Array.getElem?_eq_some_iff.1 hgi).1
 obtain ⟨s, hs, hic0, hicl, hm⟩ := h.mode hrv
 have hla : (K i).late = 1 := by rw [hK]; rfl
 obtain ⟨m1, m2, m3, m4, m5, m6, m7⟩ := hm.lateOf hlt hla
 obtain ⟨hd, hrun, g', hst, n', hsl⟩ := hstop
 have hW := m6 (by rw [hK]; exact .inr rfl)
 exact h.lateStep hrv (k' := .sem n') (a := stateAt p.Wg) hi hgi (hst w hW) hd (.inr (.inl rfl)) (.inl rfl) (.inr ⟨_, rfl⟩) hsl rfl rfl (by rw [hK]; rfl) (by rw [hK]; rfl) rfl rfl hla (.inl ⟨rfl, fun x => (x.elim (fun y => by cases y) (fun y => by cases y)), fun _ => hW.set_state 0⟩) (by rw [hK]; exact .inl (by simp [GS.rank]))
theorem Inv.semStep (h : Inv P n0 W0 V gs w t K Im ic (some p) st) (hrv : p.recv = true) {i n : Nat} {gi : Goroutine} (hi : 0 < i) (hgi : gs[i]? = some gi) (hK : K i = .sem n) (hstop : DSem P p.Wg (Deaf t i) gi) : Went P n0 W0 V gs w sl t K Im ic (some p) st i := by
 have hlt : i < gs.size := (Array.getElem?_eq_some_iff.1 hgi).1
 obtain ⟨s, hs, hic0, hicl, hm⟩ := h.mode hrv
 have hla : (K i).late = 1 := by rw [hK]; rfl
 obtain ⟨m1, m2, m3, m4, m5, m6, m7⟩ := hm.lateOf hlt hla
 obtain ⟨hd, hrun, hmw, g', hst, q, hql⟩ := hstop
 have hW := m7 (by rw [hK]; rfl)
 have hne : ic ≠ i := fun e => by have := (Mode.waits hm).2; rw [e, hla] at this; cases this
 refine h.lateStep hrv (k' := .gone q) (a := semaAt p.Wg) hi hgi (hst w hW) hd (.inr (.inr (.inr rfl))) (.inr rfl) (.inr ⟨_, rfl⟩) hql rfl rfl (by rw [hK]; rfl) (by rw [hK]; rfl) rfl rfl hla (.inr ⟨rfl, hW.set_sema 1, fun g hg => ?_⟩) (by rw [hK]; exact .inl (by simp [GS.rank]))
 rcases getElem?_next hlt hg with ⟨e, _⟩ | ⟨_, y, hy, rfl⟩
 ·exact absurd e hne
 ·have hiy := h.is ic y hic0 hy
  simp only at hiy
  have hsh : (∃ n, K ic = .said n) \/ ∃ n, K ic = .csem n := by
   cases hKc : K ic <;> rw [hKc] at m5 <;> simp [GS.shape] at m5
   ·exact .inl ⟨_, rfl⟩
   ·exact .inr ⟨_, rfl⟩
  rcases hsh with ⟨n1, e⟩ | ⟨n1, e⟩
  ·rw [e] at hiy
   have hr : y.status = .running := SlideW.running (fun d g x => x.2.1) hiy
   rw [woken_run hr]; exact hr
  ·rw [e] at hiy
   rcases hiy with hiy | ⟨_, g1, rfl, hg1⟩
   ·have hr : y.status = .running := Slide.running (fun d g x => x.2.1) hiy
    rw [woken_run hr]; exact hr
   ·have hgs : g'.status = .running \/ g'.status = .finished := QuitsD.status hql
    unfold woken
    have hcnd : (mayWake P gi && g'.status != .blocked && g'.status != .waiting) = true := by rcases hgs with hs | hs <;> simp [hmw, hs]
    rw [if_pos hcnd]
    unfold Goroutine.again
    have := hg1.2.2.1
    simp [this]
theorem Mode.atHead {c Wg N k : Nat} {s : Stage} (hm : Mode P c Wg N w gs t K ic s) (e : (K ic).shape = .head k 0) :
  (∃ n, w.heap[c]? = some (.chan 0 #[] false n n false)) /\ s = .early /\ (sumTo N fun i => (K i).late) = 0 /\ (sumTo N fun i => (K i).cnt) <= 4 /\ WgAt P Wg w (((sumTo N fun i => (K i).cnt : Nat) : Int) * KK) 0 /\ (sumTo N fun i => (K i).cnt) < k := by
 unfold Mode at hm
 simp only [e] at hm
 rcases hm with m | m | m | m | m | m | m
 ·obtain ⟨a, b, c, d, f, x⟩ := m
  refine ⟨a, b, c, d, f, ?_⟩
  rcases x with ⟨k', x, y⟩ | ⟨v, x, _⟩
  ·cases x; exact y
  ·cases x
 ·rcases m.2.2.2.2.2.2 with x | x <;> cases x
 ·rcases m.2.2.2.2.1 with x | x <;> cases x
 ·rcases m.2.2.2.2.2.2 with x | x <;> cases x
 ·rcases m.2.2.2.2.2 with x | x <;> cases x
 ·rcases m.2.2.2.2 with x | x <;> cases x
 ·cases m.2.2.2
theorem Mode.atCas {c Wg N v : Nat} {s : Stage} (hm : Mode P c Wg N w gs t K ic s) (e : (K ic).shape = .cas v 0) :
  (∃ n, w.heap[c]? = some (.chan 0 #[] false n n false)) /\ s = .early /\ (sumTo N fun i => (K i).late) = 0 /\ (sumTo N fun i => (K i).cnt) <= 4 /\ WgAt P Wg w (((sumTo N fun i => (K i).cnt : Nat) : Int) * KK) 0 /\ (sumTo N fun i => (K i).cnt) <= v /\ 0 < v := by
 unfold Mode at hm
 simp only [e] at hm
 rcases hm with m | m | m | m | m | m | m
 ·obtain ⟨a, b, c, d, f, x⟩ := m
  refine ⟨a, b, c, d, f, ?_⟩
  rcases x with ⟨k', x, y⟩ | ⟨v, x, y⟩
  ·cases x
  ·cases x; exact y
 ·rcases m.2.2.2.2.2.2 with x | x <;> cases x
 ·rcases m.2.2.2.2.1 with x | x <;> cases x
 ·rcases m.2.2.2.2.2.2 with x | x <;> cases x
 ·rcases m.2.2.2.2.2 with x | x <;> cases x
 ·rcases m.2.2.2.2 with x | x <;> cases x
 ·cases m.2.2.2
theorem Mode.atLast {c Wg N : Nat} {s : Stage} (hm : Mode P c Wg N w gs t K ic s) (e : (K ic).shape = .last 0 \/ (K ic).shape = .acq 0) :
  (∃ n, w.heap[c]? = some (.chan 0 #[] false n n false)) /\ s = .early /\ (sumTo N fun i => (K i).late) = 0 /\ (sumTo N fun i => (K i).cnt) = 0 /\ WgAt P Wg w 0 0 := by
 unfold Mode at hm
 rcases hm with m | m | m | m | m | m | m
 ·rcases m.2.2.2.2.2 with ⟨_, x, _⟩ | ⟨_, x, _⟩ <;> rcases e with e | e <;> rw [e] at x <;> cases x
 ·rcases m.2.2.2.2.2.2 with x | x <;> rcases e with e | e <;> rw [e] at x <;> cases x
 ·rcases m.2.2.2.2.1 with x | x <;> rcases e with e | e <;> rw [e] at x <;> cases x
 ·rcases m.2.2.2.2.2.2 with x | x <;> rcases e with e | e <;> rw [e] at x <;> cases x
 ·exact ⟨m.1, m.2.1, m.2.2.1, m.2.2.2.1, m.2.2.2.2.1⟩
 ·rcases m.2.2.2.2 with x | x <;> rcases e with e | e <;> rw [e] at x <;> cases x
 ·have x := m.2.2.2; rcases e with e | e <;> rw [e] at x <;> cases x
theorem Mode.atLook {c Wg N : Nat} {s : Stage} (hm : Mode P c Wg N w gs t K ic s) (e : (K ic).shape = .look 0 \/ (K ic).shape = .close 0) :
  (∃ n, w.heap[c]? = some (.chan 0 #[] false n n false)) /\ s = .got /\ (sumTo N fun i => (K i).late) = 0 /\ (sumTo N fun i => (K i).cnt) = 0 := by
 unfold Mode at hm
 rcases hm with m | m | m | m | m | m | m
 ·rcases m.2.2.2.2.2 with ⟨_, x, _⟩ | ⟨_, x, _⟩ <;> rcases e with e | e <;> rw [e] at x <;> cases x
 ·rcases m.2.2.2.2.2.2 with x | x <;> rcases e with e | e <;> rw [e] at x <;> cases x
 ·rcases m.2.2.2.2.1 with x | x <;> rcases e with e | e <;> rw [e] at x <;> cases x
 ·rcases m.2.2.2.2.2.2 with x | x <;> rcases e with e | e <;> rw [e] at x <;> cases x
 ·rcases m.2.2.2.2.2 with x | x <;> rcases e with e | e <;> rw [e] at x <;> cases x
 ·exact ⟨m.1, m.2.1, m.2.2.1, m.2.2.2.1⟩
 ·have x := m.2.2.2; rcases e with e | e <;> rw [e] at x <;> cases x
theorem Mode.atSaid {c Wg N : Nat} {s : Stage} (hm : Mode P c Wg N w gs t K ic s) (e : (K ic).shape = .said 0 \/ (K ic).shape = .csem 0) :
  (∃ n, w.heap[c]? = some (.chan 0 #[] false n n false)) /\ s = .early /\ ((∃ st, WgAt P Wg w st 0) \/ ((sumTo N fun i => (K i).late) = 0 /\ (sumTo N fun i => (K i).cnt) = 0 /\ WgAt P Wg w 0 1)) /\
  ∀ {w' : World} {gs' : Array Goroutine} {u : Trace} {k' : GS}, (k'.shape = .said 0 \/ k'.shape = .csem 0) -> w'.heap[c]? = w.heap[c]? -> w'.heap[Wg]? = w.heap[Wg]? -> (WgAt P Wg w 0 1 -> ∀ g, gs'[ic]? = some g -> g.status = .running) -> ic < N -> Mode P c Wg N w' gs' (t ++ u) (upd K ic k') ic s := by
 have wait : ∀ {k : GS}, (k.shape = .said 0 \/ k.shape = .csem 0) -> k.cnt = 0 /\ k.late = 0 := fun {k} h => by rw [<- GS.cnt_shape, <- GS.late_shape]; rcases h with h | h <;> rw [h] <;> exact ⟨rfl, rfl⟩
 have tail : ∀ (w' : World) (gs' : Array Goroutine) (u : Trace) (k' : GS), (k'.shape = .said 0 \/ k'.shape = .csem 0) -> w'.heap[c]? = w.heap[c]? -> w'.heap[Wg]? = w.heap[Wg]? -> (WgAt P Wg w 0 1 -> ∀ g, gs'[ic]? = some g -> g.status = .running) -> ic < N -> Mode P c Wg N w' gs' (t ++ u) (upd K ic k') ic s := by
  intro w' gs' u k' hk hc hW hr hic
  have e1 : sumTo N (fun i => (upd K ic k' i).cnt) = sumTo N fun i => (K i).cnt := sum_same K k' GS.cnt (by rw [(wait hk).1, (wait e).1])
  have e2 : sumTo N (fun i => (upd K ic k' i).late) = sumTo N fun i => (K i).late := sum_same K k' GS.late (by rw [(wait hk).2, (wait e).2])
  have e3 : ∀ st sm, WgAt P Wg w' st sm = WgAt P Wg w st sm := fun st sm => by unfold WgAt; rw [hW]
  have e5 : ∀ i (q : GS), (q = .load 0 \/ q = .store 0 \/ q = .sem 0) -> (upd K ic k' i).shape = q -> (K i).shape = q := fun i q hq hs => by
   by_cases hi : i = ic
   ·subst hi; rw [upd_at] at hs
    rcases hk with x | x <;> rw [x] at hs <;> subst hs <;> rcases hq with y | y | y <;> cases y
   ·rw [upd_not _ _ hi] at hs; exact hs
  unfold Mode at hm ⊢
  simp only [e1, e2, e3, hc, upd_at]
  rcases hm with m | m | m | m | m | m | m
  ·rcases m.2.2.2.2.2 with ⟨_, x, _⟩ | ⟨_, x, _⟩ <;> rcases e with e | e <;> rw [e] at x <;> cases x
  ·exact .inr (.inl ⟨m.1, m.2.1, m.2.2.1, m.2.2.2.1, m.2.2.2.2.1, m.2.2.2.2.2.1, hk⟩)
  ·exact .inr (.inr (.inl ⟨m.1, m.2.1, m.2.2.1, m.2.2.2.1, hk, fun i hi x => m.2.2.2.2.2.1 i hi (x.imp (e5 i _ (.inl rfl)) (e5 i _ (.inr (.inl rfl)))), fun i hi x => m.2.2.2.2.2.2 i hi (e5 i _ (.inr (.inr rfl)) x)⟩))
  ·exact .inr (.inr (.inr (.inl ⟨m.1, m.2.1, m.2.2.1, m.2.2.2.1, m.2.2.2.2.1, hr m.2.2.2.2.1, hk⟩)))
  ·rcases m.2.2.2.2.2 with x | x <;> rcases e with e | e <;> rw [e] at x <;> cases x
  ·rcases m.2.2.2.2 with x | x <;> rcases e with e | e <;> rw [e] at x <;> cases x
  ·have x := m.2.2.2; rcases e with e | e <;> rw [e] at x <;> cases x
 have hm0 := hm
 unfold Mode at hm
 rcases hm with m | m | m | m | m | m | m
 ·rcases m.2.2.2.2.2 with ⟨_, x, _⟩ | ⟨_, x, _⟩ <;> rcases e with e | e <;> rw [e] at x <;> cases x
 ·exact ⟨m.1, m.2.1, .inl ⟨_, m.2.2.2.2.2.1⟩, fun {w'} {gs'} {u} {k'} => tail w' gs' u k'⟩
 ·refine ⟨m.1, m.2.1, .inl ?_, fun {w'} {gs'} {u} {k'} => tail w' gs' u k'⟩
  have : ∃ i, i < N /\ (K i).late = 1 := by
   apply Classical.byContradiction
   intro hno
   have hz : sumTo N (fun i => (K i).late) = sumTo N fun _ => 0 := sumTo_congr fun i hi => by
    have hne : ¬ (K i).late = 1 := fun x => hno ⟨i, hi, x⟩
    cases hKi : K i <;> rw [hKi] at hne <;> first | rfl | exact absurd rfl hne
   have h0 : sumTo N (fun _ => 0) = 0 := by
    have : ∀ N, sumTo N (fun _ => 0) = 0 := fun N => by induction N with | zero => rfl | succ N ih => simp [sumTo, ih]
    exact this N
   have := m.2.2.1
   omega
  obtain ⟨i, hi, hla⟩ := this
  obtain ⟨_, _, _, _, _, m6, m7⟩ := hm0.lateOf hi hla
  cases hKi : K i <;> rw [hKi] at hla m6 m7 <;> simp [GS.late] at hla
  ·exact ⟨1, m6 (.inl rfl)⟩
  ·exact ⟨1, m6 (.inr rfl)⟩
  ·exact ⟨0, m7 rfl⟩
 ·exact ⟨m.1, m.2.1, .inr ⟨m.2.2.1, m.2.2.2.1, m.2.2.2.2.1⟩, fun {w'} {gs'} {u} {k'} => tail w' gs' u k'⟩
 ·rcases m.2.2.2.2.2 with x | x <;> rcases e with e | e <;> rw [e] at x <;> cases x
 ·rcases m.2.2.2.2 with x | x <;> rcases e with e | e <;> rw [e] at x <;> cases x
 ·have x := m.2.2.2; rcases e with e | e <;> rw [e] at x <;> cases x
theorem less_imm (Im : Imm) : Less { noView with imm := Im } { noView with imm := Im } := ⟨fun _ => .inr rfl, fun _ _ => .inr rfl, fun _ _ _ => rfl⟩
theorem less_imm_none (Im : Imm) : Less noView { noView with imm := Im } := ⟨fun _ => .inr rfl, fun _ _ => .inl rfl, fun b hb => absurd rfl hb⟩
theorem Inv.closerAtom (h : Inv P n0 W0 V gs w t K Im ic (some p) st) (hrv : p.recv = true) {gi gi' : Goroutine} {es : Array Event} {k' : GS} {a : Addr} {s : Stage} (hs : st = some s) (hgi : gs[ic]? = some gi) (hst : stepG P false gi w = .go gi' w' es) (hd : Deaf t ic = 1)
  (ha : Atom a es) (haW : a = stateAt p.Wg \/ a = semaAt p.Wg) (hw' : w' = w \/ ∃ x, w' = w.setCell a x) (hk : k'.is P p.c p.Wg Im p.Ss 1 gi') (hv : k'.view Im = { noView with imm := Im }) (hv' : (K ic).view Im = { noView with imm := Im }) (hidx : k'.idx = none) (hidxK : (K ic).idx = none)
  (hopen : ∃ n, w.heap[p.c]? = some (.chan 0 #[] false n n false))
  (hmode : Mode P p.c p.Wg gs.size w' ((gs.map (woken P gi gi' w')).setIfInBounds ic gi') (t ++ MemOp.ofEvents ic gi.frame.fn gi.frame.place es) (upd K ic k') ic s) (hrank : RankLt k'.rank (K ic).rank) : Went P n0 W0 V gs w sl t K Im ic (some p) st ic := by
 obtain ⟨s', _, hic0, _, _⟩ := h.mode hrv
 exact h.atomStep hrv hs hic0 hgi hst hd ha haW hw' hk (by rw [hv, hv']; exact less_imm Im) (fun _ => rfl) hidx hidxK (.inl rfl) hopen hmode hrank
theorem Inv.headStep (h : Inv P n0 W0 V gs w t K Im ic (some p) st) (hrv : p.recv = true) {k n : Nat} {gi : Goroutine} (hgi : gs[ic]? = some gi) (hK : K ic = .head k n) (hstop : CHead P Im p.c p.Wg k (Deaf t ic) gi) : Went P n0 W0 V gs w sl t K Im ic (some p) st ic := by
 obtain ⟨s, hs, hic0, hicl, hm⟩ := h.mode hrv
 obtain ⟨m1, m2, m3, m4, m5, m6⟩ := hm.atHead (k := k) (by rw [hK]; rfl)
 obtain ⟨k, rfl⟩ : ∃ k', k = k' + 1 := ⟨k - 1, by omega⟩
 obtain ⟨hd, hrun, hstp⟩ := CHead.succ _ _ _ _ hstop
 obtain ⟨g', hst, hz, hnz⟩ := hstp _ (by omega) m4
 have hst' := hst w m5
 have cnts : ∀ k' : GS, k'.cnt = 0 -> k'.late = 0 -> sumTo gs.size (fun i => (upd K ic k' i).cnt) = (sumTo gs.size fun i => (K i).cnt) /\ sumTo gs.size (fun i => (upd K ic k' i).late) = (sumTo gs.size fun i => (K i).late) := fun k' h1 h2 =>
  ⟨sum_same K k' GS.cnt (by rw [h1, hK]; rfl), sum_same K k' GS.late (by rw [h2, hK]; rfl)⟩
 by_cases hv : (sumTo gs.size fun i => (K i).cnt) = 0
 ·obtain ⟨n', hsl⟩ := hz hv
  refine h.closerAtom hrv (k' := .acq n') (a := stateAt p.Wg) hs hgi hst' hd (.inl rfl) (.inl rfl) (.inl rfl) hsl rfl (by rw [hK]; rfl) rfl (by rw [hK]; rfl) m1 ?_ (by rw [hK]; exact .inl (by simp [GS.rank]; omega))
  unfold Mode
  simp only [(cnts (.acq n') rfl rfl).1, (cnts (.acq n') rfl rfl).2, upd_at]
  refine .inr (.inr (.inr (.inr (.inl ⟨m1, m2, m3, hv, ?_, .inr rfl⟩))))
  rw [hv] at m5; simpa using m5
 ·obtain ⟨n', hsl⟩ := hnz hv
  refine h.closerAtom hrv (k' := .cas (sumTo gs.size fun i => (K i).cnt) n') (a := stateAt p.Wg) hs hgi hst' hd (.inl rfl) (.inl rfl) (.inl rfl) hsl rfl (by rw [hK]; rfl) rfl (by rw [hK]; rfl) m1 ?_ (by rw [hK]; exact .inl (by simp [GS.rank]; omega))
  unfold Mode
  simp only [(cnts (.cas _ n') rfl rfl).1, (cnts (.cas _ n') rfl rfl).2, upd_at]
  exact .inl ⟨m1, m2, m3, m4, m5, .inr ⟨_, rfl, Nat.le_refl _, by omega⟩⟩
theorem Inv.casStep (h : Inv P n0 W0 V gs w t K Im ic (some p) st) (hrv : p.recv = true) {v n : Nat} {gi : Goroutine} (hgi : gs[ic]? = some gi) (hK : K ic = .cas v n) (hstop : CCas P p.c p.Wg Im v (Deaf t ic) gi) : Went P n0 W0 V gs w sl t K Im ic (some p) st ic := by
 obtain ⟨s, hs, hic0, hicl, hm⟩ := h.mode hrv
 obtain ⟨m1, m2, m3, m4, m5, m6, m7⟩ := hm.atCas (v := v) (by rw [hK]; rfl)
 obtain ⟨hd, hrun, ⟨g1, hst1, n1, hsl1⟩, hmiss⟩ := hstop
 have hcW : p.c ≠ p.Wg := h.phase.2.2.1
 have cnts : ∀ k' : GS, k'.cnt = 0 -> k'.late = 0 -> sumTo gs.size (fun i => (upd K ic k' i).cnt) = (sumTo gs.size fun i => (K i).cnt) /\ sumTo gs.size (fun i => (upd K ic k' i).late) = (sumTo gs.size fun i => (K i).late) := fun k' h1 h2 =>
  ⟨sum_same K k' GS.cnt (by rw [h1, hK]; rfl), sum_same K k' GS.late (by rw [h2, hK]; rfl)⟩
 by_cases hv : (sumTo gs.size fun i => (K i).cnt) = v
 ·refine h.closerAtom hrv (k' := .said n1) (a := stateAt p.Wg) hs hgi (hst1 w (by rw [<- hv]; exact m5)) hd (.inr (.inr (.inl rfl))) (.inl rfl) (.inr ⟨_, rfl⟩) hsl1 rfl (by rw [hK]; rfl) rfl (by rw [hK]; rfl) m1 ?_ (by rw [hK]; exact .inl (by simp [GS.rank]; omega))
  unfold Mode
  simp only [(cnts (.said n1) rfl rfl).1, (cnts (.said n1) rfl rfl).2, upd_at]
  refine .inr (.inl ⟨?_, m2, m3, by omega, m4, ?_, .inl rfl⟩)
  ·obtain ⟨n, hn⟩ := m1
   exact ⟨n, by rw [heap_setCell_ne _ _ _ (Ne.symm hcW)]; exact hn⟩
  ·rw [hv]; exact m5.set_state _
 ·obtain ⟨g', hst', n', hsl⟩ := hmiss (sumTo gs.size fun i => (K i).cnt) (by omega)
  refine h.closerAtom hrv (k' := .head v n') (a := stateAt p.Wg) hs hgi (hst' w m5) hd (.inl rfl) (.inl rfl) (.inl rfl) hsl rfl (by rw [hK]; rfl) rfl (by rw [hK]; rfl) m1 ?_ (by rw [hK]; exact .inl (by simp [GS.rank]))
  unfold Mode
  simp only [(cnts (.head v n') rfl rfl).1, (cnts (.head v n') rfl rfl).2, upd_at]
  exact .inl ⟨m1, m2, m3, m4, m5, .inl ⟨v, rfl, by omega⟩⟩
theorem Inv.lastStep (h : Inv P n0 W0 V gs w t K Im ic (some p) st) (hrv : p.recv = true) {n : Nat} {gi : Goroutine} (hgi : gs[ic]? = some gi) (hK : K ic = .last n) (hstop : CLast P Im p.c p.Wg (Deaf t ic) gi) : Went P n0 W0 V gs w sl t K Im ic (some p) st ic := by
 obtain ⟨s, hs, hic0, hicl, hm⟩ := h.mode hrv
 obtain ⟨m1, m2, m3, m4, m5⟩ := hm.atLast (.inl (by rw [hK]; rfl))
 obtain ⟨hd, hrun, g', hst, n', hsl⟩ := hstop
 refine h.closerAtom hrv (k' := .acq n') (a := stateAt p.Wg) hs hgi (hst w m5) hd (.inl rfl) (.inl rfl) (.inl rfl) hsl rfl (by rw [hK]; rfl) rfl (by rw [hK]; rfl) m1 ?_ (by rw [hK]; exact .inl (by simp [GS.rank]))
 unfold Mode
 have e1 : sumTo gs.size (fun i => (upd K ic (.acq n') i).cnt) = 0 := by rw [sum_same K (.acq n') GS.cnt (by rw [hK]; rfl)]; exact m4
 have e2 : sumTo gs.size (fun i => (upd K ic (.acq n') i).late) = 0 := by rw [sum_same K (.acq n') GS.late (by rw [hK]; rfl)]; exact m3
 simp only [e1, e2, upd_at]
 exact .inr (.inr (.inr (.inr (.inl ⟨m1, m2, trivial, trivial, m5, .inr rfl⟩))))
theorem Inv.csemStep (h : Inv P n0 W0 V gs w t K Im ic (some p) st) (hrv : p.recv = true) {n : Nat} {gi : Goroutine} (hgi : gs[ic]? = some gi) (hK : K ic = .csem n) (hstop : CSem P Im p.c p.Wg (Deaf t ic) gi) : Went P n0 W0 V gs w sl t K Im ic (some p) st ic := by
 obtain ⟨s, hs, hic0, hicl, hm⟩ := h.mode hrv
 obtain ⟨m1, m2, m3, mk⟩ := hm.atSaid (.inr (by rw [hK]; rfl))
 obtain ⟨hd, hrun, hoff, hblk, g', htake, n', hsl⟩ := hstop
 have hcW : p.c ≠ p.Wg := h.phase.2.2.1
 rcases m3 with ⟨stv, hW⟩ | ⟨m4, m5, hW⟩
 ·
  have hst := hblk w stv hW
  have hnot : ¬ WgAt P p.Wg w 0 1 := fun x => by have := (hW.inj x).2; cases this
  refine h.shared hrv (k' := .csem 0) (s' := s) hic0 hgi hst (.inr ⟨rfl, gi, rfl, by rw [hd]; exact ⟨rfl, hrun, hoff, hblk, g', htake, n', hsl⟩⟩) (by rw [hK]; exact less_imm Im) (fun _ => rfl) rfl (fun j hj => by rw [hK] at hj; cases hj) (.inl rfl) (by simp) (by simp) (by simp) rfl (fun _ _ _ => rfl) rfl rfl rfl
   (mk (.inr rfl) rfl rfl (fun x => absurd x hnot) hicl) (.inl m1) ?_ ?_
  ·have e0 : t ++ MemOp.ofEvents ic gi.frame.fn gi.frame.place #[] = t := by simp [MemOp.ofEvents]
   have hr : Rest p.Wg t K ic st := h.out.2.2.1
   rw [hs] at hr
   refine hr.app (fun idx a ha hx => .inr (hx.app (by obtain ⟨op, hop, _⟩ := touch_of ha; exact lt_size_of_getElem? hop) fun m _ _ hj => .inl ?_)) (fun idx a _ ⟨op, hop, _⟩ _ => by simp [MemOp.ofEvents] at hop)
   by_cases hmi : m = ic
   ·subst hmi; rw [hK] at hj; cases hj
   ·rw [upd_not _ _ hmi]; exact hj
  ·by_cases hn : n = 0
   ·refine .inr ⟨funext fun j => ?_, ?_⟩
    ·by_cases hj : j = ic
     ·subst hj; simp only [upd_at, hK, hn]
     ·simp only [upd_not _ _ hj]
    ·simp only [flag]
     rw [Array.getElem?_setIfInBounds_self_of_lt (by simpa using hicl), hgi]
     simp [hrun]
   ·exact muOf hicl (by rw [hK]; exact .inr ⟨rfl, .inr ⟨rfl, by simp only [GS.rank]; omega⟩⟩)
 ·refine h.closerAtom hrv (k' := .last n') (a := semaAt p.Wg) hs hgi (htake w hW) hd (.inr (.inr (.inr rfl))) (.inr rfl) (.inr ⟨_, rfl⟩) hsl rfl (by rw [hK]; rfl) rfl (by rw [hK]; rfl) m1 ?_ (by rw [hK]; exact .inl (by simp [GS.rank]))
  unfold Mode
  have e1 : sumTo gs.size (fun i => (upd K ic (.last n') i).cnt) = 0 := by rw [sum_same K (.last n') GS.cnt (by rw [hK]; rfl)]; exact m5
  have e2 : sumTo gs.size (fun i => (upd K ic (.last n') i).late) = 0 := by rw [sum_same K (.last n') GS.late (by rw [hK]; rfl)]; exact m4
  simp only [e1, e2, upd_at]
  obtain ⟨n, hn⟩ := m1
  exact .inr (.inr (.inr (.inr (.inl ⟨⟨n, by rw [heap_setCell_ne _ _ _ (Ne.symm hcW)]; exact hn⟩, m2, trivial, trivial, hW.set_sema 0, .inl rfl⟩))))
theorem Inv.saidStep (h : Inv P n0 W0 V gs w t K Im ic (some p) st) (hrv : p.recv = true) {n : Nat} {gi : Goroutine} (hgi : gs[ic]? = some gi) (hK : K ic = .said n) (hstop : CSaid P Im p.c p.Wg (Deaf t ic) gi) : Went P n0 W0 V gs w sl t K Im ic (some p) st ic := by
 obtain ⟨s, hs, hic0, hicl, hm⟩ := h.mode hrv
 obtain ⟨m1, m2, m3, mk⟩ := hm.atSaid (.inl (by rw [hK]; rfl))
 obtain ⟨hd, hrun, g', hst, n', hsl⟩ := hstop
 have hmt : ∀ e ∈ #[eMk (.write (semaAt p.Wg))], e = eMk (.write (semaAt p.Wg)) := fun e he => by simpa using he
 have hrun' : g'.status = .running := Slide.running (fun d g x => x.2.1) hsl
 refine h.shared hrv (k' := .csem n') (s' := s) hic0 hgi (hst w) (.inl (by rw [hd]; exact hsl)) (by rw [hK]; exact less_imm Im) (fun _ => rfl) rfl (fun j hj => by rw [hK] at hj; cases hj) (.inl rfl) (fun e he x hx => .inr (.inl ?_)) (fun e he => ?_) (fun e he a => ?_) rfl (fun _ _ _ => rfl) rfl rfl rfl
  (mk (.inr rfl) rfl rfl (fun _ g hg => ?_) hicl) (.inl m1) ?_ (muOf hicl (by rw [hK]; exact .inl (by simp [GS.rank])))
 ·rw [hmt e he] at hx; cases hx; exact ⟨rfl, rfl, rfl⟩
 ·rw [hmt e he]; exact h.low.2
 ·rw [hmt e he]; simp [eMk, MemAct.ofEvent]
 ·rcases getElem?_next hicl hg with ⟨_, rfl⟩ | ⟨hne, _⟩
  ·exact hrun'
  ·exact absurd rfl hne
 ·have hr : Rest p.Wg t K ic st := h.out.2.2.1
  rw [hs, m2] at hr
  rw [m2]
  refine hr.app (fun idx a ha hx => .inr (hx.app (by obtain ⟨op, hop, _⟩ := touch_of ha; exact lt_size_of_getElem? hop) fun m _ _ hj => .inl ?_)) (fun idx a _ ⟨op, hop, hidx', _⟩ _ => .inr (.inr ⟨ic, ?_, hic0, .inr (.inl rfl)⟩))
  ·by_cases hmi : m = ic
   ·subst hmi; rw [hK] at hj; cases hj
   ·rw [upd_not _ _ hmi]; exact hj
  ·obtain ⟨e, _, rfl⟩ := Conc.mem_ofEvents hop
   simp [Trace.g?, hidx']
theorem before_prog {t : Trace} {g i j : Nat} (hi : t.g? i = some g) (hj : t.g? j = some g) (h : i <= j) : Before t i j := by
 rcases Nat.eq_or_lt_of_le h with rfl | h
 ·exact .inl rfl
 ·obtain ⟨a, ha, rfl⟩ := Option.map_eq_some_iff.1 hi
  obtain ⟨b, hb, hg⟩ := Option.map_eq_some_iff.1 hj
  exact .inr (.single (.inl ⟨h, by simp [Trace.g?, ha, hb, hg]⟩))
theorem Inv.acqStep (h : Inv P n0 W0 V gs w t K Im ic (some p) st) (hrv : p.recv = true) {n : Nat} {gi : Goroutine} (hgi : gs[ic]? = some gi) (hK : K ic = .acq n) (hstop : CAcq P Im p.c p.Wg (Deaf t ic) gi) : Went P n0 W0 V gs w sl t K Im ic (some p) st ic := by
 obtain ⟨s, hs, hic0, hicl, hm⟩ := h.mode hrv
 obtain ⟨m1, m2, m3, m4, m5⟩ := hm.atLast (.inr (by rw [hK]; rfl))
 obtain ⟨hd, hrun, g', hst, n', hsl⟩ := hstop
 have hmt : ∀ e ∈ #[eMk (.acquire (stateAt p.Wg))], e = eMk (.acquire (stateAt p.Wg)) := fun e he => by simpa using he
 have hrun' : g'.status = .running := Slide.running (fun d g x => x.2.1) hsl
 refine h.shared hrv (k' := .look n') (s' := .got) hic0 hgi (hst w) (by rw [hd]; exact hsl) (by rw [hK]; exact less_imm Im) (fun _ => rfl) rfl (fun j hj => by rw [hK] at hj; cases hj) (.inl rfl) (fun e he x hx => ?_) (fun e he => ?_) (fun e he a => ?_) rfl (fun _ _ _ => rfl) rfl rfl rfl
  ?_ (.inl m1) ?_ (muOf hicl (by rw [hK]; exact .inl (by simp [GS.rank])))
 ·rw [hmt e he] at hx; cases hx
 ·rw [hmt e he]; exact h.low.2
 ·rw [hmt e he]; simp [eMk, MemAct.ofEvent]
 ·unfold Mode
  have e1 : sumTo gs.size (fun i => (upd K ic (.look n') i).cnt) = 0 := by rw [sum_same K (.look n') GS.cnt (by rw [hK]; rfl)]; exact m4
  have e2 : sumTo gs.size (fun i => (upd K ic (.look n') i).late) = 0 := by rw [sum_same K (.look n') GS.late (by rw [hK]; rfl)]; exact m3
  simp only [e1, e2, upd_at]
  exact .inr (.inr (.inr (.inr (.inr (.inl ⟨m1, trivial, trivial, trivial, .inl rfl⟩)))))
 ·have hr : Rest p.Wg t K ic st := h.out.2.2.1
  rw [hs, m2] at hr
  rw [ofEvents_one]
  refine hr.app (fun idx a ha hx => .inr ?_) (fun idx a _ ⟨op, hop, _, hx⟩ _ => ?_)
  ·obtain ⟨i, hgi', hi0, hx⟩ := hx
   have hnorel := h.core.ti.norel
   have own : t.g? idx = some ic -> Knows (t ++ #[{ g := ic, fn := gi.frame.fn, pos := gi.frame.place, act := .ofEvent (eMk (.acquire (stateAt p.Wg))) }]) ic idx := fun e => by
    obtain ⟨op, ho, hog⟩ := Option.map_eq_some_iff.1 e
    rw [<- hog]
    exact (knows_own ho).app _
   rcases hx with hx | rfl | ⟨r, hrel, hle⟩
   ·exfalso
    have hisz : i < gs.size := by
     obtain ⟨op, ho, hog⟩ := Option.map_eq_some_iff.1 hgi'
     rw [<- hog]; exact h.core.ti.gs op (mem_of_getElem? ho)
    have hcn : (K i).cnt = 1 := by cases hKi : K i <;> rw [hKi] at hx <;> first | rfl | cases hx
    have hle : (K i).cnt <= sumTo gs.size fun i => (K i).cnt := le_sumTo (f := fun i => (K i).cnt) hisz
    omega
   ·exact own hgi'
   ·exact acquire_knows hrel.act hrel.heard hnorel ⟨rfl, rfl⟩ hd (before_prog hgi' hrel.g hle)
  ·simp only [List.mem_toArray, List.mem_cons, List.not_mem_nil, or_false] at hop
   subst hop; cases hx
theorem Rest.got {Wg : Nat} (hr : Rest Wg t K ic (some .got)) {es : Array Event} {fn : FuncId} {pos : String} {K' : Nat -> GS} : Rest Wg (t ++ MemOp.ofEvents ic fn pos es) K' ic (some .got) := by
 refine hr.app (fun idx a ha hx => .inr (Knows.app _ hx)) (fun idx a _ ⟨op, hop, hidx, _⟩ _ => .inr (.inr ?_))
 obtain ⟨e, _, rfl⟩ := Conc.mem_ofEvents hop
 exact knows_own hidx
theorem Inv.lookStep (h : Inv P n0 W0 V gs w t K Im ic (some p) st) (hrv : p.recv = true) {n : Nat} {gi : Goroutine} (hgi : gs[ic]? = some gi) (hK : K ic = .look n) (hstop : CLook P Im p.c (Deaf t ic) gi) : Went P n0 W0 V gs w sl t K Im ic (some p) st ic := by
 obtain ⟨s, hs, hic0, hicl, hm⟩ := h.mode hrv
 obtain ⟨m1, m2, m3, m4⟩ := hm.atLook (.inl (by rw [hK]; rfl))
 obtain ⟨hd, hrun, b, o, x, g', him, hst, n', hsl⟩ := hstop
 have hsat : Sat ((K ic).view Im) w := by have := h.core.sat ic hicl; rwa [show VVof V Im K ic = (K ic).view Im by simp [VVof]; omega] at this
 have hcell := hsat.imm b o x (by rw [hK]; exact him)
 have hb := hsat.imm_lt (show ((K ic).view Im).imm b o = some x by rw [hK]; exact him)
 have hmt : ∀ e ∈ (#[⟨.cell ⟨b, o, none⟩, false, false⟩] : Array Event), e = ⟨.cell ⟨b, o, none⟩, false, false⟩ := fun e he => by simpa using he
 have hbl := h.blind hic0
 refine h.shared hrv (k' := .close n') (s' := .got) hic0 hgi (hst w hcell) (by rw [hd]; exact hsl) (by rw [hK]; exact less_imm_none Im) (fun _ => rfl) rfl (fun j hj => by rw [hK] at hj; cases hj) (.inl rfl) (fun e he y hy => .inr (.inr ?_)) (fun e he => ?_) (fun e he a => ?_) rfl (fun _ _ _ => rfl) rfl rfl rfl
  ?_ (.inl m1) ?_ (muOf hicl (by rw [hK]; exact .inl (by simp [GS.rank])))
 ·rw [hmt e he] at hy; cases hy
  refine ⟨fun hsh => ?_, .inr (by rw [hK]; show Im b o ≠ none; rw [him]; simp), rfl⟩
  have e1 : b = p.Wg := hsh
  have := hbl.2.2.2 o
  rw [hK] at this
  have e2 : Im p.Wg o = none := this
  rw [<- e1, him] at e2; cases e2
 ·rw [hmt e he]; exact hb
 ·rw [hmt e he]; simp [MemAct.ofEvent]
 ·unfold Mode
  have e1 : sumTo gs.size (fun i => (upd K ic (.close n') i).cnt) = 0 := by rw [sum_same K (.close n') GS.cnt (by rw [hK]; rfl)]; exact m4
  have e2 : sumTo gs.size (fun i => (upd K ic (.close n') i).late) = 0 := by rw [sum_same K (.close n') GS.late (by rw [hK]; rfl)]; exact m3
  simp only [e1, e2, upd_at]
  exact .inr (.inr (.inr (.inr (.inr (.inl ⟨m1, trivial, trivial, trivial, .inr rfl⟩)))))
 ·have hr : Rest p.Wg t K ic st := h.out.2.2.1
  rw [hs, m2] at hr
  exact hr.got
theorem Inv.closeStep (h : Inv P n0 W0 V gs w t K Im ic (some p) st) (hrv : p.recv = true) {n : Nat} {gi : Goroutine} (hgi : gs[ic]? = some gi) (hK : K ic = .close n) (hstop : CClose P p.c (Deaf t ic) gi) : Went P n0 W0 V gs w sl t K Im ic (some p) st ic := by
 obtain ⟨s, hs, hic0, hicl, hm⟩ := h.mode hrv
 obtain ⟨⟨nn, m1⟩, m2, m3, m4⟩ := hm.atLook (.inr (by rw [hK]; rfl))
 obtain ⟨hd, hrun, hmw, g', hst, q, hql⟩ := hstop
 have hst' := hst w nn m1
 have hmem : ∀ e ∈ (#[⟨.obj p.c, false, true⟩, ⟨.obj p.c, true, true⟩] : Array Event), e = ⟨.obj p.c, false, true⟩ \/ e = ⟨.obj p.c, true, true⟩ := fun e he => by simpa using he
 have hnc : ∀ j, 0 < j -> j < gs.size -> j ≠ ic -> (K j).idx = none := fun j _ hj _ => by
  have hle : (K j).cnt <= sumTo gs.size fun i => (K i).cnt := le_sumTo (f := fun i => (K i).cnt) hj
  exact GS.idx_none (by omega)
 have hgs : g'.status = .running \/ g'.status = .finished := QuitsD.status hql
 have hcW : p.c ≠ p.Wg := h.phase.2.2.1
 have hclt := h.low.1
 have eu : MemOp.ofEvents ic gi.frame.fn gi.frame.place #[⟨.obj p.c, false, true⟩, ⟨.obj p.c, true, true⟩] = #[{ g := ic, fn := gi.frame.fn, pos := gi.frame.place, act := .ofEvent ⟨.obj p.c, false, true⟩ }, { g := ic, fn := gi.frame.fn, pos := gi.frame.place, act := .close p.c }] := by simp [MemOp.ofEvents, MemAct.ofEvent]
 have g1 := get_new (t := t) (show (#[({ g := ic, fn := gi.frame.fn, pos := gi.frame.place, act := .ofEvent ⟨.obj p.c, false, true⟩ } : MemOp), { g := ic, fn := gi.frame.fn, pos := gi.frame.place, act := .close p.c }] : Trace)[1]? = some _ from rfl)
 have hstl : ∀ op ∈ (#[({ g := ic, fn := gi.frame.fn, pos := gi.frame.place, act := .ofEvent ⟨.obj p.c, false, true⟩ } : MemOp), { g := ic, fn := gi.frame.fn, pos := gi.frame.place, act := .close p.c }] : Trace), still op.act := by
  intro op hop
  simp only [List.mem_toArray, List.mem_cons, List.not_mem_nil, or_false] at hop
  rcases hop with rfl | rfl <;> exact ⟨by simp [MemAct.ofEvent], by simp [MemAct.ofEvent]⟩
 have hclosed : ∃ n, ({ w with heap := w.heap.setIfInBounds p.c (.chan 0 #[] true nn nn false) } : World).heap[p.c]? = some (.chan 0 #[] true n n false) := ⟨nn, by simp [hclt]⟩
 refine h.shared hrv (k' := .gone q) (s' := .shut (t.size + 1)) hic0 hgi hst' (by rw [hd]; exact hql) (by rw [hK]; exact less_none _) (fun _ => rfl) rfl (fun j hj => by rw [hK] at hj; cases hj) (.inl rfl) (fun e he x hx => .inl ?_) (fun e he => ?_) (fun e he a => ?_) (by simp) (fun b hb _ => by simp [Array.getElem?_setIfInBounds, Ne.symm hb]) rfl rfl rfl
  ?_ (.inr ⟨hnc, fun g hg => park_closed hic0 hg hmw hgs hclosed⟩) ?_ (muOf hicl (by rw [hK]; exact .inl (by simp [GS.rank])))
 ·rcases hmem e he with rfl | rfl
  ·cases hx; exact ⟨rfl, rfl⟩
  ·cases hx
 ·rcases hmem e he with rfl | rfl
  ·exact hclt
  ·exact hclt
 ·rcases hmem e he with rfl | rfl <;> simp [MemAct.ofEvent]
 ·unfold Mode
  have e1 : sumTo gs.size (fun i => (upd K ic (.gone q) i).cnt) = 0 := by rw [sum_same K (.gone q) GS.cnt (by rw [hK]; rfl)]; exact m4
  have e2 : sumTo gs.size (fun i => (upd K ic (.gone q) i).late) = 0 := by rw [sum_same K (.gone q) GS.late (by rw [hK]; rfl)]; exact m3
  simp only [e1, e2, upd_at]
  obtain ⟨n, hn⟩ := hclosed
  refine .inr (.inr (.inr (.inr (.inr (.inr ⟨⟨t.size + 1, n, rfl, ?_, ?_, hn⟩, trivial, trivial, rfl⟩)))))
  ·rw [eu]; exact act?_of g1
  ·rw [eu]
   exact heard_new (k := 1) rfl rfl (by rw [deaf_still hstl (by simp)]; exact hd)
 ·have hr : Rest p.Wg t K ic st := h.out.2.2.1
  rw [hs, m2] at hr
  rw [eu]
  refine hr.app (fun idx a ha hx => .inr (.inr (Knows.hb_new hx (by omega) g1 rfl))) (fun idx a hi ⟨op, hop, hidx, _⟩ _ => .inr (.inr ?_))
  have hlt : idx < t.size + 2 := by have := lt_size_of_getElem? hidx; simpa using this
  have hog : op.g = ic := by
   simp only [List.mem_toArray, List.mem_cons, List.not_mem_nil, or_false] at hop
   rcases hop with rfl | rfl <;> rfl
  exact before_prog (g := ic) (by simp [Trace.g?, hidx, hog]) (by simp [Trace.g?, g1]) (by omega)
structure Met (P : Program) (n0 : Nat) (W0 : World) (V : View) (gs : Array Goroutine) (w : World) (sl : Option (Nat × Nat)) (t : Trace) (Im : Imm) (ic : Nat) (p : Phase) (st : Option Stage) (g : Goroutine) (i : Nat) : Prop where
 intro ::
 met : ∃ gs' w' ops K' j sp S v Im' Ow, runT P (crowd gs w sl) i = (.next (crowd gs' w' sl), ops) /\ gs'.size = gs.size /\ MainAt gs' (Conc.served g (.tuple #[v, .bool true])) /\ p.Ss[j]? = some (sp :: S) /\ sp v Im' Ow /\ (∀ b, V.own b ≠ none -> Ow b = none) /\ (∀ b o, V.own b ≠ none -> Im' b o ≠ none -> V.imm b o ≠ none) /\
  (∃ w, Sat V w /\ (∀ b o x, Im' b o = some x -> w.cell? ⟨b, o, none⟩ = some x) /\ ∀ b x, Ow b = some x -> w.heap[b]? = some x) /\
  Inv P n0 W0 (joinV V Im' Ow (.recv p.c p.Wg (p.Ss.set j S))) gs' w' (t ++ ops) K' Im ic (some { p with Ss := p.Ss.set j S }) st
theorem Inv.sendMeets (h : Inv P n0 W0 V gs w t K Im ic (some p) st) (hrv : p.recv = true) (hV0 : V.deaf = 0) {g : Goroutine} (hm : MainParked gs g p.c) {i j : Nat} {gi : Goroutine} {hh h' : Ht} {Vi V₁ : View} {c Wg : Nat} {sp : Spec} {S : List Spec} {v z : Value} {B : Nat -> Bool} (hi : 0 < i) (hgi : gs[i]? = some gi)
  (hK : K i = .work j hh Vi) (hg : Ghost Vi V₁) (hr : V₁.role = .work c Wg (sp :: S)) (hd : V₁.deaf = 0) (hst : stepG P false gi w = .comm gi #[scase c v z] true .send w #[])
  (hsp : sp v V₁.imm (partB B V₁)) (hk : WkJ P h' (keepV B V₁ (.work c Wg S)) (Conc.served gi undef)) : Met P n0 W0 V gs w sl t Im ic p st g i := by
 have hlt : i < gs.size := (Array.getElem?_eq_some_iff.1 hgi).1
 have his := h.is i gi hi hgi
 simp only [hK, GS.is] at his
 obtain ⟨hdf, _, S', hS, hrole⟩ := his
 rw [hg.role, hrole] at hr
 cases hr
 have hcn : (K i).cnt = 1 := by rw [hK]; rfl
 obtain ⟨⟨n, hopen⟩, hst0⟩ := h.counted hi hlt hcn
 have hi0 : (i == 0) = false := by simp; omega
 obtain ⟨g0, z0, h0, hf1, hf2, hf3⟩ := hm
 have hp : partners (gs.setIfInBounds i ph) p.c false = [(0, 0)] := by
  have h0' : (gs.setIfInBounds i ph)[0]? = some (parked g0 #[rcase p.c z0] (.recv true)) := by rw [Array.getElem?_setIfInBounds_ne (by omega)]; exact h0
  rw [partners_one h0' (fun m x hm hx => ?_), offersAt_parked_recv]
  ·simp
  ·rcases getElem?_stand gs i m x hx with ⟨_, rfl⟩ | ⟨_, hx'⟩
   ·exact offersAt_ph _ _
   ·exact offers_none_of (h.is m x (by omega) hx') _
 have hrun := crowd_send_meets (P := P) (sl := sl) (i := i) hgi (by rw [hi0]; exact hst) hopen (by omega) h0 hp
 rw [finishComm_recv, finishComm_send] at hrun
 have hview : (K i).view Im = Vi := by rw [hK]; rfl
 have hsz : ((gs.setIfInBounds 0 (Conc.served g0 (recvd true v true))).setIfInBounds i (Conc.served gi undef)).size = gs.size := by simp
 have hd0 : Deaf t i = 0 := by rw [hdf, <- hg.deaf, hd]
 have hsat1 : Sat V₁ w := by
  have := h.core.sat i hlt
  rw [show VVof V Im K i = (K i).view Im by simp [VVof]; omega, hview] at this
  exact hg.sat w this
 have hsat0 : Sat V w := by have := h.core.sat 0 h.pos; rwa [show VVof V Im K 0 = V by simp [VVof]] at this
 have hmet := h.met (gs' := (gs.setIfInBounds 0 (Conc.served g0 (recvd true v true))).setIfInBounds i (Conc.served gi undef)) (w' := w.setChan p.c 0 #[] false (n + 1) (n + 1) false) (gi := gi) (h' := h') (V₁ := V₁) (S := S) (sp := sp) (B := B) hrv hV0 hi hlt (by rw [hK]; rfl) (by rw [hview]; exact hg) (by rw [hg.role, hrole]) hd hd0 hS hk hsz
  (by rw [Array.getElem?_setIfInBounds_self_of_lt (by simpa using hlt)]) (fun m hm hm0 => by rw [Array.getElem?_setIfInBounds_ne (Ne.symm hm), Array.getElem?_setIfInBounds_ne (by omega)])
  (u := MemOp.ofEvents i gi.frame.fn gi.frame.place #[] ++ #[{ g := i, fn := gi.frame.fn, pos := gi.frame.place, act := .send p.c n }, { g := 0, fn := g0.frame.fn, pos := g0.frame.place, act := .recv p.c n 0 },
    { g := i, fn := gi.frame.fn, pos := gi.frame.place, act := .sendDone p.c n }, { g := 0, fn := g0.frame.fn, pos := g0.frame.place, act := .recvDone p.c n }]) (s := n) (by simp only [MemOp.ofEvents, Array.isEmpty_empty, if_true, Array.empty_append]; rfl) ⟨rfl, rfl⟩ ⟨rfl, rfl⟩ ⟨rfl, rfl⟩ ⟨rfl, rfl⟩
  (by simp [World.setChan]) (fun b hb => by simp [World.setChan, Array.getElem?_setIfInBounds, Ne.symm hb]) ⟨n + 1, by simp [World.setChan, h.low.1]⟩ rfl rfl rfl
 refine ⟨_, _, _, _, j, sp, S, v, V₁.imm, partB B V₁, hrun, hsz, ⟨Conc.served g0 (recvd true v true), ?_, rfl, ?_, hf2, hf3⟩, hS, hsp, hmet.1, hmet.2.1, ⟨w, hsat0, hsat1.imm, fun b x e => ?_⟩, hmet.2.2⟩
 ·rw [Array.getElem?_setIfInBounds_ne (by omega), Array.getElem?_setIfInBounds_self_of_lt h.pos]
 ·simp only [Conc.served, hf1]; rfl
 ·unfold partB at e; split at e
  ·exact hsat1.own b x e
  ·cases e
theorem Inv.recvMeets (h : Inv P n0 W0 V gs w t K Im ic (some p) st) (hrv : p.recv = true) (hV0 : V.deaf = 0) {g : Goroutine} {z : Value} (hm : MainAt gs g) (hst : stepG P true g w = .comm g #[rcase p.c z] true (.recv true) w #[])
  (hw : ∃ i j h' V₁ V₂ g1 v z1, 0 < i /\ i < gs.size /\ K i = .park j h' V₁ V₂ g1 v z1) : Met P n0 W0 V gs w sl t Im ic p st g 0 := by
 obtain ⟨g0, h0, hf0, hf1, hf2, hf3⟩ := hm
 have hst0 : stepG P (0 == 0) g0 w = .comm g #[rcase p.c z] true (.recv true) w #[] := by rw [<- hst]; exact stepG_same hf1 hf2 hf3 w
 obtain ⟨i0, j0, a0, a1, a2, a3, a4, a5, b0, b1, b2⟩ := hw
 have hcn0 : (K i0).cnt = 1 := by rw [b2]; rfl
 obtain ⟨⟨n, hopen⟩, hst1⟩ := h.counted b0 b1 hcn0
 have hx0 : gs[i0]? = some gs[i0] := Array.getElem?_eq_getElem b1
 have hall : ∀ j k, (j, k) ∈ partners (gs.setIfInBounds 0 ph) p.c true -> k = 0 /\ j ≠ 0 /\ ∃ gj vj zj shj, gs[j]? = some (parked gj #[scase p.c vj zj] shj) := by
  intro j k hjk
  obtain ⟨x, hx, hk⟩ := mem_partners.1 hjk
  rcases getElem?_stand gs 0 j x hx with ⟨_, rfl⟩ | ⟨hj0, hx'⟩
  ·rw [offersAt_ph] at hk; cases hk
  ·rcases GS.runs (h.is j x (by omega) hx') with hr | ⟨hf, _⟩ | ⟨q, h', V1, V2, g1, v, z1, e⟩ | ⟨_, hb, ho⟩
   ·rw [offersAt_of_not_blocked (by rw [hr]; simp)] at hk; cases hk
   ·rw [offersAt_of_not_blocked (by rw [hf]; simp)] at hk; cases hk
   ·have := h.is j x (by omega) hx'
    simp only [e, GS.is] at this
    obtain ⟨_, _, rfl, _⟩ := this
    rw [offersAt_parked_send] at hk
    simp at hk
    exact ⟨hk, hj0, g1, v, z1, .send, hx'⟩
   ·have : offersAt x p.c true = [] := by unfold offersAt; simp [hb, ho]
    rw [this] at hk; cases hk
 have hne : partners (gs.setIfInBounds 0 ph) p.c true ≠ [] := by
  intro e
  have hmem : (i0, 0) ∈ partners (gs.setIfInBounds 0 ph) p.c true := by
   have := h.is i0 _ b0 hx0
   simp only [b2, GS.is] at this
   obtain ⟨_, _, hpk, _⟩ := this
   refine mem_partners.2 ⟨gs[i0], by rw [Array.getElem?_setIfInBounds_ne (by omega)]; exact hx0, ?_⟩
   rw [hpk, offersAt_parked_send]; simp
  rw [e] at hmem; cases hmem
 obtain ⟨i, gj, vj, zj, shj, d, hi0, hgi, hrun⟩ := crowd_recv_meets_some (P := P) (sl := sl) h0 hst0 hopen hne hall
 have hi : 0 < i := by omega
 have hlt : i < gs.size := (Array.getElem?_eq_some_iff.1 hgi).1
 obtain ⟨j, h', V₁, V₂, g1, v, z1, hK⟩ : ∃ j h' V₁ V₂ g1 v z1, K i = .park j h' V₁ V₂ g1 v z1 := by
  rcases GS.runs (h.is i _ hi hgi) with hr | ⟨hf, _⟩ | x | ⟨_, _, ho⟩
  ·cases hr
  ·cases hf
  ·exact x
  ·cases ho
 have his := h.is i _ hi hgi
 simp only [hK, GS.is] at his
 obtain ⟨hdf, hd, hpk, hk, sp, S, B, hS, hrole, hsp, hV2⟩ := his
 have efr : gj.frame = g1.frame /\ gj.callers = g1.callers /\ gj.dying = g1.dying /\ vj = v /\ zj = z1 /\ shj = .send := by
  simp only [parked, Goroutine.mk.injEq, Option.some.injEq, Prod.mk.injEq] at hpk
  obtain ⟨e1, e2, _, e3, e4, e5⟩ := hpk
  simp [scase] at e4
  exact ⟨e1, e2, e3, e4.1, e4.2, e5⟩
 obtain ⟨e1, e2, e3, rfl, rfl, rfl⟩ := efr
 have esv : Conc.served gj undef = Conc.served g1 undef := by simp [Conc.served, e1, e2, e3]
 rw [finishComm_send, finishComm_recv, esv] at hrun
 subst hV2
 have hview : (K i).view Im = V₁ := by rw [hK]; rfl
 have hsz : ((gs.setIfInBounds i (Conc.served g1 undef)).setIfInBounds 0 (Conc.served g (recvd true vj true))).size = gs.size := by simp
 have hsat1 : Sat V₁ w := by
  have := h.core.sat i hlt
  rwa [show VVof V Im K i = (K i).view Im by simp [VVof]; omega, hview] at this
 have hsat0 : Sat V w := by have := h.core.sat 0 h.pos; rwa [show VVof V Im K 0 = V by simp [VVof]] at this
 have hmet := h.met (gs' := (gs.setIfInBounds i (Conc.served g1 undef)).setIfInBounds 0 (Conc.served g (recvd true vj true))) (w' := (w.at d).setChan p.c 0 #[] false (n + 1) (n + 1) false) (gi := g1) (h' := h') (V₁ := V₁) (S := S) (sp := sp) (B := B) hrv hV0 hi hlt (by rw [hK]; rfl) (by rw [hview]; exact Ghost.refl _) hrole hd hdf hS hk hsz
  (by rw [Array.getElem?_setIfInBounds_ne (by omega), Array.getElem?_setIfInBounds_self_of_lt hlt]) (fun m hm hm0 => by rw [Array.getElem?_setIfInBounds_ne (by omega), Array.getElem?_setIfInBounds_ne (Ne.symm hm)])
  (u := MemOp.ofEvents 0 g0.frame.fn g0.frame.place #[] ++ #[{ g := i, fn := gj.frame.fn, pos := gj.frame.place, act := .send p.c n }, { g := 0, fn := g.frame.fn, pos := g.frame.place, act := .recv p.c n 0 },
    { g := i, fn := gj.frame.fn, pos := gj.frame.place, act := .sendDone p.c n }, { g := 0, fn := g.frame.fn, pos := g.frame.place, act := .recvDone p.c n }]) (s := n) (by simp only [MemOp.ofEvents, Array.isEmpty_empty, if_true, Array.empty_append]; rfl) ⟨rfl, rfl⟩ ⟨rfl, rfl⟩ ⟨rfl, rfl⟩ ⟨rfl, rfl⟩
  (by simp [World.setChan, World.at]) (fun b hb => by simp [World.setChan, World.at, Array.getElem?_setIfInBounds, Ne.symm hb]) ⟨n + 1, by simp [World.setChan, World.at, h.low.1]⟩ rfl rfl rfl
 refine ⟨_, _, _, _, j, sp, S, vj, V₁.imm, partB B V₁, hrun, hsz, ⟨Conc.served g (recvd true vj true), ?_, rfl, rfl, rfl, rfl⟩, hS, hsp, hmet.1, hmet.2.1, ⟨w, hsat0, hsat1.imm, fun b x e => ?_⟩, hmet.2.2⟩
 ·rw [Array.getElem?_setIfInBounds_self_of_lt (by simpa using h.pos)]
 ·unfold partB at e; split at e
  ·exact hsat1.own b x e
  ·cases e
end
section
variable {P : Program} {n0 : Nat} {W0 : World} {V : View} {gs gs' : Array Goroutine} {w w' : World} {sl : Option (Nat × Nat)} {t : Trace} {K : Nat -> GS} {Im : Imm} {ic : Nat} {ph : Option Phase} {p : Phase} {st st' : Option Stage}
theorem Inv.slideStep (h : Inv P n0 W0 V gs w t K Im ic (some p) st) {i n : Nat} {gi : Goroutine} {Stop : Nat -> Goroutine -> Prop} {mk : Nat -> GS} (hi : 0 < i) (hgi : gs[i]? = some gi) (hK : K i = mk n) (hsl : Slide P Stop n (Deaf t i) gi)
  (hmk : ∀ n d g, Slide P Stop n d g -> (mk n).is P p.c p.Wg Im p.Ss d g) (hsh : ∀ n m, (mk n).shape = (mk m).shape) (hvw : ∀ n m, (mk n).view Im = (mk m).view Im) (hrk : ∀ n, RankLt (mk n).rank (mk (n + 1)).rank) (hrn : ∀ d g, Stop d g -> g.status = .running)
  (hgo : Stop (Deaf t i) gi -> Went P n0 W0 V gs w sl t K Im ic (some p) st i) : Went P n0 W0 V gs w sl t K Im ic (some p) st i := by
 cases n with
 | zero => exact hgo hsl
 | succ n =>
  rcases hsl with hs | ⟨hr, g', es, hm, hst, hs⟩
  ·exact hgo hs
  ·exact h.slip (k' := mk n) hi hgi (hst w) hm (hmk _ _ _ hs) (fun x => by rw [Slide.running hrn hs] at x; cases x) (by rw [hK]; exact hsh _ _) (by rw [hK]; exact hvw _ _) (fun _ => Slide.running hrn hs) (by rw [hK]; exact hrk n)
theorem Inv.slideStepW (h : Inv P n0 W0 V gs w t K Im ic (some p) st) {i n : Nat} {gi : Goroutine} {Stop : Nat -> Goroutine -> Prop} {mk : Nat -> GS} (hi : 0 < i) (hgi : gs[i]? = some gi) (hK : K i = mk n) (hW : ∃ x y, WgAt P p.Wg w x y) (hsl : SlideW P p.Wg Stop n (Deaf t i) gi)
  (hmk : ∀ n d g, SlideW P p.Wg Stop n d g -> (mk n).is P p.c p.Wg Im p.Ss d g) (hsh : ∀ n m, (mk n).shape = (mk m).shape) (hvw : ∀ n m, (mk n).view Im = (mk m).view Im) (hrk : ∀ n, RankLt (mk n).rank (mk (n + 1)).rank) (hrn : ∀ d g, Stop d g -> g.status = .running)
  (hgo : Stop (Deaf t i) gi -> Went P n0 W0 V gs w sl t K Im ic (some p) st i) : Went P n0 W0 V gs w sl t K Im ic (some p) st i := by
 cases n with
 | zero => exact hgo hsl
 | succ n =>
  rcases hsl with hs | ⟨hr, g', es, hm, hst, hs⟩
  ·exact hgo hs
  ·exact h.slip (k' := mk n) hi hgi (hst w _ _ hW.choose_spec.choose_spec) hm (hmk _ _ _ hs) (fun x => by rw [SlideW.running hrn hs] at x; cases x) (by rw [hK]; exact hsh _ _) (by rw [hK]; exact hvw _ _) (fun _ => SlideW.running hrn hs) (by rw [hK]; exact hrk n)
theorem Inv.other (h : Inv P n0 W0 V gs w t K Im ic ph st) {g : Goroutine} (hmain : MainAt gs g \/ ∃ p, ph = some p /\ p.recv = true /\ V.deaf = 0 /\ MainParked gs g p.c) {i : Nat} {gi : Goroutine} (hi : 0 < i) (hgi : gs[i]? = some gi) (hrun : gi.status = .running) :
  Went P n0 W0 V gs w sl t K Im ic ph st i \/ ∃ p, ph = some p /\ Met P n0 W0 V gs w sl t Im ic p st g i /\ MainParked gs g p.c := by
 have hlt : i < gs.size := (Array.getElem?_eq_some_iff.1 hgi).1
 have his := h.out.1 i gi hi hgi
 have gone : ∀ q, K i = .gone q -> QuitsD P q (Deaf t i) gi -> Went P n0 W0 V gs w sl t K Im ic ph st i := by
  intro q hK hq
  cases q with
  | zero => rw [hq.1] at hrun; cases hrun
  | succ q =>
   rcases hq with ⟨hf, _⟩ | ⟨_, g', es, hm, hst, hq'⟩
   ·rw [hf] at hrun; cases hrun
   ·refine h.slip (k' := .gone q) hi hgi (hst w) hm ?_ (fun x => by rcases hq'.status with e | e <;> rw [e] at x <;> cases x) (by rw [hK]; rfl) (by rw [hK]; rfl) (fun x => by rw [hK] at x; rcases x with x | x <;> cases x) (by rw [hK]; exact .inr ⟨rfl, .inr ⟨rfl, Nat.lt_succ_self _⟩⟩)
    cases ph with
    | none => exact ⟨q, rfl, hq'⟩
    | some p => exact hq'
 cases ph with
 | none =>
  obtain ⟨q, hK, hq⟩ := his
  exact .inl (gone q hK hq)
 | some p =>
  have his' : (K i).is P p.c p.Wg Im p.Ss (Deaf t i) gi := his
  have hrecv : (K i).idx = none -> (∀ q, K i ≠ .gone q) -> p.recv = true := fun h1 h2 => by
   cases hrv : p.recv with
   | true => rfl
   | false =>
    have hx := h.phase.2.2.2.2.2.2.2.2.2
    rw [if_neg (by rw [hrv]; simp)] at hx
    rcases hx.2.2.2.1 i hi hlt with x | ⟨q, x⟩
    ·rw [h1] at x; cases x
    ·exact absurd x (h2 q)
  cases hK : K i with
  | gone q => rw [hK] at his'; exact .inl (gone q hK his')
  | park j h' V1 V2 g0 v z =>
   rw [hK] at his'
   obtain ⟨_, _, rfl, _⟩ := his'
   cases hrun
  | work j hh Vi =>
   rw [hK] at his'
   obtain ⟨hd, hwk, S, hS, hrole⟩ := his'
   have hview : VVof V Im K i = Vi := by simp [VVof, hK, GS.view]; omega
   have hsat : Sat Vi w := by have := h.core.sat i hlt; rwa [hview] at this
   cases hwk with
   | step G' W' E' V' hs hg h1 h2 h3 =>
    exact .inl (h.workStep hi hgi hK (h1 w (hg.sat w hsat)) (StepOk.of_ghost hg (h2 w (hg.sat w hsat))) (h3 w (hg.sat w hsat)) (.mk _ w))
   | send c Wg sp S1 v z B hs hg hr hd1 ho h1 h2 h3 =>
    have er : Role.work p.c p.Wg S = .work c Wg (sp :: S1) := by rw [<- hrole, <- hg.role, hr]
    cases er
    rcases hmain with hm | ⟨p', hp', hrv, hV0, hm⟩
    ·exact .inl (h.workPark hm hi hgi hK hg hr hd1 (h1 w (hg.sat w hsat)) h2 h3)
    ·cases hp'
     exact .inr ⟨p, rfl, h.sendMeets hrv hV0 hm hi hgi hK hg hr hd1 (h1 w (hg.sat w hsat)) h2 h3, hm⟩
   | done c Wg hg hr hd1 h1 =>
    have er : Role.work p.c p.Wg S = .work c Wg [] := by rw [<- hrole, <- hg.role, hr]
    cases er
    refine .inl (h.release ?_ hi hgi hK hg hr hd1 h1)
    cases hrv : p.recv with
    | true => rfl
    | false =>
     have hx := h.phase.2.2.2.2.2.2.2.2.2
     rw [if_neg (by rw [hrv]; simp)] at hx
     exact absurd rfl (hx.2.2.2.2.1 [] (List.mem_of_getElem? hS))
   | slip c Wg hs hg hr h1 h3 =>
    have er : Role.work p.c p.Wg S = .work c Wg [] := by rw [<- hrole, <- hg.role, hr]
    cases er
    have hrv : p.recv = true := by
     cases hrv : p.recv with
     | true => rfl
     | false =>
      have hx := h.phase.2.2.2.2.2.2.2.2.2
      rw [if_neg (by rw [hrv]; simp)] at hx
      exact absurd rfl (hx.2.2.2.2.1 [] (List.mem_of_getElem? hS))
    obtain ⟨s, hW⟩ := h.countedW hrv hlt (by rw [hK]; rfl)
    exact .inl (h.workStep hi hgi hK (h1 w s (hg.sat w hsat) hW) (StepOk.of_ghost hg (StepOk.idle (hg.sat w hsat))) h3 (HtLt.mk (fun _ => _) w))
  | add n =>
   rw [hK] at his'
   have hrv := hrecv (by rw [hK]; rfl) (fun q => by rw [hK]; simp)
   exact .inl (h.slideStep (mk := .add) hi hgi hK his' (fun _ _ _ x => x) (fun _ _ => rfl) (fun _ _ => rfl) (fun n => .inr ⟨rfl, .inr ⟨rfl, Nat.lt_succ_self _⟩⟩) (fun _ _ x => x.2.1) (fun hs => h.addStep hrv hi hgi hK hs))
  | load n =>
   rw [hK] at his'
   have hrv := hrecv (by rw [hK]; rfl) (fun q => by rw [hK]; simp)
   exact .inl (h.slideStep (mk := .load) hi hgi hK his' (fun _ _ _ x => x) (fun _ _ => rfl) (fun _ _ => rfl) (fun n => .inr ⟨rfl, .inr ⟨rfl, Nat.lt_succ_self _⟩⟩) (fun _ _ x => x.2.1) (fun hs => h.loadStep hrv hi hgi hK hs))
  | store n =>
   rw [hK] at his'
   have hrv := hrecv (by rw [hK]; rfl) (fun q => by rw [hK]; simp)
   exact .inl (h.slideStep (mk := .store) hi hgi hK his' (fun _ _ _ x => x) (fun _ _ => rfl) (fun _ _ => rfl) (fun n => .inr ⟨rfl, .inr ⟨rfl, Nat.lt_succ_self _⟩⟩) (fun _ _ x => x.2.1) (fun hs => h.storeStep hrv hi hgi hK hs))
  | sem n =>
   rw [hK] at his'
   have hrv := hrecv (by rw [hK]; rfl) (fun q => by rw [hK]; simp)
   exact .inl (h.slideStep (mk := .sem) hi hgi hK his' (fun _ _ _ x => x) (fun _ _ => rfl) (fun _ _ => rfl) (fun n => .inr ⟨rfl, .inr ⟨rfl, Nat.lt_succ_self _⟩⟩) (fun _ _ x => x.2.1) (fun hs => h.semStep hrv hi hgi hK hs))
  | head k n =>
   rw [hK] at his'
   have hrv := hrecv (by rw [hK]; rfl) (fun q => by rw [hK]; simp)
   have hic : i = ic := h.theCloser hi (by rw [hK]; rfl)
   exact .inl (h.slideStep (mk := .head k) hi hgi hK his' (fun _ _ _ x => x) (fun _ _ => rfl) (fun _ _ => rfl) (fun n => .inr ⟨rfl, .inr ⟨rfl, Nat.lt_succ_self _⟩⟩) (fun _ _ x => headRun x) (fun hs => by subst hic; exact h.headStep hrv hgi hK hs))
  | cas v n =>
   rw [hK] at his'
   have hrv := hrecv (by rw [hK]; rfl) (fun q => by rw [hK]; simp)
   have hic : i = ic := h.theCloser hi (by rw [hK]; rfl)
   exact .inl (h.slideStep (mk := .cas v) hi hgi hK his' (fun _ _ _ x => x) (fun _ _ => rfl) (fun _ _ => rfl) (fun n => .inr ⟨rfl, .inr ⟨rfl, Nat.lt_succ_self _⟩⟩) (fun _ _ x => x.2.1) (fun hs => by subst hic; exact h.casStep hrv hgi hK hs))
  | said n =>
   rw [hK] at his'
   have hrv := hrecv (by rw [hK]; rfl) (fun q => by rw [hK]; simp)
   have hic : i = ic := h.theCloser hi (by rw [hK]; rfl)
   exact .inl (h.slideStepW (mk := .said) hi hgi hK (h.acqW hrv (n := n) (.inr (by rw [<- hic]; exact hK))) his' (fun _ _ _ x => x) (fun _ _ => rfl) (fun _ _ => rfl) (fun n => .inr ⟨rfl, .inr ⟨rfl, Nat.lt_succ_self _⟩⟩) (fun _ _ x => x.2.1) (fun hs => by subst hic; exact h.saidStep hrv hgi hK hs))
  | csem n =>
   rw [hK] at his'
   have hrv := hrecv (by rw [hK]; rfl) (fun q => by rw [hK]; simp)
   have hic : i = ic := h.theCloser hi (by rw [hK]; rfl)
   rcases his' with his' | ⟨_, g1, rfl, _⟩
   ·exact .inl (h.slideStep (mk := .csem) hi hgi hK his' (fun _ _ _ x => .inl x) (fun _ _ => rfl) (fun _ _ => rfl) (fun n => .inr ⟨rfl, .inr ⟨rfl, Nat.lt_succ_self _⟩⟩) (fun _ _ x => x.2.1) (fun hs => by subst hic; exact h.csemStep hrv hgi hK hs))
   ·cases hrun
  | last n =>
   rw [hK] at his'
   have hrv := hrecv (by rw [hK]; rfl) (fun q => by rw [hK]; simp)
   have hic : i = ic := h.theCloser hi (by rw [hK]; rfl)
   exact .inl (h.slideStep (mk := .last) hi hgi hK his' (fun _ _ _ x => x) (fun _ _ => rfl) (fun _ _ => rfl) (fun n => .inr ⟨rfl, .inr ⟨rfl, Nat.lt_succ_self _⟩⟩) (fun _ _ x => x.2.1) (fun hs => by subst hic; exact h.lastStep hrv hgi hK hs))
  | acq n =>
   rw [hK] at his'
   have hrv := hrecv (by rw [hK]; rfl) (fun q => by rw [hK]; simp)
   have hic : i = ic := h.theCloser hi (by rw [hK]; rfl)
   exact .inl (h.slideStepW (mk := .acq) hi hgi hK (h.acqW hrv (n := n) (.inl (by rw [<- hic]; exact hK))) his' (fun _ _ _ x => x) (fun _ _ => rfl) (fun _ _ => rfl) (fun n => .inr ⟨rfl, .inr ⟨rfl, Nat.lt_succ_self _⟩⟩) (fun _ _ x => x.2.1) (fun hs => by subst hic; exact h.acqStep hrv hgi hK hs))
  | look n =>
   rw [hK] at his'
   have hrv := hrecv (by rw [hK]; rfl) (fun q => by rw [hK]; simp)
   have hic : i = ic := h.theCloser hi (by rw [hK]; rfl)
   exact .inl (h.slideStep (mk := .look) hi hgi hK his' (fun _ _ _ x => x) (fun _ _ => rfl) (fun _ _ => rfl) (fun n => .inr ⟨rfl, .inr ⟨rfl, Nat.lt_succ_self _⟩⟩) (fun _ _ x => x.2.1) (fun hs => by subst hic; exact h.lookStep hrv hgi hK hs))
  | close n =>
   rw [hK] at his'
   have hrv := hrecv (by rw [hK]; rfl) (fun q => by rw [hK]; simp)
   have hic : i = ic := h.theCloser hi (by rw [hK]; rfl)
   exact .inl (h.slideStep (mk := .close) hi hgi hK his' (fun _ _ _ x => x) (fun _ _ => rfl) (fun _ _ => rfl) (fun n => .inr ⟨rfl, .inr ⟨rfl, Nat.lt_succ_self _⟩⟩) (fun _ _ x => x.2.1) (fun hs => by subst hic; exact h.closeStep hrv hgi hK hs))
theorem Inv.awake (h : Inv P n0 W0 V gs w t K Im ic ph st) {g : Goroutine} (hmain : MainAt gs g \/ ∃ p, ph = some p /\ p.recv = true /\ V.deaf = 0 /\ MainParked gs g p.c) : ∀ x ∈ gs, awake x := by
 intro x hx
 obtain ⟨i, hi⟩ := Array.mem_iff_getElem?.1 hx
 rcases Nat.eq_zero_or_pos i with rfl | hi0
 ·rcases hmain with ⟨g0, h0, h1, _⟩ | ⟨p, _, _, _, g0, z, h0, _⟩
  ·rw [hi] at h0; cases h0
   intro s; rw [h1]; simp
  ·rw [hi] at h0; cases h0
   intro s; simp [parked]
 ·have his := h.out.1 i x hi0 hi
  intro s
  cases ph with
  | none =>
   obtain ⟨q, _, hq⟩ := his
   rcases hq.status with e | e <;> rw [e] <;> simp
  | some p =>
   rcases GS.runs (show (K i).is P p.c p.Wg Im p.Ss (Deaf t i) x from his) with e | ⟨e, _⟩ | ⟨j, h', V1, V2, g1, v, z, e⟩ | ⟨_, e, _⟩
   ·rw [e]; simp
   ·rw [e]; simp
   ·have his' : (K i).is P p.c p.Wg Im p.Ss (Deaf t i) x := his
    rw [e] at his'
    obtain ⟨_, _, rfl, _⟩ := his'
    simp [parked]
   ·rw [e]; simp
end
def Ok (P : Program) (Post : Value -> World -> Prop) (m : Machine) (t : Trace) : Prop :=
 ∃ M last o w' t', runNT P (M + 1) m t = (.ended o w', t') /\ runN P M m = .next last /\ step P last = .ended o w' /\ Conc.Good P Post last o w' t'
section
variable {P : Program} {Post : Value -> World -> Prop}
theorem Ok.step {m m' : Machine} {t : Trace} {ops : Array MemOp} (hs : stepT P m = (.next m', ops)) (h : Ok P Post m' (t ++ ops)) : Ok P Post m t := by
 obtain ⟨M, last, o, w', t', h1, h2, h3, h4⟩ := h
 refine ⟨M + 1, last, o, w', t', ?_, ?_, h3, h4⟩
 ·rw [runNT, hs]; exact h1
 ·have : Go.step P m = .next m' := by unfold Go.step; rw [hs]
  rw [runN, this]; exact h2
theorem Ok.end {m : Machine} {t : Trace} {o : Outcome} {w' : World} {ops : Array MemOp} (hs : stepT P m = (.ended o w', ops)) (h : Conc.Good P Post m o w' (t ++ ops)) : Ok P Post m t := by
 refine ⟨0, m, o, w', t ++ ops, ?_, rfl, ?_, h⟩
 ·simp [runNT, hs]
 ·unfold Go.step; rw [hs]
end
section
variable {P : Program} {n0 : Nat} {W0 : World} {V : View} {gs gs' : Array Goroutine} {w w' : World} {sl : Option (Nat × Nat)} {t : Trace} {K : Nat -> GS} {Im : Imm} {ic : Nat} {ph : Option Phase} {p : Phase} {st st' : Option Stage}
theorem Inv.draw (h : Inv P n0 W0 V gs w t K Im ic ph st) (d : Nat) : Inv P n0 W0 V gs (w.at d) t K Im ic ph st :=
 let ⟨a, b, c, e⟩ := h.out
 Inv.mk' h.pos h.k0 h.d0 a (b.draw d) c (by cases ph <;> exact e)
theorem sumTo_pos {f : Nat -> Nat} : ∀ {N : Nat}, 0 < sumTo N f -> ∃ i, i < N /\ 0 < f i
 | 0, h => by simp [sumTo] at h
 | N + 1, h => by
  by_cases hN : 0 < f N
  ·exact ⟨N, by omega, hN⟩
  ·obtain ⟨i, hi, hf⟩ := sumTo_pos (N := N) (f := f) (by rw [sumTo] at h; omega)
   exact ⟨i, by omega, hf⟩
theorem Inv.someRuns (h : Inv P n0 W0 V gs w t K Im ic (some p) st) (hrv : p.recv = true) (ho : Opn w p.c) (hcalm : Calm gs) : ∃ i gi, 0 < i /\ gs[i]? = some gi /\ gi.status = .running := by
 obtain ⟨s, hs, hic0, hicl, hm⟩ := h.mode hrv
 have h0 := h.k0
 have gic : gs[ic]? = some gs[ic] := Array.getElem?_eq_getElem hicl
 have hisc : (K ic).is P p.c p.Wg Im p.Ss (Deaf t ic) gs[ic] := h.is ic _ hic0 gic
 have run : ∀ i x, 0 < i -> gs[i]? = some x -> (∀ q, K i ≠ .gone q) -> (∀ n, K i ≠ .csem n) -> x.status = .running := by
  intro i x hi hx h1 h2
  rcases GS.runs (show (K i).is P p.c p.Wg Im p.Ss (Deaf t i) x from h.is i x hi hx) with e | ⟨_, q, e⟩ | ⟨j, h', V1, V2, g1, v, z, e⟩ | ⟨⟨n, e⟩, _⟩
  ·exact e
  ·exact absurd e (h1 q)
  ·have hi' := h.is i x hi hx
   simp only [e, GS.is] at hi'
   obtain ⟨_, _, hpk, _⟩ := hi'
   have := hcalm i x hi hx (by rw [hpk]; rfl)
   rw [hpk] at this; cases this
  ·exact absurd e (h2 n)
 have icrun : (∀ q, K ic ≠ .gone q) -> (∀ n, K ic ≠ .csem n) -> ∃ i gi, 0 < i /\ gs[i]? = some gi /\ gi.status = .running := fun a b => ⟨ic, _, hic0, gic, run ic _ hic0 gic a b⟩
 have other : ∀ i, i < gs.size -> (K i).cnt = 1 \/ (K i).late = 1 -> ∃ i gi, 0 < i /\ gs[i]? = some gi /\ gi.status = .running := by
  intro i hi hc
  have hi0 : 0 < i := by
   rcases Nat.eq_zero_or_pos i with rfl | x
   ·rw [h0] at hc; rcases hc with c | c <;> cases c
   ·exact x
  exact ⟨i, _, hi0, Array.getElem?_eq_getElem hi, run i _ hi0 (Array.getElem?_eq_getElem hi) (fun q e => by rw [e] at hc; rcases hc with c | c <;> cases c) (fun q e => by rw [e] at hc; rcases hc with c | c <;> cases c)⟩
 have one : ∀ i, 0 < (K i).cnt -> (K i).cnt = 1 := fun i hi => by cases e : K i <;> rw [e] at hi <;> first | rfl | exact absurd hi (by simp [GS.cnt])
 have one' : ∀ i, 0 < (K i).late -> (K i).late = 1 := fun i hi => by cases e : K i <;> rw [e] at hi <;> first | rfl | exact absurd hi (by simp [GS.late])
 unfold Mode at hm
 rcases hm with m | m | m | m | m | m | m
 ·rcases m.2.2.2.2.2 with ⟨k, e, _⟩ | ⟨v, e, _⟩ <;> exact icrun (fun q x => by rw [x] at e; cases e) (fun q x => by rw [x] at e; cases e)
 ·obtain ⟨i, hi, hc⟩ := sumTo_pos (N := gs.size) (f := fun i => (K i).cnt) (by have := m.2.2.2.1; omega)
  exact other i hi (.inl (one i hc))
 ·obtain ⟨i, hi, hc⟩ := sumTo_pos (N := gs.size) (f := fun i => (K i).late) (by have := m.2.2.1; omega)
  exact other i hi (.inr (one' i hc))
 ·exact ⟨ic, _, hic0, gic, m.2.2.2.2.2.1 _ gic⟩
 ·rcases m.2.2.2.2.2 with e | e <;> exact icrun (fun q x => by rw [x] at e; cases e) (fun q x => by rw [x] at e; cases e)
 ·rcases m.2.2.2.2 with e | e <;> exact icrun (fun q x => by rw [x] at e; cases e) (fun q x => by rw [x] at e; cases e)
 ·obtain ⟨⟨_, n, _, _, _, hcl⟩, _⟩ := m
  obtain ⟨n', ho⟩ := ho
  rw [hcl] at ho; simp at ho
theorem vv0 (V' : View) (Im : Imm) (K : Nat -> GS) : VVof V' Im K = upd (VVof V Im K) 0 V' := by
 funext j
 by_cases hj : j = 0
 ·subst hj; rw [upd_at]; simp [VVof]
 ·rw [upd_not _ _ hj]; simp [VVof, hj]
theorem vvAt0 : VVof V Im K 0 = V := by simp [VVof]
def RoleOk (r : Role) (ph : Option Phase) : Prop := match r with
 | .plain => ph = none
 | .fork c Wg Ss => ph = some ⟨c, Wg, Ss, false⟩
 | .recv c Wg Ss => ph = some ⟨c, Wg, Ss, true⟩
 | .work .. => False
theorem Inv.mainStep (h : Inv P n0 W0 V gs w t K Im ic ph st) {g0 g' : Goroutine} {es : Array Event} {V' : View} (h0 : gs[0]? = some g0) (s : StepOk V w V' w' es) (hr : RoleOk V.role ph) :
  Inv P n0 W0 V' ((gs.map (woken P g0 g' w')).setIfInBounds 0 g') w' (t ++ MemOp.ofEvents 0 g0.frame.fn g0.frame.place es) K Im ic ph st := by
 obtain ⟨his, hc, hre, hph⟩ := h.out
 have hsz : ((gs.map (woken P g0 g' w')).setIfInBounds 0 g').size = gs.size := by simp
 have hso : ∀ op ∈ MemOp.ofEvents 0 g0.frame.fn g0.frame.place es, op.g = 0 := fun op hop => by obtain ⟨e, _, rfl⟩ := Conc.mem_ofEvents hop; rfl
 have hown : ∀ {u : Trace} {idx : Nat} {op : MemOp}, (t ++ u)[idx]? = some op -> op.g = 0 -> Knows (t ++ u) 0 idx := fun {u idx op} a b => by have := knows_own a; rwa [b] at this
 have hchan : ∀ p, ph = some p -> w'.heap[p.c]? = w.heap[p.c]? := by
  rintro p rfl
  obtain ⟨a1, a2, a3, a4, a5, a6, a7, a8, a9, a10⟩ := hph
  by_cases hrv : p.recv = true
  ·rw [if_pos hrv] at a10
   exact s.frame _ a4 a10.1.1
  ·rw [if_neg hrv] at a10
   have hs0 : Sat V w := by have := hc.sat 0 h.pos; rwa [vvAt0] at this
   have hch : V.role.chan = some p.c := by
    unfold RoleOk at hr
    split at hr
    ·cases hr
    ·cases hr; rename_i e; rw [e]; rfl
    ·cases hr; exact absurd rfl hrv
    ·exact hr.elim
   rw [s.sat.own _ _ (s.chan _ _ hch a10.1), hs0.own _ _ a10.1]
 refine Inv.mk' (by rw [hsz]; exact h.pos) h.k0 (by rw [Deaf_own, s.deaf, h.d0]) (fun j x hj hx => ?_) ?_ ?_ ?_
 ·rcases getElem?_next h.pos hx with ⟨e, _⟩ | ⟨_, y, hy, rfl⟩
  ·omega
  ·rw [Deaf_other t (g := j) (g' := 0) (by omega) _ hso]
   have hyk := his j y hj hy
   have hjlt : j < gs.size := (Array.getElem?_eq_some_iff.1 hy).1
   cases ph with
   | none =>
    obtain ⟨q, hq, hy'⟩ := hyk
    exact ⟨q, hq, by rw [woken_quitsD hy']; exact hy'⟩
   | some p =>
    refine is_woken ?_ hyk
    rcases h.opens rfl with ⟨n, x⟩ | x
    ·exact .inl ⟨n, by rw [hchan p rfl]; exact x⟩
    ·exact .inr (x.1 j hj hjlt)
 ·rw [hsz, vv0 (V := V)]
  refine hc.step h.pos (by rw [vvAt0]; exact s) (fun e he x hx hs => ?_) g0.frame.fn g0.frame.place
  cases ph with
  | none => exact hs.elim
  | some p =>
   obtain ⟨a1, a2, a3, a4, a5, a6, a7, a8, a9, a10⟩ := hph
   have hfit := evOk_fit (s.evs e he) hx
   by_cases hrv : p.recv = true
   ·exfalso
    rw [if_pos hrv] at a10
    have b : Blind p V := ⟨a10.1.1, a10.1.2.1, a10.1.2.2.1, a10.1.2.2.2⟩
    rcases hfit.1 with y | ⟨y, _⟩ | y
    ·exact b.not_sh y.rd hs
    ·exact b.not_sh y hs
    ·exact y (sh_low a4 a5 hs)
   ·rw [if_neg hrv] at a10
    have hrole : V.role.chan = some p.c /\ V.role.group = some p.Wg := by
     unfold RoleOk at hr
     split at hr
     ·cases hr
     ·cases hr; rename_i e; rw [e]; exact ⟨rfl, rfl⟩
     ·cases hr; exact absurd rfl hrv
     ·exact hr.elim
    have hact : actPh (some p) gs.size ic K 0 := by
     show actOf p gs.size ic K 0
     unfold actOf; rw [if_neg hrv]; exact .inl rfl
    have hnp : x.kind ≠ .plain := by
     intro hk
     cases hl : x.loc with
     | cell a => rw [hl] at hs; exact hfit.2.2 _ a hrole.2 hl hs hk
     | obj r => rw [hl] at hs; exact hfit.2.1 _ hrole.1 (by rw [hl]; exact congrArg _ hs)
     | _ => rw [hl] at hs; exact hs.elim
    cases hk : x.kind with
    | plain => exact absurd hk hnp
    | atomic => exact .inl ⟨rfl, hact⟩
    | said => exact .inr ⟨rfl, a10.2.1.symm, hact⟩
 ·have hnew : ∀ idx a, t.size <= idx -> (∃ op ∈ MemOp.ofEvents 0 g0.frame.fn g0.frame.place es, (t ++ MemOp.ofEvents 0 g0.frame.fn g0.frame.place es)[idx]? = some op /\ op.act.touch? = some a) -> Knows (t ++ MemOp.ofEvents 0 g0.frame.fn g0.frame.place es) 0 idx := fun idx a _ ⟨op, hop, hi, _⟩ => hown hi (hso op hop)
  cases st with
  | none =>
   intro idx a ha hm
   rcases touchAt_app ha with ha' | ⟨hi, x⟩
   ·obtain ⟨op, hop, _⟩ := touch_of ha'
    rcases hre idx a ha' hm with x | ⟨x, y⟩ | ⟨_, z, _⟩
    ·exact .inl (x.app _)
    ·exact .inr (.inl ⟨x, fun z => y ((heard_old (lt_size_of_getElem? hop)).1 z)⟩)
    ·cases z
   ·exact .inl (hnew idx a hi x)
  | some s' =>
   exact hre.app (fun idx a ha hx => .inr (hx.app (by obtain ⟨op, hop, _⟩ := touch_of ha; exact lt_size_of_getElem? hop) fun j _ _ hj => .inl hj)) (fun idx a hi x _ => .inl (hnew idx a hi x))
 ·cases ph with
  | none => exact hph
  | some p =>
   obtain ⟨a1, a2, a3, a4, a5, a6, a7, a8, a9, a10⟩ := hph
   refine ⟨a1, a2, a3, Nat.lt_of_lt_of_le a4 s.size, Nat.lt_of_lt_of_le a5 s.size, a6, a7, fun j j' m b1 b2 b3 b4 => a8 j j' m b1 (hsz ▸ b2) b3 (hsz ▸ b4), fun j S b1 b2 => by rw [hsz]; exact a9 j S b1 b2, ?_⟩
   split
   ·rename_i hrv
    rw [if_pos hrv] at a10
    obtain ⟨c1, c2, c3, s', c4, c5⟩ := a10
    have b : Blind p V := ⟨c1.1, c1.2.1, c1.2.2.1, c1.2.2.2⟩
    have b' := b.step s a4 a5
    refine ⟨⟨b'.1, b'.2.1, b'.2.2.1, b'.2.2.2⟩, c2, by rw [hsz]; exact c3, s', c4, ?_⟩
    rw [hsz]
    refine c5.keep (fun _ => rfl) (hchan p rfl) (s.frame _ a5 b.2.2.1) fun hrr g hg => ?_
    rcases getElem?_next h.pos hg with ⟨e, _⟩ | ⟨_, y, hy, rfl⟩
    ·omega
    ·rw [woken_run (hrr y hy)]; exact hrr y hy
   ·rename_i hrv
    rw [if_neg hrv] at a10
    have hch : V.role.chan = some p.c := by
     unfold RoleOk at hr
     split at hr
     ·cases hr
     ·cases hr; rename_i e; rw [e]; rfl
     ·cases hr; exact absurd rfl hrv
     ·exact hr.elim
    exact ⟨s.chan _ _ hch a10.1, a10.2.1, a10.2.2.1, by rw [hsz]; exact a10.2.2.2.1, a10.2.2.2.2.1, by rw [hsz]; exact a10.2.2.2.2.2⟩
end
theorem touch_go {x y : MemOp} {k : Nat} (hx : x.act = .go k) (hy : y.act = .start) : ∀ op ∈ (#[x, y] : Trace), op.act.touch? = none /\ still op.act /\ (∀ B, op.act.low B) /\ ∀ a, op.act ≠ .mark (.release a) := by
 intro op hop
 simp only [List.mem_toArray, List.mem_cons, List.not_mem_nil, or_false] at hop
 rcases hop with rfl | rfl
 ·rw [hx]; exact ⟨rfl, ⟨by simp, by simp⟩, fun _ => trivial, by simp⟩
 ·rw [hy]; exact ⟨rfl, ⟨by simp, by simp⟩, fun _ => trivial, by simp⟩
theorem deaf_new {t : Trace} {N : Nat} (h : ∀ op ∈ t, op.g < N) : Deaf t N = 0 := by
 have key : ∀ k, k <= t.size -> t.deaf N k = 0 := by
  intro k
  induction k with
  | zero => intro _; rfl
  | succ k ih =>
   intro hk
   have hy : t[k]? = some t[k] := Array.getElem?_eq_getElem (by omega)
   have hne : ¬ t[k].g = N := by have := h t[k] (Array.getElem_mem _); omega
   rw [deaf_succ hy, ih (by omega)]
   unfold deafStep
   split <;> simp [hne]
 exact key _ (Nat.le_refl _)
section
variable {VV : Nat -> View} {N : Nat} {w : World} {t : Trace} {Sh : Loc -> Prop} {act act' : Nat -> Prop} {ic ic' n0 : Nat} {W0 : World}
theorem Core.spawn (h : Core VV N w t Sh act ic n0 W0) (h0 : 0 < N) (hd0 : Deaf t 0 = 0) {x y : MemOp} (hx : x.g = 0 /\ x.act = .go N) (hy : y.g = N /\ y.act = .start) {U : View} (hi : U.imm = (VV 0).imm) (ho : U.own = fun _ => none)
  (hact : ∀ i, act' i -> act i \/ (i = N /\ act 0)) (hic : ic' = ic \/ (ic' = N /\ ic = 0)) : Core (upd VV N U) (N + 1) w (t ++ #[x, y]) Sh act' ic' n0 W0 := by
 have hmu := touch_go hx.2 hy.2
 have hdN : Deaf t N = 0 := deaf_new h.ti.gs
 have hk : ∀ {idx}, Knows t 0 idx -> Knows (t ++ #[x, y]) N idx := fun {idx} hx' => fork_knows hx hy hd0 hdN hx'
 have hsU : Sat U w := ⟨fun b o v e => (h.sat 0 h0).imm b o v (by rw [<- hi]; exact e), fun b x e => by rw [ho] at e; cases e⟩
 refine ⟨fun i hi' => ?_, fun a b ha hb hab => ?_, ?_, h.tape, h.os, h.out, h.old, fun i hi' b hb => ?_, h.n0⟩
 ·by_cases hiN : i = N
  ·subst hiN; rw [upd_at]; exact hsU
  ·rw [upd_not _ _ hiN]; exact h.sat i (by omega)
 ·by_cases haN : a = N
  ·subst haN; rw [upd_at]
   intro q hq; rw [ho] at hq; exact absurd rfl hq
  ·rw [upd_not _ _ haN]
   by_cases hbN : b = N
   ·subst hbN; rw [upd_at]
    intro q hq
    refine ⟨by rw [ho], fun o hu => ?_⟩
    rw [hi] at hu
    by_cases ha0 : a = 0
    ·subst ha0; exact hu
    ·exact (h.dis a 0 (by omega) h0 ha0 q hq).2 o hu
   ·rw [upd_not _ _ hbN]; exact h.dis a b (by omega) (by omega) hab
 ·refine h.ti.mute (fun op hop => (hmu op hop).1) (fun op hop => (hmu op hop).2.2.1 _) (fun op hop => ?_) (by omega) (fun op hop => (hmu op hop).2.2.2) (fun i hi' l hl idx a ha hal hwr => ?_) (fun i hi' l hl idx a ha hal => ?_) (fun idx a ha hsh => ⟨fun hp i hi' => ?_, fun hp => ?_⟩)
  ·simp only [List.mem_toArray, List.mem_cons, List.not_mem_nil, or_false] at hop
   rcases hop with rfl | rfl
   ·omega
   ·omega
  ·obtain ⟨_, hl1, hl2⟩ := hl
   by_cases hiN : i = N
   ·subst hiN
    rw [upd_at] at hl1
    have : RdV (VV 0) l := by
     cases l with
     | cell a' => rcases hl1 with z | z; exact absurd (by rw [ho]) z; exact .inr (by rw [<- hi]; exact z)
     | obj r => exact absurd (by rw [ho]) hl1
     | _ => exact hl1.elim
    exact hk (h.ti.kr 0 h0 l ⟨h0, this, hl2⟩ idx a ha hal hwr)
   ·rw [upd_not _ _ hiN] at hl1
    exact (h.ti.kr i (by omega) l ⟨by omega, hl1, hl2⟩ idx a ha hal hwr).app _
  ·obtain ⟨_, hl1, hl2⟩ := hl
   by_cases hiN : i = N
   ·subst hiN
    rw [upd_at] at hl1
    exfalso
    cases l with
    | cell a' => exact hl1.1 (by rw [ho])
    | obj r => exact hl1 (by rw [ho])
    | _ => exact hl1.elim
   ·rw [upd_not _ _ hiN] at hl1
    exact (h.ti.kw i (by omega) l ⟨by omega, hl1, hl2⟩ idx a ha hal).app _
  ·have := h.ti.sp idx a ha hsh
   rcases hact i hi' with z | ⟨rfl, z⟩
   ·exact (this.1 hp i z).app _
   ·exact hk (this.1 hp 0 z)
  ·have := h.ti.sp idx a ha hsh
   rcases hic with rfl | ⟨rfl, rfl⟩
   ·exact (this.2 hp).app _
   ·exact hk (this.2 hp)
 ·by_cases hiN : i = N
  ·subst hiN; rw [upd_at, ho]
  ·rw [upd_not _ _ hiN]; exact h.oldOwn i (by omega) b hb
end
section
variable {P : Program} {n0 : Nat} {W0 : World} {V : View} {gs gs' : Array Goroutine} {w w' : World} {sl : Option (Nat × Nat)} {t : Trace} {K : Nat -> GS} {Im : Imm} {ic : Nat} {ph : Option Phase} {p : Phase} {st st' : Option Stage}
theorem GS.view_plain {k : GS} (h : k.closer = false) (Im Im' : Imm) : k.view Im' = k.view Im := by cases k <;> first | rfl | cases h
theorem GS.is_plain {k : GS} {c Wg d : Nat} {Im Im' : Imm} {Ss Ss' : List (List Spec)} {g : Goroutine} (h : k.closer = false) (hS : ∀ (j : Nat) S, Ss[j]? = some S -> Ss'[j]? = some S) (hk : k.is P c Wg Im Ss d g) : k.is P c Wg Im' Ss' d g := by
 cases k with
 | work j hh V => obtain ⟨a, b, S, e, f⟩ := hk; exact ⟨a, b, S, hS _ _ e, f⟩
 | park j hh V V' g0 v z => obtain ⟨a, b, c, d, sp, S, B, e, f⟩ := hk; exact ⟨a, b, c, d, sp, S, B, hS _ _ e, f⟩
 | gone q => exact hk
 | add n => exact hk
 | load n => exact hk
 | store n => exact hk
 | sem n => exact hk
 | head k n => cases h
 | cas k n => cases h
 | said n => cases h
 | csem n => cases h
 | last n => cases h
 | acq n => cases h
 | look n => cases h
 | close n => cases h
theorem Inv.spawn (h : Inv P n0 W0 V gs w t K Im ic (some p) st) (hrv : p.recv = false) (hV0 : V.deaf = 0) {g' child : Goroutine} {x y : MemOp} (hx : x.g = 0 /\ x.act = .go gs.size) (hy : y.g = gs.size /\ y.act = .start) {V' : View} {p' : Phase} {Im' : Imm} {ic' : Nat} {k' : GS} (hc : p'.c = p.c) (hWg : p'.Wg = p.Wg)
  (hless : Less V' V) (hdeaf : V'.deaf = V.deaf) (hvi : (k'.view Im').imm = V.imm) (hvo : (k'.view Im').own = fun _ => none) (hSs : ∀ (j : Nat) S, p.Ss[j]? = some S -> p'.Ss[j]? = some S) (hchild : k'.is P p.c p.Wg Im' p'.Ss 0 child)
  (hact : ∀ i, i < gs.size -> actOf p' (gs.size + 1) ic' (upd K gs.size k') i -> actOf p gs.size ic K i) (hic : ic' = ic \/ ic' = gs.size)
  (hphase : PhaseOk P n0 V' ((gs.setIfInBounds 0 g').push child) w (t ++ #[x, y]) (upd K gs.size k') Im' ic' (some p') (some .early)) :
  Inv P n0 W0 V' ((gs.setIfInBounds 0 g').push child) w (t ++ #[x, y]) (upd K gs.size k') Im' ic' (some p') (some .early) := by
 obtain ⟨his, hcr, hre, hph⟩ := h.out
 obtain ⟨a1, a2, a3, a4, a5, a6, a7, a8, a9, a10⟩ := hph
 rw [if_neg (by rw [hrv]; simp)] at a10
 obtain ⟨c1, c2, c3, c4, c5, c6⟩ := a10
 have hsz : ((gs.setIfInBounds 0 g').push child).size = gs.size + 1 := by simp
 have hmu := touch_go hx.2 hy.2
 have hdf : ∀ i, Deaf (t ++ #[x, y]) i = Deaf t i := fun i => Deaf_still fun op hop => (hmu op hop).2.1
 have hpos := h.pos
 have hd0 : Deaf t 0 = 0 := by rw [h.d0, hV0]
 have hcl : ∀ i, 0 < i -> (K i).closer = false := fun i hi => by
  cases e : (K i).closer with
  | false => rfl
  | true => have := h.theCloser hi e; omega
 have hact0 : actPh (some p) gs.size ic K 0 := by
  show actOf p gs.size ic K 0
  unfold actOf; rw [if_neg (by rw [hrv]; simp)]; exact .inl rfl
 have hcore := hcr.spawn (act' := actPh (some p') (gs.size + 1) ic' (upd K gs.size k')) (ic' := ic') hpos hd0 hx hy (U := k'.view Im') (by rw [vvAt0]; exact hvi) hvo (fun i hi => by
   by_cases hiN : i < gs.size
   ·exact .inl (hact i hiN hi)
   ·refine .inr ⟨?_, hact0⟩
    have hi' : actOf p' (gs.size + 1) ic' (upd K gs.size k') i := hi
    unfold actOf at hi'
    split at hi' <;> omega) (hic.imp id fun e => ⟨e, c2⟩)
 have hcore' := (hcore.less (i := 0) (V' := V') (by omega) (by rw [upd_not _ _ (by omega), vvAt0]; exact hless)).congr (VV' := VVof V' Im' (upd K gs.size k')) fun i hi => by
  by_cases hi0 : i = 0
  ·subst hi0; rw [upd_at]; simp [VVof]
  ·rw [upd_not _ _ hi0]
   by_cases hiN : i = gs.size
   ·subst hiN; rw [upd_at]; simp [VVof, hi0, upd_at]
   ·rw [upd_not _ _ hiN]; simp only [VVof, hi0, if_false, upd_not _ _ hiN]
    exact GS.view_plain (hcl i (by omega)) _ _
 refine Inv.mk' (by omega) (by rw [upd_not _ _ (by omega)]; exact h.k0) (by rw [hdf, hdeaf]; exact h.d0) (fun i z hi hz => ?_) ?_ ?_ hphase
 ·rw [hdf]
  show (upd K gs.size k' i).is P p'.c p'.Wg Im' p'.Ss _ z
  rw [hc, hWg]
  by_cases hiN : i = gs.size
  ·subst hiN
   rw [upd_at, deaf_new hcr.ti.gs]
   have : z = child := by
    rw [show gs.size = (gs.setIfInBounds 0 g').size by simp] at hz
    rw [Array.getElem?_push_size] at hz
    exact (Option.some.inj hz).symm
   rw [this]; exact hchild
  ·have hiN' : i < gs.size := by have := (Array.getElem?_eq_some_iff.1 hz).1; omega
   rw [upd_not _ _ hiN]
   rw [Array.getElem?_push, if_neg (by simp; omega), Array.getElem?_setIfInBounds_ne (by omega)] at hz
   exact GS.is_plain (hcl i hi) hSs (his i z hi hz)
 ·rw [hsz]
  have e : shOf (some p') = shOf (some p) := by show ShP p'.c p'.Wg = ShP p.c p.Wg; rw [hc, hWg]
  rw [e]; exact hcore'
 ·have hr : Rest p.Wg t K ic st := hre
  rw [c3] at hr
  show Rest p'.Wg _ _ _ _
  rw [hWg]
  intro idx a ha hm
  have ha' := touchAt_mute (fun op hop => (hmu op hop).1) ha
  obtain ⟨op, hop, _⟩ := touch_of ha'
  have hlt := lt_size_of_getElem? hop
  rcases hr idx a ha' hm with z | ⟨z1, z2⟩ | ⟨s, hs, hx'⟩
  ·exact .inl (z.app _)
  ·exact .inr (.inl ⟨z1, fun z => z2 ((heard_old hlt).1 z)⟩)
  ·cases hs
   obtain ⟨i, hg, hi, hz⟩ := hx'
   have hiN : i < gs.size := by
    obtain ⟨op', ho', hog⟩ := Option.map_eq_some_iff.1 hg
    rw [<- hog]; exact hcr.ti.gs op' (mem_of_getElem? ho')
   refine .inr (.inr ⟨.early, rfl, i, by rw [g?_old hlt]; exact hg, hi, ?_⟩)
   rcases hz with hz | hz | ⟨r, hz, hle⟩
   ·exact .inl (by rw [upd_not _ _ (by omega)]; exact hz)
   ·omega
   ·exact .inr (.inr ⟨r, hz.app, hle⟩)
theorem Sat.imm_chan {c : Nat} {a : Nat} {x : Bool} {y z : Nat} {u : Bool} {buf : Array Value} (h : Sat V w) (hc : w.heap[c]? = some (.chan a buf x y z u)) (o : Nat) : V.imm c o = none := by
 cases e : V.imm c o with
 | none => rfl
 | some v => have := h.imm c o v e; simp [World.cell?, hc] at this
theorem Inv.noCloser (h : Inv P n0 W0 V gs w t K Im ic (some p) st) (hrv : p.recv = false) {i : Nat} (hi : 0 < i) : (K i).closer = false := by
 have hx := h.phase.2.2.2.2.2.2.2.2.2
 rw [if_neg (by rw [hrv]; simp)] at hx
 cases e : (K i).closer with
 | false => rfl
 | true => have := h.theCloser hi e; have := hx.2.1; omega
theorem Inv.goW (h : Inv P n0 W0 V gs w t K Im ic (some p) st) (hrv : p.recv = false) (hV0 : V.deaf = 0) {g' child : Goroutine} {x y : MemOp} (hx : x.g = 0 /\ x.act = .go gs.size) (hy : y.g = gs.size /\ y.act = .start) {hh : Ht} {sp : Spec} {S : List Spec} (hlen : p.Ss.length < 4) (hWi : ∀ o, V.imm p.Wg o = none)
  (hchild : WkJ P hh { imm := V.imm, own := fun _ => none, deaf := 0, role := .work p.c p.Wg (sp :: S) } child) :
  Inv P n0 W0 { V with role := .fork p.c p.Wg (p.Ss ++ [sp :: S]) } ((gs.setIfInBounds 0 g').push child) w (t ++ #[x, y]) (upd K gs.size (.work p.Ss.length hh { imm := V.imm, own := fun _ => none, deaf := 0, role := .work p.c p.Wg (sp :: S) })) Im ic
   (some { p with Ss := p.Ss ++ [sp :: S] }) (some .early) := by
 obtain ⟨his, hcr, hre, hph⟩ := h.out
 obtain ⟨a1, a2, a3, a4, a5, a6, a7, a8, a9, a10⟩ := hph
 rw [if_neg (by rw [hrv]; simp)] at a10
 obtain ⟨c1, c2, c3, c4, c5, c6⟩ := a10
 have hsz : ((gs.setIfInBounds 0 g').push child).size = gs.size + 1 := by simp
 have hs0 : Sat V w := by have := hcr.sat 0 h.pos; rwa [vvAt0] at this
 have hci := hs0.imm_chan (hs0.own _ _ c1)
 have hidx : ∀ i j, 0 < i -> i < gs.size -> (K i).idx = some j -> j < p.Ss.length := fun i j hi hlt e => by
  have hik := his i _ hi (Array.getElem?_eq_getElem hlt)
  have hik' : (K i).is P p.c p.Wg Im p.Ss (Deaf t i) gs[i] := hik
  cases hKi : K i <;> rw [hKi] at e hik' <;> simp [GS.idx] at e
  ·subst e; obtain ⟨_, _, S, e, _⟩ := hik'; exact (List.getElem?_eq_some_iff.1 e).1
  ·subst e; obtain ⟨_, _, _, _, _, _, _, e, _⟩ := hik'; exact (List.getElem?_eq_some_iff.1 e).1
 refine h.spawn hrv hV0 hx hy rfl rfl ⟨fun _ => .inr rfl, fun _ _ => .inr rfl, fun _ _ _ => rfl⟩ rfl rfl rfl (fun j S' e => ?_) ⟨rfl, hchild, sp :: S, by simp, rfl⟩ (fun i hi hact => ?_) (.inl rfl) ?_
 ·show (p.Ss ++ [sp :: S])[j]? = some S'
  rw [List.getElem?_append_left (List.getElem?_eq_some_iff.1 e).1]; exact e
 ·unfold actOf at hact ⊢
  rw [if_neg (by show ¬ p.recv = true; rw [hrv]; simp)] at hact
  rw [if_neg (by rw [hrv]; simp)]
  rw [upd_not _ _ (by omega)] at hact
  exact hact.imp id fun z => ⟨hi, z.2⟩
 ·refine ⟨a1, a2, a3, a4, a5, by simp only [List.length_append, List.length_cons, List.length_nil]; omega, fun i hi => ?_, fun i i' j b1 b2 b3 b4 b5 b6 => ?_, fun j S' b1 b2 => ?_, ?_⟩
  ·by_cases hiN : i = gs.size
   ·subst hiN; rw [upd_at]
    exact ⟨rfl, hci, rfl, hWi, fun e => by cases e⟩
   ·rw [upd_not _ _ hiN]; exact a7 i hi
  ·rw [hsz] at b2 b4
   by_cases e1 : i = gs.size
   ·by_cases e2 : i' = gs.size
    ·omega
    ·rw [upd_not _ _ e2] at b6
     have := hidx i' j b3 (by omega) b6
     subst e1; rw [upd_at] at b5
     simp only [GS.idx, Option.some.injEq] at b5; omega
   ·rw [upd_not _ _ e1] at b5
    by_cases e2 : i' = gs.size
    ·have := hidx i j b1 (by omega) b5
     subst e2; rw [upd_at] at b6
     simp only [GS.idx, Option.some.injEq] at b6; omega
    ·rw [upd_not _ _ e2] at b6
     exact a8 i i' j b1 (by omega) b3 (by omega) b5 b6
  ·rw [hsz]
   by_cases hj : j < p.Ss.length
   ·have : p.Ss[j]? = some S' := by
     have b1' : (p.Ss ++ [sp :: S])[j]? = some S' := b1
     rwa [List.getElem?_append_left hj] at b1'
    obtain ⟨i, e1, e2, e3⟩ := a9 j S' this b2
    exact ⟨i, e1, by omega, by rw [upd_not _ _ (by omega)]; exact e3⟩
   ·have hj' : j = p.Ss.length := by
     have := (List.getElem?_eq_some_iff.1 (show (p.Ss ++ [sp :: S])[j]? = some S' from b1)).1
     simp at this; omega
    exact ⟨gs.size, h.pos, by omega, by rw [upd_at, hj']; rfl⟩
  ·show if p.recv = true then _ else _
   rw [if_neg (by rw [hrv]; simp)]
   refine ⟨c1, c2, rfl, fun i b1 b2 => ?_, fun S' hS' => ?_, ?_⟩
   ·rw [hsz] at b2
    by_cases hiN : i = gs.size
    ·subst hiN; rw [upd_at]; exact .inl rfl
    ·rw [upd_not _ _ hiN]; exact c4 i b1 (by omega)
   ·rcases List.mem_append.1 hS' with z | z
    ·exact c5 S' z
    ·simp at z; subst z; simp
   ·rw [hsz, sumTo, upd_at, List.length_append, <- c6]
    rw [sumTo_congr (g := fun i => (K i).cnt) fun i hi => by rw [upd_not _ _ (by omega)]]
    rfl
theorem Inv.goC (h : Inv P n0 W0 V gs w t K Im ic (some p) st) (hrv : p.recv = false) (hV0 : V.deaf = 0) {g' child : Goroutine} {x y : MemOp} (hx : x.g = 0 /\ x.act = .go gs.size) (hy : y.g = gs.size /\ y.act = .start) {n : Nat}
  (hWg : V.own p.Wg = some (wgBlock P (((p.Ss.length : Nat) : Int) * KK) 0)) (hWi : ∀ o, V.imm p.Wg o = none) (hchild : Slide P (CHead P V.imm p.c p.Wg 5) n 0 child) :
  Inv P n0 W0 { V with own := fun b => if b = p.c \/ b = p.Wg then none else V.own b, role := .recv p.c p.Wg p.Ss } ((gs.setIfInBounds 0 g').push child) w (t ++ #[x, y]) (upd K gs.size (.head 5 n)) V.imm gs.size (some { p with recv := true }) (some .early) := by
 obtain ⟨his, hcr, hre, hph⟩ := h.out
 obtain ⟨a1, a2, a3, a4, a5, a6, a7, a8, a9, a10⟩ := hph
 rw [if_neg (by rw [hrv]; simp)] at a10
 obtain ⟨c1, c2, c3, c4, c5, c6⟩ := a10
 have hsz : ((gs.setIfInBounds 0 g').push child).size = gs.size + 1 := by simp
 have hs0 : Sat V w := by have := hcr.sat 0 h.pos; rwa [vvAt0] at this
 have hci := hs0.imm_chan (hs0.own _ _ c1)
 have hpos := h.pos
 refine h.spawn hrv hV0 hx hy rfl rfl ⟨fun b => ?_, fun _ _ => .inr rfl, fun _ _ _ => rfl⟩ rfl rfl rfl (fun j S' e => e) hchild (fun i hi hact => ?_) (.inr rfl) ?_
 ·by_cases e : b = p.c \/ b = p.Wg
  ·exact .inl (by simp only [e, if_true])
  ·exact .inr (by simp only [e, if_false])
 ·unfold actOf at hact ⊢
  rw [if_pos rfl] at hact
  rw [if_neg (by rw [hrv]; simp)]
  rw [upd_not _ _ (by omega)] at hact
  obtain ⟨z1, _, z2⟩ := hact
  rcases c4 i z1 hi with z | ⟨q, z⟩
  ·exact .inr ⟨hi, z⟩
  ·exfalso
   rw [z] at z2
   rcases z2 with z2 | z2 | z2 | z2
   ·cases z2
   ·omega
   ·cases z2
   ·cases z2
 ·refine ⟨a1, a2, a3, a4, a5, a6, fun i hi => ?_, fun i i' j b1 b2 b3 b4 b5 b6 => ?_, fun j S' b1 b2 => ?_, ?_⟩
  ·by_cases hiN : i = gs.size
   ·subst hiN; rw [upd_at]
    exact ⟨rfl, hci, rfl, hWi, fun _ => rfl⟩
   ·rw [upd_not _ _ hiN, GS.view_plain (h.noCloser hrv hi) Im]
    have := a7 i hi
    exact ⟨this.1, this.2.1, this.2.2.1, this.2.2.2.1, fun e => by rw [h.noCloser hrv hi] at e; cases e⟩
  ·rw [hsz] at b2 b4
   by_cases e1 : i = gs.size
   ·subst e1; rw [upd_at] at b5; cases b5
   ·by_cases e2 : i' = gs.size
    ·subst e2; rw [upd_at] at b6; cases b6
    ·rw [upd_not _ _ e1] at b5
     rw [upd_not _ _ e2] at b6
     exact a8 i i' j b1 (by omega) b3 (by omega) b5 b6
  ·obtain ⟨i, e1, e2, e3⟩ := a9 j S' b1 b2
   exact ⟨i, e1, by omega, by rw [upd_not _ _ (by omega)]; exact e3⟩
  ·show if true = true then _ else _
   rw [if_pos rfl]
   refine ⟨⟨by simp, hci, by simp, hWi⟩, by omega, by rw [hsz]; omega, .early, rfl, ?_⟩
   rw [hsz]
   have e1 : sumTo (gs.size + 1) (fun i => (upd K gs.size (.head 5 n) i).cnt) = p.Ss.length := by
    rw [sumTo, upd_at, <- c6]
    rw [sumTo_congr (g := fun i => (K i).cnt) fun i hi => by rw [upd_not _ _ (by omega)]]
    rfl
   have e2 : sumTo (gs.size + 1) (fun i => (upd K gs.size (.head 5 n) i).late) = 0 := by
    have hz : ∀ N, sumTo N (fun _ => 0) = 0 := fun N => by induction N with | zero => rfl | succ N ih => simp [sumTo, ih]
    rw [sumTo, upd_at]
    rw [sumTo_congr (g := fun _ => 0) fun i hi => ?_, hz]
    ·rfl
    ·rw [upd_not _ _ (by omega)]
     rcases Nat.eq_zero_or_pos i with rfl | hi0
     ·rw [h.k0]; rfl
     ·rcases c4 i hi0 hi with z | ⟨q, z⟩
      ·cases hKi : K i <;> rw [hKi] at z <;> first | rfl | cases z
      ·rw [z]; rfl
   unfold Mode
   simp only [e1, e2, upd_at]
   exact .inl ⟨⟨0, hs0.own _ _ c1⟩, trivial, trivial, a6, hs0.own _ _ hWg, .inl ⟨5, rfl, by omega⟩⟩
theorem Inv.shutEnd (h : Inv P n0 W0 V gs w t K Im ic (some p) st) (hrv : p.recv = true) (hV0 : V.deaf = 0) {g0 g' : Goroutine} {n : Nat} (hcl : w.heap[p.c]? = some (.chan 0 #[] true n n false)) {y : MemOp} (hy : y.g = 0 /\ y.act = .recvClosed p.c) :
  (∀ S ∈ p.Ss, S = []) /\ Inv P n0 W0 { V with role := .plain } (gs.setIfInBounds 0 g') w (t ++ #[y]) K Im ic none none := by
 obtain ⟨his, hcr, hre, hph⟩ := h.out
 obtain ⟨a1, a2, a3, a4, a5, a6, a7, a8, a9, a10⟩ := hph
 rw [if_pos hrv] at a10
 obtain ⟨c1, c2, c3, s, c4, c5⟩ := a10
 have hmode : (∃ pp n, s = .shut pp /\ t.act? pp = some (.close p.c) /\ t.heard pp /\ w.heap[p.c]? = some (.chan 0 #[] true n n false)) /\ (sumTo gs.size fun i => (K i).late) = 0 /\ (sumTo gs.size fun i => (K i).cnt) = 0 /\ (K ic).shape = .gone 0 := by
  have no : ¬ ∃ n, w.heap[p.c]? = some (.chan 0 #[] false n n false) := fun ⟨m, e⟩ => by rw [hcl] at e; simp at e
  unfold Mode at c5
  rcases c5 with m | m | m | m | m | m | m
  ·exact absurd m.1 no
  ·exact absurd m.1 no
  ·exact absurd m.1 no
  ·exact absurd m.1 no
  ·exact absurd m.1 no
  ·exact absurd m.1 no
  ·exact m
 obtain ⟨⟨pp, n', rfl, m1, m2, _⟩, m3, m4, m5⟩ := hmode
 have hgone : ∀ i, i < gs.size -> ∃ q, K i = .gone q := fun i hi => by
  have e1 : (K i).cnt <= sumTo gs.size fun i => (K i).cnt := le_sumTo (f := fun i => (K i).cnt) hi
  have e2 : (K i).late <= sumTo gs.size fun i => (K i).late := le_sumTo (f := fun i => (K i).late) hi
  rcases Nat.eq_zero_or_pos i with rfl | hi0
  ·exact ⟨0, h.k0⟩
  ·have hc := h.theCloser (i := i) hi0
   have z1 : (K i).cnt = 0 := by omega
   have z2 : (K i).late = 0 := by omega
   clear e1 e2
   cases hKi : K i <;> rw [hKi] at z1 z2 hc <;> first
    | exact ⟨_, rfl⟩
    |(exfalso; simp [GS.cnt] at z1; done)
    |(exfalso; simp [GS.late] at z2; done)
    |(exfalso; have := hc rfl; subst this; rw [hKi] at m5; cases m5)
 have bV : Blind p V := ⟨c1.1, c1.2.1, c1.2.2.1, c1.2.2.2⟩
 have hd0 : Deaf t 0 = 0 := by rw [h.d0, hV0]
 have hstl : ∀ op ∈ (#[y] : Trace), op.act.touch? = none /\ still op.act /\ op.act.low w.heap.size /\ (∀ a, op.act ≠ .mark (.release a)) /\ op.g = 0 := by
  intro op hop
  simp only [List.mem_toArray, List.mem_cons, List.not_mem_nil, or_false] at hop
  subst hop; rw [hy.2]
  exact ⟨rfl, ⟨by simp, by simp⟩, a4, by simp, hy.1⟩
 have hdf : ∀ i, Deaf (t ++ #[y]) i = Deaf t i := fun i => Deaf_still fun op hop => (hstl op hop).2.1
 have hsz : (gs.setIfInBounds 0 g').size = gs.size := by simp
 refine ⟨fun S hS => ?_, ?_⟩
 ·obtain ⟨j, hj⟩ := List.mem_iff_getElem?.1 hS
  apply Classical.byContradiction
  intro hne
  obtain ⟨i, e1, e2, e3⟩ := a9 j S hj hne
  obtain ⟨q, e⟩ := hgone i e2
  rw [e] at e3; cases e3
 ·refine Inv.mk' (by rw [hsz]; exact h.pos) h.k0 (by rw [hdf]; exact h.d0) (fun i x hi hx => ?_) ?_ ?_ rfl
  ·rw [Array.getElem?_setIfInBounds_ne (by omega)] at hx
   have hlt : i < gs.size := (Array.getElem?_eq_some_iff.1 hx).1
   obtain ⟨q, e⟩ := hgone i hlt
   have hk : (K i).is P p.c p.Wg Im p.Ss (Deaf t i) x := his i x hi hx
   rw [e] at hk
   rw [hdf]
   exact ⟨q, e, hk⟩
  ·rw [hsz]
   have h1 := (hcr.role (i := 0) (V' := { V with role := .plain }) h.pos (by rw [vvAt0]) (by rw [vvAt0])).congr (VV' := VVof { V with role := .plain } Im K) fun i hi => by
    by_cases hi0 : i = 0
    ·subst hi0; rw [upd_at]; simp [VVof]
    ·rw [upd_not _ _ hi0]; simp [VVof, hi0]
   have notsh : ∀ i l, i < gs.size -> RdV (VVof { V with role := .plain } Im K i) l -> ¬ ShP p.c p.Wg l := fun i l hi hl => by
    by_cases hi0 : i = 0
    ·subst hi0
     have b' : Blind p (VVof { V with role := .plain } Im K 0) := by simp only [VVof, if_true]; exact bV
     exact b'.not_sh hl
    ·obtain ⟨q, e⟩ := hgone i hi
     have : VVof { V with role := .plain } Im K i = noView := by simp only [VVof, hi0, if_false, e]; rfl
     rw [this] at hl
     exact blind_noView.not_sh hl
   refine ⟨h1.sat, h1.dis, ?_, h1.tape, h1.os, h1.out, h1.old, h1.oldOwn, h1.n0⟩
   have hti := h1.ti.mute (u := #[y]) (N' := gs.size) (rd' := fun i l => i < gs.size /\ RdV (VVof { V with role := .plain } Im K i) l /\ ¬ shOf none l) (wr' := fun i l => i < gs.size /\ WrV (VVof { V with role := .plain } Im K i) l /\ ¬ shOf none l) (act' := actPh (some p) gs.size ic K) (ic' := ic)
    (fun op hop => (hstl op hop).1) (fun op hop => (hstl op hop).2.2.1) (fun op hop => by rw [(hstl op hop).2.2.2.2]; exact h.pos) (Nat.le_refl _) (fun op hop => (hstl op hop).2.2.2.1)
    (fun i hi l hl idx a ha hal hw => (h1.ti.kr i hi l ⟨hl.1, hl.2.1, notsh i l hi hl.2.1⟩ idx a ha hal hw).app _) (fun i hi l hl idx a ha hal => (h1.ti.kw i hi l ⟨hl.1, hl.2.1, notsh i l hi hl.2.1.rd⟩ idx a ha hal).app _)
    (fun idx a ha hsh => ⟨fun hp i hi => ((h1.ti.sp idx a ha hsh).1 hp i hi).app _, fun hp => ((h1.ti.sp idx a ha hsh).2 hp).app _⟩)
   exact hti.weaken (Nat.le_refl _) (fun _ _ _ x => .inl x) (fun _ _ _ x => x) (fun idx a _ hx => hx.elim)
  ·have hr : Rest p.Wg t K ic st := hre
   rw [c4] at hr
   intro idx a ha hm
   have ha' := touchAt_mute (fun op hop => (hstl op hop).1) ha
   obtain ⟨op, hop, _⟩ := touch_of ha'
   rcases hr idx a ha' hm with z | ⟨z1, z2⟩ | ⟨s, hs, hx⟩
   ·exact .inl (z.app _)
   ·exact .inr (.inl ⟨z1, fun z => z2 ((heard_old (lt_size_of_getElem? hop)).1 z)⟩)
   ·cases hs
    exact .inl (closed_knows m1 m2 hy hd0 hx)
theorem Inv.mainParks (h : Inv P n0 W0 V gs w t K Im ic (some p) st) (hrv : p.recv = true) (x : Goroutine) : Inv P n0 W0 V (gs.setIfInBounds 0 x) w t K Im ic (some p) st := by
 obtain ⟨his, hcr, hre, hph⟩ := h.out
 obtain ⟨a1, a2, a3, a4, a5, a6, a7, a8, a9, a10⟩ := hph
 have hsz : (gs.setIfInBounds 0 x).size = gs.size := by simp
 rw [if_pos hrv] at a10
 obtain ⟨c1, c2, c3, s, c4, c5⟩ := a10
 refine Inv.mk' (by rw [hsz]; exact h.pos) h.k0 h.d0 (fun i z hi hz => ?_) (by rw [hsz]; exact hcr) hre ⟨a1, a2, a3, a4, a5, a6, a7, by rw [hsz]; exact a8, by rw [hsz]; exact a9, ?_⟩
 ·rw [Array.getElem?_setIfInBounds_ne (by omega)] at hz
  exact his i z hi hz
 ·rw [if_pos hrv]
  refine ⟨c1, c2, by rw [hsz]; exact c3, s, c4, ?_⟩
  rw [hsz]
  have e0 : t = t ++ #[] := by simp
  rw [e0]
  exact c5.keep (fun _ => rfl) rfl rfl fun hrr g hg => by rw [Array.getElem?_setIfInBounds_ne (by omega)] at hg; exact hrr g hg
end
def MJ (P : Program) (Post : Value -> World -> Prop) (n0 : Nat) (W0 : World) (V : View) (g : Goroutine) : Prop :=
 g.status = .running /\ ∀ gs w sl t K Im ic ph st, Inv P n0 W0 V gs w t K Im ic ph st -> RoleOk V.role ph -> MainAt gs g -> Ok P Post (crowd gs w sl) t
section
variable {P : Program} {Post : Value -> World -> Prop} {n0 : Nat} {W0 : World}
def Step0 (P : Program) (Post : Value -> World -> Prop) (gs : Array Goroutine) (w : World) (sl : Option (Nat × Nat)) (t : Trace) : Prop :=
 (∃ m' ops, runT P (crowd gs w sl) 0 = (.next m', ops) /\ Ok P Post m' (t ++ ops)) \/ ∃ o w' ops, runT P (crowd gs w sl) 0 = (.ended o w', ops) /\ ∀ w0 sl0, Conc.Good P Post (crowd gs w0 sl0) o w' (t ++ ops)
theorem MainAt.pos {gs : Array Goroutine} {g : Goroutine} (h : MainAt gs g) : ∃ (i : Nat) (x : Goroutine), gs[i]? = some x /\ x.status = .running := by
 obtain ⟨g0, h0, h1, _⟩ := h; exact ⟨0, g0, h0, h1⟩
theorem MJ.turn {V : View} {g : Goroutine} (hg : g.status = .running) (own : ∀ gs w sl t K Im ic ph st, Inv P n0 W0 V gs w t K Im ic ph st -> RoleOk V.role ph -> MainAt gs g -> Step0 P Post gs w sl t) : MJ P Post n0 W0 V g := by
 refine ⟨hg, fun gs w sl t K Im ic ph st h hr hm => ?_⟩
 generalize hN : gs.size = N
 generalize hμ : ((fun j => (K j).rank), flag gs ic) = μ
 induction μ using (muLt_wf N).induction generalizing gs w sl t K st with
 | _ μ ih =>
  obtain ⟨i, gi, d, sl', hgi, hrun, hst⟩ := crowd_pick (P := P) (w := w) (sl := sl) (h.awake (.inl hm)) hm.pos
  have hd := h.draw d
  rcases Nat.eq_zero_or_pos i with rfl | hi
  ·rcases own _ _ sl' _ _ _ _ _ _ hd hr hm with ⟨m', ops, h1, h2⟩ | ⟨o, w', ops, h1, h2⟩
   ·exact Ok.step (hst.trans h1) h2
   ·exact Ok.end (hst.trans h1) (h2 w sl)
  ·rcases hd.other (sl := sl') (.inl hm) hi hgi hrun with ⟨gs', w', ops, K', st', h1, h2, h3, h4, _, h5⟩ | ⟨p, _, _, hpk⟩
   ·have hmain : MainAt gs' g := by
     cases ph with
     | none => exact (h4 g 0 (by simp)).1 hm
     | some p => exact (h4 g p.c (fun q hq => by cases hq; rfl)).1 hm
    exact Ok.step (hst.trans h1) (ih _ (by rw [<- hμ, <- hN]; exact h5) gs' w' sl' _ K' st' h3 hmain (by rw [h2, hN]) rfl)
   ·obtain ⟨g0, h0, hs, _⟩ := hm
    obtain ⟨g1, z, h1, _⟩ := hpk
    rw [h1] at h0; cases h0; cases hs
theorem MJ.recv {V : View} {g : Goroutine} {c Wg : Nat} {Ss : List (List Spec)} {z : Value} (hrole : V.role = .recv c Wg Ss) (hV0 : V.deaf = 0) (hg : g.status = .running)
  (hstep : ∀ w, Sat V w -> stepG P true g w = .comm g #[rcase c z] true (.recv true) w #[])
  (J1 : ∀ (i : Nat) sp S v Im Ow, Ss[i]? = some (sp :: S) -> sp v Im Ow -> (∀ b, V.own b ≠ none -> Ow b = none) -> (∀ b o, V.own b ≠ none -> Im b o ≠ none -> V.imm b o ≠ none) -> (∃ w, Sat V w /\ (∀ b o x, Im b o = some x -> w.cell? ⟨b, o, none⟩ = some x) /\ ∀ b x, Ow b = some x -> w.heap[b]? = some x) ->
   MJ P Post n0 W0 (joinV V Im Ow (.recv c Wg (Ss.set i S))) (Conc.served g (.tuple #[v, .bool true])))
  (J2 : (∀ S ∈ Ss, S = []) -> MJ P Post n0 W0 { V with role := .plain } (Conc.served g (.tuple #[z, .bool false]))) : MJ P Post n0 W0 V g := by
 have met : ∀ {gs w sl t K Im ic st i}, Inv P n0 W0 V gs w t K Im ic (some ⟨c, Wg, Ss, true⟩) st -> Met P n0 W0 V gs w sl t Im ic ⟨c, Wg, Ss, true⟩ st g i -> ∀ {m}, stepT P m = runT P (crowd gs w sl) i -> Ok P Post m t := by
  rintro gs w sl t K Im ic st i _ ⟨gs', w', ops, K', j, sp, S, v, Im', Ow, h1, h2, h3, h4, h5, h6, h6', h7, h8⟩ m hm
  exact Ok.step (hm.trans h1) ((J1 j sp S v Im' Ow h4 h5 h6 h6' h7).2 gs' w' sl _ K' Im ic _ st h8 rfl h3)
 refine ⟨hg, fun gs w sl t K Im ic ph st h hr hm => ?_⟩
 have hph : ph = some ⟨c, Wg, Ss, true⟩ := by rw [hrole] at hr; exact hr
 subst hph
 suffices key : ∀ N μ gs w sl t K st, Inv P n0 W0 V gs w t K Im ic (some ⟨c, Wg, Ss, true⟩) st -> gs.size = N -> ((fun j => (K j).rank), flag gs ic) = μ -> (MainAt gs g \/ (MainParked gs g c /\ Calm gs /\ Opn w c)) -> Ok P Post (crowd gs w sl) t from key _ _ gs w sl t K st h rfl rfl (.inl hm)
 clear h hr hm
 intro N μ
 induction μ using (muLt_wf N).induction with
 | _ μ ih =>
  have A : ∀ gs w sl t K st, Inv P n0 W0 V gs w t K Im ic (some ⟨c, Wg, Ss, true⟩) st -> gs.size = N -> ((fun j => (K j).rank), flag gs ic) = μ -> MainParked gs g c -> Calm gs -> Opn w c -> Ok P Post (crowd gs w sl) t := by
   intro gs w sl t K st h hN hμ hpk hcalm ho
   have hmn : MainAt gs g \/ ∃ p, some (Phase.mk c Wg Ss true) = some p /\ p.recv = true /\ V.deaf = 0 /\ MainParked gs g p.c := .inr ⟨_, rfl, rfl, hV0, hpk⟩
   have hsome : ∃ (i : Nat) (x : Goroutine), gs[i]? = some x /\ x.status = .running := by
    obtain ⟨i, x, _, h1, h2⟩ := h.someRuns rfl ho hcalm; exact ⟨i, x, h1, h2⟩
   obtain ⟨i, gi, d, sl', hgi, hrun, hst⟩ := crowd_pick (P := P) (w := w) (sl := sl) (h.awake hmn) hsome
   have hd := h.draw d
   have hi : 0 < i := by
    rcases Nat.eq_zero_or_pos i with rfl | hi
    ·obtain ⟨g1, z1, h1, _⟩ := hpk
     rw [h1] at hgi; cases hgi; cases hrun
    ·exact hi
   rcases hd.other (sl := sl') hmn hi hgi hrun with ⟨gs', w', ops, K', st', h1, h2, h3, h4, h5, h6⟩ | ⟨p, hp, hmet, _⟩
   ·refine Ok.step (hst.trans h1) (ih _ (by rw [<- hμ, <- hN]; exact h6) gs' w' sl' _ K' st' h3 (by rw [h2, hN]) rfl ?_)
    rcases (h4 g c (fun q hq => by cases hq; rfl)).2 hpk ho with x | ⟨x, y⟩
    ·exact .inl x
    ·exact .inr ⟨x, h5 g c hpk hcalm, y⟩
   ·cases hp
    exact met hd hmet hst
  intro gs w sl t K st h hN hμ hmain
  rcases hmain with hm | ⟨h1, h2, h3⟩
  ·obtain ⟨i, gi, d, sl', hgi, hrun, hst⟩ := crowd_pick (P := P) (w := w) (sl := sl) (h.awake (.inl hm)) hm.pos
   have hd := h.draw d
   rcases Nat.eq_zero_or_pos i with rfl | hi
   ·
    obtain ⟨g0, h0, hg0, hf1, hf2, hf3⟩ := hm
    have hsat : Sat V (w.at d) := by have := hd.core.sat 0 h.pos; rwa [vvAt0] at this
    have hst0 : stepG P (0 == 0) g0 (w.at d) = .comm g #[rcase c z] true (.recv true) (w.at d) #[] := by rw [<- hstep _ hsat]; exact stepG_same hf1 hf2 hf3 _
    have e0 : (t ++ MemOp.ofEvents 0 g0.frame.fn g0.frame.place #[]) = t := by simp [MemOp.ofEvents]
    rcases hd.opens rfl with ⟨n, hopen⟩ | ⟨hnone, ⟨n, hcl⟩, _⟩
    ·by_cases hpark : ∃ i j h' V₁ V₂ g1 v z1, 0 < i /\ i < gs.size /\ K i = .park j h' V₁ V₂ g1 v z1
     ·exact met hd (hd.recvMeets (sl := sl') rfl hV0 ⟨g0, h0, hg0, hf1, hf2, hf3⟩ (hstep _ hsat) hpark) hst
     ·have offers : ∀ m x, 0 < m -> gs[m]? = some x -> x.status = .blocked -> x.offers = none := by
       intro m x hm0 hx hb
       rcases GS.runs (show (K m).is P c Wg Im Ss (Deaf t m) x from h.is m x hm0 hx) with e | ⟨e, _⟩ | ⟨j, h', V1, V2, g1, v, z1, e⟩ | ⟨_, _, e⟩
       ·rw [e] at hb; cases hb
       ·rw [e] at hb; cases hb
       ·exact absurd ⟨m, j, h', V1, V2, g1, v, z1, hm0, (Array.getElem?_eq_some_iff.1 hx).1, e⟩ hpark
       ·exact e
      have hw := crowd_waits (P := P) (sl := sl') (i := 0) h0 hst0 (fun cc hcc => by
       simp only [List.mem_toArray, List.mem_cons, List.not_mem_nil, or_false] at hcc
       subst hcc
       refine ways_recv_none hopen (partners_nil fun m x hx => ?_)
       rcases getElem?_stand gs 0 m x hx with ⟨_, rfl⟩ | ⟨hm0, hx'⟩
       ·exact offersAt_ph _ _
       ·by_cases hb : x.status = .blocked
        ·unfold offersAt; simp [hb, offers m x (by omega) hx' hb]
        ·exact offersAt_of_not_blocked hb _ _)
      refine Ok.step (hst.trans hw) ?_
      rw [e0]
      refine A _ (w.at d) sl' t K st (hd.mainParks rfl _) (by simp [hN]) ?_ ⟨g, z, ?_, rfl, rfl, rfl⟩ (fun m x hm0 hx hb => ?_) ⟨n, hopen⟩
      ·rw [<- hμ]
       have hic : 0 < ic := by obtain ⟨_, _, x, _⟩ := h.mode rfl; exact x
       unfold flag
       rw [Array.getElem?_setIfInBounds_ne (by omega)]
      ·rw [Array.getElem?_setIfInBounds_self_of_lt h.pos]
      ·rw [Array.getElem?_setIfInBounds_ne (by omega)] at hx
       exact offers m x hm0 hx hb
    ·have hp : partners (gs.setIfInBounds 0 ph) c true = [] := partners_nil fun m x hx => by
      rcases getElem?_stand gs 0 m x hx with ⟨_, rfl⟩ | ⟨hm0, hx'⟩
      ·exact offersAt_ph _ _
      ·have hlt : m < gs.size := (Array.getElem?_eq_some_iff.1 hx').1
       rcases GS.runs (show (K m).is P c Wg Im Ss (Deaf t m) x from h.is m x (by omega) hx') with e | ⟨e, _⟩ | ⟨j, h', V1, V2, g1, v, z1, e⟩ | ⟨_, eb, e⟩
       ·exact offersAt_of_not_blocked (by rw [e]; simp) _ _
       ·exact offersAt_of_not_blocked (by rw [e]; simp) _ _
       ·have := hnone m (by omega) hlt; rw [e] at this; cases this
       ·unfold offersAt; simp [eb, e]
     have hw := crowd_recv_closed (P := P) (sl := sl') (i := 0) h0 hst0 hcl hp
     refine Ok.step (hst.trans hw) ?_
     rw [finishComm_recv, <- Array.append_assoc, e0]
     obtain ⟨hS, hinv⟩ := hd.shutEnd rfl hV0 (g0 := g0) (g' := Conc.served g (recvd true z false)) hcl (y := { g := 0, fn := g.frame.fn, pos := g.frame.place, act := .recvClosed c }) ⟨rfl, rfl⟩
     exact (J2 hS).2 _ (w.at d) sl' _ K Im ic none none hinv rfl ⟨Conc.served g (recvd true z false), by rw [Array.getElem?_setIfInBounds_self_of_lt h.pos], rfl, rfl, rfl, rfl⟩
   ·rcases hd.other (sl := sl') (.inl hm) hi hgi hrun with ⟨gs', w', ops, K', st', h1, h2, h3, h4, _, h5⟩ | ⟨p, _, _, hpk⟩
    ·exact Ok.step (hst.trans h1) (ih _ (by rw [<- hμ, <- hN]; exact h5) gs' w' sl' _ K' st' h3 (by rw [h2, hN]) rfl (.inl ((h4 g c (fun q hq => by cases hq; rfl)).1 hm)))
    ·obtain ⟨g0, h0, hs, _⟩ := hm
     obtain ⟨g1, z1, h1, _⟩ := hpk
     rw [h1] at h0; cases h0; cases hs
  ·exact A gs w sl t K st h hN hμ h1 h2 h3
structure Left (n0 : Nat) (W0 w : World) : Prop where
 tape : w.tape = W0.tape
 os : w.os = W0.os
 out : w.output = W0.output
 old : ∀ b, b < n0 -> w.heap[b]? = W0.heap[b]?
 size : n0 <= w.heap.size
theorem Inv.good {V : View} {gs : Array Goroutine} {w : World} {t : Trace} {K : Nat -> GS} {Im : Imm} {ic : Nat} {st : Option Stage} (h : Inv P n0 W0 V gs w t K Im ic none st) {v : Value} (hp : Post v w) (w0 : World) (sl0 : Option (Nat × Nat)) : Conc.Good P Post (crowd gs w0 sl0) (.done v) w t := by
 obtain ⟨his, hcr, hre, hst⟩ := h.out
 have hst' : st = none := hst
 refine ⟨v, rfl, hp, hcr.ti.nr, ?_, ⟨?_, rfl⟩, ?_⟩
 ·intro i g hg hg0 ⟨x, hx, hm, hk⟩
  rcases hre i x hx hm with ⟨q, z, h1, h2, h3⟩ | ⟨h1, h2⟩ | ⟨_, h1, _⟩
  ·rcases h3 with rfl | h3
   ·exfalso
    simp only [Trace.g?, h1, Option.map_some, Option.some.injEq] at hg
    omega
   ·exact ⟨q, by simp [Trace.g?, h1, h2], h3⟩
  ·rcases hk with hk | hk
   ·exact absurd h1 hk
   ·exact absurd hk h2
  ·rw [hst'] at h1; cases h1
 ·intro g hg
  obtain ⟨i, hi⟩ := List.mem_iff_getElem?.1 hg
  rw [List.getElem?_drop] at hi
  have hi' : gs[1 + i]? = some g := by simpa [crowd] using hi
  obtain ⟨q, _, hq⟩ := his (1 + i) g (by omega) hi'
  exact ⟨q, hq.leaves⟩
 ·intro i g hi hi0
  obtain ⟨q, _, hq⟩ := his i g (by omega) hi
  exact ⟨q, hq.hears _⟩
theorem MJ.end {V : View} {g : Goroutine} (hg : g.status = .running) (hr : V.role = .plain)
  (h : ∀ w, Sat V w -> Left n0 W0 w -> (∀ b, b < n0 -> V.own b = none) -> ∃ v w' es V', stepG P true g w = .ended (.done v) w' es /\ StepOk V w V' w' es /\ Post v w') : MJ P Post n0 W0 V g := by
 refine MJ.turn hg fun gs w sl t K Im ic ph st hI hro ⟨g0, h0, hg0, hf1, hf2, hf3⟩ => .inr ?_
 have hcr := hI.out.2.1
 have hsat : Sat V w := by have := hI.core.sat 0 hI.pos; rwa [vvAt0] at this
 obtain ⟨v, w', es, V', h1, h2, h3⟩ := h w hsat ⟨hcr.tape, hcr.os, hcr.out, hcr.old, hcr.n0⟩ (fun b hb => by have := hcr.oldOwn 0 hI.pos b hb; rwa [vvAt0] at this)
 have hst : stepG P (0 == 0) g0 w = .ended (.done v) w' es := by rw [<- h1]; exact stepG_same hf1 hf2 hf3 w
 refine ⟨_, w', _, runT_crowd_ended h0 hst, fun w0 sl0 => ?_⟩
 have hph : ph = none := by rw [hr] at hro; exact hro
 subst hph
 have hinv := hI.mainStep (g' := g0) h0 h2 hro
 have hgd := hinv.good (Post := Post) h3 w0 sl0
 obtain ⟨v', e, hp, hn, hh, hl, hd⟩ := hgd
 refine ⟨v', e, hp, hn, hh, ⟨?_, rfl⟩, ?_⟩
 ·intro g hg'
  obtain ⟨i, hi⟩ := List.mem_iff_getElem?.1 hg'
  rw [List.getElem?_drop] at hi
  have hi' : gs[1 + i]? = some g := by simpa [crowd] using hi
  obtain ⟨q, _, hq⟩ := hI.out.1 (1 + i) g (by omega) hi'
  exact ⟨q, hq.leaves⟩
 ·intro i g hi hi0
  obtain ⟨q, _, hq⟩ := hI.out.1 i g (by omega) hi
  refine ⟨q, ?_⟩
  have : (t ++ MemOp.ofEvents 0 g0.frame.fn g0.frame.place es).deaf i (t ++ MemOp.ofEvents 0 g0.frame.fn g0.frame.place es).size = Deaf t i :=
   Deaf_other t (g := i) (g' := 0) (by omega) _ fun op hop => by obtain ⟨e, _, rfl⟩ := Conc.mem_ofEvents hop; rfl
  rw [this]; exact hq.hears _
def LoneJ (P : Program) (Post : Value -> World -> Prop) (n0 : Nat) (W0 : World) (V : View) (g : Goroutine) : Prop :=
 V.role = .plain -> ∀ w, Sat V w -> Left n0 W0 w -> (∀ b, b < n0 -> V.own b = none) ->
  ∃ n fr w1 v w', runN P n (solo g w) = .next (solo (G fr []) w1) /\ step P (solo (G fr []) w1) = .ended (.done v) w' /\ Post v w'
theorem lone_closed : Closed false P true (LoneJ P Post n0 W0) where
 step V g hs h hro w hw hl ho := by
  obtain ⟨g', w', es, V', h1, h2, h3⟩ := h w hw
  obtain ⟨n, fr, w1, v, w2, r1, r2, r3⟩ := h3 (h2.role.trans hro) w' h2.sat
   ⟨h2.tape.trans hl.tape, h2.os.trans hl.os, h2.output.trans hl.out, fun b hb => by
    rw [h2.frame b (Nat.lt_of_lt_of_le hb hl.size) (ho b hb)]; exact hl.old b hb, Nat.le_trans hl.size h2.size⟩
   (fun b hb => h2.own b (Nat.lt_of_lt_of_le hb hl.size) (ho b hb))
  refine ⟨n + 1, fr, w1, v, w2, ?_, r2, r3⟩
  rw [show n + 1 = 1 + n by omega, runN_add, runN, step_solo_go hs h1]
  exact r1
 ghost V V' g hg h hro w hw hl ho := h (hg.role.trans hro) w (hg.sat w hw) hl fun b hb => hg.own b (ho b hb)
 send V g c Wg sp S v z B h1 h2 h3 h4 h5 h6 h7 hro := by rw [hro] at h1; cases h1
 done V g c Wg h1 h2 h3 hro := by rw [hro] at h1; cases h1
 slip V g g' c Wg h1 h2 h3 h4 hro := by rw [hro] at h1; cases h1
 more h := by cases h
theorem run_of_body {f : FuncId} {args : Array Value} {W : World} {V : View} {R : Out -> View -> Prop} (hi : P.inits.idxOf? f = none) (ho : V.own = fun _ => none) (hro : V.role = .plain) (hs : Sat V W) (h : Body false P f args .normal V R)
  (hR : ∀ o V', R o V' -> V'.role = .plain /\ ∃ v, o = .ret v /\ ∀ w, Sat V' w -> Left W.heap.size W w -> Post v w) :
  ∃ n fr w1 v w', runN P n (solo (G (Frame.enter P f args .normal) []) W) = .next (solo (G fr []) w1) /\ step P (solo (G fr []) w1) = .ended (.done v) w' /\ Post v w' := by
 refine h true (LoneJ P Post W.heap.size W) lone_closed [] (fun o V' fr r hl => ?_) hro W hs ⟨rfl, rfl, rfl, fun _ _ => rfl, Nat.le_refl _⟩ fun b _ => by rw [ho]
 obtain ⟨hr, v, rfl, hp⟩ := hR _ _ r
 obtain ⟨rfl, hdf, hk, fn, hf, hm, hres⟩ := hl
 intro _ w hw hleft hold
 obtain ⟨es, w', V'', h1, h2, h3⟩ := hres.runs hw
 rcases h3 with ⟨x, h3, rfl, rfl⟩ | ⟨_, _, hx⟩
 ·refine ⟨0, fr, w, x, w', rfl, ?_, ?_⟩
  ·have hst : stepG P true (G fr []) w = .ended (.done x) w' (seen P fr.fn es) := by simp [G, stepG, unwind, doReturn, hm, hdf, hk, hf, h3, h2, GStep.after, hi]
   exact step_lone_ended (fr := fr) (cs := []) (by rw [show ({ frame := fr, callers := [], status := .running, dying := none } : Goroutine) = G fr [] from rfl, hst]; rfl)
  ·refine hp w' h1.sat ⟨h1.tape.trans hleft.tape, h1.os.trans hleft.os, h1.output.trans hleft.out, fun b hb => ?_, Nat.le_trans hleft.size h1.size⟩
   rw [h1.frame b (Nat.lt_of_lt_of_le hb hleft.size) (hold b hb)]; exact hleft.old b hb
 ·exact hx.elim
end
theorem returnsInHanded_of_lone {H : Type} {enc : TypeId × Value -> H} {a : Assume} {C : Checked} {os : Os} {f : FuncId} {fn : Func} {s : ChangeSpec} {conds : List PathCond} {apart fresh handsOn again : Bool} {X : World -> Array Value -> Prop}
  (hX : ∀ (w w' : World) (args : Array Value), w.heap = w'.heap -> X w args -> X w' args)
  (own : ownKnob C.prog.godebug = none) (started : os.Started) (hfn : C.prog.funcs[f]? = some fn)
  (witness : ∃ (w : World) (tape : Tape) (i : Input), w.os = os /\ (w.forCall tape i).Shaped C.prog /\ i.vars = [] /\ Input.okWide C.prog (w.forCall tape i) .any w.heap.size f i /\
   ((s.pre enc C.prog fn conds apart (w.forCall tape i).memory i.args /\ X (w.forCall tape i).memory i.args) /\ sizedMet enc C.prog fn (OpenSpec.ofChange s) apart (w.forCall tape i).memory i.args) /\ a.holds C.prog (lone (Frame.enter C.prog f i.args .normal) [] (w.forCall tape i)))
  (runs : ∀ (W : World) (base : Nat) (args : Array Value) (ds gs : List (DataW H)) (before : List MemPlace),
   (∀ (j : Nat) t v, fn.params[j]? = some t -> args[j]? = some v -> Value.okWide C.prog W .any base t v) ->
   DataW.Whole enc C.prog fn.params.toList s.vars apart W args.toList ds gs before ->
   conds.all (PathCond.test C.prog ⟨fn.params.toList, ds, s.plain.varTypes C.prog, gs⟩) = true ->
   (DataW.weightsEach C.prog (fn.params.toList ++ s.plain.varTypes C.prog) (ds ++ gs)).all (· <= reachBytes) = true -> X W args ->
   a.holds C.prog (lone (Frame.enter C.prog f args .normal) [] W) ->
   ∃ n fr w1 v w', runN C.prog n (solo (G (Frame.enter C.prog f args .normal) []) W) = .next (solo (G fr []) w1) /\ step C.prog (solo (G fr []) w1) = .ended (.done v) w' /\ s.post enc C.prog fn apart fresh handsOn again W args v w') :
  ReturnsInHanded a C os f .any (fun w args => (s.pre enc C.prog fn conds apart w args /\ X w args) /\ sizedMet enc C.prog fn (OpenSpec.ofChange s) apart w args) (s.post enc C.prog fn apart fresh handsOn again) := fun enter => by
 obtain ⟨w0, t0, i0, a1, a2, a3, a4, a5, a6⟩ := witness
 refine ⟨enter, own, started, ⟨w0, t0, i0, a1, a2, a3, a4, a5, a6, trivial⟩, fun w tape i h => ?_⟩
 obtain ⟨_, _, _, hok, hpre, hholds, _⟩ := h
 obtain ⟨_, _, _, fn', hfn', _, _, _, _, hval⟩ := hok
 have e : fn' = fn := Option.some.inj (hfn'.symm.trans hfn)
 subst e
 obtain ⟨⟨⟨ds, gs, before, hw, hc⟩, hx⟩, hz⟩ := hpre
 have hw' := DataW.Whole.of_heap (w' := w.forCall tape i) (by rfl) hw
 obtain ⟨n, fr, w1, v, w', hn, hst, hp⟩ := runs (w.forCall tape i) w.heap.size i.args ds gs before hval hw' hc (hz.weights hw) (hX _ _ _ (by rfl) hx) hholds
 have hend : runN C.prog (n + 1) (Machine.entering C.prog w tape f i) = .ended (.done v) w' := by
  rw [runN_add, show Machine.entering C.prog w tape f i = solo (G (Frame.enter C.prog f i.args .normal) []) (w.forCall tape i) from rfl, hn]
  simp only [runN]
  rw [hst]
 exact ⟨n + 1, v, w', hend, (clean_of_lone (fr := fr) (cs := []) (w := w1) hn).2, roomy_placeholder .., ChangeSpec.post_blind hp, ⟨n, _, hn, hst, alone_of_lone hn⟩, fun _ _ _ => trivial⟩
open Go.Proofs Go.ChangeShapes Go.WideShapes Go.ChangeAt Go.RowKit
def view0 (W : World) : View := ⟨fun b o => W.cell? ⟨b, o, none⟩, fun _ => none, 0, .plain⟩
def env0 (W : World) : Env := ⟨(view0 W).imm, 1, fun _ => 0, fun _ _ => (none, 0), fun _ => 0, fun _ => none, true⟩
theorem sat0 (W : World) : Sat (view0 W) W := ⟨fun _ _ _ h => h, fun _ _ h => by cases h⟩
theorem conc0 (W : World) : Conc (env0 W) (view0 W) [.main] where
 I := rfl
 n := rfl
 obj := fun k x h => by
  match k, h with
  | 0, h => cases h; exact rfl
  | k + 1, h => cases h
 inj := fun i j x y b hi hj h1 h2 => by
  match i, hi with
  | 0, hi => cases hi; cases h1
  | i + 1, hi => cases hi
 group := fun g h => by cases h
 chan := fun c h => by cases h
 top := fun _ => ⟨rfl, rfl⟩
 fr := fun b y h => by cases h
theorem run_of_fn {f : FuncId} {W : World} {args : Array Value} {avs : List AV} {Q : Value -> Prop} (hi : Tryd.prog.inits.idxOf? f = none) (hd : Denl (env0 W) avs args) (h : FnC false Tryd.prog f [.main] avs (fun a _ => ∀ E v, Den E a v -> Q v) (fun _ _ => False)) :
  ∃ n fr w1 v w', runN Tryd.prog n (solo (G (Frame.enter Tryd.prog f args .normal) []) W) = .next (solo (G fr []) w1) /\ step Tryd.prog (solo (G fr []) w1) = .ended (.done v) w' /\ Q v /\ Left W.heap.size W w' := by
 refine run_of_body (Post := fun v w => Q v /\ Left W.heap.size W w) hi (V := view0 W) rfl rfl (sat0 W) (h (env0 W) (view0 W) args (conc0 W) hd) fun o V' r => ?_
 cases o with
 | ret v =>
  obtain ⟨av, E', H', _, hro, _, hden, _, hk⟩ := r
  exact ⟨hro, v, rfl, fun w _ hl => ⟨hk _ _ hden, hl⟩⟩
 | panic ch =>
  obtain ⟨pv, v, E', H', _, _, _, _, _, _, hf⟩ := r
  exact hf.elim
theorem den0_ints {W : World} {b o len cap : Nat} {zs : List Int} (hl : zs.length = len) (hc : len <= cap) (h : ∀ i, i < len -> W.cell? ⟨b, o + i, none⟩ = some (.int .i64 (zs.getD i 0))) : Den (env0 W) (aInts zs) (.slice (some ⟨b, o, none⟩) len cap) := by
 subst hl
 refine .sl b o cap (fun i => .int .i64 (zs.getD i 0)) hc trivial (fun i hi => ?_) (fun i x hx => ?_)
 ·exact h i (by simpa using hi)
 ·rw [List.getElem?_map] at hx
  obtain ⟨z, hz, rfl⟩ := Option.map_eq_some_iff.1 hx
  rw [List.getD_eq_getElem?_getD, hz]
  exact .val _
theorem Left.below {W w : World} (h : Left W.heap.size W w) : Below W.heap.size W w := ⟨h.os, h.tape, h.out, h.size, h.old⟩
theorem Tw.own : ownKnob Tryd.prog.godebug = none := by kernel_rfl
theorem Tw.laidOut : laidOutB Tryd.prog = true := by kernel_rfl
theorem Tw.u22 : Tryd.prog.underlying 22 = some (.slice 3) := by kernel_rfl
theorem Tw.u3 : Tryd.prog.underlying 3 = some (.int .i64) := by kernel_rfl
theorem Tw.u4 : Tryd.prog.underlying 4 = some .bool := by kernel_rfl
theorem Tw.c3 : Tryd.prog.cellsOf 3 = 1 := by kernel_rfl
theorem Tw.b3 : Tryd.prog.bytesOf 3 = 8 := by kernel_rfl
theorem Tw.r22 : Tryd.prog.readableRec 22 = true := by kernel_rfl
theorem Tw.l22 : 22 < Tryd.prog.types.size := of_decide_eq_true (by kernel_rfl)
def LawInts (f : FuncId) : Prop := ∀ nums : List Int, nums.length <= 2 ^ 50 -> FnC false Tryd.prog f [.main] [aInts nums] (fun a _ => a = bv true) (fun _ _ => False)
set_option maxRecDepth 100000 in
theorem ints_lifted {f : FuncId} {fn : Func} {s : ChangeSpec} {X : World -> Array Value -> Prop} (hX : ∀ (w w' : World) (args : Array Value), w.heap = w'.heap -> X w args -> X w' args) (hf : Tryd.prog.funcs[f]? = some fn) (hp : fn.params = #[22]) (hr : fn.resultTypes = #[4]) (hv : s.vars = []) (hs : ∀ (H : Type) (d : DataW H), s.fn H [d] = { results := [.lit (.bool true)], args := [d] }) (hi : Tryd.prog.inits.idxOf? f = none) (hlaw : LawInts f)
  (os : Os) (started : os.Started) (H : Type) (enc : TypeId × Value -> H)
  (hwit : ∃ (w : World) (tape : Tape) (i : Input), w.os = os /\ (w.forCall tape i).Shaped Tryd.checked.prog /\ i.vars = [] /\ Input.okWide Tryd.checked.prog (w.forCall tape i) .any w.heap.size f i /\
   ((s.pre enc Tryd.checked.prog fn [] false (w.forCall tape i).memory i.args /\ X (w.forCall tape i).memory i.args) /\ sizedMet enc Tryd.checked.prog fn (OpenSpec.ofChange s) false (w.forCall tape i).memory i.args) /\ ({} : Assume).holds Tryd.checked.prog (lone (Frame.enter Tryd.checked.prog f i.args .normal) [] (w.forCall tape i))) :
  ReturnsInHanded {} Tryd.checked os f .any (fun w args => (s.pre enc Tryd.checked.prog fn [] false w args /\ X w args) /\ sizedMet enc Tryd.checked.prog fn (OpenSpec.ofChange s) false w args) (s.post enc Tryd.checked.prog fn false true false false) := by
 refine returnsInHanded_of_lone (C := Tryd.checked) hX Tw.own started hf hwit ?_
 intro W base args ds gs before hval0 hW _ hsz0 _ _
 have hsz : (DataW.weightsEach Tryd.prog (fn.params.toList ++ s.plain.varTypes Tryd.prog) (ds ++ gs)).all (· <= reachBytes) = true := hsz0
 clear hsz0
 have hval : ∀ (j : Nat) t v, fn.params[j]? = some t -> args[j]? = some v -> Value.okWide Tryd.prog W .any base t v := hval0
 have hW' := hW
 obtain ⟨p, q, hA0, hV, rfl, _, _⟩ := hW
 have hA : DataW.TrodAll enc Tryd.prog W 0 (fun _ => true) true fn.params.toList args.toList ds p := hA0
 rw [hp] at hA hval hsz
 obtain ⟨v0, d0, rfl, rfl, h0⟩ := trodAll_one hA
 rw [hv] at hV
 obtain ⟨rfl, rfl⟩ := trodVars_none hV
 have hok := hval 0 22 v0 rfl rfl
 obtain ⟨a0, len, cap, rfl⟩ := okWide_slice Tw.u22 hok
 have h0k := h0
 obtain ⟨fuel, hfu⟩ := h0
 clear hA0 hval0
 simp only [List.append_nil] at hW'
 have hlt : ∀ x ∈ p, x.block < W.heap.size := fun x hx => by simpa using hW'.lt x hx
 have hargs : ∀ (W' : World), Below W.heap.size W W' -> DataW.Trod enc Tryd.prog W' 0 (fun b => decide (b < W.heap.size)) true 22 (.slice a0 len cap) d0 p :=
  fun W' hn => Below.trod Tw.laidOut Tw.r22 Tw.l22 h0k hn hlt
 have close : ∀ nums : List Int, nums.length <= 2 ^ 50 -> Den (env0 W) (aInts nums) (.slice a0 len cap) ->
   ∃ n fr w1 v w', runN Tryd.checked.prog n (solo (G (Frame.enter Tryd.checked.prog f #[.slice a0 len cap] .normal) []) W) = .next (solo (G fr []) w1) /\ step Tryd.checked.prog (solo (G fr []) w1) = .ended (.done v) w' /\
    s.post enc Tryd.checked.prog fn false true false false W #[.slice a0 len cap] v w' := by
  intro nums hn hd
  obtain ⟨n, fr, w1, v, w', h1, h2, hQ, hL⟩ := run_of_fn (Q := fun v => v = .bool true) (args := #[.slice a0 len cap]) (avs := [aInts nums]) hi ⟨rfl, fun i a e => by
   match i, e with
   | 0, e => cases e; exact hd⟩ ((hlaw nums hn).mono (fun a H' e E v hden => by subst e; cases hden; rfl) fun _ _ h => h)
  refine ⟨n, fr, w1, v, w', h1, h2, ?_⟩
  subst hQ
  have hb := hL.below
  refine ⟨[d0], [], _, [], p, [], hW', ?_, ?_, by rw [hv]; exact (by rw [show ([d0] ++ [] : List (DataW H)) = [d0] from rfl, hs]; rfl), hb.frame _, fun h => by cases h⟩
  ·rw [show ([d0] ++ [] : List (DataW H)) = [d0] from rfl, hs, hr]
   exact trodAll_mk1 (shut_bool Tw.u4 true)
  ·rw [show ([d0] ++ [] : List (DataW H)) = [d0] from rfl, hs, hp]
   exact trodAll_mk1 (hargs _ hb)
 rcases open_ints Tw.u22 Tw.u3 Tw.c3 hfu with ⟨hcs, hx⟩ | ⟨a, len', cap', zs, hcs, _, hl, hm, hz, hx, hcell, hwz⟩
 ·simp [Value.cells] at hcs
  obtain ⟨rfl, rfl, rfl⟩ := hcs
  exact close [] (by simp) (.nil trivial)
 ·simp [Value.cells] at hcs
  obtain ⟨rfl, rfl, rfl⟩ := hcs
  simp only [Prod.mk.injEq] at hx
  obtain ⟨rfl, rfl⟩ := hx
  simp only [if_true] at hz
  have hspot : a.spot = none := by
   have := hok
   simp only [Value.okWide, Tw.u22, Cell.okWide, Cell.ok] at this
   exact this.2.2.2.1
  have hreach : len * 8 <= 140737488355328 := by
   have := sized_slice hsz (j := 0) (t := 22) (e := 3) rfl rfl Tw.u22
   rw [Tw.b3] at this
   simp only [lits, List.length_map, List.length_take, List.length_drop, reachBytes] at this
   omega
  obtain ⟨bl, off, spot⟩ := a
  simp only at hspot
  subst hspot
  have hzl : (zs.take len).length = len := by rw [List.length_take]; omega
  refine close (zs.take len) (by rw [hzl]; omega) (den0_ints hzl hl fun i hi => ?_)
  have := hcell i (by omega)
  rw [show (Addr.add ⟨bl, off, none⟩ i) = ⟨bl, off + i, none⟩ by simp [Addr.add]] at this
  rw [this, List.getD_eq_getElem?_getD, List.getD_eq_getElem?_getD, List.getElem?_take_of_lt hi]
def ioCodes : List Nat := [104, 97, 114, 110, 101, 115, 115, 32, 48, 52, 51, 100, 51, 52, 53, 54, 57, 51, 55, 48, 50, 101, 99, 50, 49, 101, 99, 57, 54, 57, 49, 102, 54, 57, 49, 99, 100, 48, 99, 54, 52, 98, 54, 48, 100, 54, 48, 55, 52, 50, 97, 57, 57, 102, 51, 48, 100, 102, 98, 56, 57, 56, 49, 53, 48, 52, 53, 48, 55, 55, 98, 100, 32, 99, 117, 116, 32, 97, 116, 32, 103, 108, 97, 100, 115, 116, 111, 110, 101, 47, 103, 108, 97, 100, 115, 116, 111, 110, 101, 116, 111, 112, 46, 84, 111, 112, 83, 116, 97, 99, 107, 101, 100]
set_option maxRecDepth 100000 in
theorem ioL : Tryd.prog.initOrder.toList = ioCodes.map Char.ofNat := by
 have h : Tryd.prog.initOrder = String.ofList (ioCodes.map Char.ofNat) := by kernel_rfl
 rw [h, String.toList_ofList]
def ioWords : List (List Char) := [[Char.ofNat 99, Char.ofNat 117, Char.ofNat 116], [Char.ofNat 97, Char.ofNat 116], [Char.ofNat 103, Char.ofNat 108, Char.ofNat 97, Char.ofNat 100, Char.ofNat 115, Char.ofNat 116, Char.ofNat 111, Char.ofNat 110, Char.ofNat 101, Char.ofNat 47, Char.ofNat 103, Char.ofNat 108, Char.ofNat 97, Char.ofNat 100, Char.ofNat 115, Char.ofNat 116, Char.ofNat 111, Char.ofNat 110, Char.ofNat 101, Char.ofNat 116, Char.ofNat 111, Char.ofNat 112, Char.ofNat 46, Char.ofNat 84, Char.ofNat 111, Char.ofNat 112, Char.ofNat 83, Char.ofNat 116, Char.ofNat 97, Char.ofNat 99, Char.ofNat 107, Char.ofNat 101, Char.ofNat 100]]
set_option maxRecDepth 100000 in
theorem ioW : behindMainWord (wordsSigns Tryd.prog.initOrder.toList) = ioWords := by
 rw [ioL]
 kernel_rfl
section
variable {P : Program} {c : List Char} {rest : List (List Char)}
theorem mayEnter_of (h : behindMainWord (wordsSigns P.initOrder.toList) = c :: rest) (hc : c = "cut".toList) (h1 : stripLifts liftWords (c :: rest) = ([], c :: rest)) (h2 : P.laysLater = false) (h3 : P.bearsReflect = false) (h4 : P.doorFits [] = true) : P.mayEnter = true := by
 unfold Program.mayEnter
 rw [h]
 subst hc
 simp only [h1, h2, h3, h4, List.head?_cons, beq_self_eq_true, List.contains_nil, Bool.not_false, Bool.false_or, Bool.or_true, Bool.and_self, Bool.true_and]
theorem headLifts_of (h : behindMainWord (wordsSigns P.initOrder.toList) = c :: rest) (hc : c = "cut".toList) (h1 : stripLifts liftWords (c :: rest) = ([], c :: rest)) : P.headLifts = [] := by
 unfold Program.headLifts
 rw [h]
 simp only [h1, ite_self]
theorem lifts_of (h : behindMainWord (wordsSigns P.initOrder.toList) = c :: rest) (hc : c = "cut".toList) (h1 : stripLifts liftWords (c :: rest) = ([], c :: rest)) : P.liftsFinal = false := by
 unfold Program.liftsFinal
 rw [headLifts_of h hc h1, h]
 subst hc
 simp only [List.head?_cons, List.contains_nil, Bool.or_false]
 have : (some "cut".toList == some "carried".toList) = false := by decide +kernel
 rw [this, Bool.false_and]
theorem make_of (h : behindMainWord (wordsSigns P.initOrder.toList) = c :: rest) (hc : c = "cut".toList) : P.make = some .cut := by
 unfold Program.make
 rw [h]
 subst hc
 have e1 : ("cut".toList == "gc".toList) = false := by decide +kernel
 have e2 : ("cut".toList == "spec".toList) = false := by decide +kernel
 simp only [e1, e2, Bool.or_self, Bool.false_eq_true, if_false, beq_self_eq_true, Bool.true_or, if_true]
end
def ioHead : List Char := ioWords.headD []
def ioTail : List (List Char) := ioWords.tail
theorem ioW2 : behindMainWord (wordsSigns Tryd.prog.initOrder.toList) = ioHead :: ioTail := ioW.trans (by kernel_rfl)
theorem ioC : ioHead = "cut".toList := by kernel_rfl
theorem ioS : stripLifts liftWords (ioHead :: ioTail) = ([], ioHead :: ioTail) := by kernel_rfl
theorem Tw.mayEnter : Tryd.prog.mayEnter = true := mayEnter_of ioW2 ioC ioS (by kernel_rfl) (by kernel_rfl) (by kernel_rfl)
theorem Tw.lifts : Tryd.prog.liftsFinal = false := lifts_of ioW2 ioC ioS
theorem Tw.make : Tryd.prog.make = some .cut := make_of ioW2 ioC
theorem joined_of {P : Program} {f : FuncId} {fn : Func} {s : ChangeSpec} {c : OpenClaim}
  (k0 : (c.wf (OpenSpec.ofChange s)) = true)
  (k1 : (laidOutB P) = true)
  (k2 : (mapsRowed P) = true)
  (k3 : (fn.params.all (P.readableRec ·)) = true)
  (k4 : (namedTie P c.named s.vars) = true)
  (k5 : ((c.stops == [])) = true)
  (k6 : ((P.stops == [])) = true)
  (k7 : ((c.knobs == [])) = true)
  (k8 : ((P.stopKnobs == [])) = true)
  (k9 : ((c.inPlace == P.inPlace f)) = true)
  (k10 : ((c.unfollowed == P.unfollowed f)) = true)
  (k11 : ((c.recurses == P.recurses f)) = true)
  (k12 : ((c.named == P.varsNamed f)) = true)
  (k13 : ((c.maps == (fn.params.toList ++ s.plain.varTypes P).any (P.mapsRec ·))) = true)
  (k14 : ((c.ifaces == (fn.params.toList ++ s.plain.varTypes P).any (P.ifacesRec ·))) = true)
  (k15 : ((c.mapsOut == P.mapsAmong fn.resultTypes.toList)) = true)
  (k16 : ((c.loops == (fn.params.toList ++ s.plain.varTypes P).any (P.loopsFrom ·))) = true)
  (k17 : ((c.wideKeys == (fn.params.toList ++ s.plain.varTypes P ++ fn.resultTypes.toList).any (P.wideKeysFrom ·))) = true)
  (k18 : (s.vars.all (P.varReadable ·)) = true)
  (k19 : (fn.resultTypes.all (fun t => P.readableRec t && decide (t < P.types.size))) = true)
  (k20 : ((c.ifacesOut == fn.resultTypes.toList.any (P.ifacesRec ·))) = true)
  (k21 : ((c.loopsOut == fn.resultTypes.toList.any (P.loopsFrom ·))) = true)
  (k22 : ((c.plainKeys == P.plainKeys)) = true)
  (k23 : (c.shortTexts.isNone) = true)
  (k24 : (P.stopsHeard) = true)
  (k25 : (P.mayEnter) = true)
  (k26 : ((c.lifted == P.liftsFinal)) = true)
  (k27 : ((P.make == some c.make)) = true)
  (k28 : c.domain.isEmpty = true) (k28' : c.kinds = [])
  (k29 : ((c.pinned == c.pinnedBy)) = true)
  (k30 : ((c.veiled == (fn.params.toList ++ s.plain.varTypes P ++ fn.resultTypes.toList).any (P.veiledRec ·))) = true)
  (k31 : (c.veiledFits P fn.params.toList (fn.params.toList ++ s.plain.varTypes P ++ fn.resultTypes.toList)) = true) : joinedFacts P f fn s c = true := by
 simp only [joinedFacts, k0, k1, k2, k3, k4, k5, k6, k7, k8, k9, k10, k11, k12, k13, k14, k15, k16, k17, k18, k19, k20, k21, k22, k23, k24, k25, k26, k27, k28, k28', if_true, beq_self_eq_true, k29, k30, k31, Bool.and_self]
theorem lifted_of {c : OpenClaim} (h : c.lifted = false) : (c.lifted == Tryd.prog.liftsFinal) = true := by rw [Tw.lifts, h]; rfl
theorem make_of' {c : OpenClaim} (h : c.make = .cut) : (Tryd.prog.make == some c.make) = true := by rw [Tw.make, h]; rfl
end Go.Gg
namespace Go.Proofs.YtfalifflpppchaaDoor
open Go.Conc Go.Proofs Go.Gg
theorem stName : Tryd.prog.funcNamed Rows.topStackedRow.func = some 3 := by kernel_rfl
theorem stJoined : joinedFacts Tryd.prog 3 Tryd.f3 Rows.topStackedSpec Rows.topStackedRow = true :=
 joined_of (by kernel_rfl) Tw.laidOut (by kernel_rfl) (by kernel_rfl) (by kernel_rfl) (by kernel_rfl) (by kernel_rfl) (by kernel_rfl) (by kernel_rfl) (by kernel_rfl) (by kernel_rfl) (by kernel_rfl) (by kernel_rfl) (by kernel_rfl) (by kernel_rfl) (by kernel_rfl) (by kernel_rfl) (by kernel_rfl) (by kernel_rfl) (by kernel_rfl) (by kernel_rfl) (by kernel_rfl) (by kernel_rfl) (by kernel_rfl) (by kernel_rfl) Tw.mayEnter (lifted_of (by kernel_rfl)) (make_of' (by kernel_rfl)) (by kernel_rfl) (by kernel_rfl) (by kernel_rfl) (by kernel_rfl) (by kernel_rfl)
theorem stInst : Tryd.f3.isInstance Tryd.prog Rows.topStackedRow.origin Rows.topStackedRow.targs := of_decide_eq_true (by kernel_rfl)
theorem stWrap : Tryd.f3.isWrapper Tryd.prog Rows.topStackedRow.wrapper Rows.topStackedRow.mainSum := by unfold Func.isWrapper; first | (rw [if_pos (by decide +kernel)]; kernel_rfl) | (rw [if_neg (by decide +kernel)]; exact ⟨rfl, rfl⟩)
theorem stDoor (os : Os) (args : Array Value) : laidMetH Tryd.prog Rows.topStackedRow.laid ((World.doorLaid Tryd.prog 400 os).forCall (fun _ _ => 0) ⟨#[], args, []⟩).memory :=
 laidMetH_of_parts (laidMet_nil _ _) (by kernel_rfl)
theorem topStacked_lifted (os : Os) (started : os.Started) (H : Type) (enc : TypeId × Value -> H) :
  ReturnsInHanded {} Tryd.checked os 3 .any (fun w args => (Rows.topStackedSpec.pre enc Tryd.prog Tryd.f3 [] false w args /\ laidMetH Tryd.prog Rows.topStackedRow.laid w) /\ sizedMet enc Tryd.prog Tryd.f3 (OpenSpec.ofChange Rows.topStackedSpec) false w args) (Rows.topStackedSpec.post enc Tryd.prog Tryd.f3 false true false false) :=
 ints_lifted (f := 3) (fn := Tryd.f3) (s := Rows.topStackedSpec) (X := fun w _ => laidMetH Tryd.prog Rows.topStackedRow.laid w) (fun _ _ _ hh h => h.of_heap hh) Tryd.func3 rfl rfl rfl (fun _ _ => rfl) (by kernel_rfl) (fun nums hn => f3_c hn rfl) os started H enc
  (ChangeSpec.witness_shaped (enc := enc) (C := Tryd.checked) (os := os) (X := fun w _ => laidMetH Tryd.prog Rows.topStackedRow.laid w) false (World.doorLaid Tryd.prog 400 os) #[.slice none 0 0] 8 rfl (World.shaped_of_RefB (by kernel_rfl) (by kernel_rfl)) (by kernel_rfl) (by kernel_rfl) (by kernel_rfl) (stDoor os _))
theorem topStacked_holds : Rows.TopStackedSaid :=
 OpenClaim.holds_of_wide 3 Tryd.f3 rfl rfl rfl rfl rfl rfl rfl ⟨rfl, rfl, rfl, rfl, rfl⟩ rfl rfl rfl rfl rfl stName Tryd.func3 stJoined stInst stWrap
  (fun os started H enc _ => topStacked_lifted os started H enc)
theorem topStackedCard_holds : Rows.TopStackedCardSaid :=
 Claim7.holds_tied_plain_at .later [] [.handle] true (true, "043d345693702ec21ec9691f691cd0c64b60d60742a99f30dfb89815045077bd") true
  topStacked_holds (fun _ h => by cases h) (by kernel_rfl) (fun _ h => by cases h) topStacked_row_tie rfl ⟨rfl, rfl⟩ (by kernel_rfl) rfl
  (fun f fn hf hfn => by
   obtain rfl : f = 3 := Option.some.inj (stName.symm.trans hf) |>.symm
   obtain rfl : fn = Tryd.f3 := (Option.some.inj (Tryd.func3.symm.trans hfn)).symm
   exact ⟨by kernel_rfl, fun j t ht => by
    rw [show Tryd.f3.params = #[22] from rfl] at ht
    have h3 : t = 22 := by
     rcases j with _ | j
     ·simpa using ht.symm
     ·simp at ht
    subst h3
    exact (show Tryd.prog.wantsStandIn 22 = false by kernel_rfl)⟩)
  (by kernel_rfl)
end Go.Proofs.YtfalifflpppchaaDoor
