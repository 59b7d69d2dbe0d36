/- A part of the proof. -/
import Derived.Conc.Own5
import Derived.Conc.Own4
import Derived.Conc.Own3
import Derived.Conc.Own2
import Derived.Conc.QuitsD
import Derived.Conc.Deaf
import Derived.Conc.CompanyDraw
import Derived.Conc.Comm2
import Derived.Conc.Beside
import Derived.Conc.Events
set_option linter.all false
set_option maxRecDepth 4000
set_option maxHeartbeats 1000000
namespace Go.Gg
open Go.Conc
abbrev Imm := Nat -> Nat -> Option Value
abbrev Own := Nat -> Option Obj
abbrev Spec := Value -> Imm -> Own -> Prop
inductive Role where
 | plain
 | fork (c Wg : Nat) (Ss : List (List Spec))
 | recv (c Wg : Nat) (Ss : List (List Spec))
 | work (c Wg : Nat) (S : List Spec)
def Role.group : Role -> Option Nat
 | .fork _ Wg _ => some Wg
 | _ => none
def Role.chan : Role -> Option Nat
 | .fork c _ _ => some c
 | _ => none
structure View where
 imm : Imm
 own : Own
 deaf : Nat
 role : Role
structure Sat (V : View) (w : World) : Prop where
 imm : ∀ b o v, V.imm b o = some v -> w.cell? ⟨b, o, none⟩ = some v
 own : ∀ b x, V.own b = some x -> w.heap[b]? = some x
def MayRead (V : View) (n : Nat) (a : Addr) : Prop := n <= a.block \/ V.own a.block ≠ none \/ V.imm a.block a.off ≠ none
def MayWrite (V : View) (n : Nat) (a : Addr) : Prop := n <= a.block \/ (V.own a.block ≠ none /\ V.imm a.block a.off = none)
def EvOk (V : View) (n : Nat) (e : Event) : Prop :=
 match e with
 | ⟨.cell a, false, s⟩ => MayRead V n a /\ (s = true \/ V.role.group ≠ some a.block)
 | ⟨.cell a, true, s⟩ => MayWrite V n a /\ (s = true \/ V.role.group ≠ some a.block)
 | ⟨.obj r, _, s⟩ => (s = false /\ (n <= r \/ V.own r ≠ none)) /\ V.role.chan ≠ some r
 | ⟨.mark (.read a), _, _⟩ => MayWrite V n a
 | ⟨.mark (.write a), _, _⟩ => MayWrite V n a
 | ⟨.mark .disable, _, s⟩ => s = true
 | ⟨.mark .enable, _, s⟩ => s = true
 | ⟨.mark .noRoom, _, _⟩ => True
 | _ => False
structure StepOk (V : View) (w : World) (V' : View) (w' : World) (es : Array Event) : Prop where
 sat : Sat V' w'
 tape : w'.tape = w.tape
 os : w'.os = w.os
 output : w'.output = w.output
 size : w.heap.size <= w'.heap.size
 frame : ∀ b, b < w.heap.size -> V.own b = none -> w'.heap[b]? = w.heap[b]?
 own : ∀ b, b < w.heap.size -> V.own b = none -> V'.own b = none
 imm : ∀ b o v, V.imm b o = some v -> V'.imm b o = some v
 immNew : ∀ b o v, V'.imm b o = some v -> V.imm b o = some v \/ V.own b ≠ none \/ w.heap.size <= b
 evs : ∀ e ∈ es, EvOk V w.heap.size e
 deaf : V'.deaf = deafBehind V.deaf es
 role : V'.role = V.role
 chan : ∀ c x, V.role.chan = some c -> V.own c = some x -> V'.own c = some x
 low : ∀ e ∈ es, (MemAct.ofEvent e).low w'.heap.size
structure Ghost (V V' : View) : Prop where
 sat : ∀ w, Sat V w -> Sat V' w
 own : ∀ b, V.own b = none -> V'.own b = none
 imm : ∀ b o v, V.imm b o = some v -> V'.imm b o = some v
 immNew : ∀ b o v, V'.imm b o = some v -> V.imm b o = some v \/ V.own b ≠ none
 deaf : V'.deaf = V.deaf
 role : V'.role = V.role
 chan : ∀ c x, V.role.chan = some c -> V.own c = some x -> V'.own c = some x
theorem Ghost.refl (V : View) : Ghost V V := ⟨fun _ h => h, fun _ h => h, fun _ _ _ h => h, fun _ _ _ h => .inl h, rfl, rfl, fun _ _ _ e => e⟩
theorem Ghost.trans {V V' V'' : View} (h : Ghost V V') (k : Ghost V' V'') : Ghost V V'' :=
 ⟨fun w x => k.sat w (h.sat w x), fun b x => k.own b (h.own b x), fun b o v x => k.imm b o v (h.imm b o v x), fun b o v x => (k.immNew b o v x).elim (fun y => h.immNew b o v y) (fun y => .inr fun z => y (h.own b z)), k.deaf.trans h.deaf, k.role.trans h.role, fun c x e e' => k.chan c x (by rw [h.role]; exact e) (h.chan c x e e')⟩
theorem MayRead.of_ghost {V V' : View} (g : Ghost V V') {n : Nat} {a : Addr} (h : MayRead V' n a) : MayRead V n a := by
 rcases h with h | h | h
 ·exact .inl h
 ·exact .inr (.inl fun e => h (g.own _ e))
 ·cases e : V'.imm a.block a.off with
  | none => exact absurd e h
  | some v => exact (g.immNew _ _ _ e).elim (fun x => .inr (.inr (by rw [x]; simp))) (fun x => .inr (.inl x))
theorem MayWrite.of_ghost {V V' : View} (g : Ghost V V') {n : Nat} {a : Addr} (h : MayWrite V' n a) : MayWrite V n a := by
 rcases h with h | ⟨h, h'⟩
 ·exact .inl h
 ·refine .inr ⟨fun e => h (g.own _ e), ?_⟩
  cases e : V.imm a.block a.off with
  | none => rfl
  | some v => rw [g.imm _ _ _ e] at h'; cases h'
theorem EvOk.of_ghost {V V' : View} (g : Ghost V V') {n : Nat} {e : Event} (h : EvOk V' n e) : EvOk V n e := by
 unfold EvOk at h ⊢
 split at h
 ·exact ⟨MayRead.of_ghost g h.1, by rw [<- g.role]; exact h.2⟩
 ·exact ⟨MayWrite.of_ghost g h.1, by rw [<- g.role]; exact h.2⟩
 ·exact ⟨⟨h.1.1, h.1.2.imp id fun x y => x (g.own _ y)⟩, by rw [<- g.role]; exact h.2⟩
 ·exact MayWrite.of_ghost g h
 ·exact MayWrite.of_ghost g h
 ·exact h
 ·exact h
 ·trivial
 ·exact h.elim
theorem StepOk.of_ghost {V V₁ V' : View} {w w' : World} {es : Array Event} (g : Ghost V V₁) (h : StepOk V₁ w V' w' es) : StepOk V w V' w' es :=
 ⟨h.sat, h.tape, h.os, h.output, h.size, fun b hb e => h.frame b hb (g.own b e), fun b hb e => h.own b hb (g.own b e), fun b o v e => h.imm b o v (g.imm b o v e),
  fun b o v e => (h.immNew b o v e).elim (fun x => (g.immNew b o v x).imp id .inl) (fun x => .inr (x.imp (fun y z => y (g.own b z)) id)), fun e he => EvOk.of_ghost g (h.evs e he), by rw [h.deaf, g.deaf], h.role.trans g.role, fun c x e e' => h.chan c x (by rw [g.role]; exact e) (g.chan c x e e'), h.low⟩
theorem StepOk.ghost {V V' V'' : View} {w w' : World} {es : Array Event} (h : StepOk V w V' w' es) (g : Ghost V' V'') : StepOk V w V'' w' es :=
 ⟨g.sat _ h.sat, h.tape, h.os, h.output, h.size, h.frame, fun b hb e => g.own b (h.own b hb e), fun b o v e => g.imm b o v (h.imm b o v e),
  fun b o v e => (g.immNew b o v e).elim (fun x => h.immNew b o v x) (fun x => by
   by_cases hb : b < w.heap.size
   ·exact .inr (.inl fun y => x (h.own b hb y))
   ·exact .inr (.inr (by omega))), h.evs, by rw [g.deaf, h.deaf], g.role.trans h.role, fun c x e e' => g.chan c x (by rw [h.role]; exact e) (h.chan c x e e'), h.low⟩
theorem StepOk.idle {V : View} {w : World} (h : Sat V w) : StepOk V w V w #[] :=
 ⟨h, rfl, rfl, rfl, Nat.le_refl _, fun _ _ _ => rfl, fun _ _ e => e, fun _ _ _ e => e, fun _ _ _ e => .inl e, by simp, rfl, rfl, fun _ _ _ e => e, by simp⟩
theorem Sat.drew {V : View} {w : World} (h : Sat V w) (d : Nat) : Sat V { w with drawn := d } := ⟨h.imm, h.own⟩
theorem StepOk.draw {V : View} {w : World} (h : Sat V w) (d : Nat) : StepOk V w V { w with drawn := d } #[] :=
 ⟨h.drew d, rfl, rfl, rfl, Nat.le_refl _, fun _ _ _ => rfl, fun _ _ e => e, fun _ _ _ e => e, fun _ _ _ e => .inl e, by simp, rfl, rfl, fun _ _ _ e => e, by simp⟩
def stateAt (Wg : Nat) : Addr := ⟨Wg, 0, none⟩
def semaAt (Wg : Nat) : Addr := ⟨Wg, 1, none⟩
def wgType (P : Program) : TypeId := ((P.types.findIdx? fun i => match i.desc with | .named n _ => n == "sync.WaitGroup" | _ => false).getD 0)
def wgBlock (P : Program) (st sm : Int) : Obj := .cells #[.int .u64 st, .int .u32 sm] (wgType P)
def WgAt (P : Program) (Wg : Nat) (w : World) (st sm : Int) : Prop := w.heap[Wg]? = some (wgBlock P st sm)
def KK : Int := 4294967296
def eRd (a : Addr) : Event := ⟨.cell a, false, true⟩
def eWr (a : Addr) : Event := ⟨.cell a, true, true⟩
def eMk (m : Mark) : Event := ⟨.mark m, false, true⟩
def semEv (a : Addr) : Array Event := #[eMk .disable, eRd a, eWr a, eMk .enable]
def Slide (P : Program) (Stop : Nat -> Goroutine -> Prop) : Nat -> Nat -> Goroutine -> Prop
 | 0, d, g => Stop d g
 | n + 1, d, g => Stop d g \/ (g.status = .running /\ ∃ g' es, (∀ e ∈ es, Event.mute e = true) /\ (∀ w, stepG P false g w = .go g' w es) /\ Slide P Stop n (deafBehind d es) g')
def SlideW (P : Program) (Wg : Nat) (Stop : Nat -> Goroutine -> Prop) : Nat -> Nat -> Goroutine -> Prop
 | 0, d, g => Stop d g
 | n + 1, d, g => Stop d g \/ (g.status = .running /\ ∃ g' es, (∀ e ∈ es, Event.mute e = true) /\ (∀ w x y, WgAt P Wg w x y -> stepG P false g w = .go g' w es) /\ SlideW P Wg Stop n (deafBehind d es) g')
section
variable (P : Program) (Wg : Nat)
def DSem (d : Nat) (g : Goroutine) : Prop := d = 1 /\ g.status = .running /\ mayWake P g = true /\ ∃ g', (∀ w, WgAt P Wg w 0 0 -> stepG P false g w = .go g' (w.setCell (semaAt Wg) (.int .u32 1)) (semEv (semaAt Wg))) /\ ∃ q, QuitsD P q 1 g'
def DStore (d : Nat) (g : Goroutine) : Prop := d = 1 /\ g.status = .running /\ ∃ g', (∀ w, WgAt P Wg w 1 0 -> stepG P false g w = .go g' (w.setCell (stateAt Wg) (.int .u64 0)) #[eWr (stateAt Wg)]) /\ ∃ n, Slide P (DSem P Wg) n 1 g'
def DLoad (d : Nat) (g : Goroutine) : Prop := d = 1 /\ g.status = .running /\ ∃ g', (∀ w, WgAt P Wg w 1 0 -> stepG P false g w = .go g' w #[eRd (stateAt Wg)]) /\ ∃ n, Slide P (DStore P Wg) n 1 g'
def DAdd (d : Nat) (g : Goroutine) : Prop := d = 1 /\ g.status = .running /\ ∀ v wt : Nat, wt <= 1 -> v < 4 -> ∃ g', (∀ w, WgAt P Wg w (((v + 1 : Nat) : Int) * KK + wt) 0 -> stepG P false g w = .go g' (w.setCell (stateAt Wg) (.int .u64 ((v : Int) * KK + wt))) #[eRd (stateAt Wg), eWr (stateAt Wg)]) /\
 ((v = 0 /\ wt = 1) -> ∃ n, Slide P (DLoad P Wg) n 1 g') /\ (¬ (v = 0 /\ wt = 1) -> ∃ q, QuitsD P q 1 g')
def Finishes (g : Goroutine) : Prop := g.status = .running /\ ∃ g', (∀ w, stepG P false g w = .go g' w #[eMk (.releaseMerge (stateAt Wg))]) /\ ∃ n, Slide P (DAdd P Wg) n 0 g'
end
section
variable (P : Program) (Im : Imm) (c Wg : Nat)
def CClose (d : Nat) (g : Goroutine) : Prop := d = 0 /\ g.status = .running /\ mayWake P g = true /\ ∃ g', (∀ w s, w.heap[c]? = some (.chan 0 #[] false s s false) -> stepG P false g w = .go g' { w with heap := w.heap.setIfInBounds c (.chan 0 #[] true s s false) } #[⟨.obj c, false, true⟩, ⟨.obj c, true, true⟩]) /\ ∃ q, QuitsD P q 0 g'
def CLook (d : Nat) (g : Goroutine) : Prop := d = 0 /\ g.status = .running /\ ∃ b o x g', Im b o = some x /\ (∀ w, w.cell? ⟨b, o, none⟩ = some x -> stepG P false g w = .go g' w #[⟨.cell ⟨b, o, none⟩, false, false⟩]) /\ ∃ n, Slide P (CClose P c) n 0 g'
def CAcq (d : Nat) (g : Goroutine) : Prop := d = 0 /\ g.status = .running /\ ∃ g', (∀ w, stepG P false g w = .go g' w #[eMk (.acquire (stateAt Wg))]) /\ ∃ n, Slide P (CLook P Im c) n 0 g'
def CLast (d : Nat) (g : Goroutine) : Prop := d = 1 /\ g.status = .running /\ ∃ g', (∀ w, WgAt P Wg w 0 0 -> stepG P false g w = .go g' w #[eRd (stateAt Wg)]) /\ ∃ n, SlideW P Wg (CAcq P Im c Wg) n 1 g'
def CSem (d : Nat) (g : Goroutine) : Prop := d = 1 /\ g.status = .running /\ g.offers = none /\ (∀ w st, WgAt P Wg w st 0 -> stepG P false g w = .go { g with status := .blocked } w #[]) /\
 ∃ g', (∀ w, WgAt P Wg w 0 1 -> stepG P false g w = .go g' (w.setCell (semaAt Wg) (.int .u32 0)) (semEv (semaAt Wg))) /\ ∃ n, Slide P (CLast P Im c Wg) n 1 g'
def CSaid (d : Nat) (g : Goroutine) : Prop := d = 1 /\ g.status = .running /\ ∃ g', (∀ w, stepG P false g w = .go g' w #[eMk (.write (semaAt Wg))]) /\ ∃ n, Slide P (CSem P Im c Wg) n 1 g'
def CHead : Nat -> Nat -> Goroutine -> Prop
 | 0, _, _ => False
 | k + 1, d, g => d = 1 /\ g.status = .running /\ ∀ v : Nat, v <= k -> v <= 4 -> ∃ g', (∀ w, WgAt P Wg w ((v : Int) * KK) 0 -> stepG P false g w = .go g' w #[eRd (stateAt Wg)]) /\ (v = 0 -> ∃ n, SlideW P Wg (CAcq P Im c Wg) n 1 g') /\
  (v ≠ 0 -> ∃ n, Slide P (fun d g => d = 1 /\ g.status = .running /\
   (∃ g', (∀ w, WgAt P Wg w ((v : Int) * KK) 0 -> stepG P false g w = .go g' (w.setCell (stateAt Wg) (.int .u64 ((v : Int) * KK + 1))) #[eRd (stateAt Wg), eWr (stateAt Wg)]) /\ ∃ n, SlideW P Wg (CSaid P Im c Wg) n 1 g') /\
   (∀ u : Nat, u < v -> ∃ g', (∀ w, WgAt P Wg w ((u : Int) * KK) 0 -> stepG P false g w = .go g' w #[eRd (stateAt Wg)]) /\ ∃ n, Slide P (CHead v) n 1 g')) n 1 g')
 termination_by k _ _ => k
def Closer (g : Goroutine) : Prop := ∃ n, Slide P (CHead P Im c Wg 5) n 0 g
end
structure Closed0 (P : Program) (main : Bool) (J : View -> Goroutine -> Prop) : Prop where
 step : ∀ V g, g.status = .running -> (∀ w, Sat V w -> ∃ g' w' es V', stepG P main g w = .go g' w' es /\ StepOk V w V' w' es /\ J V' g') -> J V g
 ghost : ∀ V V' g, Ghost V V' -> J V' g -> J V g
 send : ∀ V g c Wg sp S v z (B : Nat -> Bool), V.role = .work c Wg (sp :: S) -> V.deaf = 0 -> g.status = .running -> g.offers = none ->
  (∀ w, Sat V w -> stepG P main g w = .comm g #[scase c v z] true .send w #[]) -> sp v V.imm (fun b => if B b then V.own b else none) ->
  J { V with own := fun b => if B b then none else V.own b, role := .work c Wg S } (Conc.served g undef) -> J V g
 done : ∀ V g c Wg, V.role = .work c Wg [] -> V.deaf = 0 -> Finishes P Wg g -> J V g
 slip : ∀ V g g' c Wg, V.role = .work c Wg [] -> g.status = .running -> (∀ w st, Sat V w -> WgAt P Wg w st 0 -> stepG P main g w = .go g' w #[]) -> J V g' -> J V g
structure Closed1 (P : Program) (main : Bool) (J : View -> Goroutine -> Prop) : Prop where
 start : ∀ V g c Wg, V.role = .plain -> c ≠ Wg -> V.own c = some (.chan 0 #[] false 0 0 false) -> V.own Wg ≠ none -> (∀ o, V.imm Wg o = none) -> J { V with role := .fork c Wg [] } g -> J V g
 goW : ∀ V g g' child c Wg Ss sp S, V.role = .fork c Wg Ss -> V.deaf = 0 -> g.status = .running -> V.own c = some (.chan 0 #[] false 0 0 false) -> V.own Wg = some (wgBlock P (((Ss.length + 1 : Nat) : Int) * 4294967296) 0) -> Ss.length < 4 -> (∀ o, V.imm Wg o = none) ->
  (∀ w, Sat V w -> stepG P main g w = .spawn g' child w #[]) -> child.status = .running ->
  (∀ J0, Closed0 P false J0 -> J0 { imm := V.imm, own := fun _ => none, deaf := 0, role := .work c Wg (sp :: S) } child) ->
  J { V with role := .fork c Wg (Ss ++ [sp :: S]) } g' -> J V g
 goC : ∀ V g g' child c Wg Ss, V.role = .fork c Wg Ss -> V.deaf = 0 -> g.status = .running -> c ≠ Wg -> V.own c = some (.chan 0 #[] false 0 0 false) -> V.own Wg = some (wgBlock P (((Ss.length : Nat) : Int) * 4294967296) 0) -> (∀ o, V.imm c o = none) -> (∀ o, V.imm Wg o = none) ->
  (∀ w, Sat V w -> stepG P main g w = .spawn g' child w #[]) -> child.status = .running -> Closer P V.imm c Wg child ->
  J { V with own := fun b => if b = c \/ b = Wg then none else V.own b, role := .recv c Wg Ss } g' -> J V g
 recv : ∀ V g c Wg Ss z, V.role = .recv c Wg Ss -> V.deaf = 0 -> g.status = .running -> g.offers = none ->
  (∀ w, Sat V w -> stepG P main g w = .comm g #[rcase c z] true (.recv true) w #[]) ->
  (∀ i sp S v Im Ow, Ss[i]? = some (sp :: S) -> sp v Im Ow -> (∀ b, V.own b ≠ none -> Ow b = none) -> (∀ b o, V.own b ≠ none -> Im b o ≠ none -> V.imm b o ≠ none) -> (∃ w, Sat V w /\ (∀ b o x, Im b o = some x -> w.cell? ⟨b, o, none⟩ = some x) /\ ∀ b x, Ow b = some x -> w.heap[b]? = some x) ->
   J { V with imm := fun b o => match V.imm b o with | some x => some x | none => Im b o, own := fun b => match V.own b with | some x => some x | none => Ow b, role := .recv c Wg (Ss.set i S) } (Conc.served g (.tuple #[v, .bool true]))) ->
  ((∀ S ∈ Ss, S = []) -> J { V with role := .plain } (Conc.served g (.tuple #[z, .bool false]))) -> J V g
structure Closed (lv : Bool) (P : Program) (main : Bool) (J : View -> Goroutine -> Prop) : Prop extends Closed0 P main J where
 more : lv = true -> Closed1 P main J
theorem Closed.idle {lv : Bool} {P : Program} {main : Bool} {J : View -> Goroutine -> Prop} (C : Closed lv P main J) {V : View} {g g' : Goroutine} (hs : g.status = .running) (h : ∀ w, stepG P main g w = .go g' w #[]) (hJ : J V g') : J V g :=
 C.step V g hs fun w hw => ⟨g', w, #[], V, h w, .idle hw, hJ⟩
def on (b : Frame) (a : Act) (todo : List Item) : Frame := { b with tmps := a.tmps, todo, defers := a.defers, mode := .run }
inductive Ex where
 | normal
 | exit (id : Nat)
 | goto (l : Nat)
 | ret
 | panic (chain : List PanicEntry)
def Lands (J : View -> Goroutine -> Prop) (b : Frame) (k : List Item) (cs : List Frame) : Ex -> Act -> View -> Prop
 | .normal, a, V => J V (G (on b a k) cs)
 | .exit id, a, V => ∃ k', exitTo id k = some k' /\ J V (G (on b a k') cs)
 | .goto l, a, V => ∃ k', gotoIn l k = some k' /\ J V (G (on b a k') cs)
 | .ret, a, V => ∀ k, J V (G (on b a (.code .ret :: k)) cs)
 | .panic chain, a, V => ∀ todo, J V (G { on b a todo with mode := .panicking chain } cs)
def WP (lv : Bool) (P : Program) (r : Option Nat) (c : Code) (Q : Ex -> Act -> View -> Prop) (a : Act) (V : View) : Prop :=
 ∀ (main : Bool) (J : View -> Goroutine -> Prop), Closed lv P main J -> ∀ (b : Frame) (k : List Item) (cs : List Frame), b.kind ≠ .early -> b.roundOf = r ->
  (∀ e a' V', Q e a' V' -> Lands J b k cs e a' V') -> J V (G (on b a (.code c :: k)) cs)
section steps
variable {P : Program} {main : Bool} {b : Frame} {a : Act} {k : List Item} {cs : List Frame} {w : World}
theorem s_skip : stepG P main (G (on b a (.code .skip :: k)) cs) w = .go (G (on b a k) cs) w #[] := by simp [G, stepG, stepG.exec, on]
theorem s_label {l : Nat} : stepG P main (G (on b a (.code (.label l) :: k)) cs) w = .go (G (on b a k) cs) w #[] := by simp [G, stepG, stepG.exec, on]
theorem s_inBlock {id : Nat} : stepG P main (G (on b a (.inBlock id :: k)) cs) w = .go (G (on b a k) cs) w #[] := by simp [G, stepG, stepG.exec, on]
theorem s_inScope {c : Code} : stepG P main (G (on b a (.inScope c :: k)) cs) w = .go (G (on b a k) cs) w #[] := by simp [G, stepG, stepG.exec, on]
theorem s_seq {x y : Code} : stepG P main (G (on b a (.code (.seq x y) :: k)) cs) w = .go (G (on b a (.code x :: .code y :: k)) cs) w #[] := by simp [G, stepG, stepG.exec, on]
theorem on_eval (b : Frame) (a : Act) (todo : List Item) (x : Operand) : (on b a todo).eval x = a.eval x := by cases x <;> rfl
theorem on_eval' (b : Frame) (a : Act) (todo : List Item) : (on b a todo).eval = a.eval := funext (on_eval b a todo)
theorem s_cond {c : Operand} {x y : Code} {t : Bool} (h : a.eval c = .bool t) :
  stepG P main (G (on b a (.code (.cond c x y) :: k)) cs) w = .go (G (on b a (.code (if t then x else y) :: k)) cs) w #[] := by
 have h' : (on b a (.code (.cond c x y) :: k)).eval c = .bool t := by rw [on_eval]; exact h
 simp only [on] at h'
 simp [G, stepG, stepG.exec, on, h']
theorem s_block {id : Nat} {c : Code} : stepG P main (G (on b a (.code (.block id c) :: k)) cs) w = .go (G (on b a (.code c :: .inBlock id :: k)) cs) w #[] := by simp [G, stepG, stepG.exec, on]
theorem s_scope {c : Code} : stepG P main (G (on b a (.code (.scope c) :: k)) cs) w = .go (G (on b a (.code c :: .inScope c :: k)) cs) w #[] := by simp [G, stepG, stepG.exec, on]
theorem s_loop {c : Code} : stepG P main (G (on b a (.code (.loop c) :: k)) cs) w = .go (G (on b a (.code c :: .inLoop c :: k)) cs) w #[] := by simp [G, stepG, stepG.exec, on]
theorem s_inLoop {c : Code} : stepG P main (G (on b a (.inLoop c :: k)) cs) w = .go (G (on b a (.code c :: .inLoop c :: k)) cs) w #[] := by simp [G, stepG, stepG.exec, on]
theorem s_exit {id : Nat} {k' : List Item} (h : exitTo id k = some k') : stepG P main (G (on b a (.code (.exit id) :: k)) cs) w = .go (G (on b a k') cs) w #[] := by simp [G, stepG, stepG.exec, on, h]
theorem s_goto {l : Nat} {k' : List Item} (h : gotoIn l k = some k') : stepG P main (G (on b a (.code (.goto l) :: k)) cs) w = .go (G (on b a k') cs) w #[] := by simp [G, stepG, stepG.exec, on, h]
theorem s_region {id : Nat} {ops : Array Oper} : stepG P main (G (on b a (.code (.region id ops false) :: k)) cs) w = .go (G (on b a (.inRegion ops (List.range ops.size) :: k)) cs) w #[] := by simp [G, stepG, stepG.exec, on]
theorem s_draw {id : Nat} {ops : Array Oper} : stepG P main (G (on b a (.code (.region id ops true) :: k)) cs) w =
  .go (G (on b a (.inRegion ops (Region.schedule (P.follows .mixedOrders) ops (w.tape w.drawn (.order b.fn id))) :: k)) cs) { w with drawn := w.drawn + 1 } #[] := by
 simp [G, stepG, stepG.exec, on, choose, Sem.run, Question.forced, Question.cut]
theorem s_region_end {ops : Array Oper} : stepG P main (G (on b a (.inRegion ops [] :: k)) cs) w = .go (G (on b a k) cs) w #[] := by simp [G, stepG, stepG.exec, on]
theorem s_ret (h : b.roundOf = none) : stepG P main (G (on b a (.code .ret :: k)) cs) w = .go (G { on b a (.code .ret :: k) with mode := .returning } cs) w #[] := by simp [G, stepG, stepG.exec, on, h]
theorem s_end (h : b.roundOf = none) : stepG P main (G (on b a []) cs) w = .go (G { on b a [] with mode := .returning } cs) w #[] := by simp [G, stepG, stepG.exec, on, h]
end steps
section rules
variable {lv : Bool} {P : Program} {r : Option Nat} {Q : Ex -> Act -> View -> Prop} {a : Act} {V : View}
theorem WP.mono {c : Code} {Q' : Ex -> Act -> View -> Prop} (h : WP lv P r c Q a V) (hq : ∀ e a V, Q e a V -> Q' e a V) : WP lv P r c Q' a V :=
 fun main J C b k cs hb hr hL => h main J C b k cs hb hr fun e a' V' q => hL e a' V' (hq _ _ _ q)
theorem WP.ghost {c : Code} {V' : View} (g : Ghost V V') (h : WP lv P r c Q a V') : WP lv P r c Q a V :=
 fun main J C b k cs hb hr hL => C.ghost _ _ _ g (h main J C b k cs hb hr hL)
theorem wp_skip (h : Q .normal a V) : WP lv P r .skip Q a V := fun _ _ C _ _ _ _ _ hL => C.idle rfl (fun _ => s_skip) (hL _ _ _ h)
theorem wp_label {l : Nat} (h : Q .normal a V) : WP lv P r (.label l) Q a V := fun _ _ C _ _ _ _ _ hL => C.idle rfl (fun _ => s_label) (hL _ _ _ h)
theorem wp_exit {id : Nat} (h : Q (.exit id) a V) : WP lv P r (.exit id) Q a V := fun _ _ C _ _ _ _ _ hL =>
 let ⟨_, hk, hJ⟩ := hL _ _ _ h; C.idle rfl (fun _ => s_exit hk) hJ
theorem wp_goto {l : Nat} (h : Q (.goto l) a V) : WP lv P r (.goto l) Q a V := fun _ _ C _ _ _ _ _ hL =>
 let ⟨_, hk, hJ⟩ := hL _ _ _ h; C.idle rfl (fun _ => s_goto hk) hJ
theorem wp_ret (h : Q .ret a V) : WP lv P r .ret Q a V := fun _ _ _ _ k _ _ _ hL => hL _ _ _ h k
def Ex.then (next : Act -> View -> Prop) (Q : Ex -> Act -> View -> Prop) : Ex -> Act -> View -> Prop
 | .normal, a, V => next a V
 | e, a, V => Q e a V
theorem Lands.under {J : View -> Goroutine -> Prop} {b : Frame} {k : List Item} {cs : List Frame} {x : Item} (hx : x.plain = true) {e : Ex} (he : e ≠ .normal) {a : Act} {V : View} (h : Lands J b k cs e a V) : Lands J b (x :: k) cs e a V := by
 cases e with
 | normal => exact absurd rfl he
 | exit id => obtain ⟨k', hk, hJ⟩ := h; exact ⟨k', by cases x <;> simp_all [exitTo, Item.plain], hJ⟩
 | goto l => obtain ⟨k', hk, hJ⟩ := h; exact ⟨k', by cases x <;> simp_all [gotoIn, Item.plain], hJ⟩
 | ret => exact h
 | panic ch => exact h
theorem wp_seq {x y : Code} (h : WP lv P r x (Ex.then (WP lv P r y Q) Q) a V) : WP lv P r (.seq x y) Q a V := by
 intro main J C b k cs hb hr hL
 refine C.idle rfl (fun _ => s_seq) (h main J C b (.code y :: k) cs hb hr fun e a' V' q => ?_)
 cases e with
 | normal => exact q main J C b k cs hb hr hL
 | exit id => exact (hL _ _ _ q).under rfl (by simp)
 | goto l => exact (hL _ _ _ q).under rfl (by simp)
 | ret => exact (hL _ _ _ q).under rfl (by simp)
 | panic ch => exact (hL _ _ _ q).under rfl (by simp)
theorem wp_cond {c : Operand} {x y : Code} {t : Bool} (hc : a.eval c = .bool t) (h : WP lv P r (if t then x else y) Q a V) : WP lv P r (.cond c x y) Q a V :=
 fun main J C b k cs hb hr hL => C.idle rfl (fun _ => s_cond hc) (h main J C b k cs hb hr hL)
def Ex.inBlock (id : Nat) (Q : Ex -> Act -> View -> Prop) : Ex -> Act -> View -> Prop
 | .exit id', a, V => if id' = id then Q .normal a V else Q (.exit id') a V
 | e, a, V => Q e a V
theorem wp_block {id : Nat} {c : Code} (h : WP lv P r c (Ex.inBlock id Q) a V) : WP lv P r (.block id c) Q a V := by
 intro main J C b k cs hb hr hL
 refine C.idle rfl (fun _ => s_block) (h main J C b (.inBlock id :: k) cs hb hr fun e a' V' q => ?_)
 cases e with
 | normal => exact C.idle rfl (fun _ => s_inBlock) (hL _ _ _ q)
 | exit id' =>
  by_cases hid : id' = id
  ·simp only [Ex.inBlock, hid, if_true] at q
   exact ⟨k, by simp [exitTo, hid], hL _ _ _ q⟩
  ·simp only [Ex.inBlock, hid, if_false] at q
   obtain ⟨k', hk, hJ⟩ := hL _ _ _ q
   have : (id == id') = false := by simp; exact fun h => hid h.symm
   exact ⟨k', by simp [exitTo, this, hk], hJ⟩
 | goto l => obtain ⟨k', hk, hJ⟩ := hL _ _ _ q; exact ⟨k', by simp [gotoIn, hk], hJ⟩
 | ret => exact hL _ _ _ q
 | panic ch => exact hL _ _ _ q
theorem wp_loop_wf {α : Type} {lt : α -> α -> Prop} (wf : WellFounded lt) {c : Code} (I : α -> Act -> View -> Prop) (m : α) (h₀ : I m a V)
  (round : ∀ m a V, I m a V -> WP lv P r c (Ex.then (fun a' V' => ∃ m', lt m' m /\ I m' a' V') Q) a V) : WP lv P r (.loop c) Q a V := by
 intro main J C b k cs hb hr hL
 have key : ∀ m a V, I m a V -> J V (G (on b a (.code c :: .inLoop c :: k)) cs) := by
  intro m
  induction m using wf.induction with
  | _ m ih =>
   intro a V hI
   refine round m a V hI main J C b (.inLoop c :: k) cs hb hr fun e a' V' q => ?_
   cases e with
   | normal => obtain ⟨m', hlt, hI'⟩ := q; exact C.idle rfl (fun _ => s_inLoop) (ih m' hlt a' V' hI')
   | exit id => exact (hL _ _ _ q).under rfl (by simp)
   | goto l => exact (hL _ _ _ q).under rfl (by simp)
   | ret => exact (hL _ _ _ q).under rfl (by simp)
   | panic ch => exact (hL _ _ _ q).under rfl (by simp)
 exact C.idle rfl (fun _ => s_loop) (key m a V h₀)
theorem wp_scope {c : Code} (I : Nat -> Nat -> Act -> View -> Prop)
  (start : ∃ n : Nat, WP lv P r c (fun e a V => match e with
   | .goto l => ∃ rest, findLabel c l = some rest /\ ∃ m, m < n /\ I l m a V
   | e => Q e a V) a V)
  (back : ∀ l rest m a V, findLabel c l = some rest -> I l m a V -> WP lv P r rest (fun e a V => match e with
   | .goto l' => ∃ rest', findLabel c l' = some rest' /\ ∃ m', m' < m /\ I l' m' a V
   | e => Q e a V) a V) : WP lv P r (.scope c) Q a V := by
 intro main J C b k cs hb hr hL
 have land : ∀ (n : Nat), (∀ l rest m a V, m < n -> findLabel c l = some rest -> I l m a V -> J V (G (on b a (.code rest :: .inScope c :: k)) cs)) ->
   ∀ e a' V', (match e with
   | .goto l => ∃ rest, findLabel c l = some rest /\ ∃ m, m < n /\ I l m a' V'
   | e => Q e a' V') -> Lands J b (.inScope c :: k) cs e a' V' := by
  intro n hn e a' V' q
  cases e with
  | normal => exact C.idle rfl (fun _ => s_inScope) (hL _ _ _ q)
  | exit id => obtain ⟨k', hk, hJ⟩ := hL _ _ _ q; exact ⟨k', by simpa [exitTo] using hk, hJ⟩
  | goto l =>
   obtain ⟨rest, hf, m, hm, hI⟩ := q
   exact ⟨_, by simp [gotoIn, hf], hn l rest m a' V' hm hf hI⟩
  | ret => exact hL _ _ _ q
  | panic ch => exact hL _ _ _ q
 have key : ∀ n l rest m a V, m < n -> findLabel c l = some rest -> I l m a V -> J V (G (on b a (.code rest :: .inScope c :: k)) cs) := by
  intro n
  induction n with
  | zero => intro _ _ _ _ _ h; omega
  | succ n ih =>
   intro l rest m a V hm hf hI
   exact back l rest m a V hf hI main J C b (.inScope c :: k) cs hb hr (land m fun l' rest' m' a' V' h' => ih l' rest' m' a' V' (by omega))
 obtain ⟨n, hn⟩ := start
 exact C.idle rfl (fun _ => s_scope) (hn main J C b (.inScope c :: k) cs hb hr (land n (key n)))
end rules
open Go.Conc
def View.get (V : View) (b o : Nat) : Option Value :=
 match V.imm b o with
 | some v => some v
 | none => match V.own b with
  | some (.cells c _ _) => c[o]?
  | _ => none
def View.upd (V : View) (b : Nat) (x : Obj) : View := { V with own := fun b' => if b' = b then some x else V.own b' }
def View.fresh (V : View) (b : Nat) : Prop := V.own b = none /\ ∀ o, V.imm b o = none
theorem Sat.get {V : View} {w : World} (h : Sat V w) {b o : Nat} {v : Value} (e : V.get b o = some v) : w.cell? ⟨b, o, none⟩ = some v := by
 unfold View.get at e
 split at e
 ·rename_i v' hv; cases e; exact h.imm _ _ _ hv
 ·split at e
  ·rename_i c el f ho
   have := h.own _ _ ho
   simpa [World.cell?, this] using e
  ·cases e
theorem Sat.lt {V : View} {w : World} (h : Sat V w) {b : Nat} {x : Obj} (e : V.own b = some x) : b < w.heap.size := by
 have := h.own _ _ e
 exact (Array.getElem?_eq_some_iff.1 this).1
theorem Sat.imm_lt {V : View} {w : World} (h : Sat V w) {b o : Nat} {v : Value} (e : V.imm b o = some v) : b < w.heap.size := by
 have := h.imm _ _ _ e
 unfold World.cell? at this
 split at this
 ·rename_i hh; exact (Array.getElem?_eq_some_iff.1 hh).1
 ·cases this
theorem Sat.fresh {V : View} {w : World} (h : Sat V w) {b : Nat} (hb : w.heap.size <= b) : V.fresh b :=
 ⟨by cases e : V.own b with
  | none => rfl
  | some x => have := h.lt e; omega, fun o => by
  cases e : V.imm b o with
  | none => rfl
  | some x => have := h.imm_lt e; omega⟩
theorem Sat.get_lt {V : View} {w : World} (h : Sat V w) {b o : Nat} {v : Value} (e : V.get b o = some v) : b < w.heap.size := by
 have := h.get e
 unfold World.cell? at this
 split at this
 ·rename_i hh; exact (Array.getElem?_eq_some_iff.1 hh).1
 ·cases this
theorem MayRead.of_step {V V₁ : View} {w w₁ : World} {es : Array Event} (s : StepOk V w V₁ w₁ es) {a : Addr} (h : MayRead V₁ w₁.heap.size a) : MayRead V w.heap.size a := by
 rcases h with h | h | h
 ·exact .inl (Nat.le_trans s.size h)
 ·by_cases hb : a.block < w.heap.size
  ·exact .inr (.inl fun e => h (s.own _ hb e))
  ·exact .inl (by omega)
 ·cases e : V₁.imm a.block a.off with
  | none => exact absurd e h
  | some v =>
   rcases s.immNew _ _ _ e with x | x | x
   ·exact .inr (.inr (by rw [x]; simp))
   ·exact .inr (.inl x)
   ·exact .inl x
theorem MayWrite.of_step {V V₁ : View} {w w₁ : World} {es : Array Event} (s : StepOk V w V₁ w₁ es) {a : Addr} (h : MayWrite V₁ w₁.heap.size a) : MayWrite V w.heap.size a := by
 rcases h with h | ⟨h, h'⟩
 ·exact .inl (Nat.le_trans s.size h)
 ·by_cases hb : a.block < w.heap.size
  ·refine .inr ⟨fun e => h (s.own _ hb e), ?_⟩
   cases e : V.imm a.block a.off with
   | none => rfl
   | some v => rw [s.imm _ _ _ e] at h'; cases h'
  ·exact .inl (by omega)
theorem EvOk.of_step {V V₁ : View} {w w₁ : World} {es : Array Event} (s : StepOk V w V₁ w₁ es) {e : Event} (h : EvOk V₁ w₁.heap.size e) : EvOk V w.heap.size e := by
 unfold EvOk at h ⊢
 split at h
 ·exact ⟨MayRead.of_step s h.1, by rw [<- s.role]; exact h.2⟩
 ·exact ⟨MayWrite.of_step s h.1, by rw [<- s.role]; exact h.2⟩
 ·refine ⟨⟨h.1.1, ?_⟩, by rw [<- s.role]; exact h.2⟩
  rename_i r _ _
  rcases h.1.2 with x | x
  ·exact .inl (Nat.le_trans s.size x)
  ·by_cases hb : r < w.heap.size
   ·exact .inr fun y => x (s.own _ hb y)
   ·exact .inl (by omega)
 ·exact MayWrite.of_step s h
 ·exact MayWrite.of_step s h
 ·exact h
 ·exact h
 ·trivial
 ·exact h.elim
theorem deafBehind_app (d : Nat) (x y : Array Event) : deafBehind d (x ++ y) = deafBehind (deafBehind d x) y := by
 simp [deafBehind]
theorem StepOk.trans {V V₁ V₂ : View} {w w₁ w₂ : World} {es es' : Array Event} (s : StepOk V w V₁ w₁ es) (s' : StepOk V₁ w₁ V₂ w₂ es') : StepOk V w V₂ w₂ (es ++ es') :=
 ⟨s'.sat, s'.tape.trans s.tape, s'.os.trans s.os, s'.output.trans s.output, Nat.le_trans s.size s'.size,
  fun b hb e => (s'.frame b (Nat.lt_of_lt_of_le hb s.size) (s.own b hb e)).trans (s.frame b hb e), fun b hb e => s'.own b (Nat.lt_of_lt_of_le hb s.size) (s.own b hb e),
  fun b o v e => s'.imm b o v (s.imm b o v e), fun b o v e => by
   rcases s'.immNew b o v e with x | x | x
   ·exact s.immNew b o v x
   ·by_cases hb : b < w.heap.size
    ·exact .inr (.inl fun y => x (s.own b hb y))
    ·exact .inr (.inr (by omega))
   ·exact .inr (.inr (Nat.le_trans s.size x)),
  fun e he => (Array.mem_append.1 he).elim (s.evs e) (fun h => (s'.evs e h).of_step s), by rw [s'.deaf, s.deaf, deafBehind_app], s'.role.trans s.role, fun c x e e' => s'.chan c x (by rw [s.role]; exact e) (s.chan c x e e'),
  fun e he => (Array.mem_append.1 he).elim (fun x => MemAct.low_mono s'.size (s.low e x)) (s'.low e)⟩
def noExt (es : Array Event) : Array Event := es.filter fun e => match e.loc with | .mark (.extern _) => false | _ => true
def SemOk (P : Program) {α : Type} (V : View) (s : Sem α) (K : α -> View -> Prop) (Kp : Value -> View -> Prop) : Prop :=
 ∀ w, Sat V w -> ∀ es0, ∃ es w' V', StepOk V w V' w' (noExt es) /\
  ((∃ x, s.runT P w es0 = (.ok x w', es0 ++ es) /\ K x V') \/ (∃ v, s.runT P w es0 = (.halt (.panic v) w', es0 ++ es) /\ Kp v V'))
section
variable {P : Program} {α β : Type} {V : View} {K : α -> View -> Prop} {Kp : Value -> View -> Prop}
theorem noExt_app (x y : Array Event) : noExt (x ++ y) = noExt x ++ noExt y := by simp [noExt]
theorem SemOk.mono {s : Sem α} {K' : α -> View -> Prop} {Kp' : Value -> View -> Prop} (h : SemOk P V s K Kp) (hk : ∀ x V, K x V -> K' x V) (hp : ∀ x V, Kp x V -> Kp' x V) : SemOk P V s K' Kp' := fun w hw es0 =>
 let ⟨es, w', V', h1, h2⟩ := h w hw es0
 ⟨es, w', V', h1, h2.imp (fun ⟨x, a, b⟩ => ⟨x, a, hk _ _ b⟩) (fun ⟨x, a, b⟩ => ⟨x, a, hp _ _ b⟩)⟩
theorem SemOk.ghost {s : Sem α} {V' : View} (g : Ghost V V') (h : SemOk P V' s K Kp) : SemOk P V s K Kp := fun w hw es0 =>
 let ⟨es, w', V', h1, h2⟩ := h w (g.sat w hw) es0
 ⟨es, w', V', h1.of_ghost g, h2⟩
theorem SemOk.cont {s : Sem α} (h : ∀ w, Sat V w -> ∃ es w' V' s', StepOk V w V' w' (noExt es) /\ (∀ es0, s.runT P w es0 = s'.runT P w' (es0 ++ es)) /\ SemOk P V' s' K Kp) : SemOk P V s K Kp := by
 intro w hw es0
 obtain ⟨es, w', V', s', h1, h2, h3⟩ := h w hw
 obtain ⟨es', w'', V'', h4, h5⟩ := h3 w' h1.sat (es0 ++ es)
 refine ⟨es ++ es', w'', V'', by rw [noExt_app]; exact h1.trans h4, ?_⟩
 rw [h2, <- Array.append_assoc]
 exact h5
theorem semOk_pure {x : α} (h : K x V) : SemOk P V (.pure x) K Kp := fun w hw es0 => ⟨#[], w, V, by simpa [noExt] using StepOk.idle hw, .inl ⟨x, by simp [-Sem.runT_eq, Sem.runT], h⟩⟩
theorem semOk_pure' {x : α} (h : K x V) : SemOk P V (pure x) K Kp := semOk_pure h
theorem semOk_panic {v : Value} (h : Kp v V) : SemOk P V (.halt (.panic v) : Sem α) K Kp := fun w hw es0 => ⟨#[], w, V, by simpa [noExt] using StepOk.idle hw, .inr ⟨v, by simp [-Sem.runT_eq, Sem.runT], h⟩⟩
theorem noExt_one {e : Event} (h : ∀ f, e.loc ≠ .mark (.extern f)) : noExt #[e] = #[e] := by
 unfold noExt
 have : (match e.loc with | .mark (.extern _) => false | _ => true) = true := by
  split
  ·rename_i f hf; exact absurd hf (h f)
  ·rfl
 simp [Array.filter]
theorem deafBehind_cell (d : Nat) (a : Addr) (wr s : Bool) : deafBehind d #[⟨.cell a, wr, s⟩] = d := by simp [deafBehind]
theorem deafBehind_obj (d : Nat) (a : Nat) (wr s : Bool) : deafBehind d #[⟨.obj a, wr, s⟩] = d := by simp [deafBehind]
theorem semOk_load {m : Mode} {b o : Nat} {v : Value} {k : Value -> Sem α} (e : V.get b o = some v) (hgr : V.role.group ≠ some b \/ m = .atomic) (h : SemOk P V (k v) K Kp) : SemOk P V (.load m ⟨b, o, none⟩ k) K Kp := by
 refine .cont fun w hw => ⟨#[⟨.cell ⟨b, o, none⟩, false, m == .atomic⟩], w, V, k v, ?_, fun es0 => ?_, h⟩
 ·rw [noExt_one (by simp)]
  refine ⟨hw, rfl, rfl, rfl, Nat.le_refl _, fun _ _ _ => rfl, fun _ _ e => e, fun _ _ _ e => e, fun _ _ _ e => .inl e, fun ev hev => ?_, by rw [deafBehind_cell], rfl, fun _ _ _ e => e, fun ev hev => by simp at hev; subst hev; exact hw.get_lt e⟩
  simp only [List.mem_toArray, List.mem_cons, List.not_mem_nil, or_false] at hev
  subst hev
  refine ⟨.inr ?_, hgr.elim .inr (fun x => .inl (by subst x; rfl))⟩
  show V.own b ≠ none \/ V.imm b o ≠ none
  unfold View.get at e
  split at e
  ·rename_i hv; exact .inr (by rw [hv]; simp)
  ·split at e
   ·rename_i hv; exact .inl (by rw [hv]; simp)
   ·cases e
 ·simp [-Sem.runT_eq, Sem.runT, hw.get e]
def _root_.Go.Value.one : Value -> Bool
 | .agg _ | .tuple _ => false
 | _ => true
theorem Sat.upd_cells {V : View} {w : World} (h : Sat V w) {b o : Nat} {v : Value} {c : Array Value} {el : TypeId} {f : Nat × Nat} (ho : V.own b = some (.cells c el f)) (hi : V.imm b o = none) :
  Sat (V.upd b (.cells (c.setIfInBounds o v) el f)) (w.setCell ⟨b, o, none⟩ v) := by
 have hb := h.own _ _ ho
 have hlt := h.lt ho
 have hm : (w.setCell ⟨b, o, none⟩ v).heap = w.heap.setIfInBounds b (.cells (c.setIfInBounds o v) el f) := by
  unfold World.setCell
  apply Array.ext_getElem?
  intro i
  by_cases hi' : b = i
  ·subst hi'; rw [Array.getElem?_modify, Array.getElem?_setIfInBounds_self_of_lt hlt]; simp [hb]
  ·simp [Array.getElem?_modify, hi', Array.getElem?_setIfInBounds_ne hi']
 refine ⟨fun b' o' v' e => ?_, fun b' x e => ?_⟩
 ·have := h.imm _ _ _ e
  simp only [View.upd] at e
  by_cases hbb : b = b'
  ·subst hbb
   have hoo : o ≠ o' := by intro x; subst x; rw [hi] at e; cases e
   simp only [World.cell?, hb] at this
   simp only [World.cell?, hm, Array.getElem?_setIfInBounds_self_of_lt hlt, Array.getElem?_setIfInBounds_ne hoo]
   exact this
  ·simp only [World.cell?, hm, Array.getElem?_setIfInBounds_ne hbb]
   exact this
 ·simp only [View.upd] at e
  rw [hm]
  by_cases hbb : b' = b
  ·subst hbb; simp at e; rw [Array.getElem?_setIfInBounds_self_of_lt hlt, e]
  ·simp only [hbb, if_false] at e
   rw [Array.getElem?_setIfInBounds_ne (Ne.symm hbb)]
   exact h.own _ _ e
theorem size_setCell' (w : World) (a : Addr) (v : Value) : (w.setCell a v).heap.size = w.heap.size := by simp [World.setCell]
theorem heap_setCell_ne (w : World) (a : Addr) (v : Value) {b : Nat} (h : a.block ≠ b) : (w.setCell a v).heap[b]? = w.heap[b]? := by simp [World.setCell, Array.getElem?_modify, h]
theorem semOk_store {m : Mode} {b o : Nat} {v : Value} {k : Sem α} {c : Array Value} {el : TypeId} {lo hi : Nat} (ho : V.own b = some (.cells c el (lo, hi))) (hin : o < c.size) (hi' : V.imm b o = none) (hv : v.one = true)
  (hf : ¬ (lo <= o /\ o < hi)) (hgr : V.role.group ≠ some b \/ m = .atomic) (hgc : V.role.chan ≠ some b) (h : SemOk P (V.upd b (.cells (c.setIfInBounds o v) el (lo, hi))) k K Kp) : SemOk P V (.store m ⟨b, o, none⟩ v k) K Kp := by
 refine .cont fun w hw => ⟨#[⟨.cell ⟨b, o, none⟩, true, m == .atomic⟩], w.setCell ⟨b, o, none⟩ v, _, k, ?_, fun es0 => ?_, h⟩
 ·rw [noExt_one (by simp)]
  refine ⟨hw.upd_cells ho hi', rfl, rfl, rfl, by rw [size_setCell']; exact Nat.le_refl _, fun b' hb' e => heap_setCell_ne _ _ _ (fun x => ?_), fun b' hb' e => ?_, fun _ _ _ e => e, fun _ _ _ e => .inl e, fun ev hev => ?_, by rw [deafBehind_cell]; rfl, rfl, fun c' x hc' e => by rw [<- e]; simp only [View.upd, ite_eq_right_iff]; intro x'; subst x'; exact absurd hc' hgc, fun ev hev => by simp at hev; subst hev; show b < _; rw [size_setCell']; exact hw.lt ho⟩
  ·have x' : b = b' := x
   subst x'; rw [ho] at e; cases e
  ·have : b' ≠ b := by intro x; subst x; rw [ho] at e; cases e
   simp only [View.upd, this, if_false]; exact e
  ·simp only [List.mem_toArray, List.mem_cons, List.not_mem_nil, or_false] at hev
   subst hev
   exact ⟨.inr ⟨by show V.own b ≠ none; rw [ho]; simp, hi'⟩, hgr.elim .inr (fun x => .inl (by subst x; rfl))⟩
 ·have hc : w.cell? ⟨b, o, none⟩ = some c[o] := by simp [World.cell?, hw.own _ _ ho, hin]
  have hfz : w.frozen? ⟨b, o, none⟩ = false := by
   simp only [World.frozen?, hw.own _ _ ho]
   simpa using hf
  cases v <;> simp_all [-Sem.runT_eq, Sem.runT, Value.one]
theorem semOk_new {x : Obj} {k : Nat -> Sem α} (h : ∀ r, V.fresh r -> SemOk P (V.upd r x) (k r) K Kp) : SemOk P V (.new x k) K Kp := by
 refine .cont fun w hw => ⟨#[], { w with heap := w.heap.push x }, V.upd w.heap.size x, k w.heap.size, ?_, fun es0 => by simp [-Sem.runT_eq, Sem.runT], h _ (hw.fresh (Nat.le_refl _))⟩
 have hfr := hw.fresh (Nat.le_refl w.heap.size)
 have hne : ∀ {b y}, V.own b = some y -> b ≠ w.heap.size := fun e x => by rw [x, hfr.1] at e; cases e
 refine ⟨⟨fun b o v e => ?_, fun b y e => ?_⟩, rfl, rfl, rfl, by simp, fun b hb _ => ?_, fun b hb e => ?_, fun _ _ _ e => e, fun _ _ _ e => .inl e, by simp [noExt], rfl, rfl, fun c' x hc' e => by rw [<- e]; simp only [View.upd, ite_eq_right_iff]; intro x'; exact absurd x' (hne e), by simp [noExt]⟩
 ·have hlt := hw.imm_lt e
  have := hw.imm _ _ _ e
  simp only [World.cell?, Array.getElem?_push_lt hlt] at this ⊢
  simpa [World.cell?, hlt] using this
 ·simp only [View.upd] at e
  by_cases hb : b = w.heap.size
  ·subst hb; simp at e; simp [e]
  ·simp only [hb, if_false] at e
   have := hw.own _ _ e
   have hlt := hw.lt e
   simp only [Array.getElem?_push_lt hlt]
   simpa [hlt] using this
 ·simp [Array.getElem?_push, Nat.ne_of_lt hb]
 ·simp only [View.upd, Nat.ne_of_lt hb, if_false]; exact e
theorem semOk_choose {q : Question} {k : Nat -> Sem α} (h0 : q.forced = true -> SemOk P V (k 0) K Kp) (h : q.forced = false -> ∀ t, SemOk P V (k (q.cut t)) K Kp) : SemOk P V (.choose q k) K Kp := by
 cases hf : q.forced with
 | true => exact .cont fun w hw => ⟨#[], w, V, k 0, by simpa [noExt] using StepOk.idle hw, fun es0 => by simp [-Sem.runT_eq, Sem.runT, hf], h0 hf⟩
 | false => exact .cont fun w hw => ⟨#[], { w with drawn := w.drawn + 1 }, V, _, by simpa [noExt] using StepOk.draw hw (w.drawn + 1), fun es0 => by simp [-Sem.runT_eq, Sem.runT, hf], h hf (w.tape w.drawn q)⟩
theorem semOk_program {k : Program -> Sem α} (h : SemOk P V (k P) K Kp) : SemOk P V (.program k) K Kp :=
 .cont fun w hw => ⟨#[], w, V, k P, by simpa [noExt] using StepOk.idle hw, fun es0 => by simp [-Sem.runT_eq, Sem.runT], h⟩
theorem semOk_noRoom {k : Sem α} (h : SemOk P V k K Kp) : SemOk P V (.mark .noRoom k) K Kp :=
 .cont fun w hw => ⟨#[⟨.mark .noRoom, false, true⟩], w, V, k, by
  rw [noExt_one (by simp)]
  exact ⟨hw, rfl, rfl, rfl, Nat.le_refl _, fun _ _ _ => rfl, fun _ _ e => e, fun _ _ _ e => e, fun _ _ _ e => .inl e, fun ev hev => by simp at hev; subst hev; trivial, by simp [deafBehind], rfl, fun _ _ _ e => e, fun ev hev => by simp at hev; subst hev; trivial⟩,
  fun es0 => by simp [-Sem.runT_eq, Sem.runT], h⟩
def _root_.Go.Obj.isCells : Obj -> Bool
 | .cells .. => true
 | _ => false
theorem semOk_getObj {r : Nat} {x : Obj} {k : Obj -> Sem α} (ho : V.own r = some x) (hx : x.isCells = false) (hc : x.isChan = false) (hgr : V.role.chan ≠ some r) (h : SemOk P V (k x) K Kp) : SemOk P V (.getObj r k) K Kp :=
 .cont fun w hw => ⟨#[⟨.obj r, false, false⟩], w, V, k x, by
  rw [noExt_one (by simp)]
  exact ⟨hw, rfl, rfl, rfl, Nat.le_refl _, fun _ _ _ => rfl, fun _ _ e => e, fun _ _ _ e => e, fun _ _ _ e => .inl e, fun ev hev => by simp at hev; subst hev; exact ⟨⟨rfl, .inr (by rw [ho]; simp)⟩, hgr⟩, by rw [deafBehind_obj], rfl, fun _ _ _ e => e, fun ev hev => by simp at hev; subst hev; exact hw.lt ho⟩,
  fun es0 => by
   have := hw.own _ _ ho
   cases x <;> simp_all [-Sem.runT_eq, Sem.runT, Obj.isCells, Obj.isChan], h⟩
theorem Sat.upd_obj {V : View} {w : World} (h : Sat V w) {r : Nat} {x y : Obj} (ho : V.own r = some x) (hx : x.isCells = false) : Sat (V.upd r y) { w with heap := w.heap.setIfInBounds r y } := by
 have hlt := h.lt ho
 refine ⟨fun b o v e => ?_, fun b z e => ?_⟩
 ·have := h.imm _ _ _ e
  have hb : r ≠ b := by
   intro e'; subst e'
   simp only [World.cell?, h.own _ _ ho] at this
   cases x <;> simp_all [Obj.isCells]
  simp only [World.cell?, Array.getElem?_setIfInBounds_ne hb] at this ⊢
  exact this
 ·simp only [View.upd] at e
  by_cases hb : b = r
  ·subst hb; simp at e; simp [hlt, e]
  ·simp only [hb, if_false] at e
   simp only [Array.getElem?_setIfInBounds_ne (Ne.symm hb)]
   exact h.own _ _ e
theorem semOk_setObj {r : Nat} {x y : Obj} {k : Sem α} (ho : V.own r = some x) (hx : x.isCells = false) (hy : y.isChan = false) (hgr : V.role.chan ≠ some r) (h : SemOk P (V.upd r y) k K Kp) : SemOk P V (.setObj r y k) K Kp :=
 .cont fun w hw => ⟨#[⟨.obj r, true, false⟩], { w with heap := w.heap.setIfInBounds r y }, _, k, by
  rw [noExt_one (by simp)]
  refine ⟨hw.upd_obj ho hx, rfl, rfl, rfl, by simp, fun b hb e => ?_, fun b hb e => ?_, fun _ _ _ e => e, fun _ _ _ e => .inl e, fun ev hev => by simp at hev; subst hev; exact ⟨⟨rfl, .inr (by rw [ho]; simp)⟩, hgr⟩, by rw [deafBehind_obj]; rfl, rfl, fun c' x hc' e => by rw [<- e]; simp only [View.upd, ite_eq_right_iff]; intro x'; subst x'; exact absurd hc' hgr, fun ev hev => by simp at hev; subst hev; show r < _; simp; exact hw.lt ho⟩
  ·exact Array.getElem?_setIfInBounds_ne (fun x' => by subst x'; rw [ho] at e; cases e)
  ·have : b ≠ r := by intro x'; subst x'; rw [ho] at e; cases e
   simp only [View.upd, this, if_false]; exact e,
  fun es0 => by
   have := hw.own _ _ ho
   cases x <;> simp_all [-Sem.runT_eq, Sem.runT, Obj.isCells, Obj.isChan], h⟩
theorem semOk_bind' {s : Sem α} {f : α -> Sem β} {K : β -> View -> Prop} (h : SemOk P V s (fun x V' => SemOk P V' (f x) K Kp) Kp) : SemOk P V (s.bind f) K Kp := by
 intro w hw es0
 obtain ⟨es, w', V', h1, h2⟩ := h w hw es0
 have key : (s.bind f).runT P w es0 = match s.runT P w es0 with
   |(.ok x w', e) => (f x).runT P w' e
   |(.halt h w', e) => (.halt h w', e) := by
  have hr := Sem.run_bind' P s f w
  have he := Sem.events_bind' P s f w es0
  rw [Sem.runT_eq, Sem.runT_eq]
  have hr' : (s.bind f).run P w = _ := hr
  have he' : (s.bind f).events P w es0 = _ := he
  rw [hr', he']
  cases s.run P w <;> simp [Result.andThen, Result.evThen]
 rcases h2 with ⟨x, hx, hK⟩ | ⟨v, hv, hKp⟩
 ·obtain ⟨es', w'', V'', h3, h4⟩ := hK w' h1.sat (es0 ++ es)
  refine ⟨es ++ es', w'', V'', by rw [noExt_app]; exact h1.trans h3, ?_⟩
  rw [key, hx, <- Array.append_assoc]
  exact h4
 ·refine ⟨es, w', V', h1, .inr ⟨v, ?_, hKp⟩⟩
  rw [key, hv]
theorem semOk_bind {s : Sem α} {f : α -> Sem β} {K : β -> View -> Prop} (h : SemOk P V s (fun x V' => SemOk P V' (f x) K Kp) Kp) : SemOk P V (s >>= f) K Kp := semOk_bind' h
end
open Go.Conc
def EvGood (e : Event) : Prop := ∀ m, e.loc = .mark m -> (m = .disable \/ m = .enable) -> e.sync = true
theorem EvOk.good {V : View} {n : Nat} {e : Event} (h : EvOk V n e) : EvGood e := by
 intro m hm hd
 obtain ⟨l, wr, s⟩ := e
 simp only at hm
 subst hm
 rcases hd with rfl | rfl
 ·simpa [EvOk] using h
 ·simpa [EvOk] using h
theorem deafBehind_snoc (d : Nat) (x : Array Event) (e : Event) : deafBehind d (x.push e) = deafBehind (deafBehind d x) #[e] := by
 simp [deafBehind]
theorem deaf_plain {d : Nat} {e : Event} (hg : EvGood e) (hs : e.sync = false) : deafBehind d #[e] = d := by
 obtain ⟨l, wr, s⟩ := e
 cases l with
 | mark m =>
  cases m <;> first
   |(have := hg _ rfl (.inl rfl); simp_all)
   |(have := hg _ rfl (.inr rfl); simp_all)
   | simp [deafBehind]
 | _ => simp [deafBehind]
theorem seen_noExt (P : Program) (fn : FuncId) (es : Array Event) (hg : ∀ e ∈ noExt es, EvGood e) (d : Nat) : (∀ e ∈ seen P fn es, e ∈ noExt es) /\ deafBehind d (seen P fn es) = deafBehind d (noExt es) := by
 rw [seen_def]
 obtain ⟨l⟩ := es
 have key : ∀ (l : List Event) (q : Bool) (kept ref : Array Event), (∀ e ∈ noExt l.toArray, EvGood e) -> (∀ e ∈ kept, e ∈ ref) -> deafBehind d kept = deafBehind d ref ->
   (∀ e ∈ (l.foldl (seenStep fun f => (P.funcs[f]?).any (·.norace)) (q, kept)).2, e ∈ ref ++ noExt l.toArray) /\
   deafBehind d (l.foldl (seenStep fun f => (P.funcs[f]?).any (·.norace)) (q, kept)).2 = deafBehind d (ref ++ noExt l.toArray) := by
  intro l
  induction l with
  | nil => intro q kept ref _ h1 h2; simpa [noExt] using ⟨h1, h2⟩
  | cons e l ih =>
   intro q kept ref hg h1 h2
   rw [List.foldl_cons]
   by_cases hx : ∃ f, e.loc = .mark (.extern f)
   ·obtain ⟨f, hf⟩ := hx
    have e1 : noExt (e :: l).toArray = noExt l.toArray := by simp [noExt, hf]
    rw [e1] at hg ⊢
    have e3 : seenStep (fun f => (P.funcs[f]?).any (·.norace)) (q, kept) e = ((P.funcs[f]?).any (·.norace), kept) := by simp [seenStep, hf]
    rw [e3]
    exact ih _ kept ref hg h1 h2
   ·have hne : ∀ f, e.loc ≠ .mark (.extern f) := fun f hf => hx ⟨f, hf⟩
    have e1 : noExt (e :: l).toArray = #[e] ++ noExt l.toArray := by
     have : (e :: l).toArray = #[e] ++ l.toArray := by simp
     rw [this, noExt_app, noExt_one hne]
    have hge : EvGood e := hg e (by rw [e1]; simp)
    have hgl : ∀ x ∈ noExt l.toArray, EvGood x := fun x hx => hg x (by rw [e1]; exact Array.mem_append.2 (.inr hx))
    have e2 : seenStep (fun f => (P.funcs[f]?).any (·.norace)) (q, kept) e = (q, if q && !e.sync then kept else kept.push e) := by
     unfold seenStep
     dsimp only
     split
     ·rename_i f hf; exact absurd hf (hne f)
     ·rfl
    rw [e1, <- Array.append_assoc]
    rw [e2]
    refine ih q _ (ref ++ #[e]) hgl (fun x hx => ?_) ?_
    ·split at hx
     ·exact Array.mem_append.2 (.inl (h1 x hx))
     ·rcases Array.mem_push.1 hx with hx | rfl
      ·exact Array.mem_append.2 (.inl (h1 x hx))
      ·exact Array.mem_append.2 (.inr (by simp))
    ·split
     ·rename_i hq
      simp only [Bool.and_eq_true, Bool.not_eq_true'] at hq
      rw [deafBehind_app, deaf_plain hge hq.2, h2]
     ·rw [deafBehind_app, deafBehind_snoc, h2]
 have := key l ((P.funcs[fn]?).any (·.norace)) #[] #[] hg (by simp) rfl
 simpa only [Array.empty_append] using this
theorem StepOk.seen {V V' : View} {w w' : World} {es : Array Event} (h : StepOk V w V' w' (noExt es)) (P : Program) (fn : FuncId) : StepOk V w V' w' (seen P fn es) := by
 have := seen_noExt P fn es (fun e he => (h.evs e he).good) V.deaf
 exact ⟨h.sat, h.tape, h.os, h.output, h.size, h.frame, h.own, h.imm, h.immNew, fun e he => h.evs e (this.1 e he), by rw [h.deaf, this.2], h.role, h.chan, fun e he => h.low e (this.1 e he)⟩
open Go.Conc
inductive Out where
 | ret (v : Value)
 | panic (chain : List PanicEntry)
def Leaves (P : Program) (fr : Frame) (f : FuncId) (kd : CallKind) (o : Out) (V : View) : Prop :=
 fr.fn = f /\ fr.defers = [] /\ fr.kind = kd /\ ∃ fn, P.funcs[f]? = some fn /\
  match o with
  | .ret v => fr.mode = .returning /\ SemOk P V (results fn fr.tmps) (fun x V' => x = v /\ V' = V) (fun _ _ => False)
  | .panic ch => fr.mode = .panicking ch
def Body (lv : Bool) (P : Program) (f : FuncId) (args : Array Value) (kd : CallKind) (V : View) (R : Out -> View -> Prop) : Prop :=
 ∀ (main : Bool) (J : View -> Goroutine -> Prop), Closed lv P main J -> ∀ cs, (∀ o V' fr, R o V' -> Leaves P fr f kd o V' -> J V' (G fr cs)) -> J V (G (Frame.enter P f args kd) cs)
def Runs (lv : Bool) (P : Program) (fr : Frame) (V : View) (R : Out -> View -> Prop) : Prop :=
 ∀ (main : Bool) (J : View -> Goroutine -> Prop), Closed lv P main J -> ∀ c cs, (∀ v V', R (.ret v) V' -> J V' (G (c.finish v) cs)) -> (∀ ch V', R (.panic ch) V' -> J V' (G (c.raise ch) cs)) -> J V (G fr (c :: cs))
theorem Body.mono {lv : Bool} {P : Program} {f : FuncId} {args : Array Value} {kd : CallKind} {V : View} {R R' : Out -> View -> Prop} (h : Body lv P f args kd V R) (hr : ∀ o V, R o V -> R' o V) : Body lv P f args kd V R' :=
 fun main J C cs hk => h main J C cs fun o V' fr r hl => hk o V' fr (hr _ _ r) hl
theorem Body.ghost {lv : Bool} {P : Program} {f : FuncId} {args : Array Value} {kd : CallKind} {V V' : View} {R : Out -> View -> Prop} (g : Ghost V V') (h : Body lv P f args kd V' R) : Body lv P f args kd V R :=
 fun main J C cs hk => C.ghost _ _ _ g (h main J C cs hk)
theorem Runs.mono {lv : Bool} {P : Program} {fr : Frame} {V : View} {R R' : Out -> View -> Prop} (h : Runs lv P fr V R) (hr : ∀ o V, R o V -> R' o V) : Runs lv P fr V R' :=
 fun main J C c cs h1 h2 => h main J C c cs (fun v V' r => h1 v V' (hr _ _ r)) (fun v V' r => h2 v V' (hr _ _ r))
theorem Runs.ghost {lv : Bool} {P : Program} {fr : Frame} {V V' : View} {R : Out -> View -> Prop} (g : Ghost V V') (h : Runs lv P fr V' R) : Runs lv P fr V R :=
 fun main J C c cs h1 h2 => C.ghost _ _ _ g (h main J C c cs h1 h2)
theorem SemOk.runs {P : Program} {α : Type} {V : View} {s : Sem α} {K : α -> View -> Prop} {Kp : Value -> View -> Prop} (h : SemOk P V s K Kp) {w : World} (hw : Sat V w) :
  ∃ es w' V', StepOk V w V' w' (noExt es) /\ s.events P w #[] = es /\ ((∃ x, s.run P w = .ok x w' /\ K x V') \/ (∃ v, s.run P w = .halt (.panic v) w' /\ Kp v V')) := by
 obtain ⟨es, w', V', h1, h2⟩ := h w hw #[]
 refine ⟨es, w', V', h1, ?_⟩
 simp only [Sem.runT_eq, Prod.mk.injEq, Array.empty_append] at h2
 rcases h2 with ⟨x, ⟨a, b⟩, c⟩ | ⟨x, ⟨a, b⟩, c⟩
 ·exact ⟨b, .inl ⟨x, a, c⟩⟩
 ·exact ⟨b, .inr ⟨x, a, c⟩⟩
theorem leaves_ret {lv : Bool} {P : Program} {main : Bool} {J : View -> Goroutine -> Prop} (C : Closed lv P main J) {fr c : Frame} {cs : List Frame} {f : FuncId} {v : Value} {V : View} (h : Leaves P fr f .normal (.ret v) V) (hJ : J V (G (c.finish v) cs)) : J V (G fr (c :: cs)) := by
 obtain ⟨rfl, hd, hk, fn, hf, hm, hr⟩ := h
 refine C.step _ _ rfl fun w hw => ?_
 obtain ⟨es, w', V', h1, h2, h3⟩ := hr.runs hw
 rcases h3 with ⟨x, h3, rfl, rfl⟩ | ⟨_, _, h⟩
 ·exact ⟨G (c.finish x) cs, w', seen P fr.fn es, V', by simp [G, stepG, unwind, doReturn, hm, hd, hk, hf, h3, h2, GStep.after], h1.seen P fr.fn, hJ⟩
 ·exact h.elim
theorem leaves_panic {lv : Bool} {P : Program} {main : Bool} {J : View -> Goroutine -> Prop} (C : Closed lv P main J) {fr c : Frame} {cs : List Frame} {f : FuncId} {kd : CallKind} {ch : List PanicEntry} {V : View} (h : Leaves P fr f kd (.panic ch) V) (hJ : J V (G (c.raise ch) cs)) : J V (G fr (c :: cs)) := by
 obtain ⟨rfl, hd, hk, fn, hf, hm⟩ := h
 refine C.idle rfl (fun w => ?_) hJ
 simp [G, stepG, unwind, Frame.catches, hm, hd, hf]
theorem Body.runs {lv : Bool} {P : Program} {f : FuncId} {args : Array Value} {V : View} {R : Out -> View -> Prop} (h : Body lv P f args .normal V R) : Runs lv P (Frame.enter P f args .normal) V R := by
 intro main J C c cs h1 h2
 refine h main J C (c :: cs) fun o V' fr r hl => ?_
 cases o with
 | ret v => exact leaves_ret C hl (h1 v V' r)
 | panic ch => exact leaves_panic C hl (h2 ch V' r)
def Upon (lv : Bool) (P : Program) (r : Option Nat) (o : Oper) (a : Act) (next : Act -> View -> Prop) (Q : Ex -> Act -> View -> Prop) (nx : Next) (V : View) : Prop :=
 match nx with
 | .value v => next (a.put o.dst v) V
 | .skip => next (a.put o.dst undef) V
 | .defer d => r = none /\ next ({ a with defers := d :: a.defers }.put o.dst undef) V
 | .enter f args => Body lv P f args .normal V fun
   | .ret v, V' => next (a.put o.dst v) V'
   | .panic ch, V' => Q (.panic ch) a V'
 | .round l f tmps assign body => Runs lv P (Frame.round l f tmps assign body .normal) V fun
   | .ret v, V' => next (a.put o.dst v) V'
   | .panic ch, V' => Q (.panic ch) a V'
 | _ => False
def isDefer : Op -> Bool
 | .defer _ => true
 | _ => false
def OpWP (lv : Bool) (P : Program) (r : Option Nat) (o : Oper) (a : Act) (V : View) (next : Act -> View -> Prop) (Q : Ex -> Act -> View -> Prop) : Prop :=
 (r = none \/ isDefer o.op = false) /\ SemOk P V (execOp a.eval o) (Upon lv P r o a next Q) (fun v V' => Q (.panic [{ v, recovered := false }]) a V')
def SpecWP (lv : Bool) (P : Program) (o : Oper) (a : Act) (V : View) (next : Act -> View -> Prop) : Prop := match o.op with
 | .send ch x => ∃ (c Wg : Nat) (sp : Spec) (S : List Spec) (B : Nat -> Bool), a.eval ch = .chan (some c) /\ V.role = .work c Wg (sp :: S) /\ V.deaf = 0 /\ sp (a.eval x) V.imm (fun b => if B b then V.own b else none) /\
   next (a.put o.dst undef) { V with own := fun b => if B b then none else V.own b, role := .work c Wg S }
 | .go cl => lv = true /\ ∃ (x : Operand) (f : FuncId) (fa ca : Array Value), cl.callee = .value x /\ a.eval x = .func (.func f) fa ca /\ V.deaf = 0 /\
   ((∃ (c Wg : Nat) (Ss : List (List Spec)) (sp : Spec) (S : List Spec), V.role = .fork c Wg Ss /\ V.own c = some (.chan 0 #[] false 0 0 false) /\ V.own Wg = some (wgBlock P (((Ss.length + 1 : Nat) : Int) * 4294967296) 0) /\ Ss.length < 4 /\ (∀ o, V.imm Wg o = none) /\
    (∀ J0, Closed0 P false J0 -> J0 { imm := V.imm, own := fun _ => none, deaf := 0, role := .work c Wg (sp :: S) } (born P ⟨.fn (.func f) ca, fa ++ cl.args.map a.eval⟩)) /\ next (a.put o.dst undef) { V with role := .fork c Wg (Ss ++ [sp :: S]) }) \/
    (∃ (c Wg : Nat) (Ss : List (List Spec)), V.role = .fork c Wg Ss /\ c ≠ Wg /\ V.own c = some (.chan 0 #[] false 0 0 false) /\ V.own Wg = some (wgBlock P (((Ss.length : Nat) : Int) * 4294967296) 0) /\ (∀ o, V.imm c o = none) /\ (∀ o, V.imm Wg o = none) /\
    Closer P V.imm c Wg (born P ⟨.fn (.func f) ca, fa ++ cl.args.map a.eval⟩) /\ next (a.put o.dst undef) { V with own := fun b => if b = c \/ b = Wg then none else V.own b, role := .recv c Wg Ss }))
 | .recv t ch true => lv = true /\ ∃ (c Wg : Nat) (Ss : List (List Spec)) (d : ChanDir) (el : TypeId) (i : TypeInfo) (z : Value), a.eval ch = .chan (some c) /\ P.underlying t = some (.chan d el) /\ P.info? el = some i /\ i.zero = some z /\ V.role = .recv c Wg Ss /\ V.deaf = 0 /\
   (∀ (i : Nat) (sp : Spec) (S : List Spec) (v : Value) (Im : Imm) (Ow : Own), Ss[i]? = some (sp :: S) -> sp v Im Ow -> (∀ b, V.own b ≠ none -> Ow b = none) -> (∀ b o, V.own b ≠ none -> Im b o ≠ none -> V.imm b o ≠ none) -> (∃ w, Sat V w /\ (∀ b o x, Im b o = some x -> w.cell? ⟨b, o, none⟩ = some x) /\ ∀ b x, Ow b = some x -> w.heap[b]? = some x) ->
    next (a.put o.dst (.tuple #[v, .bool true])) { V with imm := fun b o => match V.imm b o with | some x => some x | none => Im b o, own := fun b => match V.own b with | some x => some x | none => Ow b, role := .recv c Wg (Ss.set i S) }) /\
   ((∀ S ∈ Ss, S = []) -> next (a.put o.dst (.tuple #[z, .bool false])) { V with role := .plain })
 | _ => False
theorem SpecWP.mono {lv : Bool} {P : Program} {o : Oper} {a : Act} {V : View} {N N' : Act -> View -> Prop} (h : SpecWP lv P o a V N) (hN : ∀ a V, N a V -> N' a V) : SpecWP lv P o a V N' := by
 unfold SpecWP at h ⊢
 split at h
 ·obtain ⟨c, Wg, sp, S, B, h1, h2, h3, h4, h5⟩ := h
  exact ⟨c, Wg, sp, S, B, h1, h2, h3, h4, hN _ _ h5⟩
 ·obtain ⟨hlv, x, f, fa, ca, h1, h2, h3, h4⟩ := h
  refine ⟨hlv, x, f, fa, ca, h1, h2, h3, h4.imp ?_ ?_⟩
  ·rintro ⟨c, Wg, Ss, sp, S, q1, q2, q3, q4, q5, q6, q7⟩
   exact ⟨c, Wg, Ss, sp, S, q1, q2, q3, q4, q5, q6, hN _ _ q7⟩
  ·rintro ⟨c, Wg, Ss, q1, q2, q3, q4, q5, q6, q7, q8⟩
   exact ⟨c, Wg, Ss, q1, q2, q3, q4, q5, q6, q7, hN _ _ q8⟩
 ·obtain ⟨hlv, c, Wg, Ss, d, el, ti, z, h1, h2, h3, h4, h5, h6, h7, h8⟩ := h
  exact ⟨hlv, c, Wg, Ss, d, el, ti, z, h1, h2, h3, h4, h5, h6, fun i sp S v Im Ow r1 r2 r3 r4 r5 => hN _ _ (h7 i sp S v Im Ow r1 r2 r3 r4 r5), fun hS => hN _ _ (h8 hS)⟩
 ·exact h
def OpX (lv : Bool) (P : Program) (r : Option Nat) (o : Oper) (a : Act) (V : View) (next : Act -> View -> Prop) (Q : Ex -> Act -> View -> Prop) : Prop := OpWP lv P r o a V next Q \/ SpecWP lv P o a V next
def WPOps (lv : Bool) (P : Program) (r : Option Nat) (ops : Array Oper) (Q : Ex -> Act -> View -> Prop) : List Nat -> Act -> View -> Prop
 | [], a, V => Q .normal a V
 | i :: rest, a, V =>
  match ops[i]? with
  | none => WPOps lv P r ops Q rest a V
  | some o => if Region.wanted o (yielded ops a.tmps) then OpX lv P r o a V (WPOps lv P r ops Q rest) Q else WPOps lv P r ops Q rest (a.put o.dst undef) V
theorem on_finish (b : Frame) (a : Act) (ops : Array Oper) (i : Nat) (rest : List Nat) (k : List Item) (v : Value) :
  (on b a (.inRegion ops (i :: rest) :: k)).finish v = on b (a.put ((ops[i]?).bind (·.dst)) v) (.inRegion ops rest :: k) := by
 cases h : (ops[i]?).bind (·.dst) <;> simp [Frame.finish, on, Act.put, h]
theorem s_op_skip {P : Program} {main : Bool} {b : Frame} {a : Act} {k : List Item} {cs : List Frame} {w : World} {ops : Array Oper} {i : Nat} {rest : List Nat} (h : ((ops[i]?).map (Region.wanted · (yielded ops a.tmps))).getD false = false) :
  stepG P main (G (on b a (.inRegion ops (i :: rest) :: k)) cs) w = .go (G (on b (a.put ((ops[i]?).bind (·.dst)) undef) (.inRegion ops rest :: k)) cs) w #[] := by
 rw [<- on_finish]
 simp only [on] at *
 simp [G, stepG, stepG.exec, h]
theorem s_op {P : Program} {main : Bool} {b : Frame} {a : Act} {k : List Item} {cs : List Frame} {w : World} {ops : Array Oper} {i : Nat} {rest : List Nat} {o : Oper} (ho : ops[i]? = some o) (hw : Region.wanted o (yielded ops a.tmps) = true) (hd : b.roundOf = none \/ isDefer o.op = false) :
  stepG P main (G (on b a (.inRegion ops (i :: rest) :: k)) cs) w = stepG.apply P true (on b a (.inRegion ops (i :: rest) :: k)) cs none (execOp a.eval o) w := by
 have he := on_eval' b a (.inRegion ops (i :: rest) :: k)
 simp only [on] at he
 rcases hd with hd | hd
 ·rw [hd] at he
  simp [G, stepG, stepG.exec, stepG.oper, Frame.oper?, on, ho, hw, he, hd]
 ·cases hr : b.roundOf with
  | none =>
   rw [hr] at he
   simp [G, stepG, stepG.exec, stepG.oper, Frame.oper?, on, ho, hw, he, hr]
  | some l => cases hop : o.op <;> simp_all [G, stepG, stepG.exec, stepG.oper, Frame.oper?, on, isDefer]
theorem spec_ok {lv : Bool} {P : Program} {main : Bool} {J : View -> Goroutine -> Prop} (C : Closed lv P main J) {ops : Array Oper} {i : Nat} {rest : List Nat} {o : Oper} {a : Act} {V : View} {N : Act -> View -> Prop} {b : Frame} {k : List Item} {cs : List Frame} (hb : b.kind ≠ .early)
  (ho : ops[i]? = some o) (hw : Region.wanted o (yielded ops a.tmps) = true) (h : SpecWP lv P o a V N) (hN : ∀ a' V', N a' V' -> J V' (G (on b a' (.inRegion ops rest :: k)) cs)) : J V (G (on b a (.inRegion ops (i :: rest) :: k)) cs) := by
 have hke : ((on b a (.inRegion ops (i :: rest) :: k)).kind == CallKind.early) = false := by simpa [on] using hb
 have hfin : ∀ v, (on b a (.inRegion ops (i :: rest) :: k)).finish v = on b (a.put o.dst v) (.inRegion ops rest :: k) := by
  intro v; rw [on_finish, ho]; rfl
 have hsv : ∀ v, Conc.served (G (on b a (.inRegion ops (i :: rest) :: k)) cs) v = G (on b (a.put o.dst v) (.inRegion ops rest :: k)) cs := fun v => by rw [<- hfin v]; rfl
 unfold SpecWP at h
 split at h
 ·rename_i ch x hop
  obtain ⟨c, Wg, sp, S, B, h1, h2, h3, h4, h5⟩ := h
  have hst : ∀ w, stepG P main (G (on b a (.inRegion ops (i :: rest) :: k)) cs) w = .comm (G (on b a (.inRegion ops (i :: rest) :: k)) cs) #[scase c (a.eval x) (.tuple #[])] true .send w #[] := fun w => by
   rw [s_op ho hw (.inr (by rw [hop]; rfl))]
   have e : execOp a.eval o = pure (.comm #[scase c (a.eval x) (.tuple #[])] true .send) := by
    unfold execOp; simp only [hop]; rw [h1]; rfl
   rw [e]
   simp only [stepG.apply, Sem.runT_eq, if_true, hke, GStep.after, Sem.run_pure, Sem.events_pure, seen_none]
   rfl
  exact C.send _ _ c Wg sp S (a.eval x) (.tuple #[]) B h2 h3 rfl rfl (fun w _ => hst w) h4 (by rw [hsv]; exact hN _ _ h5)
 ·rename_i cl hop
  obtain ⟨hlv, x, f, fa, ca, h1, h2, h3, h4⟩ := h
  have hst : ∀ w, stepG P main (G (on b a (.inRegion ops (i :: rest) :: k)) cs) w = .spawn (G (on b (a.put o.dst undef) (.inRegion ops rest :: k)) cs) (born P ⟨.fn (.func f) ca, fa ++ cl.args.map a.eval⟩) w #[] := fun w => by
   rw [s_op ho hw (.inr (by rw [hop]; rfl)), <- hfin undef]
   have e : execOp a.eval o = (pure (.spawn ⟨.fn (.func f) ca, fa ++ cl.args.map a.eval⟩) : Sem Next) := by
    unfold execOp; simp only [hop]; unfold resolve; simp only [h1, h2]; rfl
   rw [e]
   simp only [stepG.apply, Sem.runT_eq, if_true, hke, GStep.after, Sem.run_pure, Sem.events_pure, seen_none]
   simp [born, G, on]
   exact seen_none _ _
  rcases h4 with ⟨c, Wg, Ss, sp, S, q1, q2, q3, q4, q5, q6, q7⟩ | ⟨c, Wg, Ss, q1, q2, q3, q4, q5, q6, q7, q8⟩
  ·exact (C.more hlv).goW _ _ _ _ c Wg Ss sp S q1 h3 rfl q2 q3 q4 q5 (fun w _ => hst w) rfl q6 (hN _ _ q7)
  ·exact (C.more hlv).goC _ _ _ _ c Wg Ss q1 h3 rfl q2 q3 q4 q5 q6 (fun w _ => hst w) rfl q7 (hN _ _ q8)
 ·rename_i t ch hop
  obtain ⟨hlv, c, Wg, Ss, d, el, ti, z, h1, h2, h3, h4, h5, h6, h7, h8⟩ := h
  have hst : ∀ w, stepG P main (G (on b a (.inRegion ops (i :: rest) :: k)) cs) w = .comm (G (on b a (.inRegion ops (i :: rest) :: k)) cs) #[rcase c z] true (.recv true) w #[] := fun w => by
   rw [s_op ho hw (.inr (by rw [hop]; rfl))]
   have hu : (underlying t).run P w = .ok (.chan d el) w := run_underlying h2 w
   have hi : (typeInfo el).run P w = .ok ti w := by simp [typeInfo, h3]
   have hz : (zeroValue el).run P w = .ok z w := by simp [zeroValue, hi, h4]
   have hz2 : (zeroValue el).events P w #[] = #[] := by simp [zeroValue, hi, h4]
   have e1 : (execOp a.eval o).run P w = .ok (.comm #[rcase c z] true (.recv true)) w := by
    unfold execOp; simp only [hop]; rw [h1]; simp [hu, hz, rcase]
   have e2 : (execOp a.eval o).events P w #[] = #[] := by
    unfold execOp; simp only [hop]; rw [h1]; simp [hu, hz, hz2]
   simp only [stepG.apply, Sem.runT_eq, if_true, hke, GStep.after, e1, e2, seen_none]
   rfl
  refine (C.more hlv).recv _ _ c Wg Ss z h5 h6 rfl rfl (fun w _ => hst w) (fun i sp S v Im Ow r1 r2 r3 r4 r5 => ?_) fun hS => ?_
  ·rw [hsv]; exact hN _ _ (h7 i sp S v Im Ow r1 r2 r3 r4 r5)
  ·rw [hsv]; exact hN _ _ (h8 hS)
 ·exact h.elim
theorem wp_ops {lv : Bool} {P : Program} {r : Option Nat} {ops : Array Oper} {Q : Ex -> Act -> View -> Prop} (l : List Nat) :
  ∀ (a : Act) (V : View), WPOps lv P r ops Q l a V -> ∀ (main : Bool) (J : View -> Goroutine -> Prop), Closed lv P main J -> ∀ (b : Frame) (k : List Item) (cs : List Frame), b.kind ≠ .early -> b.roundOf = r ->
   (∀ e a' V', Q e a' V' -> Lands J b k cs e a' V') -> J V (G (on b a (.inRegion ops l :: k)) cs) := by
 induction l with
 | nil => exact fun a V h main J C b k cs _ _ hL => C.idle rfl (fun _ => s_region_end) (hL _ _ _ h)
 | cons i rest ih =>
  intro a V h main J C b k cs hb hr hL
  simp only [WPOps] at h
  cases ho : ops[i]? with
  | none =>
   simp only [ho] at h
   refine C.idle rfl (fun w => s_op_skip (by simp [ho])) ?_
   simp only [ho, Option.bind_none, Act.put]
   exact ih a V h main J C b k cs hb hr hL
  | some o =>
   simp only [ho] at h
   by_cases hw : Region.wanted o (yielded ops a.tmps) = true
   ·simp only [hw, if_true] at h
    rcases h with h | h
    rotate_left
    ·exact spec_ok C hb ho hw h fun a' V' h' => ih a' V' h' main J C b k cs hb hr hL
    obtain ⟨hdf, hop⟩ := h
    have hdf' : b.roundOf = none \/ isDefer o.op = false := hr ▸ hdf
    have hfin : ∀ v, (on b a (.inRegion ops (i :: rest) :: k)).finish v = on b (a.put o.dst v) (.inRegion ops rest :: k) := by
     intro v; rw [on_finish, ho]; rfl
    have hke : ((on b a (.inRegion ops (i :: rest) :: k)).kind == CallKind.early) = false := by simpa [on] using hb
    refine C.step _ _ rfl fun w hsat => ?_
    obtain ⟨es, w', V', h1, h2, h3⟩ := hop.runs hsat
    rw [s_op ho hw hdf']
    rcases h3 with ⟨nx, h3, hU⟩ | ⟨v, h3, hU⟩
    ·cases nx with
     | value v => exact ⟨_, w', seen P b.fn es, V', by rw [<- hfin v]; simp only [stepG.apply, Sem.runT_eq, if_true, h3, h2, hke, GStep.after]; rfl, h1.seen P _, ih _ _ hU main J C b k cs hb hr hL⟩
     | skip => exact ⟨_, w', seen P b.fn es, V', by rw [<- hfin undef]; simp only [stepG.apply, Sem.runT_eq, if_true, h3, h2, hke, GStep.after]; rfl, h1.seen P _, ih _ _ hU main J C b k cs hb hr hL⟩
     | «defer» d =>
      obtain ⟨hrn, hU⟩ := hU
      have hf2 : ({ on b a (.inRegion ops (i :: rest) :: k) with defers := d :: a.defers } : Frame).finish undef = on b ({ a with defers := d :: a.defers }.put o.dst undef) (.inRegion ops rest :: k) := by
       have := on_finish b { a with defers := d :: a.defers } ops i rest k undef
       rw [ho] at this; exact this
      exact ⟨_, w', seen P b.fn es, V', by
       rw [<- hf2]
       simp only [stepG.apply, Sem.runT_eq, if_true, h3, h2, hke, GStep.after]
       rfl, h1.seen P _, ih _ _ hU main J C b k cs hb hr hL⟩
     | enter f args =>
      refine ⟨G (Frame.enter P f args .normal) (on b a (.inRegion ops (i :: rest) :: k) :: cs), w', seen P b.fn es, V', by simp only [stepG.apply, Sem.runT_eq, if_true, h3, h2, hke, GStep.after]; rfl, h1.seen P _, ?_⟩
      refine Body.runs hU main J C _ cs (fun v V'' hR => ?_) (fun ch V'' hR => ?_)
      ·rw [hfin]; exact ih _ _ hR main J C b k cs hb hr hL
      ·exact hL _ _ _ hR _
     | round l f tmps assign body =>
      refine ⟨G (Frame.round l f tmps assign body .normal) (on b a (.inRegion ops (i :: rest) :: k) :: cs), w', seen P b.fn es, V', by simp only [stepG.apply, Sem.runT_eq, if_true, h3, h2, hke, GStep.after]; rfl, h1.seen P _, ?_⟩
      refine hU main J C _ cs (fun v V'' hR => ?_) (fun ch V'' hR => ?_)
      ·rw [hfin]; exact ih _ _ hR main J C b k cs hb hr hL
      ·exact hL _ _ _ hR _
     | _ => exact hU.elim
    ·refine ⟨G ((on b a (.inRegion ops (i :: rest) :: k)).raise [{ v, recovered := false }]) cs, w', seen P b.fn es, V', by simp only [stepG.apply, Sem.runT_eq, if_true, h3, h2, hke, GStep.after]; rfl, h1.seen P _, hL _ _ _ hU _⟩
   ·have hw' : Region.wanted o (yielded ops a.tmps) = false := by simpa using hw
    simp only [hw', if_false, Bool.false_eq_true] at h
    refine C.idle rfl (fun w => s_op_skip (by simp [ho, hw'])) ?_
    simp only [ho, Option.bind_some]
    exact ih _ _ h main J C b k cs hb hr hL
theorem wp_region {lv : Bool} {P : Program} {r : Option Nat} {id : Nat} {ops : Array Oper} {Q : Ex -> Act -> View -> Prop} {a : Act} {V : View} (h : WPOps lv P r ops Q (List.range ops.size) a V) : WP lv P r (.region id ops false) Q a V :=
 fun main J C b k cs hb hr hL => C.idle rfl (fun _ => s_region) (wp_ops _ a V h main J C b k cs hb hr hL)
theorem wp_draw {lv : Bool} {P : Program} {r : Option Nat} {id : Nat} {ops : Array Oper} {Q : Ex -> Act -> View -> Prop} {a : Act} {V : View} (h : ∀ t, WPOps lv P r ops Q (Region.schedule (P.follows .mixedOrders) ops t) a V) : WP lv P r (.region id ops true) Q a V :=
 fun main J C b k cs hb hr hL => C.step _ _ rfl fun w hw => ⟨_, _, #[], V, s_draw, .draw hw _, wp_ops _ a V (h _) main J C b k cs hb hr hL⟩
def Ends (P : Program) (fn : Func) (R : Out -> View -> Prop) : Ex -> Act -> View -> Prop
 | .normal, a, V | .ret, a, V => a.defers = [] /\ ∃ v, SemOk P V (results fn a.tmps) (fun x V' => x = v /\ V' = V) (fun _ _ => False) /\ R (.ret v) V
 | .panic ch, a, V => a.defers = [] /\ R (.panic ch) V
 | _, _, _ => False
theorem body_of_wp {lv : Bool} {P : Program} {f : FuncId} {fn : Func} {c : Code} {args : Array Value} {kd : CallKind} {V : View} {R : Out -> View -> Prop} (hk : kd ≠ .early) (hf : P.funcs[f]? = some fn) (hb : fn.body = some c)
  (h : WP lv P none c (Ends P fn R) { tmps := args ++ Array.replicate (fn.ntmps - args.size) undef, defers := [] } V) : Body lv P f args kd V R := by
 intro main J C cs hR
 let b : Frame := { (default : Frame) with fn := f, kind := kd, roundOf := none }
 have henter : Frame.enter P f args kd = on b { tmps := args ++ Array.replicate (fn.ntmps - args.size) undef, defers := [] } [.code c] := by
  simp [Frame.enter, on, hf, hb, b]
 rw [henter]
 refine h main J C b [] cs hk rfl fun e a' V' q => ?_
 cases e with
 | normal =>
  obtain ⟨hd, v, hs, hr⟩ := q
  exact C.idle rfl (fun w => s_end rfl) (hR _ _ _ hr ⟨rfl, hd, rfl, fn, hf, rfl, hs⟩)
 | ret =>
  obtain ⟨hd, v, hs, hr⟩ := q
  intro k
  exact C.idle rfl (fun w => s_ret rfl) (hR _ _ _ hr ⟨rfl, hd, rfl, fn, hf, rfl, hs⟩)
 | panic ch =>
  obtain ⟨hd, hr⟩ := q
  intro todo
  exact hR _ _ _ hr ⟨rfl, hd, rfl, fn, hf, rfl⟩
 | exit id => exact q.elim
 | goto l => exact q.elim
open Go.Conc
inductive End where
 | exact
 | shut
 | opn (k : Nat)
 deriving DecidableEq
inductive AV where
 | val (x : Value)
 | agg (l : List AV)
 | tup (l : List AV)
 | sl (n : Nat) (l : List AV) (e : End)
 | osl (id off n cap : Nat)
 | rp (l : List AV)
 | op (id off : Nat)
 | fn (f : Fn) (first caps : List AV)
 | ifc (t : TypeId) (x : AV)
 | mp (id : Nat)
structure Env where
 I : Imm
 n : Nat
 blk : Nat -> Nat
 room : Nat -> Nat -> Option Addr × Nat
 ver : Nat -> Nat
 fr : Nat -> Option Obj
 main : Bool
structure Env.Le (E E' : Env) : Prop where
 I : ∀ b o v, E.I b o = some v -> E'.I b o = some v
 n : E.n <= E'.n
 blk : ∀ k, k < E.n -> E'.blk k = E.blk k
 ver : ∀ k, k < E.n -> E.ver k <= E'.ver k
 room : ∀ k v, k < E.n -> v <= E.ver k -> E'.room k v = E.room k v
 fr : E'.fr = E.fr
 main : E'.main = E.main
theorem Env.Le.refl (E : Env) : E.Le E := ⟨fun _ _ _ h => h, Nat.le_refl _, fun _ _ => rfl, fun _ _ => Nat.le_refl _, fun _ _ _ _ => rfl, rfl, rfl⟩
theorem Env.Le.trans {E E' E'' : Env} (h : E.Le E') (k : E'.Le E'') : E.Le E'' :=
 ⟨fun b o v e => k.I b o v (h.I b o v e), Nat.le_trans h.n k.n, fun i hi => (k.blk i (Nat.lt_of_lt_of_le hi h.n)).trans (h.blk i hi), fun i hi => Nat.le_trans (h.ver i hi) (k.ver i (Nat.lt_of_lt_of_le hi h.n)),
  fun i v hi hv => (k.room i v (Nat.lt_of_lt_of_le hi h.n) (Nat.le_trans hv (h.ver i hi))).trans (h.room i v hi hv), k.fr.trans h.fr, k.main.trans h.main⟩
def EndOk (E : Env) (e : End) (a : Option Addr) (n cap : Nat) : Prop := match e with
 | .exact => cap = n
 | .shut => True
 | .opn k => k < E.n /\ n <= E.ver k /\ E.room k n = (a, cap)
inductive Den (E : Env) : AV -> Value -> Prop
 | val (x : Value) : Den E (.val x) x
 | agg {l : List AV} {cs : Array Value} (hs : cs.size = l.length) (h : ∀ (i : Nat) a, l[i]? = some a -> Den E a (cs.getD i undef)) : Den E (.agg l) (.agg cs)
 | tup {l : List AV} {cs : Array Value} (hs : cs.size = l.length) (h : ∀ (i : Nat) a, l[i]? = some a -> Den E a (cs.getD i undef)) : Den E (.tup l) (.tuple cs)
 | sl {n : Nat} {l : List AV} {e : End} (b o cap : Nat) (f : Nat -> Value) (hc : n <= cap) (he : EndOk E e (some ⟨b, o, none⟩) n cap)
   (h1 : ∀ i, i < l.length -> E.I b (o + i) = some (f i)) (h2 : ∀ (i : Nat) x, l[i]? = some x -> Den E x (f i)) : Den E (.sl n l e) (.slice (some ⟨b, o, none⟩) n cap)
 | nil {e : End} {a : Option Addr} (he : EndOk E e a 0 0) : Den E (.sl 0 [] e) (.slice a 0 0)
 | osl {id off n cap cap' : Nat} (hi : id < E.n) (hcap : n <= cap' /\ (n <= cap -> cap = cap') /\ (cap < n -> cap' <= (E.room id 0).2)) : Den E (.osl id off n cap) (.slice (some ⟨E.blk id, off, none⟩) n cap')
 | rp {l : List AV} (b o : Nat) (f : Nat -> Value) (h1 : ∀ i, i < l.length -> E.I b (o + i) = some (f i)) (h2 : ∀ (i : Nat) x, l[i]? = some x -> Den E x (f i)) : Den E (.rp l) (.pointer (some ⟨b, o, none⟩))
 | op {id off : Nat} (hi : id < E.n) : Den E (.op id off) (.pointer (some ⟨E.blk id, off, none⟩))
 | fn {f : Fn} {first caps : List AV} {fa ca : Array Value} (hs1 : fa.size = first.length) (hs2 : ca.size = caps.length) (h1 : ∀ (i : Nat) a, first[i]? = some a -> Den E a (fa.getD i undef)) (h2 : ∀ (i : Nat) a, caps[i]? = some a -> Den E a (ca.getD i undef)) : Den E (.fn f first caps) (.func f fa ca)
 | ifc {t : TypeId} {x : AV} {v : Value} (h : Den E x v) : Den E (.ifc t x) (.iface t v)
 | mp {id : Nat} (hi : id < E.n) : Den E (.mp id) (.map (some (E.blk id)))
theorem EndOk.mono {E E' : Env} (h : E.Le E') {e : End} {a : Option Addr} {n cap : Nat} (k : EndOk E e a n cap) : EndOk E' e a n cap := by
 cases e with
 | exact => exact k
 | shut => trivial
 | opn i => exact ⟨Nat.lt_of_lt_of_le k.1 h.n, Nat.le_trans k.2.1 (h.ver i k.1), by rw [h.room i n k.1 k.2.1]; exact k.2.2⟩
theorem Den.mono {E E' : Env} (h : E.Le E') {a : AV} {v : Value} (d : Den E a v) : Den E' a v := by
 induction d with
 | val x => exact .val x
 | agg hs _ ih => exact .agg hs ih
 | tup hs _ ih => exact .tup hs ih
 | sl b o cap f hc he h1 _ ih => exact .sl b o cap f hc (he.mono h) (fun i hi => h.I _ _ _ (h1 i hi)) ih
 | nil he => exact .nil (he.mono h)
 | osl hi hcap => rw [<- h.blk _ hi]; exact .osl (Nat.lt_of_lt_of_le hi h.n) ⟨hcap.1, hcap.2.1, fun e => by rw [h.room _ 0 hi (Nat.zero_le _)]; exact hcap.2.2 e⟩
 | rp b o f h1 _ ih => exact .rp b o f (fun i hi => h.I _ _ _ (h1 i hi)) ih
 | op hi => rw [<- h.blk _ hi]; exact .op (Nat.lt_of_lt_of_le hi h.n)
 | fn hs1 hs2 _ _ ih1 ih2 => exact .fn hs1 hs2 ih1 ih2
 | ifc _ ih => exact .ifc ih
 | mp hi => rw [<- h.blk _ hi]; exact .mp (Nat.lt_of_lt_of_le hi h.n)
def AV.leaf : AV -> Bool
 | .agg _ | .tup _ => false
 | .val x => x.one
 | _ => true
inductive AObj where
 | cells (l : List AV) (elem : TypeId)
 | part (p : Nat) (l : List AV) (elem : TypeId)
 | own (sz : Nat) (l : List AV) (elem : TypeId)
 | tail (n sz : Nat) (elem : TypeId)
 | obj (x : Obj)
 | iter (m since : Nat) (seen : Array Nat) (stepped : Nat)
 | loop (r : Nat) (st : LoopState) (pend : Option Code) (fn : FuncId) (T : List (Nat × AV)) (nt : Nat) (ps : Array Tmp) (asg body : Code) (df : Nat)
 | gone
 | main
def look : List (Nat × AV) -> Nat -> Option AV
 | [], _ => none
 |(k, a) :: l, t => if k = t then some a else look l t
def TOk (E : Env) (T : List (Nat × AV)) (tmps : Array Value) : Prop := ∀ t a, look T t = some a -> t < tmps.size /\ Den E a (tmps.getD t undef)
theorem TOk.mono {E E' : Env} (h : E.Le E') {T : List (Nat × AV)} {tmps : Array Value} (k : TOk E T tmps) : TOk E' T tmps := fun t a e => ⟨(k t a e).1, (k t a e).2.mono h⟩
theorem TOk.put {E : Env} {T : List (Nat × AV)} {tmps : Array Value} (k : TOk E T tmps) {d : Nat} (hd : d < tmps.size) {a : AV} {v : Value} (hv : Den E a v) : TOk E ((d, a) :: T) (tmps.setIfInBounds d v) := by
 intro t x e
 simp only [look] at e
 by_cases h : d = t
 ·subst h
  rw [if_pos rfl] at e; cases e
  exact ⟨by simpa using hd, by simpa [Array.getD_eq_getD_getElem?, Array.getElem?_setIfInBounds_self_of_lt hd] using hv⟩
 ·rw [if_neg h] at e
  have := k t x e
  exact ⟨by simpa using this.1, by simpa [Array.getD_eq_getD_getElem?, Array.getElem?_setIfInBounds_ne h] using this.2⟩
def Denl (E : Env) (l : List AV) (cs : Array Value) : Prop := cs.size = l.length /\ ∀ (i : Nat) a, l[i]? = some a -> Den E a (cs.getD i undef)
theorem Denl.mono {E E' : Env} (h : E.Le E') {l : List AV} {cs : Array Value} (d : Denl E l cs) : Denl E' l cs := ⟨d.1, fun i a e => (d.2 i a e).mono h⟩
def Denp (E : Env) (l : List AV) (cs : Array Value) : Prop := l.length <= cs.size /\ ∀ (i : Nat) a, l[i]? = some a -> Den E a (cs.getD i undef)
theorem Denp.mono {E E' : Env} (h : E.Le E') {l : List AV} {cs : Array Value} (d : Denp E l cs) : Denp E' l cs := ⟨d.1, fun i a e => (d.2 i a e).mono h⟩
theorem Denl.p {E : Env} {l : List AV} {cs : Array Value} (d : Denl E l cs) : Denp E l cs := ⟨Nat.le_of_eq d.1.symm, d.2⟩
def blkOf (E : Env) (k : Nat) : AObj -> Option Nat
 | .tail n _ _ => if (E.room k n).2 = n then none else (E.room k n).1.map (·.block)
 | .gone | .main => none
 | _ => some (E.blk k)
def ObjOk (E : Env) (V : View) (k : Nat) : AObj -> Prop
 | .cells l elem => (∃ cs, V.own (E.blk k) = some (.cells cs elem (0, 0)) /\ Denl E l cs) /\ ∀ o, V.imm (E.blk k) o = none
 | .part p l elem => (∃ cs, V.own (E.blk k) = some (.cells cs elem (0, 0)) /\ Denp E l cs /\ ∀ o, o < p -> V.imm (E.blk k) o = cs[o]?) /\ ∀ o, p <= o -> V.imm (E.blk k) o = none
 | .own sz l elem => (∃ cs, V.own (E.blk k) = some (.cells cs elem (0, 0)) /\ Denp E l cs /\ cs.size = (E.room k 0).2 * sz) /\ ∀ o, V.imm (E.blk k) o = none
 | .tail n sz elem => E.ver k = n /\ ((E.room k n).2 = n \/ ∃ b cap cs, E.room k n = (some ⟨b, 0, none⟩, cap) /\ V.own b = some (.cells cs elem (0, 0)) /\ cs.size = cap * sz /\ n < cap /\ ∀ o, n * sz <= o -> V.imm b o = none)
 | .obj x => V.own (E.blk k) = some x /\ x.isCells = false /\ x.isChan = false /\ ∀ o, V.imm (E.blk k) o = none
 | .iter m since seen stepped => m < E.n /\ V.own (E.blk k) = some (.mapIter (some (E.blk m)) since seen stepped) /\ ∀ o, V.imm (E.blk k) o = none
 | .loop r st pend fn T nt ps asg body df => (∃ tmps, V.own (E.blk k) = some (.loop { state := st, pending := pend, fn, tmps, params := ps, assign := asg, body, defers := E.blk df }) /\ tmps.size = nt /\ TOk E T tmps) /\ df < E.n /\ (∀ o, V.imm (E.blk k) o = none) /\ E.blk k = r
 | .gone => True
 | .main => E.main = true
structure Conc (E : Env) (V : View) (H : List AObj) : Prop where
 I : E.I = V.imm
 n : E.n = H.length
 obj : ∀ k x, H[k]? = some x -> ObjOk E V k x
 inj : ∀ i j x y b, H[i]? = some x -> H[j]? = some y -> blkOf E i x = some b -> blkOf E j y = some b -> i = j
 group : ∀ g, V.role.group = some g -> V.own g ≠ none /\ (∀ o, V.imm g o = none) /\ ∀ (k : Nat) x, H[k]? = some x -> blkOf E k x ≠ some g
 chan : ∀ c, V.role.chan = some c -> V.own c ≠ none /\ (∀ o, V.imm c o = none) /\ ∀ (k : Nat) x, H[k]? = some x -> blkOf E k x ≠ some c
 top : E.main = true -> V.role = .plain /\ V.deaf = 0
 fr : ∀ b y, E.fr b = some y -> V.own b = some y /\ (∀ o, V.imm b o = none) /\ ∀ (k : Nat) x, H[k]? = some x -> blkOf E k x ≠ some b
structure AS where
 T : List (Nat × AV)
 H : List AObj
def AS.Le (s s' : AS) : Prop := (∀ t a, look s'.T t = some a -> look s.T t = some a) /\ s'.H = s.H
def AV.of : Value -> AV
 | .agg cs => .agg (cs.toList.map fun | .slice none 0 0 => .sl 0 [] .exact | v => .val v)
 | .slice none 0 0 => .sl 0 [] .exact
 | v => .val v
def AV.of1 : Value -> AV
 | .slice none 0 0 => .sl 0 [] .exact
 | v => .val v
theorem den_of1 (E : Env) (v : Value) : Den E (AV.of1 v) v := by
 unfold AV.of1
 split
 ·exact .nil rfl
 ·exact .val _
theorem den_of (E : Env) (v : Value) : Den E (AV.of v) v := by
 unfold AV.of
 split
 ·rename_i cs
  refine .agg (by simp) fun i a h => ?_
  rw [List.getElem?_map] at h
  obtain ⟨x, hx, rfl⟩ := Option.map_eq_some_iff.1 h
  have : cs[i]? = some x := by simpa using hx
  rw [Array.getD_eq_getD_getElem?, this]
  exact den_of1 E x
 ·exact .nil rfl
 ·exact .val _
def AS.ev (s : AS) : Operand -> Option AV
 | .tmp t => look s.T t
 | .const v => some (AV.of v)
 | .func f => some (.fn (.func f) [] [])
 | .global _ => none
theorem Den.ev {E : Env} {s : AS} {a : Act} (k : TOk E s.T a.tmps) {x : Operand} {av : AV} (h : s.ev x = some av) : Den E av (a.eval x) := by
 cases x with
 | tmp t => exact (k t av h).2
 | const v => cases h; exact den_of E v
 | func f => cases h; exact .fn rfl rfl (by simp) (by simp)
 | global g => cases h
theorem ObjOk.blk_own {E : Env} {V : View} {k : Nat} {x : AObj} (h : ObjOk E V k x) {b : Nat} (hb : blkOf E k x = some b) : ∃ y, V.own b = some y := by
 cases x with
 | cells l el => cases hb; obtain ⟨⟨cs, h1, _⟩, _⟩ := h; exact ⟨_, h1⟩
 | part p l el => cases hb; obtain ⟨⟨cs, h1, _⟩, _⟩ := h; exact ⟨_, h1⟩
 | own p l el => cases hb; obtain ⟨⟨cs, h1, _⟩, _⟩ := h; exact ⟨_, h1⟩
 | tail n sz el =>
  obtain ⟨hv, h | ⟨b', cap, cs, h1, h2, h3, h4, h5⟩⟩ := h
  ·simp only [blkOf, h, if_true] at hb; cases hb
  ·simp only [blkOf, h1] at hb
   rw [if_neg (by omega)] at hb
   cases hb; exact ⟨_, h2⟩
 | obj x => cases hb; exact ⟨_, h.1⟩
 | iter m since seen stepped => cases hb; exact ⟨_, h.2.1⟩
 | loop => cases hb; obtain ⟨⟨tmps, h1, _⟩, _⟩ := h; exact ⟨_, h1⟩
 | gone => cases hb
 | main => cases hb
theorem blkOf_mono {E E' : Env} (hl : E.Le E') {k : Nat} (hk : k < E.n) {x : AObj} {V : View} (h : ObjOk E V k x) : blkOf E' k x = blkOf E k x := by
 cases x with
 | tail n sz el => simp only [blkOf]; rw [hl.room k n hk (Nat.le_of_eq h.1.symm)]
 | gone => rfl
 | main => rfl
 | _ => simp only [blkOf, hl.blk k hk]
theorem ObjOk.mono {E E' : Env} {V V' : View} {k : Nat} {x : AObj} (h : ObjOk E V k x) (hl : E.Le E') (hk : k < E.n) (hver : E'.ver k = E.ver k)
  (ho : ∀ b y, blkOf E k x = some b -> V.own b = some y -> V'.own b = some y) (hi : ∀ b, blkOf E k x = some b -> ∀ o, V'.imm b o = V.imm b o) : ObjOk E' V' k x := by
 cases x with
 | cells l el =>
  obtain ⟨⟨cs, h1, h2⟩, h3⟩ := h
  simp only [ObjOk, hl.blk k hk]
  exact ⟨⟨cs, ho _ _ rfl h1, h2.mono hl⟩, fun o => (hi _ rfl o).trans (h3 o)⟩
 | part p l el =>
  obtain ⟨⟨cs, h1, h2, h4⟩, h3⟩ := h
  simp only [ObjOk, hl.blk k hk]
  exact ⟨⟨cs, ho _ _ rfl h1, h2.mono hl, fun o hp => (hi _ rfl o).trans (h4 o hp)⟩, fun o hp => (hi _ rfl o).trans (h3 o hp)⟩
 | own sz l el =>
  obtain ⟨⟨cs, h1, h2, h4⟩, h3⟩ := h
  simp only [ObjOk, hl.blk k hk, hl.room k 0 hk (Nat.zero_le _)]
  exact ⟨⟨cs, ho _ _ rfl h1, h2.mono hl, h4⟩, fun o => (hi _ rfl o).trans (h3 o)⟩
 | tail n sz el =>
  obtain ⟨hv, h⟩ := h
  simp only [ObjOk, hver, hl.room k n hk (Nat.le_of_eq hv.symm)]
  refine ⟨hv, ?_⟩
  rcases h with h | ⟨b', cap, cs, h1, h2, h3, h4, h5⟩
  ·exact .inl h
  ·have hb : blkOf E k (.tail n sz el) = some b' := by simp only [blkOf, h1]; rw [if_neg (by omega)]; rfl
   exact .inr ⟨b', cap, cs, h1, ho _ _ hb h2, h3, h4, fun o hm => (hi _ hb o).trans (h5 o hm)⟩
 | obj x =>
  obtain ⟨h1, h2, h4, h3⟩ := h
  simp only [ObjOk, hl.blk k hk]
  exact ⟨ho _ _ rfl h1, h2, h4, fun o => (hi _ rfl o).trans (h3 o)⟩
 | iter m since seen stepped =>
  obtain ⟨h0, h1, h2⟩ := h
  simp only [ObjOk, hl.blk k hk, hl.blk m h0]
  exact ⟨Nat.lt_of_lt_of_le h0 hl.n, ho _ _ rfl h1, fun o => (hi _ rfl o).trans (h2 o)⟩
 | loop r st pend fn T nt ps asg body df =>
  obtain ⟨⟨tmps, h1, h2, h3⟩, h4, h5, h6⟩ := h
  simp only [ObjOk, hl.blk k hk, hl.blk df h4]
  exact ⟨⟨tmps, ho _ _ rfl h1, h2, h3.mono hl⟩, Nat.lt_of_lt_of_le h4 hl.n, fun o => (hi _ rfl o).trans (h5 o), h6⟩
 | gone => trivial
 | main => exact hl.main.trans h
theorem Conc.turn {E E' : Env} {V V' : View} {H H' : List AObj} (hc : Conc E V H) (k : Nat) (x' : AObj) (hle : E.Le E') (hI : E'.I = V'.imm) (hn : E'.n = H'.length)
  (hH : ∀ (j : Nat) y, H'[j]? = some y -> (j = k /\ y = x') \/ (j ≠ k /\ H[j]? = some y)) (hr : V'.role = V.role)
  (hver : ∀ j, j ≠ k -> j < E.n -> E'.ver j = E.ver j)
  (ho : ∀ b y, (∀ x, H[k]? = some x -> blkOf E k x ≠ some b) -> V.own b = some y -> V'.own b = some y /\ ∀ o, V'.imm b o = V.imm b o)
  (hx : ObjOk E' V' k x') (hb : ∀ b, blkOf E' k x' = some b -> (∃ x, H[k]? = some x /\ blkOf E k x = some b) \/ V.own b = none) (hdf : V'.deaf = V.deaf := by rfl) : Conc E' V' H' := by
 have hlt : ∀ (j : Nat) y, H[j]? = some y -> j < E.n := fun j y h => by rw [hc.n]; exact (List.getElem?_eq_some_iff.1 h).1
 have hbl : ∀ (j : Nat) y b, H[j]? = some y -> blkOf E' j y = some b -> blkOf E j y = some b := fun j y b h e => by rw [<- blkOf_mono hle (hlt j y h) (hc.obj j y h)]; exact e
 have hother : ∀ (j : Nat) y b, j ≠ k -> H[j]? = some y -> blkOf E j y = some b -> ∀ x, H[k]? = some x -> blkOf E k x ≠ some b := fun j y b hj h1 h2 x h3 h4 => hj (hc.inj j k y x b h1 h3 h2 h4)
 have hg : ∀ (j : Nat) y, H'[j]? = some y -> ∀ g, V.own g ≠ none -> (∀ (i : Nat) x, H[i]? = some x -> blkOf E i x ≠ some g) -> blkOf E' j y ≠ some g := fun j y h g hog hno e => by
  rcases hH j y h with ⟨rfl, rfl⟩ | ⟨hj, h⟩
  ·rcases hb g e with ⟨x, h1, h2⟩ | h2
   ·exact hno _ x h1 h2
   ·exact hog h2
  ·exact hno j y h (hbl j y g h e)
 have hk : ∀ g, V.own g ≠ none -> (∀ (i : Nat) x, H[i]? = some x -> blkOf E i x ≠ some g) -> V'.own g ≠ none /\ ∀ o, V'.imm g o = V.imm g o := fun g hog hno => by
  cases e : V.own g with
  | none => exact absurd e hog
  | some y =>
   have := ho g y (fun x hx => hno k x hx) e
   exact ⟨by rw [this.1]; simp, this.2⟩
 refine ⟨hI, hn, fun j y h => ?_, fun i j y z b h1 h2 e1 e2 => ?_, fun g hgr' => ?_, fun c hch => ?_, fun hm => (by rw [hr, hdf]; exact hc.top (by rw [<- hle.main]; exact hm)), fun b y hfr => ?_⟩
 ·rcases hH j y h with ⟨rfl, rfl⟩ | ⟨hj, h⟩
  ·exact hx
  ·have hob := hc.obj j y h
   refine hob.mono hle (hlt j y h) (hver j hj (hlt j y h)) (fun b z hbk hz => ?_) (fun b hbk o => ?_)
   ·exact (ho b z (hother j y b hj h hbk) hz).1
   ·obtain ⟨z, hz⟩ := hob.blk_own hbk
    exact (ho b z (hother j y b hj h hbk) hz).2 o
 ·have new : ∀ (j : Nat) y, j ≠ k -> H[j]? = some y -> blkOf E' j y = some b -> blkOf E' k x' ≠ some b := fun j y hj h e e' => by
   have e := hbl j y b h e
   rcases hb b e' with ⟨x, hx1, hx2⟩ | h1
   ·exact hj (hc.inj j k y x b h hx1 e hx2)
   ·obtain ⟨q, hq⟩ := (hc.obj j y h).blk_own e
    rw [h1] at hq; cases hq
  rcases hH i y h1 with ⟨rfl, rfl⟩ | ⟨hi, h1⟩ <;> rcases hH j z h2 with ⟨rfl, rfl⟩ | ⟨hj, h2⟩
  ·rfl
  ·exact absurd e1 (new j z hj h2 e2)
  ·exact absurd e2 (new i y hi h1 e1)
  ·exact hc.inj i j y z b h1 h2 (hbl i y b h1 e1) (hbl j z b h2 e2)
 ·rw [hr] at hgr'
  obtain ⟨h0, h1, h2⟩ := hc.group g hgr'
  exact ⟨(hk g h0 h2).1, fun o => ((hk g h0 h2).2 o).trans (h1 o), fun j y h => hg j y h g h0 h2⟩
 ·rw [hr] at hch
  obtain ⟨h0, h1, h2⟩ := hc.chan c hch
  exact ⟨(hk c h0 h2).1, fun o => ((hk c h0 h2).2 o).trans (h1 o), fun j y h => hg j y h c h0 h2⟩
 ·rw [hle.fr] at hfr
  obtain ⟨h0, h1, h2⟩ := hc.fr b y hfr
  have h0' : V.own b ≠ none := by rw [h0]; simp
  exact ⟨(ho b y (fun x hx => h2 k x hx) h0).1, fun o => ((hk b h0' h2).2 o).trans (h1 o), fun j z h => hg j z h b h0' h2⟩
theorem list_set_get {α : Type} {H : List α} {k : Nat} {x' : α} : ∀ (j : Nat) y, (H.set k x')[j]? = some y -> (j = k /\ y = x') \/ (j ≠ k /\ H[j]? = some y) := fun j y h => by
 by_cases hj : j = k
 ·subst hj
  rw [List.getElem?_set_self' ] at h
  cases e : H[j]? with
  | none => rw [e] at h; cases h
  | some z => rw [e] at h; exact .inl ⟨rfl, by simpa using h.symm⟩
 ·rw [List.getElem?_set_ne (Ne.symm hj)] at h
  exact .inr ⟨hj, h⟩
theorem list_push_get {α : Type} {H : List α} {x' : α} : ∀ (j : Nat) y, (H ++ [x'])[j]? = some y -> (j = H.length /\ y = x') \/ (j ≠ H.length /\ H[j]? = some y) := fun j y h => by
 by_cases hk : j < H.length
 ·rw [List.getElem?_append_left hk] at h; exact .inr ⟨by omega, h⟩
 ·rw [List.getElem?_append_right (by omega)] at h
  have hk' : j - H.length = 0 := by
   have := (List.getElem?_eq_some_iff.1 h).1; simpa using this
  rw [hk'] at h
  exact .inl ⟨by omega, by simpa using h.symm⟩
theorem Conc.notGroup {E : Env} {V : View} {H : List AObj} (hc : Conc E V H) {k : Nat} {x : AObj} (hk : H[k]? = some x) {b : Nat} (hb : blkOf E k x = some b) : V.role.group ≠ some b /\ V.role.chan ≠ some b :=
 ⟨fun e => (hc.group b e).2.2 k x hk hb, fun e => (hc.chan b e).2.2 k x hk hb⟩
theorem Conc.immNotGroup {E : Env} {V : View} {H : List AObj} (hc : Conc E V H) {b o : Nat} {v : Value} (h : E.I b o = some v) : V.role.group ≠ some b /\ V.role.chan ≠ some b :=
 ⟨fun e => (by have := (hc.group b e).2.1 o; rw [<- hc.I, h] at this; cases this), fun e => (by have := (hc.chan b e).2.1 o; rw [<- hc.I, h] at this; cases this)⟩
open Go.Conc
def AS.put (s : AS) (dst : Option Nat) (av : AV) : AS := match dst with
 | some d => ⟨(d, av) :: s.T, s.H⟩
 | none => s
theorem TOk.putd {E : Env} {s : AS} {a : Act} (k : TOk E s.T a.tmps) {dst : Option Nat} (hd : ∀ d, dst = some d -> d < a.tmps.size) {av : AV} {v : Value} (hv : Den E av v) : TOk E (s.put dst av).T (a.put dst v).tmps := by
 cases dst with
 | none => exact k
 | some d => exact TOk.put k (hd d rfl) hv
theorem put_H (s : AS) (dst : Option Nat) (av : AV) : (s.put dst av).H = s.H := by cases dst <;> rfl
theorem put_size (a : Act) (dst : Option Nat) (v : Value) : (a.put dst v).tmps.size = a.tmps.size := by cases dst <;> simp [Act.put]
theorem put_defers (a : Act) (dst : Option Nat) (v : Value) : (a.put dst v).defers = a.defers := by cases dst <;> rfl
structure Kept (E E' : Env) (V V' : View) (a a' : Act) : Prop where
 le : E.Le E'
 size : a'.tmps.size = a.tmps.size
 defers : a'.defers = a.defers
 role : V'.role = V.role
 deaf : V'.deaf = V.deaf
def Step (lv : Bool) (P : Program) (r : Option Nat) (o : Oper) (s : AS) (next : AS -> Prop) (bad : AV -> AS -> Prop) : Prop :=
 ∀ (E : Env) (V : View) (a : Act) (N : Act -> View -> Prop) (Q : Ex -> Act -> View -> Prop), Conc E V s.H -> TOk E s.T a.tmps -> (∀ d, o.dst = some d -> d < a.tmps.size) -> (r = none \/ isDefer o.op = false) ->
  (∀ E' V' a' s', Kept E E' V V' a a' -> Conc E' V' s'.H -> TOk E' s'.T a'.tmps -> next s' -> N a' V') ->
  (∀ E' V' s' pv v, Kept E E' V V' a a -> Conc E' V' s'.H -> TOk E' s'.T a.tmps -> Den E' pv v -> bad pv s' -> Q (.panic [{ v, recovered := false }]) a V') -> OpWP lv P r o a V N Q
def QStep (lv : Bool) (P : Program) (r : Option Nat) (o : Oper) (s : AS) (av : AV) : Prop :=
 ∀ (E : Env) (V : View) (a : Act) (N : Act -> View -> Prop) (Q : Ex -> Act -> View -> Prop), Conc E V s.H -> TOk E s.T a.tmps -> (r = none \/ isDefer o.op = false) ->
  (∀ E' V' v, E.Le E' -> V'.role = V.role -> V'.deaf = V.deaf -> Conc E' V' s.H -> Den E' av v -> N (a.put o.dst v) V') -> OpWP lv P r o a V N Q
section
variable {lv : Bool} {P : Program} {r : Option Nat} {o : Oper} {s : AS} {next : AS -> Prop} {bad : AV -> AS -> Prop}
theorem Step.mono {next' : AS -> Prop} {bad' : AV -> AS -> Prop} (h : Step lv P r o s next bad) (hn : ∀ s, next s -> next' s) (hb : ∀ c s, bad c s -> bad' c s) : Step lv P r o s next' bad' :=
 fun E V a N Q h1 h2 h3 h4 h5 h6 => h E V a N Q h1 h2 h3 h4 (fun E' V' a' s' x1 x2 x3 x4 => h5 E' V' a' s' x1 x2 x3 (hn _ x4)) (fun E' V' s' pv v x1 x2 x3 x4 x5 => h6 E' V' s' pv v x1 x2 x3 x4 (hb _ _ x5))
theorem q_val {av : AV} (h : ∀ (E : Env) (V : View) (a : Act), Conc E V s.H -> TOk E s.T a.tmps -> SemOk P V (execOp a.eval o) (fun nx V' => V' = V /\ ∃ v, nx = .value v /\ Den E av v) (fun _ _ => False)) : QStep lv P r o s av := by
 intro E V a N Q hc ht hdf h1
 refine ⟨hdf, (h E V a hc ht).mono (fun nx V' hx => ?_) (fun _ _ hx => hx.elim)⟩
 obtain ⟨rfl, v, rfl, hv⟩ := hx
 exact h1 E V' v (Env.Le.refl E) rfl rfl hc hv
theorem q_pure {av : AV} (h : ∀ (E : Env) (V : View) (a : Act), Conc E V s.H -> TOk E s.T a.tmps -> ∃ v, execOp a.eval o = .pure (.value v) /\ Den E av v) : QStep lv P r o s av :=
 q_val (fun E V a hc ht => by
  obtain ⟨v, h1, h2⟩ := h E V a hc ht
  rw [h1]; exact semOk_pure ⟨rfl, v, rfl, h2⟩)
theorem QStep.step {av : AV} (h : QStep lv P r o s av) (hn : next (s.put o.dst av)) : Step lv P r o s next bad := by
 intro E V a N Q hc ht hd hdf h1 _
 refine h E V a N Q hc ht hdf fun E' V' v hle hro hde hc' hv => ?_
 exact h1 E' V' (a.put o.dst v) (s.put o.dst av) ⟨hle, put_size _ _ _, put_defers _ _ _, hro, hde⟩ (by rw [put_H]; exact hc') ((ht.mono hle).putd hd hv) hn
theorem q_move {x : Operand} {av : AV} (ho : o.op = .move x \/ o.op = .assign x) (hx : s.ev x = some av) : QStep lv P r o s (av) :=
 q_pure (fun E V a hc ht => ⟨a.eval x, by unfold execOp; rcases ho with ho | ho <;> rw [ho] <;> rfl, Den.ev ht hx⟩)
theorem q_pick {c x y : Operand} {b : Bool} {av aw : AV} (ho : o.op = .pick c x y) (hc : s.ev c = some (.val (.bool b))) (hx : s.ev x = some av) (hy : s.ev y = some aw) : QStep lv P r o s ((if b then av else aw)) :=
 q_pure (fun E V a hcc ht => by
  have h1 := Den.ev ht hc
  generalize hv : a.eval c = v at h1
  cases h1
  refine ⟨if b then a.eval x else a.eval y, by unfold execOp; rw [ho]; simp only [hv]; cases b <;> rfl, ?_⟩
  cases b
  ·exact Den.ev ht hy
  ·exact Den.ev ht hx)
def binInt (op : BinOp) (k : IntKind) (x y : Int) : Option Value := match op with
 | .add => some (.int k (k.wrap (x + y)))
 | .sub => some (.int k (k.wrap (x - y)))
 | .mul => some (.int k (k.wrap (x * y)))
 | .eql => some (.bool (x == y))
 | .neq => some (.bool (x != y))
 | .lss => some (.bool (x < y))
 | .leq => some (.bool (x <= y))
 | .gtr => some (.bool (x > y))
 | .geq => some (.bool (x >= y))
 | .and => some (.int k (k.wrap (BitVec.ofInt k.bits x &&& BitVec.ofInt k.bits y).toNat))
 | .or => some (.int k (k.wrap (BitVec.ofInt k.bits x ||| BitVec.ofInt k.bits y).toNat))
 | .xor => some (.int k (k.wrap (BitVec.ofInt k.bits x ^^^ BitVec.ofInt k.bits y).toNat))
 | .quo => if y = 0 then none else some (.int k (k.wrap (x.tdiv y)))
 | .rem => if y = 0 then none else some (.int k (x.tmod y))
 | _ => none
def shiftInt (op : BinOp) (k : IntKind) (x y : Int) : Option Value := if y < 0 then none else match op with
 | .shl => some (.int k (k.wrap (x * 2 ^ (min y.toNat k.bits))))
 | .shr => some (.int k (x.fdiv (2 ^ (min y.toNat k.bits))))
 | _ => none
def isShift : BinOp -> Bool
 | .shl | .shr => true
 | _ => false
theorem binInt_ok {op : BinOp} {k : IntKind} {x y : Int} {v : Value} {t : TypeId} (h : binInt op k x y = some v) : binOp op t (.int k x) (.int k y) = .pure v := by
 cases op <;> simp only [binInt, Option.some.injEq, reduceCtorEq] at h <;> try (subst h; simp [binOp, Op.intArith, Op.intCmp, Op.intBits]; rfl)
 ·split at h
  ·cases h
  ·rename_i hy
   simp only [Option.some.injEq] at h; subst h; simp [binOp, Op.intDiv, hy]; rfl
 ·split at h
  ·cases h
  ·rename_i hy
   simp only [Option.some.injEq] at h; subst h; simp [binOp, Op.intDiv, hy]; rfl
theorem shiftInt_ok {op : BinOp} {k j : IntKind} {x y : Int} {v : Value} {t : TypeId} (h : shiftInt op k x y = some v) : binOp op t (.int k x) (.int j y) = .pure v := by
 unfold shiftInt at h
 split at h
 ·cases h
 ·rename_i hy
  cases op <;> simp only [Option.some.injEq, reduceCtorEq] at h
  ·subst h; simp [binOp, Op.shift, hy]; rfl
  ·subst h; simp [binOp, Op.shift, hy]; rfl
theorem eqGuard_int {op : BinOp} {t : TypeId} {x y : Operand} {j k : IntKind} {a b : Int} : eqGuard op t x y (.int j a) (.int k b) = .pure () := by
 unfold eqGuard
 cases op <;> rfl
theorem q_bin {op : BinOp} {xt yt : TypeId} {x y : Operand} {k : IntKind} {m n : Int} {v : Value} (ho : o.op = .binOp op xt x y yt) (hx : s.ev x = some (.val (.int k m))) (hy : s.ev y = some (.val (.int k n))) (hv : binInt op k m n = some v) : QStep lv P r o s ((.val v)) :=
 q_pure (fun E V a hcc ht => by
  have h1 := Den.ev ht hx
  have h2 := Den.ev ht hy
  generalize hv1 : a.eval x = v1 at h1
  generalize hv2 : a.eval y = v2 at h2
  cases h1; cases h2
  refine ⟨v, ?_, .val v⟩
  unfold execOp; rw [ho]
  simp only [hv1, hv2, eqGuard_int, binInt_ok hv]
  rfl)
theorem q_shift {op : BinOp} {xt yt : TypeId} {x y : Operand} {k j : IntKind} {m n : Int} {v : Value} (ho : o.op = .binOp op xt x y yt) (hx : s.ev x = some (.val (.int k m))) (hy : s.ev y = some (.val (.int j n))) (hv : shiftInt op k m n = some v) : QStep lv P r o s ((.val v)) :=
 q_pure (fun E V a hcc ht => by
  have h1 := Den.ev ht hx
  have h2 := Den.ev ht hy
  generalize hv1 : a.eval x = v1 at h1
  generalize hv2 : a.eval y = v2 at h2
  cases h1; cases h2
  refine ⟨v, ?_, .val v⟩
  unfold execOp; rw [ho]
  simp only [hv1, hv2, eqGuard_int, shiftInt_ok hv]
  rfl)
theorem q_not {t : TypeId} {x : Operand} {b : Bool} (ho : o.op = .unOp .not t x) (hx : s.ev x = some (.val (.bool b))) : QStep lv P r o s ((.val (.bool !b))) :=
 q_pure (fun E V a hcc ht => by
  have h1 := Den.ev ht hx
  generalize hv1 : a.eval x = v1 at h1
  cases h1
  exact ⟨_, by unfold execOp; rw [ho]; simp only [hv1]; rfl, .val _⟩)
theorem q_neg {t : TypeId} {x : Operand} {k : IntKind} {n : Int} (ho : o.op = .unOp .neg t x) (hx : s.ev x = some (.val (.int k n))) : QStep lv P r o s (.val (.int k (k.wrap (0 - n)))) :=
 q_pure (fun E V a hcc ht => by
  have h1 := Den.ev ht hx
  generalize hv1 : a.eval x = v1 at h1
  cases h1
  exact ⟨_, by unfold execOp; rw [ho]; simp only [hv1]; rfl, .val _⟩)
theorem q_extract {x : Operand} {i : Nat} {l : List AV} {av : AV} (ho : o.op = .extract x i) (hx : s.ev x = some (.tup l)) (hi : l[i]? = some av) : QStep lv P r o s (av) :=
 q_pure (fun E V a hcc ht => by
  have h1 := Den.ev ht hx
  generalize hv1 : a.eval x = v1 at h1
  cases h1 with
  | tup hs h =>
   rename_i cs
   have hlt : i < cs.size := by rw [hs]; exact (List.getElem?_eq_some_iff.1 hi).1
   refine ⟨cs[i], ?_, ?_⟩
   ·unfold execOp; rw [ho]; simp only [hv1, Instr.extract, Array.getElem?_eq_getElem hlt]; rfl
   ·have := h i av hi; rwa [Array.getD_eq_getD_getElem?, Array.getElem?_eq_getElem hlt] at this)
end
theorem add_plain (b o n : Nat) : (⟨b, o, none⟩ : Addr).add n = ⟨b, o + n, none⟩ := by
 unfold Addr.add; split
 ·rename_i h; subst h; rfl
 ·rfl
def AS.at (s : AS) : AV -> Option (List AV)
 | .rp l => some l
 | .op id off => match s.H[id]? with
  | some (.cells l _) => some (l.drop off)
  | some (.part _ l _) => some (l.drop off)
  | some (.own _ l _) => some (l.drop off)
  | _ => none
 | _ => none
def AV.shift (n : Nat) : AV -> Option AV
 | .rp l => if n <= l.length then some (.rp (l.drop n)) else none
 | .op id off => some (.op id (off + n))
 | _ => none
theorem Conc.at {E : Env} {V : View} {s : AS} (hc : Conc E V s.H) {p : AV} {v : Value} (hd : Den E p v) {l : List AV} (h : s.at p = some l) :
  ∃ (b o : Nat) (f : Nat -> Value), v = .pointer (some ⟨b, o, none⟩) /\ (∀ i, i < l.length -> V.get b (o + i) = some (f i)) /\ (0 < l.length -> V.role.group ≠ some b) /\ ∀ (i : Nat) x, l[i]? = some x -> Den E x (f i) := by
 cases hd with
 | rp b o f h1 h2 =>
  cases h
  exact ⟨b, o, f, rfl, fun i hi => by unfold View.get; rw [<- hc.I, h1 i hi], fun hp => (hc.immNotGroup (h1 0 hp)).1, h2⟩
 | op hi =>
  rename_i id off
  simp only [AS.at] at h
  cases hk : s.H[id]? with
  | none => rw [hk] at h; cases h
  | some ob =>
   rw [hk] at h
   cases ob with
   | cells l' el =>
    cases h
    obtain ⟨⟨cs, ho, hs, hden⟩, him⟩ := hc.obj id _ hk
    refine ⟨E.blk id, off, fun i => cs.getD (off + i) undef, rfl, fun i hi => ?_, fun _ => (hc.notGroup hk rfl).1, fun i x hx => ?_⟩
    ·unfold View.get
     rw [him, ho]
     simp only [List.length_drop] at hi
     have hlt : off + i < cs.size := by omega
     simp only [Array.getD_eq_getD_getElem?, Array.getElem?_eq_getElem hlt, Option.getD_some]
    ·rw [List.getElem?_drop] at hx
     exact hden _ _ hx
   | part p l' el =>
    cases h
    obtain ⟨⟨cs, ho, ⟨hs, hden⟩, hpt⟩, him⟩ := hc.obj id _ hk
    refine ⟨E.blk id, off, fun i => cs.getD (off + i) undef, rfl, fun i hi => ?_, fun _ => (hc.notGroup hk rfl).1, fun i x hx => ?_⟩
    ·simp only [List.length_drop] at hi
     have hlt : off + i < cs.size := by omega
     unfold View.get
     by_cases hp : off + i < p
     ·rw [hpt _ hp]
      simp only [Array.getD_eq_getD_getElem?, Array.getElem?_eq_getElem hlt, Option.getD_some]
     ·rw [him _ (by omega), ho]
      simp only [Array.getD_eq_getD_getElem?, Array.getElem?_eq_getElem hlt, Option.getD_some]
    ·rw [List.getElem?_drop] at hx
     exact hden _ _ hx
   | own sz l' el =>
    cases h
    obtain ⟨⟨cs, ho, ⟨hs, hden⟩, _⟩, him⟩ := hc.obj id _ hk
    refine ⟨E.blk id, off, fun i => cs.getD (off + i) undef, rfl, fun i hi => ?_, fun _ => (hc.notGroup hk rfl).1, fun i x hx => ?_⟩
    ·simp only [List.length_drop] at hi
     have hlt : off + i < cs.size := by omega
     unfold View.get
     rw [him, ho]
     simp only [Array.getD_eq_getD_getElem?, Array.getElem?_eq_getElem hlt, Option.getD_some]
    ·rw [List.getElem?_drop] at hx
     exact hden _ _ hx
   | _ => cases h
 | _ => cases h
theorem Den.shift {E : Env} {p q : AV} {v : Value} (hd : Den E p v) {n : Nat} (h : p.shift n = some q) : ∃ b o, v = .pointer (some ⟨b, o, none⟩) /\ Den E q (.pointer (some ⟨b, o + n, none⟩)) := by
 cases hd with
 | rp b o f h1 h2 =>
  simp only [AV.shift] at h
  split at h
  ·rename_i hn
   cases h
   refine ⟨b, o, rfl, .rp b (o + n) (fun i => f (n + i)) (fun i hi => ?_) (fun i x hx => ?_)⟩
   ·simp only [List.length_drop] at hi
    rw [Nat.add_assoc]; exact h1 _ (by omega)
   ·rw [List.getElem?_drop] at hx; exact h2 _ _ hx
  ·cases h
 | op hi => cases h; exact ⟨_, _, rfl, .op hi⟩
 | _ => cases h
section
variable {P : Program} {V : View} {α : Type} {K : α -> View -> Prop} {Kp : Value -> View -> Prop}
theorem semOk_underlying {t : TypeId} {d : TypeDesc} {k : TypeDesc -> Sem α} (h : P.underlying t = some d) (hk : SemOk P V (k d) K Kp) : SemOk P V (underlying t >>= k) K Kp := by
 unfold underlying
 refine semOk_bind (semOk_bind (semOk_program (semOk_pure ?_)))
 rw [h]; exact semOk_pure' hk
theorem semOk_typeInfo {t : TypeId} {i : TypeInfo} {k : TypeInfo -> Sem α} (h : P.info? t = some i) (hk : SemOk P V (k i) K Kp) : SemOk P V (typeInfo t >>= k) K Kp := by
 unfold typeInfo
 refine semOk_bind (semOk_bind (semOk_program (semOk_pure ?_)))
 rw [h]; exact semOk_pure' hk
theorem semOk_sizeOf {t : TypeId} {i : TypeInfo} {k : Nat -> Sem α} (h : P.info? t = some i) (hk : SemOk P V (k i.size) K Kp) : SemOk P V (sizeOf t >>= k) K Kp := by
 refine semOk_bind ?_
 unfold sizeOf
 exact semOk_typeInfo h (semOk_pure' hk)
def TypeDesc.agg : TypeDesc -> Bool
 | .struct _ | .array _ _ => true
 | _ => false
theorem semOk_isAgg {t : TypeId} {d : TypeDesc} {k : Bool -> Sem α} (h : P.underlying t = some d) (hk : SemOk P V (k (TypeDesc.agg d)) K Kp) : SemOk P V (isAgg t >>= k) K Kp := by
 refine semOk_bind ?_
 unfold isAgg
 refine semOk_underlying h ?_
 cases d <;> exact semOk_pure' hk
theorem semOk_load1 {b o : Nat} {v : Value} {k : Value -> Sem α} (hg : V.role.group ≠ some b) (e : V.get b o = some v) (hk : SemOk P V (k v) K Kp) : SemOk P V (load ⟨b, o, none⟩ >>= k) K Kp :=
 semOk_bind (semOk_load e (.inl hg) (semOk_pure hk))
theorem semOk_cellsFrom {b o : Nat} {f : Nat -> Value} {K : Array Value -> View -> Prop} : ∀ (n i : Nat) (acc : Array Value), (0 < n -> V.role.group ≠ some b) -> (∀ j, j < n -> V.get b (o + (i + j)) = some (f (i + j))) ->
  K (acc ++ ((List.range n).map fun j => f (i + j)).toArray) V -> SemOk P V (loadCellsFrom ⟨b, o, none⟩ i n acc) K Kp
 | 0, i, acc, _, _, h => semOk_pure' (by simpa using h)
 | n + 1, i, acc, hg, he, h => by
  have h0 := he 0 (by omega)
  unfold loadCellsFrom
  rw [add_plain]
  refine semOk_load1 (hg (by omega)) h0 ?_
  refine semOk_cellsFrom n (i + 1) _ (fun _ => hg (by omega)) (fun j hj => by have := he (j + 1) (by omega); rwa [show i + (j + 1) = i + 1 + j by omega] at this) ?_
  have e : (acc.push (f (i + 0)) ++ ((List.range n).map fun j => f (i + 1 + j)).toArray) = acc ++ ((List.range (n + 1)).map fun j => f (i + j)).toArray := by
   rw [List.range_succ_eq_map]
   apply Array.ext'
   simp [Function.comp_def, Nat.add_assoc, Nat.add_comm 1]
  rw [e]; exact h
theorem semOk_cells {b o n : Nat} {f : Nat -> Value} (hg : 0 < n -> V.role.group ≠ some b) {K : Array Value -> View -> Prop} (he : ∀ j, j < n -> V.get b (o + j) = some (f j)) (h : K ((List.range n).map f).toArray V) : SemOk P V (loadCells ⟨b, o, none⟩ n) K Kp :=
 semOk_cellsFrom n 0 #[] hg (fun j hj => by simpa using he j hj) (by simpa using h)
end
theorem dsome {α β : Type} {x : Option α} {f : α -> β} {y : β} (h : x.map f = some y) : ∃ a, x = some a /\ f a = y := Option.map_eq_some_iff.1 h
def Ty (P : Program) (t : TypeId) : Option (Nat × Bool) := (P.info? t).bind fun i => (P.underlying t).map fun d => (i.size, TypeDesc.agg d)
theorem Ty.out {P : Program} {t : TypeId} {n : Nat} {g : Bool} (h : Ty P t = some (n, g)) : ∃ i d, P.info? t = some i /\ P.underlying t = some d /\ i.size = n /\ TypeDesc.agg d = g := by
 unfold Ty at h
 obtain ⟨i, h1, h2⟩ := Option.bind_eq_some_iff.1 h
 obtain ⟨d, h3, h4⟩ := dsome h2
 cases h4
 exact ⟨i, d, h1, h3, rfl, rfl⟩
theorem den_take {E : Env} {l : List AV} {f : Nat -> Value} {n : Nat} (hn : n <= l.length) (h : ∀ (i : Nat) x, l[i]? = some x -> Den E x (f i)) : Den E (.agg (l.take n)) (.agg ((List.range n).map f).toArray) := by
 refine .agg (by simp; omega) fun i x hx => ?_
 rw [List.getElem?_take] at hx
 split at hx
 ·rename_i hi
  have := h i x hx
  simpa [Array.getD_eq_getD_getElem?, hi] using this
 ·cases hx
def AV.row : AV -> Option (Nat × AV)
 | .sl n l _ => some (n, .rp l)
 | .osl id off n _ => some (n, .op id off)
 | _ => none
theorem Den.row {E : Env} {a p : AV} {v : Value} {n : Nat} (hd : Den E a v) (h : a.row = some (n, p)) (h0 : 0 < n) : ∃ b o cap, v = .slice (some ⟨b, o, none⟩) n cap /\ Den E p (.pointer (some ⟨b, o, none⟩)) := by
 cases hd with
 | sl b o cap f hc he h1 h2 => cases h; exact ⟨b, o, cap, rfl, .rp b o f h1 h2⟩
 | nil he => cases h; exact absurd h0 (by simp)
 | osl hi => cases h; exact ⟨_, _, _, rfl, .op hi⟩
 | _ => cases h
def AV.len : AV -> Option Nat
 | .sl n _ _ => some n
 | .osl _ _ n _ => some n
 | _ => none
theorem Den.len {E : Env} {a : AV} {v : Value} {n : Nat} (hd : Den E a v) (h : a.len = some n) : ∃ ad cap, v = .slice ad n cap := by
 cases hd with
 | sl b o cap f hc he h1 h2 => cases h; exact ⟨_, _, rfl⟩
 | nil he => cases h; exact ⟨_, _, rfl⟩
 | osl hi => cases h; exact ⟨_, _, rfl⟩
 | _ => cases h
def FieldOf (P : Program) (t : TypeId) (k : Nat) : Option Nat := match P.underlying t with
 | some (.struct fs) => match fs[k]? with
  | some f => match P.info? f.type with
   | some i => if i.size = 0 then none else some f.offset
   | none => none
  | none => none
 | _ => none
def IdxOf (P : Program) (t : TypeId) : Option (Option Nat × Nat) := match P.underlying t with
 | some (.array n e) => (P.info? e).map fun i => (some n, i.size)
 | some (.slice e) => (P.info? e).map fun i => (none, i.size)
 | _ => none
inductive LenKind where
 | slice | map | str | arr (n : Nat)
def LenOf (P : Program) (t : TypeId) : Option LenKind := match P.underlying t with
 | some (.slice _) => some .slice
 | some (.map _ _) => some .map
 | some .string => some .str
 | some (.array n _) => some (.arr n)
 | _ => none
def PartOf (P : Program) (t : TypeId) (k : Nat) : Option (Nat × Nat × Bool) := match P.underlying t with
 | some (.struct fs) => match fs[k]? with
  | some f => (Ty P f.type).map fun x => (f.offset, x.1, x.2)
  | none => none
 | _ => none
def ElemOf (P : Program) (t : TypeId) : Option (Nat × Nat × Bool) := match P.underlying t with
 | some (.array n e) => (Ty P e).map fun x => (n, x.1, x.2)
 | _ => none
section
variable {lv : Bool} {P : Program} {r : Option Nat} {o : Oper} {s : AS} {next : AS -> Prop} {bad : AV -> AS -> Prop}
theorem q_load {t : TypeId} {x : Operand} {p : AV} {l : List AV} {n : Nat} (ho : o.op = .load t x) (ht : Ty P t = some (n, true)) (hx : s.ev x = some p) (hl : s.at p = some l) (hlen : n <= l.length) : QStep lv P r o s ((.agg (l.take n))) :=
 q_val (fun E V a hc htk => by
  obtain ⟨i, d, h1, h2, rfl, h4⟩ := Ty.out ht
  obtain ⟨b, off, f, hv, hg, hgr, hd⟩ := hc.at (Den.ev htk hx) hl
  unfold execOp; rw [ho]; simp only [hv]
  refine semOk_bind ?_
  unfold Instr.loadAt Instr.sureAddr
  refine semOk_bind (semOk_pure' ?_)
  unfold loadVar
  refine semOk_isAgg h2 ?_
  rw [h4]
  simp only [if_true]
  refine semOk_sizeOf h1 ?_
  refine semOk_bind (semOk_cells (f := f) (fun h => hgr (by omega)) (fun j hj => hg j (by omega)) ?_)
  exact semOk_pure' (semOk_pure' ⟨rfl, _, rfl, den_take hlen hd⟩))
theorem q_load1 {t : TypeId} {x : Operand} {p : AV} {l : List AV} {n : Nat} {av : AV} (ho : o.op = .load t x) (ht : Ty P t = some (n, false)) (hx : s.ev x = some p) (hl : s.at p = some l) (h0 : l[0]? = some av) : QStep lv P r o s (av) :=
 q_val (fun E V a hc htk => by
  obtain ⟨i, d, h1, h2, rfl, h4⟩ := Ty.out ht
  obtain ⟨b, off, f, hv, hg, hgr, hd⟩ := hc.at (Den.ev htk hx) hl
  unfold execOp; rw [ho]; simp only [hv]
  refine semOk_bind ?_
  unfold Instr.loadAt Instr.sureAddr
  refine semOk_bind (semOk_pure' ?_)
  unfold loadVar
  refine semOk_isAgg h2 ?_
  rw [h4]
  simp only [Bool.false_eq_true, if_false]
  have hlen : 0 < l.length := (List.getElem?_eq_some_iff.1 h0).1
  have hg0 := hg 0 hlen
  rw [Nat.add_zero] at hg0
  exact semOk_load hg0 (.inl (hgr hlen)) (semOk_pure (semOk_pure' ⟨rfl, _, rfl, hd 0 av h0⟩)))
def AV.sure : AV -> Bool
 | .rp _ | .op _ _ => true
 | .fn (.func _) _ _ => true
 | .fn (.yield _) _ _ => true
 | .ifc _ _ => true
 | _ => false
theorem q_nil {x : Operand} {p : AV} (ho : o.op = .nilCheck x) (hx : s.ev x = some p) (hp : p.sure = true) : QStep lv P r o s (p) :=
 q_pure (fun E V a hc htk => by
  have hd := Den.ev htk hx
  refine ⟨a.eval x, ?_, hd⟩
  unfold execOp; rw [ho]
  dsimp only
  generalize a.eval x = v at hd ⊢
  cases hd with
  | rp => rfl
  | op => rfl
  | ifc => rfl
  | fn hs1 hs2 h1 h2 =>
   rename_i f _ _ _ _
   cases f with
   | func => rfl
   | yield => rfl
   | _ => cases hp
  | _ => cases hp)
theorem q_field {t : TypeId} {x : Operand} {k n : Nat} {p q : AV} (ho : o.op = .fieldAddr t x k) (ht : FieldOf P t k = some n) (hx : s.ev x = some p) (hp : p.shift n = some q) : QStep lv P r o s (q) :=
 q_val (fun E V a hc htk => by
  obtain ⟨b, off, hv, hq⟩ := (Den.ev htk hx).shift hp
  unfold FieldOf at ht
  split at ht
  ·rename_i fs hu
   split at ht
   ·rename_i f hf
    split at ht
    ·rename_i i hi
     split at ht
     ·cases ht
     ·rename_i hz
      cases ht
      unfold execOp; rw [ho]; simp only [hv]
      refine semOk_bind ?_
      unfold Instr.fieldAt
      refine semOk_underlying hu ?_
      simp only [hf]
      unfold Instr.sureAddr
      refine semOk_bind (semOk_pure' ?_)
      unfold fieldPlace
      refine semOk_bind (semOk_sizeOf hi ?_)
      rw [if_neg hz]
      refine semOk_pure' (semOk_pure' (semOk_pure' ⟨rfl, _, rfl, ?_⟩))
      rw [add_plain]; exact hq
    ·cases ht
   ·cases ht
  ·cases ht)
theorem q_index {t : TypeId} {x ix : Operand} {a p q : AV} {k : IntKind} {i : Int} {n sz : Nat} (ho : o.op = .indexAddr t x ix) (ht : IdxOf P t = some (none, sz)) (hx : s.ev x = some a) (ha : a.row = some (n, p)) (hi : s.ev ix = some (.val (.int k i))) (h0 : 0 <= i) (h1 : i < n)
  (hp : p.shift (i.toNat * sz) = some q) : QStep lv P r o s (q) :=
 q_val (fun E V ac hc htk => by
  obtain ⟨b, off, cap, hv, hpd⟩ := (Den.ev htk hx).row ha (by omega)
  obtain ⟨b', o', hb, hq⟩ := hpd.shift hp
  cases hb
  have hd := Den.ev htk hi
  generalize hvi : ac.eval ix = vi at hd
  cases hd
  unfold IdxOf at ht
  split at ht
  ·obtain ⟨_, _, h⟩ := dsome ht; cases h
  ·rename_i e hu
   obtain ⟨inf, hinf, h⟩ := dsome ht
   cases h
   unfold execOp; rw [ho]; simp only [hv, hvi]
   refine semOk_bind ?_
   unfold Instr.indexAt asIntOf
   refine semOk_bind (semOk_pure' ?_)
   dsimp only
   refine semOk_underlying hu ?_
   refine semOk_bind (semOk_pure' ?_)
   dsimp only
   refine semOk_underlying hu ?_
   dsimp only
   rw [if_pos ⟨h0, h1⟩]
   refine semOk_sizeOf hinf ?_
   refine semOk_pure' (semOk_pure' ⟨rfl, _, rfl, ?_⟩)
   rw [add_plain]; exact hq
  ·cases ht)
theorem q_indexArr {t : TypeId} {x ix : Operand} {p q : AV} {k : IntKind} {i : Int} {n sz : Nat} (ho : o.op = .indexAddr t x ix) (ht : IdxOf P t = some (some n, sz)) (hx : s.ev x = some p) (hi : s.ev ix = some (.val (.int k i))) (h0 : 0 <= i) (h1 : i < n)
  (hp : p.shift (i.toNat * sz) = some q) : QStep lv P r o s (q) :=
 q_val (fun E V ac hc htk => by
  obtain ⟨b, off, hv, hq⟩ := (Den.ev htk hx).shift hp
  have hd := Den.ev htk hi
  generalize hvi : ac.eval ix = vi at hd
  cases hd
  unfold IdxOf at ht
  split at ht
  ·rename_i m e hu
   obtain ⟨inf, hinf, h⟩ := dsome ht
   cases h
   unfold execOp; rw [ho]; simp only [hv, hvi]
   refine semOk_bind ?_
   unfold Instr.indexAt asIntOf
   refine semOk_bind (semOk_pure' ?_)
   dsimp only
   refine semOk_underlying hu ?_
   dsimp only
   unfold Instr.sureAddr
   refine semOk_bind (semOk_bind (semOk_pure' (semOk_pure' ?_)))
   refine semOk_underlying hu ?_
   dsimp only
   rw [if_pos ⟨h0, h1⟩]
   refine semOk_sizeOf hinf ?_
   refine semOk_pure' (semOk_pure' ⟨rfl, _, rfl, ?_⟩)
   rw [add_plain]; exact hq
  ·obtain ⟨_, _, h⟩ := dsome ht; cases h
  ·cases ht)
theorem q_len {c : Call} {x : Operand} {t : TypeId} {a : AV} {n : Nat} (ho : o.op = .call c) (hcl : c.callee = .builtin .len) (hx0 : c.args[0]? = some x) (ht0 : c.argTypes[0]? = some t) (ht : LenOf P t = some .slice) (hx : s.ev x = some a) (ha : a.len = some n) : QStep lv P r o s (.val (.int .i64 n)) :=
 q_val (fun E V ac hc htk => by
  obtain ⟨ad, cap, hv⟩ := (Den.ev htk hx).len ha
  unfold LenOf at ht
  split at ht <;> cases ht
  rename_i e hu
  unfold execOp; rw [ho]
  dsimp only
  unfold resolve
  rw [hcl]
  dsimp only
  refine semOk_bind (semOk_pure' ?_)
  unfold invoke builtin
  dsimp only
  refine semOk_bind ?_
  unfold Builtin.len_
  have e1 : (c.args.map ac.eval)[0]? = some (.slice ad n cap) := by simp [hx0, hv]
  simp only [ht0, e1]
  refine semOk_underlying hu ?_
  exact semOk_pure' (semOk_pure' ⟨rfl, _, rfl, .val _⟩))
theorem q_lenStr {c : Call} {x : Operand} {t : TypeId} {b : ByteArray} (ho : o.op = .call c) (hcl : c.callee = .builtin .len) (hx0 : c.args[0]? = some x) (ht0 : c.argTypes[0]? = some t) (ht : LenOf P t = some .str) (hx : s.ev x = some (.val (.string b))) : QStep lv P r o s (.val (.int .i64 b.size)) :=
 q_val (fun E V ac hc htk => by
  have hd := Den.ev htk hx
  generalize hv : ac.eval x = v at hd
  cases hd
  unfold LenOf at ht
  split at ht <;> cases ht
  rename_i hu
  unfold execOp; rw [ho]
  dsimp only
  unfold resolve
  rw [hcl]
  dsimp only
  refine semOk_bind (semOk_pure' ?_)
  unfold invoke builtin
  dsimp only
  refine semOk_bind ?_
  unfold Builtin.len_
  have e1 : (c.args.map ac.eval)[0]? = some (.string b) := by simp [hx0, hv]
  simp only [ht0, e1]
  refine semOk_underlying hu ?_
  exact semOk_pure' (semOk_pure' ⟨rfl, _, rfl, .val _⟩))
theorem q_lenMap {c : Call} {x : Operand} {t : TypeId} {id : Nat} {es : Array MapEntry} {ck : Nat} (ho : o.op = .call c) (hcl : c.callee = .builtin .len) (hx0 : c.args[0]? = some x) (ht0 : c.argTypes[0]? = some t) (ht : LenOf P t = some .map) (hx : s.ev x = some (.mp id)) (hk : s.H[id]? = some (.obj (.map es ck))) : QStep lv P r o s (.val (.int .i64 es.size)) :=
 q_val (fun E V ac hc htk => by
  have hd := Den.ev htk hx
  generalize hv : ac.eval x = v at hd
  cases hd
  obtain ⟨h1, h2, h3, h4⟩ := hc.obj id _ hk
  unfold LenOf at ht
  split at ht <;> cases ht
  rename_i hu
  unfold execOp; rw [ho]
  dsimp only
  unfold resolve
  rw [hcl]
  dsimp only
  refine semOk_bind (semOk_pure' ?_)
  unfold invoke builtin
  dsimp only
  refine semOk_bind ?_
  unfold Builtin.len_
  have e1 : (c.args.map ac.eval)[0]? = some (.map (some (E.blk id))) := by simp [hx0, hv]
  simp only [ht0, e1]
  refine semOk_underlying hu ?_
  refine semOk_bind (semOk_getObj h1 h2 h3 (hc.notGroup hk rfl).2 (semOk_pure ?_))
  exact semOk_pure' (semOk_pure' ⟨rfl, _, rfl, .val _⟩))
theorem semOk_part {t : TypeId} {n off : Nat} {g : Bool} {E : Env} {V : View} {l : List AV} {cs : Array Value} {K : Value -> View -> Prop} {Kp : Value -> View -> Prop} (ht : Ty P t = some (n, g)) (hd : Denl E l cs) (hl : off + n <= l.length) (hn : g = false -> 0 < n)
  (h : ∀ v, (g = true -> Den E (.agg ((l.drop off).take n)) v) -> (g = false -> ∀ a, l[off]? = some a -> Den E a v) -> K v V) : SemOk P V (part t cs off) K Kp := by
 obtain ⟨i, d, h1, h2, rfl, h4⟩ := Ty.out ht
 unfold part
 refine semOk_isAgg h2 ?_
 rw [h4]
 cases g with
 | true =>
  simp only [if_true]
  refine semOk_sizeOf h1 (semOk_pure' (h _ (fun _ => .agg (by have := hd.1; simp; omega) fun j a e => ?_) (by simp)))
  rw [List.getElem?_take] at e
  split at e
  ·rename_i hj
   rw [List.getElem?_drop] at e
   have := hd.2 _ _ e
   have hlt : off + j < cs.size := by rw [hd.1]; omega
   have hlt2 : j < (cs.extract off (off + i.size)).size := by have := hd.1; simp; omega
   rw [Array.getD_eq_getD_getElem?, Array.getElem?_eq_getElem hlt2]
   rw [Array.getD_eq_getD_getElem?, Array.getElem?_eq_getElem hlt] at this
   simpa using this
  ·cases e
 | false =>
  simp only [Bool.false_eq_true, if_false]
  have hlt : off < cs.size := by have := hn rfl; rw [hd.1]; omega
  rw [Array.getElem?_eq_getElem hlt]
  refine semOk_pure' (h _ (by simp) fun _ a e => ?_)
  have := hd.2 _ _ e
  rwa [Array.getD_eq_getD_getElem?, Array.getElem?_eq_getElem hlt] at this
def AV.cut (l : List AV) (off n : Nat) (g : Bool) : Option AV := if off + n <= l.length /\ (g = false -> 0 < n) then (if g then some (.agg ((l.drop off).take n)) else l[off]?) else none
theorem q_fieldVal {t : TypeId} {x : Operand} {k off n : Nat} {g : Bool} {l : List AV} {av : AV} (ho : o.op = .field t x k) (ht : PartOf P t k = some (off, n, g)) (hx : s.ev x = some (.agg l)) (hv : AV.cut l off n g = some av) : QStep lv P r o s av :=
 q_val (fun E V a hc htk => by
  have hd := Den.ev htk hx
  generalize he : a.eval x = v at hd
  cases hd with
  | agg hs h =>
   unfold PartOf at ht
   split at ht
   ·rename_i fs hu
    split at ht
    ·rename_i f hf
     obtain ⟨⟨n', g'⟩, h1, h2⟩ := dsome ht
     cases h2
     unfold AV.cut at hv
     split at hv
     ·rename_i hcond
      unfold execOp; rw [ho]; simp only [he]
      refine semOk_bind ?_
      unfold Instr.field
      refine semOk_underlying hu ?_
      simp only [hf]
      unfold asAgg
      refine semOk_bind (semOk_pure' ?_)
      refine semOk_part h1 ⟨hs, h⟩ hcond.1 hcond.2 fun v h3 h4 => semOk_pure' ⟨rfl, v, rfl, ?_⟩
      cases g' with
      | true => simp only [if_true, Option.some.injEq] at hv; subst hv; exact h3 rfl
      | false => simp only [Bool.false_eq_true, if_false] at hv; exact h4 rfl _ hv
     ·cases hv
    ·cases ht
   ·cases ht)
theorem q_indexVal {t : TypeId} {x ix : Operand} {n sz : Nat} {g : Bool} {l : List AV} {av : AV} {k : IntKind} {i : Int} (ho : o.op = .index t x ix) (ht : ElemOf P t = some (n, sz, g)) (hx : s.ev x = some (.agg l)) (hi : s.ev ix = some (.val (.int k i))) (h0 : 0 <= i) (h1 : i < n) (hv : AV.cut l (i.toNat * sz) sz g = some av) : QStep lv P r o s av :=
 q_val (fun E V a hc htk => by
  have hd := Den.ev htk hx
  generalize he : a.eval x = v at hd
  have hdi := Den.ev htk hi
  generalize hei : a.eval ix = vi at hdi
  cases hdi
  cases hd with
  | agg hs h =>
   unfold ElemOf at ht
   split at ht
   ·rename_i m e hu
    obtain ⟨⟨n', g'⟩, h2, h3⟩ := dsome ht
    cases h3
    unfold AV.cut at hv
    split at hv
    ·rename_i hcond
     obtain ⟨inf, d, q1, q2, q3, q4⟩ := Ty.out h2
     unfold execOp; rw [ho]; simp only [he, hei]
     refine semOk_bind ?_
     unfold Instr.index asIntOf
     refine semOk_bind (semOk_pure' ?_)
     dsimp only
     refine semOk_underlying hu ?_
     dsimp only
     rw [if_pos ⟨h0, h1⟩]
     refine semOk_sizeOf q1 ?_
     rw [q3]
     refine semOk_part h2 ⟨hs, h⟩ hcond.1 hcond.2 fun v h4 h5 => semOk_pure' ⟨rfl, v, rfl, ?_⟩
     cases g' with
     | true => simp only [if_true, Option.some.injEq] at hv; subst hv; exact h4 rfl
     | false => simp only [Bool.false_eq_true, if_false] at hv; exact h5 rfl _ hv
    ·cases hv
   ·cases ht)
theorem q_indexStr {t : TypeId} {x ix : Operand} {b : ByteArray} {k : IntKind} {i : Int} {c : UInt8} (ho : o.op = .index t x ix) (ht : LenOf P t = some .str) (hx : s.ev x = some (.val (.string b))) (hi : s.ev ix = some (.val (.int k i))) (h0 : 0 <= i) (h1 : b[i.toNat]? = some c) : QStep lv P r o s (.val (.int .u8 c.toNat)) :=
 q_val (fun E V a hc htk => by
  have hd := Den.ev htk hx
  generalize he : a.eval x = v at hd
  have hdi := Den.ev htk hi
  generalize hei : a.eval ix = vi at hdi
  cases hdi
  cases hd
  unfold LenOf at ht
  split at ht <;> cases ht
  rename_i hu
  unfold execOp; rw [ho]; simp only [he, hei]
  refine semOk_bind ?_
  unfold Instr.index asIntOf
  refine semOk_bind (semOk_pure' ?_)
  dsimp only
  refine semOk_underlying hu ?_
  dsimp only
  rw [if_pos h0, h1]
  exact semOk_pure' (semOk_pure' ⟨rfl, _, rfl, .val _⟩))
theorem den_evs {E : Env} {s : AS} {a : Act} (k : TOk E s.T a.tmps) {l : Array Operand} {zas : List AV} (h : l.toList.mapM s.ev = some zas) : Denl E zas (l.map a.eval) := by
 have key : ∀ (l : List Operand) (zas : List AV), l.mapM s.ev = some zas -> Denl E zas (l.map a.eval).toArray := by
  intro l
  induction l with
  | nil => intro zas h; simp at h; subst h; exact ⟨rfl, by simp⟩
  | cons x l ih =>
   intro zas h
   simp only [List.mapM_cons, Option.pure_def, Option.bind_eq_bind, Option.bind_eq_some_iff, Option.some.injEq] at h
   obtain ⟨b, h1, bs, h2, rfl⟩ := h
   have := ih bs h2
   refine ⟨by have := this.1; simpa using this, fun i c e => ?_⟩
   cases i with
   | zero => simp at e; subst e; simpa [Array.getD_eq_getD_getElem?] using Den.ev k h1
   | succ i =>
    simp only [List.getElem?_cons_succ] at e
    have := this.2 i c e
    simpa [Array.getD_eq_getD_getElem?] using this
 have := key l.toList zas h
 have e : l.map a.eval = (l.toList.map a.eval).toArray := by apply Array.ext'; simp
 rw [e]; exact this
theorem q_makeFunc {f : Fn} {first caps : Array Operand} {fa ca : List AV} (ho : o.op = .makeFunc f first caps) (h1 : first.toList.mapM s.ev = some fa) (h2 : caps.toList.mapM s.ev = some ca) : QStep lv P r o s (.fn f fa ca) :=
 q_pure (fun E V a hc ht => by
  have d1 := den_evs ht h1
  have d2 := den_evs ht h2
  exact ⟨_, by unfold execOp; rw [ho]; rfl, .fn d1.1 d2.1 d1.2 d2.2⟩)
def isIfc (P : Program) (t : TypeId) : Option Bool := (P.underlying t).map fun | .interface _ => true | _ => false
theorem q_makeIfc {t : TypeId} {x : Operand} {av : AV} (ho : o.op = .makeInterface t x) (ht : isIfc P t = some false) (hx : s.ev x = some av) : QStep lv P r o s (.ifc t av) :=
 q_val (fun E V a hc htk => by
  obtain ⟨d, hu, hd⟩ := dsome ht
  unfold execOp; rw [ho]
  dsimp only
  refine semOk_bind ?_
  unfold Instr.makeInterface
  refine semOk_underlying hu ?_
  split
  ·cases hd
  ·exact semOk_pure' (semOk_pure' ⟨rfl, _, rfl, .ifc (Den.ev htk hx)⟩))
def ConvOf (P : Program) (src dst : TypeId) : Option (Option IntKind) := (P.underlying src).bind fun _ => match P.underlying dst with
 | some (.int k) => some (some k)
 | _ => none
theorem q_convInt {src dst : TypeId} {x : Operand} {k j : IntKind} {n : Int} (ho : o.op = .convert src dst x) (ht : ConvOf P src dst = some (some k)) (hx : s.ev x = some (.val (.int j n))) : QStep lv P r o s (.val (.int k (k.wrap n))) :=
 q_val (fun E V a hc htk => by
  have hd := Den.ev htk hx
  generalize he : a.eval x = v at hd
  cases hd
  unfold ConvOf at ht
  obtain ⟨d, h1, h2⟩ := Option.bind_eq_some_iff.1 ht
  split at h2
  ·rename_i k' hu
   cases h2
   unfold execOp; rw [ho]; simp only [he]
   refine semOk_bind ?_
   unfold convert
   refine semOk_underlying h1 (semOk_underlying hu ?_)
   dsimp only
   exact semOk_pure' (semOk_pure' ⟨rfl, _, rfl, .val _⟩)
  ·cases h2)
end
open Go.Conc
def Env.add (E : Env) (r : Nat) (I : Imm) : Env := { E with I := I, n := E.n + 1, blk := fun k => if k = E.n then r else E.blk k }
theorem Env.le_add (E : Env) (r : Nat) {I : Imm} (hI : ∀ b o v, E.I b o = some v -> I b o = some v) : E.Le (E.add r I) :=
 ⟨hI, Nat.le_succ _, fun k hk => by simp [Env.add, Nat.ne_of_lt hk], fun _ _ => Nat.le_refl _, fun _ _ _ _ => rfl, rfl, rfl⟩
def View.pubp (V : View) (b : Nat) (cs : Array Value) (p : Nat -> Bool) : View := { V with imm := fun b' o => if b' = b /\ p o = true then cs[o]? else V.imm b' o }
theorem ghost_pubp {V : View} {b : Nat} {cs : Array Value} {el : TypeId} {f : Nat × Nat} {p : Nat -> Bool} (ho : V.own b = some (.cells cs el f)) (hp : ∀ o, p o = true -> V.imm b o = none) : Ghost V (V.pubp b cs p) where
 sat w h := ⟨fun b' o v e => by
   simp only [View.pubp] at e
   split at e
   ·rename_i hb; obtain ⟨rfl, _⟩ := hb
    have := h.own _ _ ho
    simpa [World.cell?, this] using e
   ·exact h.imm _ _ _ e, fun b' x e => h.own b' x e⟩
 own b' e := e
 imm b' o v e := by
  have hn : ¬ (b' = b /\ p o = true) := fun hb => by obtain ⟨rfl, h2⟩ := hb; rw [hp o h2] at e; cases e
  simp only [View.pubp, if_neg hn]; exact e
 immNew b' o v e := by
  simp only [View.pubp] at e
  split at e
  ·rename_i hb; obtain ⟨rfl, _⟩ := hb; exact .inr (by rw [ho]; simp)
  ·exact .inl e
 deaf := rfl
 role := rfl
 chan c x _ h := h
def View.pub (V : View) (r : Nat) (cs : Array Value) : View := { V with imm := fun b o => if b = r then cs[o]? else V.imm b o }
theorem ghost_pub {V : View} {r : Nat} {cs : Array Value} {el : TypeId} {f : Nat × Nat} (hf : V.fresh r) (hc : V.role.chan ≠ some r) : Ghost (V.upd r (.cells cs el f)) (V.pub r cs) where
 sat w h := ⟨fun b o v e => by
   simp only [View.pub] at e
   split at e
   ·rename_i hb; subst hb
    have := h.own b (.cells cs el f) (by simp [View.upd])
    simpa [World.cell?, this] using e
   ·exact h.imm b o v e, fun b x e => by
   have hb : b ≠ r := fun hb => by subst hb; rw [show (V.pub b cs).own b = V.own b from rfl, hf.1] at e; cases e
   have e' : V.own b = some x := e
   exact h.own b x (by simpa [View.upd, hb] using e')⟩
 own b e := by
  simp only [View.upd] at e
  split at e
  ·cases e
  ·exact e
 imm b o v e := by
  have e' : V.imm b o = some v := e
  have hb : b ≠ r := fun hb => by subst hb; rw [hf.2 o] at e'; cases e'
  simpa [View.pub, hb] using e'
 immNew b o v e := by
  simp only [View.pub] at e
  split at e
  ·rename_i hb; exact .inr (by simp [View.upd, hb])
  ·exact .inl e
 deaf := rfl
 role := rfl
 chan c x hcx h := by
  have hb : c ≠ r := fun hb => by subst hb; exact hc hcx
  have h' : V.own c = some x := by simpa [View.upd, hb] using h
  exact h'
theorem Conc.freshChan {E : Env} {V : View} {H : List AObj} (hc : Conc E V H) {r : Nat} (hf : V.own r = none) : V.role.chan ≠ some r /\ V.role.group ≠ some r :=
 ⟨fun e => (hc.chan r e).1 hf, fun e => (hc.group r e).1 hf⟩
theorem Conc.add {E : Env} {V : View} {H : List AObj} (hc : Conc E V H) {r : Nat} (hf : V.fresh r) (y : Obj) {x : AObj} (hx : ObjOk (E.add r V.imm) (V.upd r y) E.n x) (hb : ∀ b, blkOf (E.add r V.imm) E.n x = some b -> b = r) : Conc (E.add r V.imm) (V.upd r y) (H ++ [x]) := by
 refine hc.turn (E' := E.add r V.imm) H.length x (E.le_add r (fun b o v h => by rw [<- hc.I]; exact h)) rfl (by simp [Env.add, hc.n]) list_push_get rfl (fun _ _ _ => rfl) (fun b z _ hz => ⟨?_, fun _ => rfl⟩) (by rw [<- hc.n]; exact hx) (fun b h => .inr ?_)
 ·have : b ≠ r := fun e => by rw [e, hf.1] at hz; cases hz
  simpa [View.upd, this] using hz
 ·rw [<- hc.n] at h
  rw [hb b h]; exact hf.1
theorem Env.add_blk (E : Env) (r : Nat) (I : Imm) : (E.add r I).blk E.n = r := by simp [Env.add]
theorem den_new {E : Env} {H : List AObj} (hn : E.n = H.length) (r : Nat) (I : Imm) : Den (E.add r I) (.op H.length 0) (.pointer (some ⟨r, 0, none⟩)) := by
 have := Den.op (E := E.add r I) (id := H.length) (off := 0) (by show _ < E.n + 1; rw [hn]; omega)
 have e : (E.add r I).blk H.length = r := by rw [<- hn]; exact E.add_blk r I
 rwa [e] at this
def AV.parts : AV -> Option (List AV)
 | .agg l => some l
 | .tup _ => none
 | .val (.agg _) => none
 | a => some [a]
theorem Den.parts {E : Env} {a : AV} {v : Value} {l : List AV} (h : Den E a v) (hp : a.parts = some l) : Denl E l v.cells := by
 have one : ∀ a v, Den E a v -> v.cells = #[v] -> Denl E [a] v.cells := fun a v h e => by
  rw [e]
  refine ⟨rfl, fun i x hx => ?_⟩
  have hi : i = 0 := by have := (List.getElem?_eq_some_iff.1 hx).1; simpa using this
  subst hi; simp at hx; subst hx; simpa using h
 cases h with
 | val => cases v <;> first | (cases hp; exact one _ _ (.val _) rfl) | cases hp
 | agg hs h => cases hp; exact ⟨hs, h⟩
 | tup hs h => cases hp
 | sl b o cap f hc he h1 h2 => cases hp; exact one _ _ (.sl b o cap f hc he h1 h2) rfl
 | nil he => cases hp; exact one _ _ (.nil he) rfl
 | osl hi hcap => cases hp; exact one _ _ (.osl hi hcap) rfl
 | rp b o f h1 h2 => cases hp; exact one _ _ (.rp b o f h1 h2) rfl
 | op hi => cases hp; exact one _ _ (.op hi) rfl
 | fn hs1 hs2 h1 h2 => cases hp; exact one _ _ (.fn hs1 hs2 h1 h2) rfl
 | ifc h => cases hp; exact one _ _ (.ifc h) rfl
 | mp hi => cases hp; exact one _ _ (.mp hi) rfl
def ZeroOf (P : Program) (t : TypeId) : Option Value := (P.info? t).bind (·.zero)
def zeros (z : Value) : List AV := z.cells.toList.map AV.of1
theorem denl_zeros (E : Env) (z : Value) : Denl E (zeros z) z.cells := by
 refine ⟨by simp [zeros], fun i a h => ?_⟩
 unfold zeros at h
 rw [List.getElem?_map] at h
 obtain ⟨x, hx, rfl⟩ := Option.map_eq_some_iff.1 h
 have : z.cells[i]? = some x := by simpa using hx
 rw [Array.getD_eq_getD_getElem?, this]
 exact den_of1 E x
section
variable {P : Program} {V : View} {α : Type} {K : α -> View -> Prop} {Kp : Value -> View -> Prop}
theorem semOk_zero {t : TypeId} {z : Value} {k : Value -> Sem α} (h : ZeroOf P t = some z) (hk : SemOk P V (k z) K Kp) : SemOk P V (zeroValue t >>= k) K Kp := by
 unfold ZeroOf at h
 obtain ⟨i, h1, h2⟩ := Option.bind_eq_some_iff.1 h
 refine semOk_bind ?_
 unfold zeroValue
 refine semOk_typeInfo h1 ?_
 rw [h2]; exact semOk_pure' hk
end
section
variable {lv : Bool} {P : Program} {r : Option Nat} {o : Oper} {s : AS} {next : AS -> Prop} {bad : AV -> AS -> Prop}
theorem step_newObj {t : TypeId} {l : List AV} (h : ∀ (E : Env) (V : View) (a : Act), Conc E V s.H -> TOk E s.T a.tmps -> ∃ cs, Denl E l cs /\ SemOk P V (execOp a.eval o) (fun nx V' => ∃ rr, V.fresh rr /\ V' = V.upd rr (.cells cs t) /\ nx = .value (.pointer (some ⟨rr, 0, none⟩))) (fun _ _ => False))
  (hn : next ((⟨s.T, s.H ++ [.cells l t]⟩ : AS).put o.dst (.op s.H.length 0))) : Step lv P r o s next bad := by
 intro E V a N Q hc ht hd hdf h1 _
 obtain ⟨cs, hcs, hsem⟩ := h E V a hc ht
 refine ⟨hdf, hsem.mono (fun nx V' hx => ?_) (fun _ _ hx => hx.elim)⟩
 obtain ⟨rr, hf, rfl, rfl⟩ := hx
 have hle : E.Le (E.add rr V.imm) := E.le_add rr (fun b o v h => by rw [<- hc.I]; exact h)
 have hc' : Conc (E.add rr V.imm) (V.upd rr (.cells cs t)) (s.H ++ [.cells l t]) := by
  refine hc.add hf _ ⟨⟨cs, ?_, hcs.mono hle⟩, fun o => ?_⟩ (fun b e => ?_)
  ·rw [Env.add_blk]; simp [View.upd]
  ·rw [Env.add_blk]; exact hf.2 o
  ·simp only [blkOf, Env.add_blk, Option.some.injEq] at e; exact e.symm
 exact h1 _ _ (a.put o.dst (.pointer (some ⟨rr, 0, none⟩))) ((⟨s.T, s.H ++ [.cells l t]⟩ : AS).put o.dst (.op s.H.length 0)) ⟨hle, put_size _ _ _, put_defers _ _ _, rfl, rfl⟩ (by rw [put_H]; exact hc')
  (TOk.putd (s := ⟨s.T, s.H ++ [.cells l t]⟩) (ht.mono hle) hd (den_new hc.n rr V.imm)) hn
theorem step_box {t : TypeId} {x : Operand} {av : AV} {l : List AV} (ho : o.op = .box t x) (hx : s.ev x = some av) (hl : av.parts = some l) (hn : next ((⟨s.T, s.H ++ [.cells l t]⟩ : AS).put o.dst (.op s.H.length 0))) : Step lv P r o s next bad :=
 step_newObj (fun E V a hc ht => ⟨(a.eval x).cells, (Den.ev ht hx).parts hl, by
  unfold execOp; rw [ho]
  dsimp only
  refine semOk_bind ?_
  unfold Instr.box newVar newRow
  refine semOk_bind (semOk_bind (semOk_bind (semOk_new fun rr hf => semOk_pure (semOk_pure' (semOk_pure' (semOk_pure' (semOk_pure' ⟨rr, hf, rfl, rfl⟩)))))))⟩) hn
theorem step_alloc {t : TypeId} {z : Value} (ho : o.op = .alloc t) (hz : ZeroOf P t = some z) (hn : next ((⟨s.T, s.H ++ [.cells (zeros z) t]⟩ : AS).put o.dst (.op s.H.length 0))) : Step lv P r o s next bad :=
 step_newObj (fun E V a hc ht => ⟨z.cells, denl_zeros E z, by
  unfold execOp; rw [ho]
  dsimp only
  refine semOk_bind ?_
  unfold Instr.alloc
  refine semOk_zero hz ?_
  unfold newVar newRow
  refine semOk_bind (semOk_bind (semOk_bind (semOk_new fun rr hf => semOk_pure (semOk_pure' (semOk_pure' (semOk_pure' (semOk_pure' ⟨rr, hf, rfl, rfl⟩)))))))⟩) hn
theorem step_makeMap {t : TypeId} (ho : o.op = .makeMap t none) (hn : next ((⟨s.T, s.H ++ [.obj (.map #[] 0)]⟩ : AS).put o.dst (.mp s.H.length))) : Step lv P r o s next bad := by
 intro E V a N Q hc ht hd hdf h1 _
 refine ⟨hdf, ?_⟩
 unfold execOp; rw [ho]
 dsimp only
 refine semOk_bind ?_
 unfold Instr.makeMap
 refine semOk_bind (semOk_new fun rr hf => semOk_pure (semOk_pure' (semOk_pure' ?_)))
 have hle : E.Le (E.add rr V.imm) := E.le_add rr (fun b o v h => by rw [<- hc.I]; exact h)
 have hc' : Conc (E.add rr V.imm) (V.upd rr (.map #[] 0)) (s.H ++ [.obj (.map #[] 0)]) := by
  refine hc.add hf _ ⟨?_, rfl, rfl, fun o => ?_⟩ (fun b e => ?_)
  ·rw [Env.add_blk]; simp [View.upd]
  ·rw [Env.add_blk]; exact hf.2 o
  ·simp only [blkOf, Env.add_blk, Option.some.injEq] at e; exact e.symm
 have hden : Den (E.add rr V.imm) (.mp s.H.length) (.map (some rr)) := by
  have := Den.mp (E := E.add rr V.imm) (id := s.H.length) (by show _ < E.n + 1; rw [hc.n]; omega)
  have e : (E.add rr V.imm).blk s.H.length = rr := by rw [<- hc.n]; exact E.add_blk rr _
  rwa [e] at this
 exact h1 _ _ (a.put o.dst (.map (some rr))) ((⟨s.T, s.H ++ [.obj (.map #[] 0)]⟩ : AS).put o.dst (.mp s.H.length)) ⟨hle, put_size _ _ _, put_defers _ _ _, rfl, rfl⟩ (by rw [put_H]; exact hc')
  (TOk.putd (s := ⟨s.T, s.H ++ [.obj (.map #[] 0)]⟩) (ht.mono hle) hd hden) hn
end
def storeAt : Array Value -> Nat -> List Value -> Array Value
 | cs, _, [] => cs
 | cs, o, v :: vs => storeAt (cs.setIfInBounds o v) (o + 1) vs
theorem storeAt_size : ∀ (vs : List Value) (cs : Array Value) (o : Nat), (storeAt cs o vs).size = cs.size
 | [], _, _ => rfl
 | v :: vs, cs, o => by rw [storeAt, storeAt_size]; simp
theorem storeAt_get : ∀ (vs : List Value) (cs : Array Value) (o k : Nat), o + vs.length <= cs.size -> (storeAt cs o vs).getD k undef = if o <= k /\ k < o + vs.length then vs.getD (k - o) undef else cs.getD k undef
 | [], cs, o, k, _ => by
  have : ¬ (o <= k /\ k < o + ([] : List Value).length) := by intro h; simp only [List.length_nil] at h; omega
  rw [if_neg this]; rfl
 | v :: vs, cs, o, k, h => by
  simp only [List.length_cons] at h
  rw [storeAt, storeAt_get vs _ (o + 1) k (by simp; omega)]
  by_cases h1 : k = o
  ·subst h1
   rw [if_neg (by omega), if_pos (by simp)]
   simp [Array.getD_eq_getD_getElem?, Array.getElem?_setIfInBounds_self_of_lt (show k < cs.size by omega)]
  ·by_cases h2 : o + 1 <= k /\ k < o + 1 + vs.length
   ·rw [if_pos h2, if_pos (by simp only [List.length_cons]; omega)]
    have : k - o = (k - (o + 1)) + 1 := by omega
    rw [this]; simp [List.getD_eq_getElem?_getD]
   ·rw [if_neg h2, if_neg (by simp only [List.length_cons]; omega)]
    simp [Array.getD_eq_getD_getElem?, Array.getElem?_setIfInBounds_ne (Ne.symm h1)]
theorem upd_upd (V : View) (b : Nat) (x y : Obj) : (V.upd b x).upd b y = V.upd b y := by
 unfold View.upd
 congr 1
 funext k; dsimp only; split <;> rfl
theorem updv_self {V : View} {b : Nat} {x : Obj} (h : V.own b = some x) : V.upd b x = V := by
 unfold View.upd
 have : (fun k => if k = b then some x else V.own k) = V.own := by
  funext k; split
  ·rename_i e; subst e; rw [h]
  ·rfl
 rw [this]
section
variable {P : Program} {K : Unit -> View -> Prop} {Kp : Value -> View -> Prop} {b off : Nat} {el : TypeId}
theorem semOk_storeCells : ∀ (vs : List Value) (i : Nat) (V : View) (cs : Array Value), V.role.group ≠ some b -> V.role.chan ≠ some b -> V.own b = some (.cells cs el (0, 0)) -> (∀ o, off + i <= o -> o < off + i + vs.length -> V.imm b o = none) -> off + i + vs.length <= cs.size -> (∀ v ∈ vs, v.one = true) ->
  K () (V.upd b (.cells (storeAt cs (off + i) vs) el (0, 0))) -> SemOk P V (storeCells ⟨b, off, none⟩ vs i) K Kp
 | [], i, V, cs, hg, hc, ho, hi, hl, hv, h => by
  unfold storeCells
  rw [show storeAt cs (off + i) [] = cs from rfl, updv_self ho] at h
  exact semOk_pure' h
 | v :: vs, i, V, cs, hg, hc, ho, hi, hl, hv, h => by
  unfold storeCells
  rw [add_plain]
  simp only [List.length_cons] at hl hi
  refine semOk_bind (semOk_store ho (by omega) (hi _ (by omega) (by omega)) (hv v (List.mem_cons_self ..)) (by omega) (.inl hg) hc (semOk_pure ?_))
  refine semOk_storeCells vs (i + 1) (V.upd b (.cells (cs.setIfInBounds (off + i) v) el (0, 0))) (cs.setIfInBounds (off + i) v) hg hc (by simp [View.upd]) (fun o h1 h2 => hi o (by omega) (by omega)) (by simp; omega) (fun x hx => hv x (List.mem_cons_of_mem _ hx)) ?_
  rw [upd_upd]
  exact h
end
theorem Conc.set {E : Env} {V : View} {H : List AObj} (hc : Conc E V H) {id : Nat} {l l' : List AV} {el : TypeId} (hk : H[id]? = some (.cells l el)) {cs' : Array Value} (hd : Denl E l' cs') : Conc E (V.upd (E.blk id) (.cells cs' el (0, 0))) (H.set id (.cells l' el)) := by
 obtain ⟨⟨cs, h1, _⟩, h3⟩ := hc.obj id _ hk
 refine hc.turn id (.cells l' el) (Env.Le.refl E) hc.I (by simpa using hc.n) list_set_get rfl (fun _ _ _ => rfl) (fun b y hb hy => ⟨?_, fun _ => rfl⟩) ⟨⟨cs', by simp [View.upd], hd⟩, h3⟩ (fun b h => .inl ⟨_, hk, h⟩)
 have : b ≠ E.blk id := fun e => hb _ hk (by rw [e]; rfl)
 simpa [View.upd, this] using hy
theorem storeAt_before : ∀ (vs : List Value) (cs : Array Value) (off o : Nat), o < off -> (storeAt cs off vs)[o]? = cs[o]?
 | [], _, _, _, _ => rfl
 | v :: vs, cs, off, o, h => by
  rw [storeAt, storeAt_before vs _ (off + 1) o (by omega), Array.getElem?_setIfInBounds_ne (by omega)]
theorem Conc.setP {E : Env} {V : View} {H : List AObj} (hc : Conc E V H) {id p : Nat} {l l' : List AV} {el : TypeId} (hk : H[id]? = some (.part p l el)) {cs cs' : Array Value} (h1 : V.own (E.blk id) = some (.cells cs el (0, 0))) (hd : Denp E l' cs') (hs : ∀ o, o < p -> cs'[o]? = cs[o]?) : Conc E (V.upd (E.blk id) (.cells cs' el (0, 0))) (H.set id (.part p l' el)) := by
 obtain ⟨⟨cs1, q1, _, q2⟩, h3⟩ := hc.obj id _ hk
 rw [h1] at q1
 cases q1
 refine hc.turn id (.part p l' el) (Env.Le.refl E) hc.I (by simpa using hc.n) list_set_get rfl (fun _ _ _ => rfl) (fun b y hb hy => ⟨?_, fun _ => rfl⟩) ⟨⟨cs', by simp [View.upd], hd, fun o ho => (q2 o ho).trans (hs o ho).symm⟩, h3⟩ (fun b h => .inl ⟨_, hk, h⟩)
 have : b ≠ E.blk id := fun e => hb _ hk (by rw [e]; rfl)
 simpa [View.upd, this] using hy
theorem Conc.setO {E : Env} {V : View} {H : List AObj} (hc : Conc E V H) {id sz : Nat} {l l' : List AV} {el : TypeId} (hk : H[id]? = some (.own sz l el)) {cs' : Array Value} (hd : Denp E l' cs') (hz : cs'.size = (E.room id 0).2 * sz) : Conc E (V.upd (E.blk id) (.cells cs' el (0, 0))) (H.set id (.own sz l' el)) := by
 obtain ⟨⟨cs, h1, _⟩, h3⟩ := hc.obj id _ hk
 refine hc.turn id (.own sz l' el) (Env.Le.refl E) hc.I (by simpa using hc.n) list_set_get rfl (fun _ _ _ => rfl) (fun b y hb hy => ⟨?_, fun _ => rfl⟩) ⟨⟨cs', by simp [View.upd], hd, hz⟩, h3⟩ (fun b h => .inl ⟨_, hk, h⟩)
 have : b ≠ E.blk id := fun e => hb _ hk (by rw [e]; rfl)
 simpa [View.upd, this] using hy
theorem Conc.setObj {E : Env} {V : View} {H : List AObj} (hc : Conc E V H) {id : Nat} {x y : Obj} (hk : H[id]? = some (.obj x)) (h1 : y.isCells = false) (h2 : y.isChan = false) : Conc E (V.upd (E.blk id) y) (H.set id (.obj y)) := by
 obtain ⟨p1, p2, p3, p4⟩ := hc.obj id _ hk
 refine hc.turn id (.obj y) (Env.Le.refl E) hc.I (by simpa using hc.n) list_set_get rfl (fun _ _ _ => rfl) (fun b z hb hz => ⟨?_, fun _ => rfl⟩) ⟨by simp [View.upd], h1, h2, p4⟩ (fun b h => .inl ⟨_, hk, h⟩)
 have : b ≠ E.blk id := fun e => hb _ hk (by rw [e]; rfl)
 simpa [View.upd, this] using hz
theorem leaf_one {E : Env} {a : AV} {v : Value} (h : Den E a v) (hl : a.leaf = true) : v.one = true := by
 cases h with
 | val x => exact hl
 | agg _ _ => cases hl
 | tup _ _ => cases hl
 | _ => rfl
def putAt (l : List AV) (off : Nat) (lp : List AV) : List AV := l.take off ++ lp ++ l.drop (off + lp.length)
theorem denl_putAt {E : Env} {l lp : List AV} {cs vs : Array Value} {off : Nat} (h : Denl E l cs) (k : Denl E lp vs) (hl : off + lp.length <= l.length) : Denl E (putAt l off lp) (storeAt cs off vs.toList) := by
 have hv : vs.toList.length = lp.length := by simpa using k.1
 refine ⟨by rw [storeAt_size, h.1]; simp [putAt]; omega, fun i a e => ?_⟩
 rw [storeAt_get _ _ _ _ (by rw [h.1, hv]; exact hl), hv]
 unfold putAt at e
 by_cases h1 : i < off
 ·rw [if_neg (by omega)]
  rw [List.append_assoc, List.getElem?_append_left (by simp; omega), List.getElem?_take, if_pos h1] at e
  exact h.2 i a e
 ·by_cases h2 : i < off + lp.length
  ·rw [if_pos ⟨by omega, h2⟩]
   rw [List.getElem?_append_left (by simp; omega), List.getElem?_append_right (by simp; omega)] at e
   have e' : lp[i - off]? = some a := by
    have : min off l.length = off := by omega
    simpa [this] using e
   have := k.2 _ a e'
   simpa [Array.getD_eq_getD_getElem?, List.getD_eq_getElem?_getD] using this
  ·rw [if_neg (by omega)]
   rw [List.getElem?_append_right (by simp; omega), List.getElem?_drop] at e
   have e' : l[i]? = some a := by
    have h3 : off + lp.length + (i - (l.take off ++ lp).length) = i := by simp; omega
    rw [h3] at e; exact e
   exact h.2 i a e'
theorem denp_putAt {E : Env} {l lp : List AV} {cs vs : Array Value} {off : Nat} (h : Denp E l cs) (k : Denl E lp vs) (hl : off + lp.length <= l.length) : Denp E (putAt l off lp) (storeAt cs off vs.toList) := by
 have hv : vs.toList.length = lp.length := by simpa using k.1
 refine ⟨by rw [storeAt_size]; have := h.1; simp [putAt]; omega, fun i a e => ?_⟩
 rw [storeAt_get _ _ _ _ (by have := h.1; rw [hv]; omega), hv]
 unfold putAt at e
 by_cases h1 : i < off
 ·rw [if_neg (by omega)]
  rw [List.append_assoc, List.getElem?_append_left (by simp; omega), List.getElem?_take, if_pos h1] at e
  exact h.2 i a e
 ·by_cases h2 : i < off + lp.length
  ·rw [if_pos ⟨by omega, h2⟩]
   rw [List.getElem?_append_left (by simp; omega), List.getElem?_append_right (by simp; omega)] at e
   have e' : lp[i - off]? = some a := by
    have : min off l.length = off := by omega
    simpa [this] using e
   have := k.2 _ a e'
   simpa [Array.getD_eq_getD_getElem?, List.getD_eq_getElem?_getD] using this
  ·rw [if_neg (by omega)]
   rw [List.getElem?_append_right (by simp; omega), List.getElem?_drop] at e
   have e' : l[i]? = some a := by
    have h3 : off + lp.length + (i - (l.take off ++ lp).length) = i := by simp; omega
    rw [h3] at e; exact e
   exact h.2 i a e'
theorem denl_leaves {E : Env} {lp : List AV} {vs : Array Value} (h : Denl E lp vs) (hleaf : ∀ a ∈ lp, a.leaf = true) : ∀ v ∈ vs.toList, v.one = true := by
 intro v hv
 obtain ⟨j, hj⟩ := List.mem_iff_getElem?.1 hv
 have hjl : j < lp.length := by have := (List.getElem?_eq_some_iff.1 hj).1; have := h.1; simp at *; omega
 have := h.2 j lp[j] (List.getElem?_eq_getElem hjl)
 have hj' : vs[j]? = some v := by simpa using hj
 rw [Array.getD_eq_getD_getElem?, hj'] at this
 exact leaf_one this (hleaf _ (List.getElem_mem hjl))
section
variable {lv : Bool} {P : Program} {r : Option Nat} {o : Oper} {s : AS} {next : AS -> Prop} {bad : AV -> AS -> Prop}
theorem step_store {t : TypeId} {x y : Operand} {id off n : Nat} {l lp : List AV} {el : TypeId} {g : Bool} {av : AV} (ho : o.op = .store t x y) (ht : Ty P t = some (n, g)) (hx : s.ev x = some (.op id off)) (hk : s.H[id]? = some (.cells l el)) (hy : s.ev y = some av) (hp : av.parts = some lp) (hn' : lp.length = n) (hl : off + lp.length <= l.length)
  (hleaf : ∀ a ∈ lp, a.leaf = true) (hn : next ((⟨s.T, s.H.set id (.cells (putAt l off lp) el)⟩ : AS).put o.dst (.val undef))) : Step lv P r o s next bad := by
 intro E V a N Q hc htk hd hdf h1 _
 obtain ⟨i, d, q1, q2, rfl, q4⟩ := Ty.out ht
 have hdx := Den.ev htk hx
 generalize hvx : a.eval x = vx at hdx
 cases hdx with
 | op hid =>
  have hden := (Den.ev htk hy).parts hp
  obtain ⟨⟨cs, p1, p2⟩, p3⟩ := hc.obj id _ hk
  obtain ⟨g1, g2⟩ := hc.notGroup hk rfl
  refine ⟨hdf, ?_⟩
  unfold execOp; rw [ho]; simp only [hvx]
  refine semOk_bind ?_
  unfold Instr.storeAt Instr.sureAddr
  refine semOk_bind (semOk_pure' ?_)
  unfold storeVar
  refine semOk_sizeOf q1 ?_
  rw [if_neg (by rw [hden.1, hn']; simp)]
  refine semOk_storeCells _ 0 V cs g1 g2 p1 (fun o _ _ => p3 o) (by have := hden.1; have := p2.1; simp; omega) (denl_leaves hden hleaf) ?_
  rw [Nat.add_zero]
  exact semOk_pure' (h1 E _ (a.put o.dst undef) _ ⟨Env.Le.refl E, put_size _ _ _, put_defers _ _ _, rfl, rfl⟩ (by rw [put_H]; exact hc.set hk (denl_putAt p2 hden hl))
   (TOk.putd (s := ⟨s.T, s.H.set id (.cells (putAt l off lp) el)⟩) htk hd (.val undef)) hn)
theorem step_storeP {t : TypeId} {x y : Operand} {id off n p : Nat} {l lp : List AV} {el : TypeId} {g : Bool} {av : AV} (ho : o.op = .store t x y) (ht : Ty P t = some (n, g)) (hx : s.ev x = some (.op id off)) (hk : s.H[id]? = some (.part p l el)) (hpo : p <= off) (hy : s.ev y = some av) (hp : av.parts = some lp) (hn' : lp.length = n) (hl : off + lp.length <= l.length)
  (hleaf : ∀ a ∈ lp, a.leaf = true) (hn : next ((⟨s.T, s.H.set id (.part p (putAt l off lp) el)⟩ : AS).put o.dst (.val undef))) : Step lv P r o s next bad := by
 intro E V a N Q hc htk hd hdf h1 _
 obtain ⟨i, d, q1, q2, rfl, q4⟩ := Ty.out ht
 have hdx := Den.ev htk hx
 generalize hvx : a.eval x = vx at hdx
 cases hdx with
 | op hid =>
  have hden := (Den.ev htk hy).parts hp
  obtain ⟨⟨cs, p1, p2, p4⟩, p3⟩ := hc.obj id _ hk
  obtain ⟨g1, g2⟩ := hc.notGroup hk rfl
  refine ⟨hdf, ?_⟩
  unfold execOp; rw [ho]; simp only [hvx]
  refine semOk_bind ?_
  unfold Instr.storeAt Instr.sureAddr
  refine semOk_bind (semOk_pure' ?_)
  unfold storeVar
  refine semOk_sizeOf q1 ?_
  rw [if_neg (by rw [hden.1, hn']; simp)]
  refine semOk_storeCells _ 0 V cs g1 g2 p1 (fun o _ _ => p3 o (by omega)) (by have := hden.1; have := p2.1; simp; omega) (denl_leaves hden hleaf) ?_
  rw [Nat.add_zero]
  exact semOk_pure' (h1 E _ (a.put o.dst undef) _ ⟨Env.Le.refl E, put_size _ _ _, put_defers _ _ _, rfl, rfl⟩ (by rw [put_H]; exact hc.setP hk p1 (denp_putAt p2 hden hl) fun o ho => storeAt_before _ _ _ _ (by omega))
   (TOk.putd (s := ⟨s.T, s.H.set id (.part p (putAt l off lp) el)⟩) htk hd (.val undef)) hn)
theorem step_storeO {t : TypeId} {x y : Operand} {id off n p : Nat} {l lp : List AV} {el : TypeId} {g : Bool} {av : AV} (ho : o.op = .store t x y) (ht : Ty P t = some (n, g)) (hx : s.ev x = some (.op id off)) (hk : s.H[id]? = some (.own p l el)) (hy : s.ev y = some av) (hp : av.parts = some lp) (hn' : lp.length = n) (hl : off + lp.length <= l.length)
  (hleaf : ∀ a ∈ lp, a.leaf = true) (hn : next ((⟨s.T, s.H.set id (.own p (putAt l off lp) el)⟩ : AS).put o.dst (.val undef))) : Step lv P r o s next bad := by
 intro E V a N Q hc htk hd hdf h1 _
 obtain ⟨i, d, q1, q2, rfl, q4⟩ := Ty.out ht
 have hdx := Den.ev htk hx
 generalize hvx : a.eval x = vx at hdx
 cases hdx with
 | op hid =>
  have hden := (Den.ev htk hy).parts hp
  obtain ⟨⟨cs, p1, p2, p4⟩, p3⟩ := hc.obj id _ hk
  obtain ⟨g1, g2⟩ := hc.notGroup hk rfl
  refine ⟨hdf, ?_⟩
  unfold execOp; rw [ho]; simp only [hvx]
  refine semOk_bind ?_
  unfold Instr.storeAt Instr.sureAddr
  refine semOk_bind (semOk_pure' ?_)
  unfold storeVar
  refine semOk_sizeOf q1 ?_
  rw [if_neg (by rw [hden.1, hn']; simp)]
  refine semOk_storeCells _ 0 V cs g1 g2 p1 (fun o _ _ => p3 o) (by have := hden.1; have := p2.1; simp; omega) (denl_leaves hden hleaf) ?_
  rw [Nat.add_zero]
  exact semOk_pure' (h1 E _ (a.put o.dst undef) _ ⟨Env.Le.refl E, put_size _ _ _, put_defers _ _ _, rfl, rfl⟩ (by rw [put_H]; exact hc.setO hk (denp_putAt p2 hden hl) (by rw [storeAt_size]; exact p4))
   (TOk.putd (s := ⟨s.T, s.H.set id (.own p (putAt l off lp) el)⟩) htk hd (.val undef)) hn)
theorem Conc.pub {E : Env} {V : View} {H : List AObj} (hc : Conc E V H) {r : Nat} (hf : V.fresh r) (cs : Array Value) : E.Le { E with I := (V.pub r cs).imm } /\ Conc { E with I := (V.pub r cs).imm } (V.pub r cs) H := by
 have hle : E.Le { E with I := (V.pub r cs).imm } := ⟨fun b o v h => by
  rw [hc.I] at h
  have hb : b ≠ r := fun hb => by subst hb; rw [hf.2 o] at h; cases h
  simpa [View.pub, hb] using h, Nat.le_refl _, fun _ _ => rfl, fun _ _ => Nat.le_refl _, fun _ _ _ _ => rfl, rfl, rfl⟩
 have hlt : ∀ (k : Nat) y, H[k]? = some y -> k < E.n := fun k y h => by rw [hc.n]; exact (List.getElem?_eq_some_iff.1 h).1
 refine ⟨hle, rfl, hc.n, fun k x h => (hc.obj k x h).mono hle (hlt k x h) rfl (fun b y _ hb => hb) (fun b hb o => ?_), hc.inj, fun g hg => ?_, fun g hg => ?_, hc.top, fun b y hg => ?_⟩
 ·obtain ⟨y, hy⟩ := (hc.obj k x h).blk_own hb
  have hne : b ≠ r := fun e => by subst e; rw [hf.1] at hy; cases hy
  simp [View.pub, hne]
 ·obtain ⟨h0, h1, h2⟩ := hc.group g hg
  have hne : g ≠ r := fun e => by subst e; exact h0 hf.1
  exact ⟨h0, fun o => by simp [View.pub, hne, h1 o], h2⟩
 ·obtain ⟨h0, h1, h2⟩ := hc.chan g hg
  have hne : g ≠ r := fun e => by subst e; exact h0 hf.1
  exact ⟨h0, fun o => by simp [View.pub, hne, h1 o], h2⟩
 ·obtain ⟨h0, h1, h2⟩ := hc.fr b y hg
  have hne : b ≠ r := fun e => by subst e; rw [hf.1] at h0; cases h0
  exact ⟨h0, fun o => by simp [View.pub, hne, h1 o], h2⟩
theorem Den.published {E : Env} {V : View} {H : List AObj} (hc : Conc E V H) {r : Nat} (hf : V.fresh r) {cs : Array Value} {l : List AV} (h : Denl E l cs) {n cap : Nat} (hcap : n <= cap) {e : End} (he : EndOk { E with I := (V.pub r cs).imm } e (some ⟨r, 0, none⟩) n cap) : Den { E with I := (V.pub r cs).imm } (.sl n l e) (.slice (some ⟨r, 0, none⟩) n cap) := by
 refine .sl r 0 cap (fun i => cs.getD i undef) hcap he (fun i hi => ?_) fun i x hx => (h.2 i x hx).mono (hc.pub hf cs).1
 have hlt : i < cs.size := by rw [h.1]; exact hi
 simp [View.pub, Array.getD_eq_getD_getElem?, Array.getElem?_eq_getElem hlt]
def fillA (place : Nat -> Option (Nat × Nat)) (cells : List AV) : List (Nat × AV) -> Option (List AV)
 | [] => some cells
 |(i, a) :: rest => match place i, a.parts with
  | some (off, size), some lp => if lp.length ≠ size \/ off + lp.length > cells.length then none else fillA place (putAt cells off lp) rest
  | _, _ => none
theorem foldl_storeAt : ∀ (vs : List Value) (k off : Nat) (cs : Array Value), (vs.zipIdx k).foldl (fun (cs : Array Value) (x : Value × Nat) => cs.setIfInBounds (off + x.2) x.1) cs = storeAt cs (off + k) vs
 | [], _, _, _ => rfl
 | v :: vs, k, off, cs => by
  rw [List.zipIdx_cons, List.foldl_cons, foldl_storeAt vs (k + 1) off]
  rfl
theorem fill_ok {E : Env} {place : Nat -> Option (Nat × Nat)} : ∀ {parts : List (Nat × AV)} {vs : List (Nat × Value)} {l l' : List AV} {cs : Array Value}, Denl E l cs -> parts.length = vs.length -> (∀ (j : Nat) p q, parts[j]? = some p -> vs[j]? = some q -> p.1 = q.1 /\ Den E p.2 q.2) ->
  fillA place l parts = some l' -> ∃ cs', Instr.fill place cs vs = some cs' /\ Denl E l' cs'
 | [], [], l, l', cs, h, _, _, e => by cases e; exact ⟨cs, rfl, h⟩
 | [], _ :: _, _, _, _, _, h, _, _ => by simp at h
 | _ :: _, [], _, _, _, _, h, _, _ => by simp at h
 |(i, a) :: parts, (i', v) :: vs, l, l', cs, h, hl, hp, e => by
  obtain ⟨e1, hd⟩ := hp 0 (i, a) (i', v) rfl rfl
  have e1' : i = i' := e1
  subst e1'
  simp only [fillA] at e
  split at e
  ·rename_i off size lp hpl hpa
   split at e
   ·cases e
   ·rename_i hc
    have hden := Den.parts (v := v) hd hpa
    have hsz : v.cells.size = lp.length := hden.1
    have hle : off + lp.length <= l.length := by omega
    obtain ⟨cs', h1, h2⟩ := fill_ok (denl_putAt h hden hle) (by simpa using hl) (fun j p q x y => hp (j + 1) p q (by simpa using x) (by simpa using y)) e
    refine ⟨cs', ?_, h2⟩
    unfold Instr.fill
    rw [hpl]
    simp only
    rw [if_neg (by rw [hsz, h.1]; simp; omega)]
    have := foldl_storeAt v.cells.toList 0 off cs
    rw [Nat.add_zero] at this
    rw [<- h1, <- this]
    congr 1
    rw [<- Array.toList_zipIdx, Array.foldl_toList]
  ·cases e
def evp (s : AS) : List (Nat × Operand) -> Option (List (Nat × AV))
 | [] => some []
 |(i, x) :: l => match s.ev x, evp s l with
  | some a, some zas => some ((i, a) :: zas)
  | _, _ => none
theorem evp_den {E : Env} {s : AS} {a : Act} (k : TOk E s.T a.tmps) : ∀ {l : List (Nat × Operand)} {zas : List (Nat × AV)}, evp s l = some zas -> zas.length = (l.map fun (i, x) => (i, a.eval x)).length /\ ∀ (j : Nat) p q, zas[j]? = some p -> (l.map fun (i, x) => (i, a.eval x))[j]? = some q -> p.1 = q.1 /\ Den E p.2 q.2
 | [], zas, h => by cases h; exact ⟨rfl, by simp⟩
 |(i, x) :: l, zas, h => by
  simp only [evp] at h
  split at h
  ·rename_i av avs h1 h2
   cases h
   obtain ⟨ih1, ih2⟩ := evp_den k h2
   refine ⟨by simpa using ih1, fun j p q e1 e2 => ?_⟩
   cases j with
   | zero => simp at e1 e2; subst e1 e2; exact ⟨rfl, Den.ev k h1⟩
   | succ j => exact ih2 j p q (by simpa using e1) (by simpa using e2)
  ·cases h
def SliceOf (P : Program) (t : TypeId) : Option (TypeId × Nat × Value) := match P.underlying t with
 | some (.slice e) => (P.info? e).bind fun i => i.zero.map fun z => (e, i.size, z)
 | _ => none
def zeroRow (z : Value) (m : Nat) : List AV := (List.range m).map fun i => AV.of1 (z.cells[i % z.cells.size]!)
inductive Places where
 | fields (l : List (Nat × Nat))
 | elems (sz : Nat)
def Places.at : Places -> Nat -> Option (Nat × Nat)
 | .fields l, i => l[i]?
 | .elems sz, i => some (i * sz, sz)
def BuildOf (P : Program) (t : TypeId) : Option (Places × Value) := (ZeroOf P t).bind fun z => match P.underlying t with
 | some (.struct fs) => (fs.toList.mapM fun f => (P.info? f.type).map fun i => (f.offset, i.size)).map fun l => (.fields l, z)
 | some (.array _ e) => (P.info? e).map fun i => (.elems i.size, z)
 | _ => none
theorem semOk_places {P : Program} {V : View} {Kp : Value -> View -> Prop} : ∀ (fs : List Field) (l : List (Nat × Nat)) {K : List (Nat × Nat) -> View -> Prop}, fs.mapM (fun f => (P.info? f.type).map fun i => (f.offset, i.size)) = some l ->
  K l V -> SemOk P V (fs.mapM fun f => (do pure (f.offset, <- sizeOf f.type) : Sem (Nat × Nat))) K Kp
 | [], l, K, h, hk => by
  simp at h; subst h
  rw [List.mapM_nil]
  exact semOk_pure' hk
 | f :: fs, l, K, h, hk => by
  simp only [List.mapM_cons, Option.pure_def, Option.bind_eq_bind, Option.bind_eq_some_iff, Option.some.injEq] at h
  obtain ⟨b, h1, bs, h2, rfl⟩ := h
  obtain ⟨i, hi, rfl⟩ := dsome h1
  rw [List.mapM_cons]
  exact semOk_bind (semOk_sizeOf hi (semOk_pure' (semOk_bind (semOk_places fs bs h2 (semOk_pure' hk)))))
theorem q_build {t : TypeId} {parts : Array (Nat × Operand)} {pl : Places} {z : Value} {zas : List (Nat × AV)} {l : List AV} (ho : o.op = .build t parts) (ht : BuildOf P t = some (pl, z)) (hp : evp s parts.toList = some zas)
  (hl : fillA pl.at (zeros z) zas = some l) : QStep lv P r o s (.agg l) :=
 q_val (fun E V a hc htk => by
  unfold BuildOf at ht
  obtain ⟨z', hz, ht⟩ := Option.bind_eq_some_iff.1 ht
  obtain ⟨hlen, hden⟩ := evp_den htk hp
  unfold execOp; rw [ho]
  dsimp only
  refine semOk_bind ?_
  unfold Instr.build
  refine semOk_zero hz ?_
  split at ht
  ·rename_i fs hu
   obtain ⟨lp, h1, h2⟩ := dsome ht
   cases h2
   obtain ⟨cs', hfill, hcs'⟩ := fill_ok (denl_zeros E z) hlen hden hl
   refine semOk_underlying hu ?_
   dsimp only
   have e : fs = fs.toList.toArray := by simp
   rw [e, List.mapM_toArray]
   refine semOk_bind ?_
   refine semOk_bind (semOk_places fs.toList lp h1 ?_)
   refine semOk_pure' ?_
   rw [Array.toList_map]
   have e2 : (fun x => lp.toArray[x]?) = Places.at (.fields lp) := by funext x; simp [Places.at]
   rw [e2, hfill]
   exact semOk_pure' (semOk_pure' ⟨rfl, _, rfl, .agg hcs'.1 hcs'.2⟩)
  ·rename_i n e hu
   obtain ⟨i, h1, h2⟩ := dsome ht
   cases h2
   obtain ⟨cs', hfill, hcs'⟩ := fill_ok (denl_zeros E z) hlen hden hl
   refine semOk_underlying hu ?_
   dsimp only
   refine semOk_sizeOf h1 ?_
   rw [Array.toList_map]
   have e2 : (fun j => some (j * i.size, i.size)) = Places.at (.elems i.size) := rfl
   rw [e2, hfill]
   exact semOk_pure' (semOk_pure' ⟨rfl, _, rfl, .agg hcs'.1 hcs'.2⟩)
  ·cases ht)
theorem denl_zeroRow {E : Env} (z : Value) (m : Nat) : Denl E (zeroRow z m) ((Array.range m).map (fun x => z.cells[x % z.cells.size]!)) := by
 refine ⟨by simp [zeroRow], fun j x hx => ?_⟩
 unfold zeroRow at hx
 rw [List.getElem?_map] at hx
 obtain ⟨k, hk, rfl⟩ := Option.map_eq_some_iff.1 hx
 have hj : j < m := by have := (List.getElem?_eq_some_iff.1 hk).1; simpa using this
 have hmj : k = j := by rw [List.getElem?_range hj] at hk; cases hk; rfl
 subst hmj
 simp only [Array.getD_eq_getD_getElem?, Array.getElem?_map, Array.getElem?_range, hj, if_true, Option.map_some, Option.getD_some]
 exact den_of1 E _
theorem q_buildSlice {t e : TypeId} {len sz : Nat} {z : Value} {parts : Array (Nat × Operand)} {zas : List (Nat × AV)} {l : List AV} (ho : o.op = .buildSlice t len parts) (ht : SliceOf P t = some (e, sz, z)) (hsz : len * sz <= 2 ^ 24) (hp : evp s parts.toList = some zas)
  (hl : fillA (Places.at (.elems sz)) (zeroRow z (len * sz)) zas = some l) : QStep lv P r o s (.sl len l .exact) := by
 intro E V a N Q hc htk hdf h1
 unfold SliceOf at ht
 split at ht
 ·rename_i e' hu
  obtain ⟨i, hi, ht⟩ := Option.bind_eq_some_iff.1 ht
  obtain ⟨z', hz, ht⟩ := Option.map_eq_some_iff.1 ht
  cases ht
  refine ⟨hdf, ?_⟩
  unfold execOp; rw [ho]
  dsimp only
  refine semOk_bind ?_
  unfold Instr.buildSlice
  refine semOk_underlying hu ?_
  dsimp only
  refine semOk_sizeOf hi ?_
  rw [if_neg (by omega)]
  obtain ⟨hlen, hden⟩ := evp_den htk hp
  obtain ⟨cs', hfill, hcs'⟩ := fill_ok (denl_zeroRow (E := E) z (len * i.size)) hlen hden hl
  have fin : ∀ (rr : Nat), V.fresh rr -> SemOk P (V.upd rr (.cells cs' e)) (pure (Next.value (.slice (some ⟨rr, 0, none⟩) len len))) (Upon lv P r o a N Q) (fun v V' => Q (.panic [{ v, recovered := false }]) a V') := fun rr hf =>
   SemOk.ghost (ghost_pub hf (hc.freshChan hf.1).1) (semOk_pure' (h1 _ _ _ (hc.pub hf cs').1 rfl rfl (hc.pub hf cs').2 (Den.published hc hf hcs' (Nat.le_refl _) rfl)))
  have e2 : (fun j => some (j * i.size, i.size)) = Places.at (.elems i.size) := rfl
  rw [e2]
  by_cases h0 : len * i.size = 0
  ·rw [if_pos h0]
   refine semOk_bind (semOk_pure' ?_)
   rw [h0] at hfill ⊢
   rw [show Array.range 0 = #[] from rfl] at hfill ⊢
   simp only [List.map_toArray, List.map_nil, Array.toList_map] at hfill ⊢
   rw [hfill]
   unfold newRow
   exact semOk_bind (semOk_bind (semOk_bind (semOk_new fun rr hf => semOk_pure (semOk_pure' (semOk_pure' (semOk_pure' (fin rr hf)))))))
  ·rw [if_neg h0]
   refine semOk_bind (semOk_bind ?_)
   unfold typeInfo
   refine semOk_bind (semOk_program (semOk_pure ?_))
   rw [hi]
   refine semOk_pure' ?_
   rw [hz]
   refine semOk_pure' (semOk_bind (semOk_pure' ?_))
   rw [Array.toList_map, hfill]
   unfold newRow
   exact semOk_bind (semOk_bind (semOk_bind (semOk_new fun rr hf => semOk_pure (semOk_pure' (semOk_pure' (semOk_pure' (fin rr hf)))))))
 ·cases ht
end
open Go.Conc
def notInt (P : Program) (t : TypeId) : Bool := match P.underlying t with
 | some (.int _) => false
 | some _ => true
 | none => false
def AppOf (P : Program) (t t' : TypeId) : Option (TypeId × Nat × Value) := match P.underlying t with
 | some (.slice e) => (P.info? e).bind fun i => i.zero.bind fun z => if z.cells.size = i.size /\ i.bytes <= 2 ^ 16 /\ i.bytes ≠ 0 /\ notInt P t' = true then some (e, i.size, z) else none
 | _ => none
theorem AppOf.out {P : Program} {t t' e : TypeId} {sz : Nat} {z : Value} (h : AppOf P t t' = some (e, sz, z)) : ∃ i d, P.underlying t = some (.slice e) /\ P.info? e = some i /\ i.zero = some z /\ i.size = sz /\ z.cells.size = sz /\ i.bytes <= 2 ^ 16 /\ i.bytes ≠ 0 /\ P.underlying t' = some d /\ (∀ k, d ≠ .int k) := by
 unfold AppOf at h
 split at h
 ·rename_i e' hu
  obtain ⟨i, h1, h⟩ := Option.bind_eq_some_iff.1 h
  obtain ⟨z', h2, h⟩ := Option.bind_eq_some_iff.1 h
  split at h
  ·rename_i hc
   obtain ⟨c1, c2, c3, c4⟩ := hc
   cases h
   unfold notInt at c4
   split at c4
   ·cases c4
   ·rename_i d hd hne
    exact ⟨i, d, hu, h1, h2, rfl, c1, c2, c3, hne, fun k e => hd k e⟩
   ·cases c4
  ·cases h
 ·cases h
def AS.src (s : AS) (sz : Nat) : AV -> Option (Nat × List AV)
 | .sl m l _ => some (m, l.take (m * sz))
 | .osl id off m _ => match s.H[id]? with
  | some (.cells l _) | some (.part _ l _) | some (.own _ l _) => some (m, (l.drop off).take (m * sz))
  | _ => none
 | _ => none
section
variable {P : Program} {E : Env} {V : View} {s : AS} {K : Array Value -> View -> Prop} {Kp : Value -> View -> Prop}
theorem denl_take {l : List AV} {f : Nat -> Value} {n : Nat} (hn : n <= l.length) (h : ∀ (i : Nat) x, l[i]? = some x -> Den E x (f i)) : Denl E (l.take n) ((List.range n).map f).toArray := by
 have := den_take hn h
 cases this with
 | agg h1 h2 => exact ⟨h1, h2⟩
theorem semOk_first (hc : Conc E V s.H) {av : AV} {v : Value} (hd : Den E av v) {sz m k : Nat} {l : List AV} (h : s.src sz av = some (m, l)) (hl : l.length = m * sz) (hk : k <= m) (hK : ∀ cs, Denl E (l.take (k * sz)) cs -> K cs V) : SemOk P V (Builtin.firstCells sz k v) K Kp := by
 have hks : k * sz <= m * sz := Nat.mul_le_mul_right _ hk
 cases hd with
 | sl b o cap f hcap he h1 h2 =>
  cases h
  rename_i l _
  simp only [List.length_take] at hl
  have e : (l.take (m * sz)).take (k * sz) = l.take (k * sz) := by rw [List.take_take]; congr 1; omega
  rw [e] at hK
  unfold Builtin.firstCells
  exact semOk_cells (f := f) (fun hp => (hc.immNotGroup (h1 0 (by omega))).1) (fun j hj => by unfold View.get; rw [<- hc.I, h1 j (by omega)]) (hK _ (denl_take (by omega) h2))
 | nil he =>
  cases h
  have : k = 0 := by omega
  subst this
  have hK := hK #[] ⟨by simp, by simp⟩
  unfold Builtin.firstCells
  split
  ·rw [Nat.zero_mul]; exact semOk_pure' hK
  ·exact semOk_pure' hK
  ·rename_i h; cases h
  ·rename_i a _ _ h1 h2 _
   cases a with
   | none => exact (h2 _ _ rfl).elim
   | some x => exact (h1 _ _ _ rfl).elim
 | osl hi hcap =>
  rename_i id off m' cap cap'
  simp only [AS.src] at h
  cases hq : s.H[id]? with
  | none => rw [hq] at h; cases h
  | some ob =>
   rw [hq] at h
   cases ob with
   | cells l' el =>
    cases h
    obtain ⟨⟨cs, ho, hs, hden⟩, him⟩ := hc.obj id _ hq
    simp only [List.length_take, List.length_drop] at hl
    have e : ((l'.drop off).take (m * sz)).take (k * sz) = (l'.drop off).take (k * sz) := by rw [List.take_take]; congr 1; omega
    rw [e] at hK
    unfold Builtin.firstCells
    refine semOk_cells (f := fun i => cs.getD (off + i) undef) (fun _ => (hc.notGroup hq rfl).1) (fun j hj => ?_) (hK _ (denl_take (by simp only [List.length_drop]; omega) fun i x hx => ?_))
    ·unfold View.get
     rw [him, ho]
     have hlt : off + j < cs.size := by omega
     simp only [Array.getD_eq_getD_getElem?, Array.getElem?_eq_getElem hlt, Option.getD_some]
    ·rw [List.getElem?_drop] at hx
     exact hden _ _ hx
   | part p l' el =>
    cases h
    obtain ⟨⟨cs, ho, ⟨hs, hden⟩, hpt⟩, him⟩ := hc.obj id _ hq
    simp only [List.length_take, List.length_drop] at hl
    have e : ((l'.drop off).take (m * sz)).take (k * sz) = (l'.drop off).take (k * sz) := by rw [List.take_take]; congr 1; omega
    rw [e] at hK
    unfold Builtin.firstCells
    refine semOk_cells (f := fun i => cs.getD (off + i) undef) (fun _ => (hc.notGroup hq rfl).1) (fun j hj => ?_) (hK _ (denl_take (by simp only [List.length_drop]; omega) fun i x hx => ?_))
    ·have hlt : off + j < cs.size := by omega
     unfold View.get
     by_cases hp : off + j < p
     ·rw [hpt _ hp]
      simp only [Array.getD_eq_getD_getElem?, Array.getElem?_eq_getElem hlt, Option.getD_some]
     ·rw [him _ (by omega), ho]
      simp only [Array.getD_eq_getD_getElem?, Array.getElem?_eq_getElem hlt, Option.getD_some]
    ·rw [List.getElem?_drop] at hx
     exact hden _ _ hx
   | own sz' l' el =>
    cases h
    obtain ⟨⟨cs, ho, ⟨hs, hden⟩, _⟩, him⟩ := hc.obj id _ hq
    simp only [List.length_take, List.length_drop] at hl
    have e : ((l'.drop off).take (m * sz)).take (k * sz) = (l'.drop off).take (k * sz) := by rw [List.take_take]; congr 1; omega
    rw [e] at hK
    unfold Builtin.firstCells
    refine semOk_cells (f := fun i => cs.getD (off + i) undef) (fun _ => (hc.notGroup hq rfl).1) (fun j hj => ?_) (hK _ (denl_take (by simp only [List.length_drop]; omega) fun i x hx => ?_))
    ·have hlt : off + j < cs.size := by omega
     unfold View.get
     rw [him, ho]
     simp only [Array.getD_eq_getD_getElem?, Array.getElem?_eq_getElem hlt, Option.getD_some]
    ·rw [List.getElem?_drop] at hx
     exact hden _ _ hx
   | _ => cases h
 | _ => cases h
theorem src_len {av : AV} {v : Value} (hd : Den E av v) {sz m : Nat} {l : List AV} (h : s.src sz av = some (m, l)) : Builtin.lenOf v = pure m := by
 cases hd with
 | sl => cases h; rfl
 | nil => cases h; rfl
 | osl =>
  simp only [AS.src] at h
  split at h
  ·cases h; rfl
  ·cases h; rfl
  ·cases h; rfl
  ·cases h
 | _ => cases h
end
theorem growBy_le (need : Nat) : ∀ (r c : Nat), c <= 2 * need + 200 -> Builtin.growBy need r c <= 2 * need + 200
 | 0, c, h => h
 | r + 1, c, h => by
  unfold Builtin.growBy
  split
  ·exact h
  ·exact growBy_le need r _ (by omega)
theorem nextcap_le (need cap : Nat) (h : cap < need) : Builtin.nextslicecap need cap <= 2 * need + 200 := by
 unfold Builtin.nextslicecap
 split
 ·omega
 ·split
  ·omega
  ·exact growBy_le need 4 cap (by omega)
theorem denl_app {E : Env} {l m : List AV} {x y : Array Value} (h : Denl E l x) (k : Denl E m y) : Denl E (l ++ m) (x ++ y) := by
 refine ⟨by simp [h.1, k.1], fun i a e => ?_⟩
 by_cases hi : i < l.length
 ·rw [List.getElem?_append_left hi] at e
  have := h.2 i a e
  rw [Array.getD_eq_getD_getElem?, Array.getElem?_append_left (by rw [h.1]; exact hi)]
  rwa [Array.getD_eq_getD_getElem?] at this
 ·rw [List.getElem?_append_right (by omega)] at e
  have := k.2 _ a e
  rw [Array.getD_eq_getD_getElem?, Array.getElem?_append_right (by rw [h.1]; omega), h.1]
  rwa [Array.getD_eq_getD_getElem?] at this
theorem semOk_pureF {P : Program} {V : View} {α : Type} {K : α -> View -> Prop} {Kp : Value -> View -> Prop} {b : Bool} {k : Bool -> Sem α} (hb : b = false) (h : SemOk P V (k false) K Kp) : SemOk P V (pure b >>= k) K Kp := by
 subst hb; exact semOk_bind (semOk_pure' h)
section
variable {P : Program} {E : Env} {V : View} {s : AS} {K : Value -> View -> Prop} {Kp : Value -> View -> Prop}
theorem semOk_askRoom {n : Nat} {K : Unit -> View -> Prop} (h : K () V) : SemOk P V (askRoom n) K Kp := by
 unfold askRoom
 split
 ·exact semOk_noRoom (semOk_pure h)
 ·exact semOk_pure' h
theorem semOk_append_growG (hc : Conc E V s.H) {t t' e : TypeId} {sz n m cap : Nat} {z : Value} {base : Option Addr} {av : AV} {v : Value} {ax : AV} {l l' : List AV} {ty : TypeId} (ht : AppOf P t t' = some (e, sz, z)) (hd : Den E ax (.slice base n cap)) (hs0 : s.src sz ax = some (n, l)) (hd' : Den E av v) (hs : s.src sz av = some (m, l'))
  (hl : l.length = n * sz) (hl' : l'.length = m * sz) (hb : n + m <= 2 ^ 30) (hgt : cap < n + m)
  (hK : ∀ r cs cap', V.fresh r -> Denl E (l ++ l') (cs.extract 0 ((n + m) * sz)) -> n + m <= cap' -> cs.size = cap' * sz -> K (.slice (some ⟨r, 0, none⟩) (n + m) cap') (V.upd r (.cells cs e))) : SemOk P V (Builtin.append_ #[t, t'] ty #[.slice base n cap, v]) K Kp := by
 obtain ⟨i, d, h1, h2, h3, h4, h5, h6, h7, h8, h9⟩ := AppOf.out ht
 unfold Builtin.append_
 simp only [List.getElem?_toArray, List.getElem?_cons_zero, List.getElem?_cons_succ]
 refine semOk_underlying h1 ?_
 dsimp only
 refine semOk_sizeOf h2 ?_
 rw [h4]
 refine semOk_underlying h8 ?_
 refine semOk_pureF (by cases d <;> first | rfl | exact absurd rfl (h9 _)) ?_
 simp only [Bool.false_eq_true, if_false, Bool.not_false, if_true]
 rw [src_len hd' hs]
 refine semOk_bind (semOk_pure' ?_)
 rw [if_neg (by omega)]
 refine semOk_typeInfo h2 ?_
 rw [if_neg (by intro hx; exact hx.2.elim (fun x => x.elim) h7)]
 refine semOk_typeInfo h2 ?_
 have hcap := nextcap_le (n + m) cap hgt
 have hmul : Builtin.nextslicecap (n + m) cap * i.bytes <= (2 * 2 ^ 30 + 200) * 2 ^ 16 := Nat.mul_le_mul (by omega) h6
 rw [if_neg (by omega)]
 refine semOk_bind (semOk_choose (fun hf => by cases hf) (fun _ t => semOk_pure ?_))
 generalize hcc : Question.cut (.appendCap (n + m) cap e) t = cap'
 have hcap' : n + m <= cap' := by rw [<- hcc]; exact Nat.le_add_right _ _
 refine semOk_typeInfo h2 (semOk_bind (semOk_askRoom (semOk_bind ?_)))
 refine semOk_first hc hd hs0 hl (Nat.le_refl _) fun cs1 hcs1 => ?_
 refine semOk_bind (semOk_first hc hd' hs hl' (Nat.le_refl _) fun cs2 hcs2 => ?_)
 refine semOk_zero (z := z) (by unfold ZeroOf; rw [h2]; exact h3) ?_
 rw [<- hl, List.take_length] at hcs1
 rw [<- hl', List.take_length] at hcs2
 unfold newRow
 refine semOk_bind (semOk_bind (semOk_new fun r hf => semOk_pure (semOk_pure' (semOk_pure' ?_))))
 have hsz1 : cs1.size = n * sz := by rw [hcs1.1, hl]
 have hsz2 : cs2.size = m * sz := by rw [hcs2.1, hl']
 have hsz : (cs1 ++ cs2).size = (n + m) * sz := by rw [Array.size_append, hsz1, hsz2, Nat.add_mul]
 refine hK r _ cap' hf ?_ hcap' ?_
 ·have e1 : (cs1 ++ cs2 ++ Builtin.zeroCells z.cells (cap' - (n + m))).extract 0 ((n + m) * sz) = cs1 ++ cs2 := by
   rw [<- hsz]
   generalize cs1 ++ cs2 = q
   apply Array.ext'
   simp [Array.toList_extract, List.extract_eq_take_drop]
  rw [e1]; exact denl_app hcs1 hcs2
 ·rw [Array.size_append, hsz]
  have : (Builtin.zeroCells z.cells (cap' - (n + m))).size = (cap' - (n + m)) * sz := by simp [Builtin.zeroCells, h5]
  rw [this, <- Nat.add_mul]; congr 1; omega
theorem semOk_append_grow (hc : Conc E V s.H) {t t' e : TypeId} {sz n m cap : Nat} {z : Value} {base : Option Addr} {av : AV} {v : Value} {en : End} {l l' : List AV} {ty : TypeId} (ht : AppOf P t t' = some (e, sz, z)) (hd : Den E (.sl n l en) (.slice base n cap)) (hd' : Den E av v) (hs : s.src sz av = some (m, l'))
  (hl : l.length = n * sz) (hl' : l'.length = m * sz) (hb : n + m <= 2 ^ 30) (hgt : cap < n + m)
  (hK : ∀ r cs cap', V.fresh r -> Denl E (l ++ l') (cs.extract 0 ((n + m) * sz)) -> n + m <= cap' -> cs.size = cap' * sz -> K (.slice (some ⟨r, 0, none⟩) (n + m) cap') (V.upd r (.cells cs e))) : SemOk P V (Builtin.append_ #[t, t'] ty #[.slice base n cap, v]) K Kp :=
 semOk_append_growG hc ht hd (by simp only [AS.src]; rw [<- hl, List.take_length]) hd' hs hl hl' hb hgt hK
theorem semOk_append_none (hc : Conc E V s.H) {t t' e : TypeId} {sz n cap : Nat} {z : Value} {base : Option Addr} {av : AV} {v : Value} {l' : List AV} {ty : TypeId} (ht : AppOf P t t' = some (e, sz, z)) (hd' : Den E av v) (hs : s.src sz av = some (0, l'))
  (hl' : l'.length = 0 * sz) (hle : n <= cap) (hK : K (.slice base n cap) V) : SemOk P V (Builtin.append_ #[t, t'] ty #[.slice base n cap, v]) K Kp := by
 obtain ⟨i, d, h1, h2, h3, h4, h5, h6, h7, h8, h9⟩ := AppOf.out ht
 unfold Builtin.append_
 simp only [List.getElem?_toArray, List.getElem?_cons_zero, List.getElem?_cons_succ]
 refine semOk_underlying h1 ?_
 dsimp only
 refine semOk_sizeOf h2 ?_
 rw [h4]
 refine semOk_underlying h8 ?_
 refine semOk_pureF (by cases d <;> first | rfl | exact absurd rfl (h9 _)) ?_
 simp only [Bool.false_eq_true, if_false, Bool.not_false, if_true]
 rw [src_len hd' hs]
 refine semOk_bind (semOk_pure' ?_)
 rw [if_pos (by omega)]
 refine semOk_bind (semOk_first hc hd' hs hl' (Nat.le_refl _) fun cs2 hcs2 => ?_)
 have hsz2 : cs2 = #[] := by
  have := hcs2.1
  apply Array.eq_empty_of_size_eq_zero
  rw [this]; simp
 subst hsz2
 rw [Nat.add_zero]
 cases base with
 | none => exact semOk_pure' hK
 | some a =>
  dsimp only
  unfold storeCells
  exact semOk_bind (semOk_pure' (semOk_pure' hK))
theorem semOk_append_fit (hc : Conc E V s.H) {t t' e : TypeId} {sz n m cap : Nat} {z : Value} {b : Nat} {av : AV} {v : Value} {l' : List AV} {ty : TypeId} {cs : Array Value} {el : TypeId} (ht : AppOf P t t' = some (e, sz, z)) (hd' : Den E av v) (hs : s.src sz av = some (m, l'))
  (hl' : l'.length = m * sz) (hle : n + m <= cap) (ho : V.own b = some (.cells cs el (0, 0))) (hsz : cap * sz <= cs.size) (hi : ∀ o, n * sz <= o -> V.imm b o = none) (hg : V.role.group ≠ some b /\ V.role.chan ≠ some b) (hleaf : ∀ a ∈ l', a.leaf = true)
  (hK : ∀ cs2, Denl E l' cs2 -> K (.slice (some ⟨b, 0, none⟩) (n + m) cap) (V.upd b (.cells (storeAt cs (n * sz) cs2.toList) el (0, 0)))) : SemOk P V (Builtin.append_ #[t, t'] ty #[.slice (some ⟨b, 0, none⟩) n cap, v]) K Kp := by
 obtain ⟨i, d, h1, h2, h3, h4, h5, h6, h7, h8, h9⟩ := AppOf.out ht
 unfold Builtin.append_
 simp only [List.getElem?_toArray, List.getElem?_cons_zero, List.getElem?_cons_succ]
 refine semOk_underlying h1 ?_
 dsimp only
 refine semOk_sizeOf h2 ?_
 rw [h4]
 refine semOk_underlying h8 ?_
 refine semOk_pureF (by cases d <;> first | rfl | exact absurd rfl (h9 _)) ?_
 simp only [Bool.false_eq_true, if_false, Bool.not_false, if_true]
 rw [src_len hd' hs]
 refine semOk_bind (semOk_pure' ?_)
 rw [if_pos (by omega)]
 refine semOk_bind (semOk_first hc hd' hs hl' (Nat.le_refl _) fun cs2 hcs2 => ?_)
 rw [<- hl', List.take_length] at hcs2
 rw [add_plain]
 have hms : (n + m) * sz <= cap * sz := Nat.mul_le_mul_right _ hle
 rw [Nat.add_mul] at hms
 refine semOk_bind (semOk_storeCells _ 0 V cs hg.1 hg.2 ho (fun o h _ => hi o (by omega)) (by have := hcs2.1; simp; omega) (denl_leaves hcs2 hleaf) ?_)
 rw [Nat.zero_add, Nat.add_zero]
 exact semOk_pure' (hK cs2 hcs2)
end
def Env.tok (E : Env) (I : Imm) (rm : Option Addr × Nat) (v : Nat) : Env := { E with I := I, n := E.n + 1, room := fun k u => if k = E.n /\ u = v then rm else E.room k u, ver := fun k => if k = E.n then v else E.ver k }
theorem Env.le_tok (E : Env) {I : Imm} (hI : ∀ b o v, E.I b o = some v -> I b o = some v) (rm : Option Addr × Nat) (v : Nat) : E.Le (E.tok I rm v) :=
 ⟨hI, Nat.le_succ _, fun k hk => rfl, fun k hk => by simp [Env.tok, Nat.ne_of_lt hk], fun k u hk _ => by simp [Env.tok, Nat.ne_of_lt hk], rfl, rfl⟩
def Env.grow (E : Env) (I : Imm) (k : Nat) (rm : Option Addr × Nat) (v : Nat) : Env := { E with I := I, room := fun j u => if j = k /\ u = v then rm else E.room j u, ver := fun j => if j = k then v else E.ver j }
theorem Env.le_grow (E : Env) {I : Imm} (hI : ∀ b o v, E.I b o = some v -> I b o = some v) {k : Nat} (rm : Option Addr × Nat) {v : Nat} (hv : E.ver k < v) : E.Le (E.grow I k rm v) :=
 ⟨hI, Nat.le_refl _, fun _ _ => rfl, fun j _ => by
  simp only [Env.grow]; split
  ·rename_i e; subst e; omega
  ·exact Nat.le_refl _, fun j u _ hu => by
  simp only [Env.grow]; split
  ·rename_i e; obtain ⟨rfl, rfl⟩ := e; omega
  ·rfl, rfl, rfl⟩
open Go.Conc
abbrev View.laid (V : View) (b : Nat) (cs : Array Value) (el : TypeId) (p : Nat -> Bool) : View := (V.upd b (.cells cs el (0, 0))).pubp b cs p
theorem laid_own {V : View} {b b' : Nat} {cs : Array Value} {el : TypeId} {p : Nat -> Bool} (h : b' ≠ b) : (V.laid b cs el p).own b' = V.own b' := by simp [View.laid, View.pubp, View.upd, h]
theorem laid_imm {V : View} {b b' : Nat} {cs : Array Value} {el : TypeId} {p : Nat -> Bool} (h : b' ≠ b) (o : Nat) : (V.laid b cs el p).imm b' o = V.imm b' o := by simp [View.laid, View.pubp, View.upd, h]
theorem laid_le {V : View} {b : Nat} {cs : Array Value} {el : TypeId} {p : Nat -> Bool} (hp : ∀ o, p o = true -> V.imm b o = none) : ∀ b' o v, V.imm b' o = some v -> (V.laid b cs el p).imm b' o = some v := fun b' o v h => by
 have hn : ¬ (b' = b /\ p o = true) := fun hb => by obtain ⟨rfl, h2⟩ := hb; rw [hp o h2] at h; cases h
 simp only [View.laid, View.pubp, View.upd, if_neg hn]; exact h
theorem laid_at {V : View} {b : Nat} {cs : Array Value} {el : TypeId} {p : Nat -> Bool} {o : Nat} (h : p o = true) : (V.laid b cs el p).imm b o = cs[o]? := by simp [View.laid, View.pubp, h]
theorem laid_self {V : View} {b : Nat} {cs : Array Value} {el : TypeId} {p : Nat -> Bool} : (V.laid b cs el p).own b = some (.cells cs el (0, 0)) := by simp [View.laid, View.pubp, View.upd]
theorem den_row {E : Env} {I : Imm} {b n cap : Nat} {cs : Array Value} {l : List AV} {e : End} {sz : Nat} (hI : E.I = I) (hd : Denl E l (cs.extract 0 (n * sz))) (hl : l.length = n * sz) (hs : n * sz <= cs.size) (hi : ∀ o, o < n * sz -> I b o = cs[o]?) (hc : n <= cap) (he : EndOk E e (some ⟨b, 0, none⟩) n cap) : Den E (.sl n l e) (.slice (some ⟨b, 0, none⟩) n cap) := by
 refine .sl b 0 cap (fun i => cs.getD i undef) hc he (fun i h => ?_) (fun i x hx => ?_)
 ·rw [hl] at h
  have hlt : i < cs.size := by omega
  rw [hI, Nat.zero_add, hi i h]
  simp only [Array.getD_eq_getD_getElem?, Array.getElem?_eq_getElem hlt, Option.getD_some]
 ·have hi' : i < n * sz := by rw [<- hl]; exact (List.getElem?_eq_some_iff.1 hx).1
  have := hd.2 i x hx
  have hlt : i < cs.size := by omega
  rw [Array.getD_eq_getD_getElem?, Array.getElem?_eq_getElem hlt]
  rw [Array.getD_eq_getD_getElem?] at this
  rw [Array.getElem?_extract] at this
  have hmin : i < min (n * sz) cs.size := by omega
  simpa [hi', hlt, hmin] using this
section
variable {E : Env} {V : View} {H : List AObj}
theorem Conc.tok0 (hc : Conc E V H) {n : Nat} (sz : Nat) (el : TypeId) (a : Option Addr) : Conc (E.tok V.imm (a, n) n) V (H ++ [.tail n sz el]) /\ E.Le (E.tok V.imm (a, n) n) := by
 have hle := E.le_tok (I := V.imm) (fun b o v h => by rw [<- hc.I]; exact h) (a, n) n
 refine ⟨hc.turn H.length (.tail n sz el) hle rfl (by simp [Env.tok, hc.n]) list_push_get rfl (fun j hj _ => by simp [Env.tok, hc.n, hj]) (fun b y _ hy => ⟨hy, fun _ => rfl⟩) ?_ (fun b h => ?_), hle⟩
 ·rw [<- hc.n]
  exact ⟨by simp [Env.tok], .inl (by simp [Env.tok])⟩
 ·rw [<- hc.n] at h
  simp [blkOf, Env.tok] at h
theorem Conc.tok1 (hc : Conc E V H) {r n cap sz : Nat} {el : TypeId} {cs : Array Value} (hf : V.fresh r) (hs : cs.size = cap * sz) (hn : n <= cap) :
  Conc (E.tok (V.laid r cs el (· < n * sz)).imm (some ⟨r, 0, none⟩, cap) n) (V.laid r cs el (· < n * sz)) (H ++ [.tail n sz el]) /\ E.Le (E.tok (V.laid r cs el (· < n * sz)).imm (some ⟨r, 0, none⟩, cap) n) := by
 have hle := E.le_tok (I := (V.laid r cs el (· < n * sz)).imm) (fun b o v h => laid_le (fun o _ => hf.2 o) b o v (by rw [<- hc.I]; exact h)) (some ⟨r, 0, none⟩, cap) n
 refine ⟨hc.turn H.length (.tail n sz el) hle rfl (by simp [Env.tok, hc.n]) list_push_get rfl (fun j hj _ => by simp [Env.tok, hc.n, hj]) (fun b y _ hy => ?_) ?_ (fun b h => .inr ?_), hle⟩
 ·have hb : b ≠ r := fun e => by subst e; rw [hf.1] at hy; cases hy
  exact ⟨by rw [laid_own hb]; exact hy, fun o => laid_imm hb o⟩
 ·rw [<- hc.n]
  refine ⟨by simp [Env.tok], ?_⟩
  by_cases e : cap = n
  ·exact .inl (by simp [Env.tok, e])
  ·refine .inr ⟨r, cap, cs, by simp [Env.tok], laid_self, hs, by omega, fun o ho => ?_⟩
   have : ¬ (decide (o < n * sz) = true) := by simpa using ho
   simp only [View.laid, View.pubp]
   rw [if_neg (fun x => this x.2)]
   exact hf.2 o
 ·rw [<- hc.n] at h
  simp [blkOf, Env.tok] at h
  obtain ⟨_, rfl⟩ := h; exact hf.1
theorem Conc.grow1 (hc : Conc E V H) {k r n n' cap sz : Nat} {el el' : TypeId} {cs : Array Value} (hk : H[k]? = some (.tail n sz el')) (hf : V.fresh r) (hs : cs.size = cap * sz) (hn : n' <= cap) (hlt : n < n') :
  Conc (E.grow (V.laid r cs el (· < n' * sz)).imm k (some ⟨r, 0, none⟩, cap) n') (V.laid r cs el (· < n' * sz)) (H.set k (.tail n' sz el)) /\ E.Le (E.grow (V.laid r cs el (· < n' * sz)).imm k (some ⟨r, 0, none⟩, cap) n') := by
 have hver : E.ver k = n := (hc.obj k _ hk).1
 have hle := E.le_grow (I := (V.laid r cs el (· < n' * sz)).imm) (fun b o v h => laid_le (fun o _ => hf.2 o) b o v (by rw [<- hc.I]; exact h)) (k := k) (some ⟨r, 0, none⟩, cap) (v := n') (by omega)
 refine ⟨hc.turn k (.tail n' sz el) hle rfl (by simpa [Env.grow] using hc.n) list_set_get rfl (fun j hj _ => by simp [Env.grow, hj]) (fun b y _ hy => ?_) ?_ (fun b h => .inr ?_), hle⟩
 ·have hb : b ≠ r := fun e => by subst e; rw [hf.1] at hy; cases hy
  exact ⟨by rw [laid_own hb]; exact hy, fun o => laid_imm hb o⟩
 ·refine ⟨by simp [Env.grow], ?_⟩
  by_cases e : cap = n'
  ·exact .inl (by simp [Env.grow, e])
  ·refine .inr ⟨r, cap, cs, by simp [Env.grow], laid_self, hs, by omega, fun o ho => ?_⟩
   have : ¬ (decide (o < n' * sz) = true) := by simpa using ho
   simp only [View.laid, View.pubp]
   rw [if_neg (fun x => this x.2)]
   exact hf.2 o
 ·simp [blkOf, Env.grow] at h
  obtain ⟨_, rfl⟩ := h; exact hf.1
theorem Conc.grow2 (hc : Conc E V H) {k b n n' cap sz : Nat} {el el' : TypeId} {cs cs' : Array Value} (hk : H[k]? = some (.tail n sz el')) (hrm : E.room k n = (some ⟨b, 0, none⟩, cap)) (ho : V.own b = some (.cells cs el (0, 0))) (hi : ∀ o, n * sz <= o -> V.imm b o = none) (hs : cs'.size = cap * sz) (hn : n' <= cap) (hlt : n < n') :
  Conc (E.grow (V.laid b cs' el (fun o => n * sz <= o && o < n' * sz)).imm k (some ⟨b, 0, none⟩, cap) n') (V.laid b cs' el (fun o => n * sz <= o && o < n' * sz)) (H.set k (.tail n' sz el)) /\ E.Le (E.grow (V.laid b cs' el (fun o => n * sz <= o && o < n' * sz)).imm k (some ⟨b, 0, none⟩, cap) n') := by
 have hver : E.ver k = n := (hc.obj k _ hk).1
 have hp : ∀ o, (fun o => decide (n * sz <= o) && decide (o < n' * sz)) o = true -> V.imm b o = none := fun o h => hi o (by simp at h; exact h.1)
 have hle := E.le_grow (I := (V.laid b cs' el (fun o => n * sz <= o && o < n' * sz)).imm) (fun b o v h => laid_le hp b o v (by rw [<- hc.I]; exact h)) (k := k) (some ⟨b, 0, none⟩, cap) (v := n') (by omega)
 have hbk : blkOf E k (.tail n sz el') = some b := by
  simp only [blkOf, hrm]
  rw [if_neg (by omega)]; rfl
 refine ⟨hc.turn k (.tail n' sz el) hle rfl (by simpa [Env.grow] using hc.n) list_set_get rfl (fun j hj _ => by simp [Env.grow, hj]) (fun b' y hno hy => ?_) ?_ (fun b' h => .inl ⟨_, hk, ?_⟩), hle⟩
 ·have hb : b' ≠ b := fun e => by subst e; exact hno _ hk hbk
  exact ⟨by rw [laid_own hb]; exact hy, fun o => laid_imm hb o⟩
 ·refine ⟨by simp [Env.grow], ?_⟩
  by_cases e : cap = n'
  ·exact .inl (by simp [Env.grow, e])
  ·have hnn : n * sz <= n' * sz := Nat.mul_le_mul_right _ (by omega)
   refine .inr ⟨b, cap, cs', by simp [Env.grow], laid_self, hs, by omega, fun o ho' => ?_⟩
   have : ¬ ((decide (n * sz <= o) && decide (o < n' * sz)) = true) := by simp; omega
   simp only [View.laid, View.pubp]
   rw [if_neg (fun x => this x.2)]
   exact hi o (by omega)
 ·simp [blkOf, Env.grow] at h
  obtain ⟨_, rfl⟩ := h; exact hbk
end
section
variable {lv : Bool} {P : Program} {r : Option Nat} {o : Oper} {s : AS} {next : AS -> Prop} {bad : AV -> AS -> Prop}
def AppNext (s : AS) (dst : Option Nat) (next : AS -> Prop) (n m sz : Nat) (elem : TypeId) (l l' : List AV) : End -> Prop
 | .exact => next ((⟨s.T, s.H ++ [.tail (n + m) sz elem]⟩ : AS).put dst (.sl (n + m) (l ++ l') (.opn s.H.length)))
 | .opn k => (match s.H[k]? with
   | some (.tail n' sz' el') => n' = n /\ sz' = sz /\ el' = elem
   | _ => False) /\ (∀ a ∈ l', a.leaf = true) /\ next ((⟨s.T, s.H.set k (.tail (n + m) sz elem)⟩ : AS).put dst (.sl (n + m) (l ++ l') (.opn k)))
 | .shut => m = 0 /\ next (s.put dst (.sl n l .shut))
theorem den_reopen {E E' : Env} {n : Nat} {l : List AV} {en : End} {base : Option Addr} {cap : Nat} (h : Den E (.sl n l en) (.slice base n cap)) (hl : E.Le E') {e' : End} (he : EndOk E' e' base n cap) : Den E' (.sl n l e') (.slice base n cap) := by
 cases h with
 | sl b o cap f hc _ h1 h2 => exact .sl b o cap f hc he (fun i hi => hl.I _ _ _ (h1 i hi)) (fun i x hx => (h2 i x hx).mono hl)
 | nil _ => exact .nil he
theorem step_append {c : Call} {x y : Operand} {t t' elem : TypeId} {sz n m : Nat} {z : Value} {en : End} {l l' : List AV} {av : AV} (ho : o.op = .call c) (hcl : c.callee = .builtin .append) (hargs : c.args = #[x, y]) (hts : c.argTypes = #[t, t']) (ht : AppOf P t t' = some (elem, sz, z))
  (hx : s.ev x = some (.sl n l en)) (hy : s.ev y = some av) (hs : s.src sz av = some (m, l')) (hl : l.length = n * sz) (hl' : l'.length = m * sz) (hb : n + m <= 2 ^ 30) (hn : AppNext s o.dst next n m sz elem l l' en) : Step lv P r o s next bad := by
 intro E V a N Q hc htk hd hdf h1 _
 refine ⟨hdf, ?_⟩
 have hdx := Den.ev htk hx
 have hdy := Den.ev htk hy
 generalize hvx : a.eval x = vx at hdx
 generalize hvy : a.eval y = vy at hdy
 unfold execOp; rw [ho]
 dsimp only
 unfold resolve
 rw [hcl]
 dsimp only
 refine semOk_bind (semOk_pure' ?_)
 unfold invoke builtin
 dsimp only
 refine semOk_bind ?_
 have hmap : c.args.map a.eval = #[vx, vy] := by rw [hargs]; simp [hvx, hvy]
 rw [hmap, hts]
 obtain ⟨base, cap, rfl⟩ : ∃ base cap, vx = .slice base n cap := by
  cases hdx with
  | sl b o cap f hcap he q1 q2 => exact ⟨_, _, rfl⟩
  | nil he => exact ⟨_, _, rfl⟩
 have hcap : n <= cap := by
  cases hdx with
  | sl b o cap f hcap he q1 q2 => exact hcap
  | nil he => exact Nat.le_refl _
 have fin : ∀ E' V' H' (av' : AV) v', E.Le E' -> V'.role = V.role -> V'.deaf = V.deaf -> Conc E' V' H' -> Den E' av' v' -> next ((⟨s.T, H'⟩ : AS).put o.dst av') -> SemOk P V' (pure (Next.value v')) (Upon lv P r o a N Q) (fun v V' => Q (.panic [{ v, recovered := false }]) a V') := fun E' V' H' av' v' hle hr hdeaf hc' hden hnx =>
  semOk_pure' (h1 E' V' (a.put o.dst v') ((⟨s.T, H'⟩ : AS).put o.dst av') ⟨hle, put_size _ _ _, put_defers _ _ _, hr, hdeaf⟩ (by rw [put_H]; exact hc') (TOk.putd (s := ⟨s.T, H'⟩) (htk.mono hle) hd hden) hnx)
 have hsum : (l ++ l').length = (n + m) * sz := by rw [List.length_append, hl, hl', Nat.add_mul]
 cases en with
 | exact =>
  have hcn : cap = n := by
   cases hdx with
   | sl b o cap f hcap he q1 q2 => exact he
   | nil he => rfl
  subst hcn
  have hn' := hn
  simp only [AppNext] at hn'
  by_cases hm : m = 0
  ·subst hm
   have hl0 : l' = [] := by simpa using hl'
   subst hl0
   refine semOk_append_none hc ht hdy hs hl' (Nat.le_refl _) ?_
   obtain ⟨hc', hle⟩ := hc.tok0 (n := cap) sz elem base
   refine fin _ V _ _ _ hle rfl rfl hc' (den_reopen (e' := .opn s.H.length) hdx hle ⟨?_, ?_, ?_⟩) (by simpa using hn')
   ·simp [Env.tok, hc.n]
   ·simp [Env.tok, hc.n]
   ·simp [Env.tok, hc.n]
  ·refine semOk_append_grow hc ht hdx hdy hs hl hl' hb (by omega) fun rr cs cap' hf hden hle hsz => ?_
   obtain ⟨hc', hle'⟩ := hc.tok1 (el := elem) hf hsz hle
   have hsize : (cap + m) * sz <= cs.size := by rw [hsz]; exact Nat.mul_le_mul_right _ hle
   refine SemOk.ghost (ghost_pubp (f := (0, 0)) (cs := cs) (el := elem) (p := (· < (cap + m) * sz)) (by simp [View.upd]) (fun o _ => hf.2 o)) ?_
   refine fin _ _ _ _ _ hle' rfl rfl hc' (den_row (I := (V.laid rr cs elem (· < (cap + m) * sz)).imm) (e := .opn s.H.length) (sz := sz) (cs := cs) rfl (hden.mono hle') hsum hsize (fun o h => laid_at (by simpa using h)) hle ⟨?_, ?_, ?_⟩) hn'
   ·simp [Env.tok, hc.n]
   ·simp [Env.tok, hc.n]
   ·simp [Env.tok, hc.n]
 | shut =>
  obtain ⟨rfl, hn'⟩ := hn
  have hl0 : l' = [] := by simpa using hl'
  subst hl0
  refine semOk_append_none hc ht hdy hs hl' hcap ?_
  exact fin E V s.H _ _ (Env.Le.refl E) rfl rfl hc hdx hn'
 | opn k =>
  obtain ⟨hk0, hleaf, hn'⟩ := hn
  split at hk0
  ·rename_i n' sz' el' hk
   obtain ⟨rfl, rfl, rfl⟩ := hk0
   have heo : EndOk E (.opn k) base n' cap := by
    cases hdx with
    | sl b o cap f hcap he q1 q2 => exact he
    | nil he => exact he
   obtain ⟨e1, e2, e3⟩ := heo
   obtain ⟨hver, hroom⟩ := hc.obj k _ hk
   have hset : s.H.set k (.tail n' sz' el') = s.H := by
    apply List.ext_getElem?
    intro i
    by_cases hi : i = k
    ·subst hi
     rw [List.getElem?_set_self (List.getElem?_eq_some_iff.1 hk).1, hk]
    ·rw [List.getElem?_set_ne (Ne.symm hi)]
   by_cases hm : m = 0
   ·subst hm
    have hl0 : l' = [] := by simpa using hl'
    subst hl0
    refine semOk_append_none hc ht hdy hs hl' hcap ?_
    refine fin E V s.H _ _ (Env.Le.refl E) rfl rfl hc hdx ?_
    rw [Nat.add_zero, hset, List.append_nil] at hn'
    exact hn'
   ·by_cases hfit : n' + m <= cap
    ·rcases hroom with hroom | ⟨b, cap0, cs, r1, r2, r3, r4, r5⟩
     ·rw [e3] at hroom; simp only at hroom; omega
     ·rw [e3] at r1
      cases r1
      have hbk : blkOf E k (.tail n' sz' el') = some b := by
       simp only [blkOf, e3]
       rw [if_neg (by omega)]; rfl
      refine semOk_append_fit hc ht hdy hs hl' hfit r2 (Nat.le_of_eq r3.symm) r5 (hc.notGroup hk hbk) hleaf fun cs2 hcs2 => ?_
      have hsz2 : cs2.toList.length = m * sz' := by have := hcs2.1; simp; omega
      have hms : (n' + m) * sz' <= cap * sz' := Nat.mul_le_mul_right _ hfit
      rw [Nat.add_mul] at hms
      have hss : (storeAt cs (n' * sz') cs2.toList).size = cap * sz' := by rw [storeAt_size]; exact r3
      obtain ⟨hc', hle'⟩ := hc.grow2 hk e3 r2 r5 hss hfit (by omega)
      refine SemOk.ghost (ghost_pubp (f := (0, 0)) (cs := storeAt cs (n' * sz') cs2.toList) (el := el') (p := fun o => n' * sz' <= o && o < (n' + m) * sz') (by simp [View.upd]) (fun o h => r5 o (by simp at h; exact h.1))) ?_
      refine fin _ _ _ _ _ hle' rfl rfl hc' ?_ hn'
      cases hdx with
      | nil he => exact absurd hfit (by omega)
      | sl b' o' cap f hcap' he q1 q2 =>
       have q1' : ∀ i, i < l.length -> V.imm b i = some (f i) := fun i hi => by have := q1 i hi; rwa [hc.I, Nat.zero_add] at this
       refine .sl b 0 cap (fun i => if i < n' * sz' then f i else (storeAt cs (n' * sz') cs2.toList).getD i undef) (by omega) ⟨?_, ?_, ?_⟩ (fun i hi => ?_) (fun i x hx => ?_)
       ·exact e1
       ·simp [Env.grow]
       ·simp [Env.grow]
       ·rw [hsum, Nat.add_mul] at hi
        show (V.laid b (storeAt cs (n' * sz') cs2.toList) el' (fun o => n' * sz' <= o && o < (n' + m) * sz')).imm b (0 + i) = _
        rw [Nat.zero_add]
        by_cases hi' : i < n' * sz'
        ·rw [if_pos hi']
         exact laid_le (fun o h => r5 o (by simp at h; exact h.1)) _ _ _ (q1' i (by omega))
        ·rw [if_neg hi', laid_at (by simp [Nat.add_mul]; omega)]
         have hlt : i < (storeAt cs (n' * sz') cs2.toList).size := by rw [hss]; omega
         simp only [Array.getD_eq_getD_getElem?, Array.getElem?_eq_getElem hlt, Option.getD_some]
       ·by_cases hi' : i < n' * sz'
        ·rw [List.getElem?_append_left (by omega)] at hx
         rw [if_pos hi']; exact (q2 i x hx).mono hle'
        ·rw [List.getElem?_append_right (by omega)] at hx
         have hi2 : i - l.length < l'.length := (List.getElem?_eq_some_iff.1 hx).1
         rw [if_neg hi', storeAt_get _ _ _ _ (by rw [hsz2, r3]; omega), if_pos (by rw [hsz2]; omega)]
         have := (hcs2.2 _ _ hx).mono hle'
         rw [hl] at this
         simpa [Array.getD_eq_getD_getElem?, List.getD_eq_getElem?_getD] using this
    ·refine semOk_append_grow hc ht hdx hdy hs hl hl' hb (by omega) fun rr cs cap' hf hden hle hsz => ?_
     obtain ⟨hc', hle'⟩ := hc.grow1 (el := el') (n' := n' + m) hk hf hsz hle (by omega)
     have hsize : (n' + m) * sz' <= cs.size := by rw [hsz]; exact Nat.mul_le_mul_right _ hle
     refine SemOk.ghost (ghost_pubp (f := (0, 0)) (cs := cs) (el := el') (p := (· < (n' + m) * sz')) (by simp [View.upd]) (fun o _ => hf.2 o)) ?_
     refine fin _ _ _ _ _ hle' rfl rfl hc' (den_row (I := (V.laid rr cs el' (· < (n' + m) * sz')).imm) (e := .opn k) (sz := sz') (cs := cs) rfl (hden.mono hle') hsum hsize (fun o h => laid_at (by simpa using h)) hle ⟨?_, ?_, ?_⟩) hn'
     ·exact e1
     ·simp [Env.grow]
     ·simp [Env.grow]
  ·exact hk0.elim
def Env.addR (E : Env) (r : Nat) (I : Imm) (c : Nat) : Env := { E with I := I, n := E.n + 1, blk := fun k => if k = E.n then r else E.blk k, room := fun k u => if k = E.n /\ u = 0 then (none, c) else E.room k u }
theorem Env.le_addR (E : Env) (r c : Nat) {I : Imm} (hI : ∀ b o v, E.I b o = some v -> I b o = some v) : E.Le (E.addR r I c) :=
 ⟨hI, Nat.le_succ _, fun k hk => by simp [Env.addR, Nat.ne_of_lt hk], fun _ _ => Nat.le_refl _, fun k u hk _ => by simp [Env.addR, Nat.ne_of_lt hk], rfl, rfl⟩
theorem Env.addR_blk (E : Env) (r c : Nat) (I : Imm) : (E.addR r I c).blk E.n = r := by simp [Env.addR]
theorem Env.addR_room (E : Env) (r c : Nat) (I : Imm) : (E.addR r I c).room E.n 0 = (none, c) := by simp [Env.addR]
theorem Conc.addR {E : Env} {V : View} {H : List AObj} (hc : Conc E V H) {r c : Nat} (hf : V.fresh r) {cs : Array Value} {sz : Nat} {l : List AV} {el : TypeId} (hd : Denp (E.addR r V.imm c) l cs) (hs : cs.size = c * sz) : Conc (E.addR r V.imm c) (V.upd r (.cells cs el)) (H ++ [.own sz l el]) := by
 refine hc.turn (E' := E.addR r V.imm c) H.length (.own sz l el) (E.le_addR r c (fun b o v h => by rw [<- hc.I]; exact h)) rfl (by simp [Env.addR, hc.n]) list_push_get rfl (fun _ _ _ => rfl) (fun b z _ hz => ⟨?_, fun _ => rfl⟩) ?_ (fun b h => .inr ?_)
 ·have : b ≠ r := fun e => by rw [e, hf.1] at hz; cases hz
  simpa [View.upd, this] using hz
 ·rw [<- hc.n]
  refine ⟨⟨cs, by rw [Env.addR_blk]; simp [View.upd], hd, by rw [Env.addR_room]; exact hs⟩, fun o => ?_⟩
  rw [Env.addR_blk]; exact hf.2 o
 ·rw [<- hc.n] at h
  simp only [blkOf, Env.addR_blk, Option.some.injEq] at h
  subst h; exact hf.1
theorem den_addR {E : Env} {H : List AObj} (hn : E.n = H.length) {r c n : Nat} (I : Imm) (h : n <= c) {cap : Nat} (hn0 : n <= cap) (hc : cap <= c) (h0 : 0 < n) : Den (E.addR r I c) (.osl H.length 0 n 0) (.slice (some ⟨r, 0, none⟩) n cap) := by
 have := Den.osl (E := E.addR r I c) (id := H.length) (off := 0) (n := n) (cap := 0) (cap' := cap) (by show _ < E.n + 1; rw [hn]; omega) ⟨hn0, fun e => by omega, fun _ => by rw [<- hn, Env.addR_room]; exact hc⟩
 have e : (E.addR r I c).blk H.length = r := by rw [<- hn]; exact E.addR_blk r c I
 rwa [e] at this
theorem Conc.relabel {E : Env} {V : View} {H : List AObj} (hc : Conc E V H) {id sz : Nat} {l : List AV} {el : TypeId} (hk : H[id]? = some (.own sz l el)) : Conc (E.addR (E.blk id) V.imm (E.room id 0).2) V (H.set id .gone ++ [.own sz l el]) := by
 have hle := E.le_addR (E.blk id) (E.room id 0).2 (I := V.imm) (fun b o v h => by rw [<- hc.I]; exact h)
 have hidl := (List.getElem?_eq_some_iff.1 hk).1
 have hlt : ∀ (j : Nat) y, H[j]? = some y -> j < E.n := fun j y h => by rw [hc.n]; exact (List.getElem?_eq_some_iff.1 h).1
 have hget : ∀ (j : Nat) y, (H.set id .gone ++ [AObj.own sz l el])[j]? = some y -> (j = H.length /\ y = .own sz l el) \/ (j = id /\ y = .gone) \/ (j ≠ id /\ H[j]? = some y) := fun j y h => by
  rcases list_push_get j y h with ⟨h1, h2⟩ | ⟨_, h⟩
  ·exact .inl ⟨by simpa using h1, h2⟩
  ·rcases list_set_get j y h with h | h
   ·exact .inr (.inl h)
   ·exact .inr (.inr h)
 have hbl : ∀ (j : Nat) y b, H[j]? = some y -> blkOf (E.addR (E.blk id) V.imm (E.room id 0).2) j y = some b -> blkOf E j y = some b := fun j y b h e => by rw [<- blkOf_mono hle (hlt j y h) (hc.obj j y h)]; exact e
 have hnew : ∀ b, blkOf (E.addR (E.blk id) V.imm (E.room id 0).2) H.length (.own sz l el) = some b -> b = E.blk id := fun b e => by
  simp only [blkOf, <- hc.n, Env.addR_blk, Option.some.injEq] at e; exact e.symm
 have hno : ∀ g, (∀ (k : Nat) x, H[k]? = some x -> blkOf E k x ≠ some g) -> ∀ (k : Nat) x, (H.set id .gone ++ [AObj.own sz l el])[k]? = some x -> blkOf (E.addR (E.blk id) V.imm (E.room id 0).2) k x ≠ some g := fun g h0 k x hx e => by
  rcases hget k x hx with ⟨rfl, rfl⟩ | ⟨_, rfl⟩ | ⟨_, hx⟩
  ·have := hnew g e
   exact h0 id _ hk (by rw [this]; rfl)
  ·cases e
  ·exact h0 k x hx (hbl k x g hx e)
 refine ⟨rfl, by simp [Env.addR, hc.n], fun j y h => ?_, fun i j y z b h1 h2 e1 e2 => ?_, fun g hg => ?_, fun g hg => ?_, fun hm => hc.top hm, fun b y hf => ?_⟩
 ·rcases hget j y h with ⟨rfl, rfl⟩ | ⟨_, rfl⟩ | ⟨_, h⟩
  ·obtain ⟨⟨cs, q1, q2, q3⟩, q4⟩ := hc.obj id _ hk
   rw [<- hc.n]
   refine ⟨⟨cs, by rw [Env.addR_blk]; exact q1, q2.mono hle, by rw [Env.addR_room]; exact q3⟩, fun o => ?_⟩
   rw [Env.addR_blk]; exact q4 o
  ·trivial
  ·exact (hc.obj j y h).mono hle (hlt j y h) rfl (fun _ _ _ h => h) (fun _ _ _ => rfl)
 ·rcases hget i y h1 with ⟨rfl, rfl⟩ | ⟨_, rfl⟩ | ⟨hi, h1⟩
  ·rcases hget j z h2 with ⟨rfl, rfl⟩ | ⟨_, rfl⟩ | ⟨hj, h2⟩
   ·rfl
   ·cases e2
   ·have := hnew b e1
    exact absurd (hc.inj id j _ z b hk h2 (by rw [this]; rfl) (hbl j z b h2 e2)).symm hj
  ·cases e1
  ·rcases hget j z h2 with ⟨rfl, rfl⟩ | ⟨_, rfl⟩ | ⟨hj, h2⟩
   ·have := hnew b e2
    exact absurd (hc.inj id i _ y b hk h1 (by rw [this]; rfl) (hbl i y b h1 e1)).symm hi
   ·cases e2
   ·exact hc.inj i j y z b h1 h2 (hbl i y b h1 e1) (hbl j z b h2 e2)
 ·obtain ⟨h0, h1, h2⟩ := hc.group g hg
  exact ⟨h0, h1, hno g h2⟩
 ·obtain ⟨h0, h1, h2⟩ := hc.chan g hg
  exact ⟨h0, h1, hno g h2⟩
 ·obtain ⟨h0, h1, h2⟩ := hc.fr b y hf
  exact ⟨h0, h1, hno b h2⟩
theorem Conc.leave {E : Env} {V : View} {H : List AObj} (hc : Conc E V H) (id : Nat) : Conc E V (H.set id .gone) :=
 hc.turn id .gone (Env.Le.refl E) hc.I (by simpa using hc.n) list_set_get rfl (fun _ _ _ => rfl) (fun _ _ _ hy => ⟨hy, fun _ => rfl⟩) trivial (fun b h => by cases h)
theorem denp_app {E : Env} {l l' : List AV} {cs vs : Array Value} (h : Denp E l cs) (k : Denl E l' vs) (hl : l.length + l'.length <= cs.size) : Denp E (l ++ l') (storeAt cs l.length vs.toList) := by
 have hv : vs.toList.length = l'.length := by simpa using k.1
 refine ⟨by rw [storeAt_size, List.length_append]; exact hl, fun i a e => ?_⟩
 rw [storeAt_get _ _ _ _ (by rw [hv]; exact hl), hv]
 by_cases h1 : i < l.length
 ·rw [if_neg (by omega)]
  rw [List.getElem?_append_left h1] at e
  exact h.2 i a e
 ·rw [List.getElem?_append_right (by omega)] at e
  have h2 := (List.getElem?_eq_some_iff.1 e).1
  rw [if_pos ⟨by omega, by omega⟩]
  have := k.2 _ a e
  simpa [Array.getD_eq_getD_getElem?, List.getD_eq_getElem?_getD] using this
theorem denp_grow {E : Env} {l : List AV} {cs : Array Value} {k : Nat} (h : Denl E l (cs.extract 0 k)) (hk : l.length = k) (hs : k <= cs.size) : Denp E l cs := by
 refine ⟨by omega, fun i a e => ?_⟩
 have hi := (List.getElem?_eq_some_iff.1 e).1
 have hic : i < cs.size := by omega
 have := h.2 i a e
 rw [Array.getD_eq_getD_getElem?, Array.getElem?_extract_of_lt (by omega)] at this
 rw [Array.getD_eq_getD_getElem?]
 simpa [Array.getElem?_eq_getElem hic] using this
theorem step_appendH {c : Call} {x y : Operand} {t t' elem : TypeId} {sz n m : Nat} {z : Value} {l l' : List AV} {av : AV} (ho : o.op = .call c) (hcl : c.callee = .builtin .append) (hargs : c.args = #[x, y]) (hts : c.argTypes = #[t, t']) (ht : AppOf P t t' = some (elem, sz, z))
  (hx : s.ev x = some (.sl n l .exact)) (hy : s.ev y = some av) (hs : s.src sz av = some (m, l')) (hl : l.length = n * sz) (hl' : l'.length = m * sz) (hb : n + m <= 2 ^ 30) (hm : 0 < m) (hn : next ((⟨s.T, s.H ++ [.own sz (l ++ l') elem]⟩ : AS).put o.dst (.osl s.H.length 0 (n + m) 0))) : Step lv P r o s next bad := by
 intro E V a N Q hc htk hd hdf h1 _
 refine ⟨hdf, ?_⟩
 have hdx := Den.ev htk hx
 have hdy := Den.ev htk hy
 generalize hvx : a.eval x = vx at hdx
 generalize hvy : a.eval y = vy at hdy
 unfold execOp; rw [ho]
 dsimp only
 unfold resolve
 rw [hcl]
 dsimp only
 refine semOk_bind (semOk_pure' ?_)
 unfold invoke builtin
 dsimp only
 refine semOk_bind ?_
 have hmap : c.args.map a.eval = #[vx, vy] := by rw [hargs]; simp [hvx, hvy]
 rw [hmap, hts]
 obtain ⟨base, cap, rfl⟩ : ∃ base cap, vx = .slice base n cap := by
  cases hdx with
  | sl b o cap f hcap he q1 q2 => exact ⟨_, _, rfl⟩
  | nil he => exact ⟨_, _, rfl⟩
 have hcn : cap = n := by
  cases hdx with
  | sl b o cap f hcap he q1 q2 => exact he
  | nil he => rfl
 subst hcn
 refine semOk_append_grow hc ht hdx hdy hs hl hl' hb (by omega) fun rr cs cap' hf hden hle hsz => ?_
 have hsum : (l ++ l').length = (cap + m) * sz := by rw [List.length_append, hl, hl', Nat.add_mul]
 have hsize : (cap + m) * sz <= cs.size := by rw [hsz]; exact Nat.mul_le_mul_right _ hle
 have hlE : E.Le (E.addR rr V.imm cap') := E.le_addR rr cap' (fun b o v h => by rw [<- hc.I]; exact h)
 have hc' := hc.addR (el := elem) (c := cap') hf ((denp_grow hden hsum hsize).mono hlE) hsz
 have hdn := den_addR hc.n (r := rr) V.imm hle (n := cap + m) (cap := cap') hle (Nat.le_refl _) (by omega)
 exact semOk_pure' (h1 _ _ (a.put o.dst _) _ ⟨hlE, put_size _ _ _, put_defers _ _ _, rfl, rfl⟩ (by rw [put_H]; exact hc') (TOk.putd (s := ⟨s.T, s.H ++ [.own sz (l ++ l') elem]⟩) (htk.mono hlE) hd hdn) hn)
theorem step_appendG {c : Call} {x y : Operand} {t t' elem el : TypeId} {sz n m c0 id : Nat} {z : Value} {l l' : List AV} {av : AV} (ho : o.op = .call c) (hcl : c.callee = .builtin .append) (hargs : c.args = #[x, y]) (hts : c.argTypes = #[t, t']) (ht : AppOf P t t' = some (elem, sz, z))
  (hx : s.ev x = some (.osl id 0 n c0)) (hc0 : c0 < n) (hid : s.H[id]? = some (.own sz l el)) (hel : el = elem) (hy : s.ev y = some av) (hs : s.src sz av = some (m, l')) (hl : l.length = n * sz) (hl' : l'.length = m * sz) (hb : n + m <= 2 ^ 30) (hleaf : ∀ a ∈ l', a.leaf = true) (hn : next ((⟨s.T, s.H.set id .gone ++ [.own sz (l ++ l') elem]⟩ : AS).put o.dst (.osl s.H.length 0 (n + m) 0))) : Step lv P r o s next bad := by
 subst hel
 intro E V a N Q hc htk hd hdf h1 _
 refine ⟨hdf, ?_⟩
 have hdx := Den.ev htk hx
 have hdy := Den.ev htk hy
 generalize hvx : a.eval x = vx at hdx
 generalize hvy : a.eval y = vy at hdy
 unfold execOp; rw [ho]
 dsimp only
 unfold resolve
 rw [hcl]
 dsimp only
 refine semOk_bind (semOk_pure' ?_)
 unfold invoke builtin
 dsimp only
 refine semOk_bind ?_
 have hmap : c.args.map a.eval = #[vx, vy] := by rw [hargs]; simp [hvx, hvy]
 rw [hmap, hts]
 have hdx0 := hdx
 have hsum : (l ++ l').length = (n + m) * sz := by rw [List.length_append, hl, hl', Nat.add_mul]
 have hs0 : s.src sz (.osl id 0 n c0) = some (n, l) := by
  simp only [AS.src]; rw [hid]; simp only [List.drop_zero]; rw [<- hl, List.take_length]
 cases hdx with
 | osl hi hcap =>
  rename_i cap'
  obtain ⟨q1, _, q3⟩ := hcap
  have q3 := q3 hc0
  obtain ⟨⟨cs, p1, p2, p3⟩, p4⟩ := hc.obj id _ hid
  by_cases hfit : n + m <= cap'
  ·have hb1 : (n + m) * sz <= cap' * sz := Nat.mul_le_mul_right _ hfit
   have hb2 : cap' * sz <= cs.size := by rw [p3]; exact Nat.mul_le_mul_right _ q3
   refine semOk_append_fit hc ht hdy hs hl' hfit p1 hb2 (fun o _ => p4 o) (hc.notGroup hid rfl) hleaf fun cs2 hcs2 => ?_
   have hdp : Denp E (l ++ l') (storeAt cs (n * sz) cs2.toList) := by
    rw [<- hl]; exact denp_app p2 hcs2 (by rw [<- List.length_append, hsum]; omega)
   have hc1 := hc.setO hid hdp (by rw [storeAt_size]; exact p3)
   have hget : (s.H.set id (.own sz (l ++ l') el))[id]? = some (.own sz (l ++ l') el) := by rw [List.getElem?_set_self ((List.getElem?_eq_some_iff.1 hid).1)]
   have hc2 := hc1.relabel hget
   rw [List.set_set] at hc2
   have hlE : E.Le (E.addR (E.blk id) V.imm (E.room id 0).2) := E.le_addR _ _ (fun b o v h => by rw [<- hc.I]; exact h)
   have hdn : Den (E.addR (E.blk id) V.imm (E.room id 0).2) (.osl s.H.length 0 (n + m) 0) (.slice (some ⟨E.blk id, 0, none⟩) (n + m) cap') := den_addR hc.n V.imm (by omega) hfit q3 (by omega)
   exact semOk_pure' (h1 _ _ (a.put o.dst _) _ ⟨hlE, put_size _ _ _, put_defers _ _ _, rfl, rfl⟩ (by rw [put_H]; exact hc2) (TOk.putd (s := ⟨s.T, s.H.set id .gone ++ [.own sz (l ++ l') el]⟩) (htk.mono hlE) hd hdn) hn)
  ·refine semOk_append_growG hc ht hdx0 hs0 hdy hs hl hl' hb (by omega) fun rr cs' cap2 hf hden hle hsz => ?_
   have hsize : (n + m) * sz <= cs'.size := by rw [hsz]; exact Nat.mul_le_mul_right _ hle
   have hlE : E.Le (E.addR rr V.imm cap2) := E.le_addR rr cap2 (fun b o v h => by rw [<- hc.I]; exact h)
   have hc0' := hc.leave id
   have hc' := hc0'.addR (el := el) (c := cap2) hf ((denp_grow hden hsum hsize).mono hlE) hsz
   have hdn : Den (E.addR rr V.imm cap2) (.osl s.H.length 0 (n + m) 0) (.slice (some ⟨rr, 0, none⟩) (n + m) cap2) := den_addR hc.n V.imm hle hle (Nat.le_refl _) (by omega)
   exact semOk_pure' (h1 _ _ (a.put o.dst _) _ ⟨hlE, put_size _ _ _, put_defers _ _ _, rfl, rfl⟩ (by rw [put_H]; exact hc') (TOk.putd (s := ⟨s.T, s.H.set id .gone ++ [.own sz (l ++ l') el]⟩) (htk.mono hlE) hd hdn) hn)
end
open Go.Conc
theorem i64_in (n : Int) (h : -9223372036854775808 <= n /\ n <= 9223372036854775807) : IntKind.i64.wrap n = n := by
 have e : IntKind.i64.wrap n = if n % 18446744073709551616 >= 9223372036854775808 then n % 18446744073709551616 - 18446744073709551616 else n % 18446744073709551616 := by
  unfold IntKind.wrap
  simp [IntKind.bits, IntKind.signed]
 rw [e]; split <;> omega
def Sure (P : Program) {α : Type} (s : Sem α) (x : α) : Prop := ∀ w es, s.runT P w es = (.ok x w, es)
theorem Sure.ok {P : Program} {α : Type} {V : View} {s : Sem α} {x : α} {K : α -> View -> Prop} {Kp : Value -> View -> Prop} (h : Sure P s x) (hk : K x V) : SemOk P V s K Kp :=
 fun w hw es0 => ⟨#[], w, V, by simpa [noExt] using StepOk.idle hw, .inl ⟨x, by rw [h w es0]; simp, hk⟩⟩
theorem Sure.bind {P : Program} {α β : Type} {V : View} {s : Sem α} {x : α} {f : α -> Sem β} {K : β -> View -> Prop} {Kp : Value -> View -> Prop} (h : Sure P s x) (hk : SemOk P V (f x) K Kp) : SemOk P V (s >>= f) K Kp :=
 semOk_bind (h.ok hk)
def AV.asI : AV -> Option Int
 | .val (.int _ n) => some n
 | _ => none
theorem Den.asI {E : Env} {a : AV} {v : Value} {n : Int} (hd : Den E a v) (h : a.asI = some n) : ∃ k, v = .int k n := by
 cases hd with
 | val x => unfold AV.asI at h; split at h <;> simp_all
 | _ => cases h
def AS.bnd (s : AS) : Option Operand -> Option (Option Int)
 | none => some none
 | some x => match s.ev x with
  | some a => a.asI.map some
  | none => none
theorem bnd_out {E : Env} {s : AS} {a : Act} (k : TOk E s.T a.tmps) {x : Option Operand} {i : Option Int} (h : s.bnd x = some i) : (i = none /\ x.map a.eval = none) \/ ∃ n kd, i = some n /\ x.map a.eval = some (.int kd n) := by
 cases x with
 | none => cases h; exact .inl ⟨rfl, rfl⟩
 | some x =>
  simp only [AS.bnd] at h
  split at h
  ·rename_i av hav
   obtain ⟨n, hn, rfl⟩ := dsome h
   obtain ⟨kd, hv⟩ := (Den.ev k hav).asI hn
   exact .inr ⟨n, kd, rfl, by simp [hv]⟩
  ·cases h
section
variable {P : Program} {V : View} {Kp : Value -> View -> Prop}
theorem semOk_sliceBound {kd : IntKind} {n : Int} {y : Nat} {code : BoundsCode} {K : Nat -> View -> Prop} (h0 : 0 <= n) (h1 : n <= y) (h : K n.toNat V) : SemOk P V (Instr.sliceBound (.int kd n) y code) K Kp := by
 unfold Instr.sliceBound asIntOf
 refine semOk_bind (semOk_pure' ?_)
 dsimp only
 rw [if_pos ⟨h0, h1⟩]
 exact semOk_pure' h
theorem semOk_sliceBounds {E : Env} {s : AS} {a : Act} (k : TOk E s.T a.tmps) {isS : Bool} {len cap : Nat} {lo hi mx : Option Operand} {l h m : Option Int} (hl : s.bnd lo = some l) (hh : s.bnd hi = some h) (hm : s.bnd mx = some m) {K : Nat × Nat × Nat -> View -> Prop}
  (hlc : len <= cap) (c0 : 0 <= l.getD 0) (c1 : l.getD 0 <= h.getD len) (c2 : h.getD len <= m.getD cap) (c3 : m.getD cap <= cap) (c4 : m.isSome = true -> h.isSome = true) (hK : K ((l.getD 0).toNat, (h.getD len).toNat, (m.getD cap).toNat) V) :
  SemOk P V (Instr.sliceBounds isS len cap (lo.map a.eval) (hi.map a.eval) (mx.map a.eval)) K Kp := by
 unfold Instr.sliceBounds
 rcases bnd_out k hm with ⟨rfl, em⟩ | ⟨vm, km, rfl, em⟩
 ·rw [em]
  refine semOk_bind (semOk_pure' ?_)
  rcases bnd_out k hh with ⟨rfl, eh⟩ | ⟨vh, kh, rfl, eh⟩
  ·rw [eh]
   refine semOk_bind (semOk_pure' ?_)
   rcases bnd_out k hl with ⟨rfl, el⟩ | ⟨vl, kl, rfl, el⟩
   ·rw [el]; exact semOk_bind (semOk_pure' (semOk_pure' (by simpa using hK)))
   ·rw [el]
    simp only [Option.getD_some, Option.getD_none] at c0 c1 c2
    exact semOk_bind (semOk_sliceBound c0 c1 (semOk_pure' (by simpa using hK)))
  ·rw [eh]
   simp only [Option.getD_some, Option.getD_none] at c0 c1 c2 c3
   refine semOk_bind (semOk_sliceBound (by omega) c2 ?_)
   rcases bnd_out k hl with ⟨rfl, el⟩ | ⟨vl, kl, rfl, el⟩
   ·rw [el]; exact semOk_bind (semOk_pure' (semOk_pure' (by simpa using hK)))
   ·rw [el]
    simp only [Option.getD_some, Option.getD_none] at c0 c1 c2
    exact semOk_bind (semOk_sliceBound c0 (by omega) (semOk_pure' (by simpa using hK)))
 ·rw [em]
  simp only [Option.getD_some, Option.isSome_some, true_implies] at c2 c3 c4
  rcases bnd_out k hh with ⟨rfl, eh⟩ | ⟨vh, kh, rfl, eh⟩
  ·cases c4
  ·rw [eh]
   simp only [Option.getD_some] at c1 c2 c0
   refine semOk_bind (semOk_sliceBound (by omega) c3 ?_)
   refine semOk_bind (semOk_sliceBound (by omega) (by omega) ?_)
   rcases bnd_out k hl with ⟨rfl, el⟩ | ⟨vl, kl, rfl, el⟩
   ·rw [el]; exact semOk_bind (semOk_pure' (semOk_pure' (by simpa using hK)))
   ·rw [el]
    simp only [Option.getD_some] at c0 c1
    exact semOk_bind (semOk_sliceBound c0 (by omega) (semOk_pure' (by simpa using hK)))
end
def SlCut (n : Nat) (l : List AV) (e : End) (sz : Nat) (lo hi mx : Option Int) (k : AV -> Prop) : Prop :=
 l.length = n * sz /\ 0 <= lo.getD 0 /\ lo.getD 0 <= hi.getD n /\ hi.getD n <= mx.getD n /\ mx.getD n <= n /\ (mx.isSome = true -> hi.isSome = true) /\
 k (.sl ((hi.getD n).toNat - (lo.getD 0).toNat) ((l.drop ((lo.getD 0).toNat * sz)).take (((hi.getD n).toNat - (lo.getD 0).toNat) * sz))
  (if mx.isSome && mx.getD n == hi.getD n then .exact else if lo.getD 0 == 0 && hi.getD n == n && mx.isNone then e else .shut))
def IsSliceOf (P : Program) (t : TypeId) : Option (TypeId × Nat) := match P.underlying t with
 | some (.slice e) => (P.info? e).map fun i => (e, i.size)
 | _ => none
def IsArrOf (P : Program) (t : TypeId) : Option (Nat × Nat) := match P.underlying t with
 | some (.array n e) => (P.info? e).map fun i => (n, i.size)
 | _ => none
open Go.Conc
section
variable {lv : Bool} {P : Program} {r : Option Nat} {o : Oper} {s : AS} {next : AS -> Prop} {bad : AV -> AS -> Prop}
theorem q_slice {t e : TypeId} {x : Operand} {lo hi mx : Option Operand} {l h m : Option Int} {n sz : Nat} {li : List AV} {en : End} (ho : o.op = .slice t x lo hi mx) (ht : IsSliceOf P t = some (e, sz)) (hx : s.ev x = some (.sl n li en)) (hl : s.bnd lo = some l) (hh : s.bnd hi = some h) (hm : s.bnd mx = some m)
  {k : AV -> Prop} (hc : SlCut n li en sz l h m k) : ∃ av, QStep lv P r o s av /\ k av := by
 obtain ⟨hlen, c0, c1, c2, c3, c4, hk⟩ := hc
 refine ⟨_, q_val (fun E V a hc htk => ?_), hk⟩
 have hd := Den.ev htk hx
 generalize hv : a.eval x = v at hd
 unfold IsSliceOf at ht
 split at ht
 ·rename_i e' hu
  obtain ⟨i, hi', ht⟩ := dsome ht
  cases ht
  unfold execOp; rw [ho]; simp only [hv]
  refine semOk_bind ?_
  unfold Instr.sliceAt
  refine semOk_underlying hu ?_
  dsimp only
  unfold Instr.slice
  refine semOk_underlying hu ?_
  obtain ⟨base, cap, rfl⟩ : ∃ base cap, v = .slice base n cap := by
   cases hd with
   | sl b o cap f hcap he q1 q2 => exact ⟨_, _, rfl⟩
   | nil he => exact ⟨_, _, rfl⟩
  have hcap : n <= cap := by
   cases hd with
   | sl b o cap f hcap he q1 q2 => exact hcap
   | nil he => exact Nat.le_refl _
  dsimp only
  have hmm : m.getD (cap : Int) = if m.isSome then m.getD n else cap := by cases m <;> simp
  refine semOk_bind (semOk_sliceBounds htk hl hh hm hcap c0 c1 ?_ ?_ c4 ?_)
  ·cases m with
   | none => simp only [Option.getD_none] at c2 ⊢; omega
   | some m => simpa using c2
  ·cases m with
   | none => simp
   | some m => simp only [Option.getD_some] at c3 ⊢; omega
  refine semOk_sizeOf hi' ?_
  refine semOk_pure' (semOk_pure' ⟨rfl, _, rfl, ?_⟩)
  generalize hA : (l.getD 0).toNat = A
  generalize hB : (h.getD (n : Int)).toNat = B
  have hAB : A <= B := by omega
  have hBn : B <= n := by omega
  generalize hM : (m.getD (cap : Int)).toNat = M
  have hBM : B <= M := by
   cases m with
   | none => simp only [Option.getD_none] at hM; omega
   | some m => simp only [Option.getD_some] at hM c2; omega
  cases hd with
  | nil he =>
   have hA0 : A = 0 := by omega
   have hB0 : B = 0 := by omega
   have hM0 : M = 0 := by
    cases m with
    | none => simp only [Option.getD_none] at hM; omega
    | some m => simp only [Option.getD_some] at hM c3; omega
   rw [hA0, hB0, hM0]
   simp only [if_true, Nat.sub_zero, Nat.zero_mul, List.take_zero]
   refine .nil ?_
   split
   ·rfl
   ·split
    ·exact he
    ·trivial
  | sl b o cap f hcap he q1 q2 =>
   have hadr : (if M = A then some (⟨b, o, none⟩ : Addr) else (some (⟨b, o, none⟩ : Addr)).map fun x => x.add (A * i.size)) = some ⟨b, if M = A then o else o + A * i.size, none⟩ := by
    split
    ·rfl
    ·simp only [Option.map_some, add_plain]
   rw [hadr]
   have hb : (B - A) * i.size + A * i.size <= n * i.size := by rw [<- Nat.add_mul]; exact Nat.mul_le_mul_right _ (by omega)
   refine .sl b _ (M - A) (fun j => f (A * i.size + j)) (by omega) ?_ (fun j hj => ?_) (fun j y hj => ?_)
   ·split
    ·rename_i hx
     simp only [Bool.and_eq_true, beq_iff_eq] at hx
     cases m with
     | none => simp at hx
     | some m =>
      simp only [Option.getD_some] at hM hx
      show M - A = B - A
      omega
    ·split
     ·rename_i hx
      simp only [Bool.and_eq_true, beq_iff_eq] at hx
      obtain ⟨⟨x1, x2⟩, x3⟩ := hx
      have : A = 0 := by omega
      have : B = n := by omega
      cases m with
      | some m => cases x3
      | none =>
       simp only [Option.getD_none] at hM
       have hMc : M = cap := by omega
       subst hMc
       have e1 : M - A = M := by omega
       have e2 : B - A = n := by omega
       have e3 : (if M = A then o else o + A * i.size) = o := by split <;> simp_all
       rw [e1, e2, e3]; exact he
     ·trivial
   ·simp only [List.length_take, List.length_drop] at hj
    have hMA : M ≠ A := by
     intro e
     have : B - A = 0 := by omega
     rw [this] at hj; omega
    rw [if_neg hMA, Nat.add_assoc]
    exact q1 _ (by omega)
   ·rw [List.getElem?_take] at hj
    split at hj
    ·rw [List.getElem?_drop] at hj
     exact q2 _ _ hj
    ·cases hj
 ·cases ht
def OwnCut (id off n cap sz : Nat) (lo hi mx : Option Int) (k : AV -> Prop) : Prop :=
 n <= cap /\ 0 <= lo.getD 0 /\ lo.getD 0 <= hi.getD n /\ hi.getD n <= mx.getD cap /\ mx.getD cap <= cap /\ (mx.isSome = true -> hi.isSome = true) /\ (lo.getD 0 = 0 \/ lo.getD 0 < mx.getD cap) /\
 k (.osl id (off + (lo.getD 0).toNat * sz) ((hi.getD n).toNat - (lo.getD 0).toNat) ((mx.getD cap).toNat - (lo.getD 0).toNat))
theorem q_sliceOwn {t e : TypeId} {x : Operand} {lo hi mx : Option Operand} {l h m : Option Int} {id off n cap sz : Nat} (ho : o.op = .slice t x lo hi mx) (ht : IsSliceOf P t = some (e, sz)) (hx : s.ev x = some (.osl id off n cap)) (hl : s.bnd lo = some l) (hh : s.bnd hi = some h) (hm : s.bnd mx = some m)
  {k : AV -> Prop} (hc : OwnCut id off n cap sz l h m k) : ∃ av, QStep lv P r o s av /\ k av := by
 obtain ⟨hlen, c0, c1, c2, c3, c4, c5, hk⟩ := hc
 refine ⟨_, q_val (fun E V a hc htk => ?_), hk⟩
 have hd := Den.ev htk hx
 generalize hv : a.eval x = v at hd
 unfold IsSliceOf at ht
 split at ht
 ·rename_i e' hu
  obtain ⟨i, hi', ht⟩ := dsome ht
  cases ht
  unfold execOp; rw [ho]; simp only [hv]
  refine semOk_bind ?_
  unfold Instr.sliceAt
  refine semOk_underlying hu ?_
  dsimp only
  unfold Instr.slice
  refine semOk_underlying hu ?_
  cases hd with
  | osl hid hcap =>
   rename_i cap'
   obtain rfl : cap = cap' := hcap.2.1 hlen
   dsimp only
   refine semOk_bind (semOk_sliceBounds htk hl hh hm hlen c0 c1 c2 c3 c4 ?_)
   refine semOk_sizeOf hi' ?_
   refine semOk_pure' (semOk_pure' ⟨rfl, _, rfl, ?_⟩)
   have hadr : (if (m.getD (cap : Int)).toNat = (l.getD 0).toNat then some (⟨E.blk id, off, none⟩ : Addr) else (some (⟨E.blk id, off, none⟩ : Addr)).map fun x => x.add ((l.getD 0).toNat * i.size)) = some ⟨E.blk id, off + (l.getD 0).toNat * i.size, none⟩ := by
    split
    ·have : (l.getD 0).toNat = 0 := by omega
     rw [this]; simp
    ·simp only [Option.map_some, add_plain]
   rw [hadr]
   exact .osl hid ⟨by dsimp only; omega, fun _ => rfl, fun h => absurd h (by omega)⟩
 ·cases ht
theorem q_sliceArr {t : TypeId} {x : Operand} {lo hi mx : Option Operand} {l h m : Option Int} {id off n sz : Nat} (ho : o.op = .slice t x lo hi mx) (ht : IsArrOf P t = some (n, sz)) (hx : s.ev x = some (.op id off)) (hl : s.bnd lo = some l) (hh : s.bnd hi = some h) (hm : s.bnd mx = some m)
  {k : AV -> Prop} (hc : OwnCut id off n n sz l h m k) : ∃ av, QStep lv P r o s av /\ k av := by
 obtain ⟨hlen, c0, c1, c2, c3, c4, c5, hk⟩ := hc
 refine ⟨_, q_val (fun E V a hc htk => ?_), hk⟩
 have hd := Den.ev htk hx
 generalize hv : a.eval x = v at hd
 unfold IsArrOf at ht
 split at ht
 ·rename_i m' e' hu
  obtain ⟨i, hi', ht⟩ := dsome ht
  cases ht
  unfold execOp; rw [ho]; simp only [hv]
  refine semOk_bind ?_
  unfold Instr.sliceAt
  refine semOk_underlying hu ?_
  cases hd with
  | op hid =>
   dsimp only
   unfold Instr.sureAddr
   refine semOk_bind (semOk_pure' ?_)
   refine semOk_bind (semOk_sliceBounds htk hl hh hm hlen c0 c1 c2 c3 c4 ?_)
   refine semOk_sizeOf hi' ?_
   refine semOk_pure' (semOk_pure' ⟨rfl, _, rfl, ?_⟩)
   have hadr : (if (m.getD (n : Int)).toNat = (l.getD 0).toNat then (⟨E.blk id, off, none⟩ : Addr) else (⟨E.blk id, off, none⟩ : Addr).add ((l.getD 0).toNat * i.size)) = ⟨E.blk id, off + (l.getD 0).toNat * i.size, none⟩ := by
    split
    ·have : (l.getD 0).toNat = 0 := by omega
     rw [this]; simp
    ·rw [add_plain]
   rw [hadr]
   exact .osl hid ⟨by dsimp only; omega, fun _ => rfl, fun h => absurd h (by omega)⟩
 ·cases ht
theorem step_copy {c : Call} {x y : Operand} {t t' e : TypeId} {id off n cap sz m : Nat} {l l' : List AV} {el : TypeId} {av : AV} (ho : o.op = .call c) (hcl : c.callee = .builtin .copy) (hargs : c.args = #[x, y]) (hts : c.argTypes = #[t, t']) (ht : IsSliceOf P t = some (e, sz)) (hx : s.ev x = some (.osl id off n cap))
  (hk : s.H[id]? = some (.cells l el)) (hy : s.ev y = some av) (hs : s.src sz av = some (m, l')) (hl' : l'.length = m * sz) (hl : off + min m n * sz <= l.length) (hleaf : ∀ a ∈ l', a.leaf = true)
  (hn : next ((⟨s.T, s.H.set id (.cells (putAt l off (l'.take (min m n * sz))) el)⟩ : AS).put o.dst (.val (.int .i64 (min m n : Nat))))) : Step lv P r o s next bad := by
 intro E V a N Q hc htk hd hdf h1 _
 refine ⟨hdf, ?_⟩
 have hdx := Den.ev htk hx
 have hdy := Den.ev htk hy
 generalize hvx : a.eval x = vx at hdx
 generalize hvy : a.eval y = vy at hdy
 unfold execOp; rw [ho]
 dsimp only
 unfold resolve
 rw [hcl]
 dsimp only
 refine semOk_bind (semOk_pure' ?_)
 unfold invoke builtin
 dsimp only
 refine semOk_bind ?_
 have hmap : c.args.map a.eval = #[vx, vy] := by rw [hargs]; simp [hvx, hvy]
 rw [hmap, hts]
 unfold IsSliceOf at ht
 split at ht
 ·rename_i e' hu
  obtain ⟨i, hi', ht⟩ := dsome ht
  cases ht
  cases hdx with
  | osl hid _ =>
   obtain ⟨⟨cs, p1, p2⟩, p3⟩ := hc.obj id _ hk
   obtain ⟨g1, g2⟩ := hc.notGroup hk rfl
   unfold Builtin.copy_
   simp only [List.getElem?_toArray, List.getElem?_cons_zero, List.getElem?_cons_succ]
   refine semOk_underlying hu ?_
   dsimp only
   rw [src_len hdy hs]
   refine semOk_bind (semOk_pure' ?_)
   refine semOk_sizeOf hi' ?_
   refine semOk_bind (semOk_first hc hdy hs hl' (Nat.min_le_left _ _) fun cs2 hcs2 => ?_)
   have h2 : (l'.take (min m n * i.size)).length = min m n * i.size := by
    have : min m n * i.size <= m * i.size := Nat.mul_le_mul_right _ (Nat.min_le_left _ _)
    simp; omega
   refine semOk_bind (semOk_storeCells _ 0 V cs g1 g2 p1 (fun o _ _ => p3 o) (by
    have hq : cs2.size = min m n * i.size := by (rw [hcs2.1]; exact h2)
    have := p2.1; simp only [Array.length_toList]; omega) (denl_leaves hcs2 (fun a ha => hleaf a (List.mem_of_mem_take ha))) ?_)
   rw [Nat.add_zero]
   refine semOk_pure' (semOk_pure' (h1 E _ (a.put o.dst _) _ ⟨Env.Le.refl E, put_size _ _ _, put_defers _ _ _, rfl, rfl⟩ (by rw [put_H]; exact hc.set hk (denl_putAt p2 hcs2 (by rw [h2]; exact hl)))
    (TOk.putd (s := ⟨s.T, s.H.set id (.cells (putAt l off (l'.take (min m n * i.size))) el)⟩) htk hd (.val _)) hn))
 ·cases ht
def MakeOf (P : Program) (t : TypeId) : Option (TypeId × Nat × Value) := match P.underlying t with
 | some (.slice e) => (P.info? e).bind fun i => i.zero.bind fun z => if z.cells.size = i.size /\ i.bytes <= 2 ^ 16 then some (e, i.size, z) else none
 | _ => none
theorem step_makeSlice {t e : TypeId} {x y : Operand} {n sz : Nat} {z : Value} {k k' : IntKind} (ho : o.op = .makeSlice t x y) (ht : MakeOf P t = some (e, sz, z)) (hx : s.ev x = some (.val (.int k n))) (hy : s.ev y = some (.val (.int k' n))) (hb : n <= 2 ^ 30)
  (hn : next ((⟨s.T, s.H ++ [.cells (zeroRow z (n * sz)) e]⟩ : AS).put o.dst (.osl s.H.length 0 n n))) : Step lv P r o s next bad := by
 intro E V a N Q hc htk hd hdf h1 _
 refine ⟨hdf, ?_⟩
 have hdx := Den.ev htk hx
 have hdy := Den.ev htk hy
 generalize hvx : a.eval x = vx at hdx
 generalize hvy : a.eval y = vy at hdy
 cases hdx; cases hdy
 unfold MakeOf at ht
 split at ht
 ·rename_i e' hu
  obtain ⟨i, q1, ht⟩ := Option.bind_eq_some_iff.1 ht
  obtain ⟨z', q2, ht⟩ := Option.bind_eq_some_iff.1 ht
  split at ht
  ·rename_i hcond
   cases ht
   unfold execOp; rw [ho]; simp only [hvx, hvy]
   refine semOk_bind ?_
   unfold Instr.makeSlice
   refine semOk_underlying hu ?_
   dsimp only
   refine semOk_bind (semOk_pure' ?_)
   refine semOk_bind (semOk_pure' ?_)
   refine semOk_typeInfo q1 ?_
   have hw : IntKind.i64.wrap (n : Int) = n := i64_in _ (by omega)
   rw [hw]
   have hmul : i.bytes * n <= 2 ^ 16 * 2 ^ 30 := Nat.mul_le_mul hcond.2 hb
   have hmul' : (i.bytes : Int) * n <= 2 ^ 46 := by exact_mod_cast hmul
   rw [if_neg (by simp; omega)]
   refine semOk_bind (semOk_askRoom ?_)
   refine semOk_sizeOf q1 ?_
   rw [Int.toNat_natCast]
   have fin : ∀ (zero : Array Value), (∀ j, j < n * i.size -> zero[j % zero.size]! = z.cells[j % z.cells.size]!) -> SemOk P V (do let a <- newRow e ((Array.range (n * i.size)).map (zero[· % zero.size]!)); pure (Value.slice (some a) n n)) (fun x V' => SemOk P V' (pure (Next.value x)) (Upon lv P r o a N Q) (fun v V' => Q (.panic [{ v, recovered := false }]) a V')) (fun v V' => Q (.panic [{ v, recovered := false }]) a V') := by
    intro zero hz
    unfold newRow
    refine semOk_bind (semOk_bind (semOk_new fun rr hf => semOk_pure (semOk_pure' (semOk_pure' (semOk_pure' ?_)))))
    have hle : E.Le (E.add rr V.imm) := E.le_add rr (fun b o v h => by rw [<- hc.I]; exact h)
    have hcells : (Array.range (n * i.size)).map (zero[· % zero.size]!) = (Array.range (n * i.size)).map (fun x => z.cells[x % z.cells.size]!) := by
     apply Array.ext'
     simp only [Array.toList_map]
     apply List.map_congr_left
     intro j hj
     exact hz j (by simpa using hj)
    rw [hcells]
    have hc' : Conc (E.add rr V.imm) (V.upd rr (.cells ((Array.range (n * i.size)).map (fun x => z.cells[x % z.cells.size]!)) e)) (s.H ++ [.cells (zeroRow z (n * i.size)) e]) := by
     refine hc.add hf _ ⟨⟨_, ?_, denl_zeroRow z _⟩, fun o => ?_⟩ (fun b e => ?_)
     ·rw [Env.add_blk]; simp [View.upd]
     ·rw [Env.add_blk]; exact hf.2 o
     ·simp only [blkOf, Env.add_blk, Option.some.injEq] at e; exact e.symm
    have hden : Den (E.add rr V.imm) (.osl s.H.length 0 n n) (.slice (some ⟨rr, 0, none⟩) n n) := by
     have := Den.osl (E := E.add rr V.imm) (id := s.H.length) (off := 0) (n := n) (cap := n) (cap' := n) (by show _ < E.n + 1; rw [hc.n]; omega) ⟨Nat.le_refl _, fun _ => rfl, fun h => absurd h (Nat.lt_irrefl _)⟩
     have e : (E.add rr V.imm).blk s.H.length = rr := by rw [<- hc.n]; exact E.add_blk rr _
     rwa [e] at this
    exact h1 _ _ (a.put o.dst _) ((⟨s.T, s.H ++ [.cells (zeroRow z (n * i.size)) e]⟩ : AS).put o.dst (.osl s.H.length 0 n n)) ⟨hle, put_size _ _ _, put_defers _ _ _, rfl, rfl⟩ (by rw [put_H]; exact hc')
     (TOk.putd (s := ⟨s.T, s.H ++ [.cells (zeroRow z (n * i.size)) e]⟩) (htk.mono hle) hd hden) hn
   by_cases h0 : n * i.size = 0
   ·rw [if_pos h0]
    refine semOk_bind (semOk_pure' ?_)
    exact fin #[] (fun j hj => by omega)
   ·rw [if_neg h0]
    refine semOk_bind (semOk_bind ?_)
    unfold typeInfo
    refine semOk_bind (semOk_program (semOk_pure ?_))
    rw [q1]
    refine semOk_pure' ?_
    rw [q2]
    refine semOk_pure' (semOk_bind (semOk_pure' ?_))
    exact fin z.cells (fun j _ => rfl)
  ·cases ht
 ·cases ht
def AV.raw1 : AV -> Option Value
 | .val x => some x
 | _ => none
def AV.raw : AV -> Option Value
 | .val x => some x
 | .agg l => (l.mapM AV.raw1).map fun vs => .agg vs.toArray
 | _ => none
theorem Den.raw1 {E : Env} {a : AV} {v x : Value} (h : Den E a v) (hr : a.raw1 = some x) : v = x := by
 cases h <;> cases hr; rfl
theorem Den.raw {E : Env} {a : AV} {v x : Value} (h : Den E a v) (hr : a.raw = some x) : v = x := by
 cases h with
 | val => cases hr; rfl
 | agg hs h =>
  obtain ⟨vs, h1, rfl⟩ := dsome hr
  congr 1
  rename_i l cs
  have key : ∀ (l : List AV) (vs : List Value) (cs : List Value), l.mapM AV.raw1 = some vs -> cs.length = l.length -> (∀ (i : Nat) a, l[i]? = some a -> Den E a (cs.getD i undef)) -> cs = vs := by
   intro l
   induction l with
   | nil => intro vs cs h1 h2 _; simp at h1; subst h1; simpa using h2
   | cons a l ih =>
    intro vs cs h1 h2 h3
    simp only [List.mapM_cons, Option.pure_def, Option.bind_eq_bind, Option.bind_eq_some_iff, Option.some.injEq] at h1
    obtain ⟨b, e1, bs, e2, rfl⟩ := h1
    cases cs with
    | nil => simp at h2
    | cons c cs =>
     have hc := (h3 0 a rfl).raw1 e1
     have := ih bs cs e2 (by simpa using h2) (fun i x hx => by simpa using h3 (i + 1) x (by simpa using hx))
     subst this
     simp only [List.getD_cons_zero] at hc
     rw [hc]
  have := key l vs cs.toList h1 (by simpa using hs) (fun i a e => by have := h i a e; rw [Array.getD_eq_getD_getElem?] at this; simpa [List.getD_eq_getElem?_getD] using this)
  rw [<- this]
 | _ => cases hr
def eqKind : Value -> Value -> Bool
 | .agg _, .agg _ => true
 | .bool _, .bool _ => true
 | _, _ => false
theorem q_eq {op : BinOp} {xt yt : TypeId} {x y : Operand} {a b : AV} {X Y : Value} {e : Bool} (ho : o.op = .binOp op xt x y yt) (hop : op = .eql \/ op = .neq) (hx : s.ev x = some a) (hy : s.ev y = some b) (hX : a.raw = some X) (hY : b.raw = some Y) (hk : eqKind X Y = true) (hg : P.eqGuardType P.depth xt = false) (he : Sure P (Op.equal xt X Y) e) :
  QStep lv P r o s (.val (.bool (if op == .neq then !e else e))) :=
 q_val (fun E V ac hc htk => by
  have e1 := (Den.ev htk hx).raw hX
  have e2 := (Den.ev htk hy).raw hY
  unfold execOp; rw [ho]
  simp only [e1, e2]
  refine semOk_bind ?_
  have guard : ∀ {K : Unit -> View -> Prop}, K () V -> SemOk P V (eqGuard op xt x y X Y) K (fun _ _ => False) := fun hK => by
   unfold eqGuard
   unfold eqKind at hk
   split at hk
   ·rcases hop with rfl | rfl
    all_goals
     simp only [Bool.not_true, Bool.false_eq_true, if_false]
     refine semOk_bind (semOk_program (semOk_pure ?_))
     refine semOk_bind (semOk_program (semOk_pure ?_))
     rw [hg]
     exact semOk_pure' hK
   ·rcases hop with rfl | rfl <;> exact semOk_pure' hK
   ·cases hk
  refine semOk_bind (guard ?_)
  unfold eqKind at hk
  split at hk
  ·rcases hop with rfl | rfl <;> (unfold binOp; refine he.bind (semOk_pure' (semOk_pure' ⟨rfl, _, rfl, ?_⟩)); exact .val _)
  ·rcases hop with rfl | rfl <;> (unfold binOp; refine he.bind (semOk_pure' (semOk_pure' ⟨rfl, _, rfl, ?_⟩)); exact .val _)
  ·cases hk)
theorem equal_ifnil {t : TypeId} {v : Value} {b : Bool} {V : View} {K : Bool -> View -> Prop} {Kp : Value -> View -> Prop} (ht : isIfc P t = some true) (hv : (v = .nilIface /\ b = true) \/ ((∃ u x, v = .iface u x) /\ b = false)) (hk : K b V) : SemOk P V (Op.equal t v .nilIface) K Kp := by
 obtain ⟨el, hu⟩ : ∃ el, P.underlying t = some (.interface el) := by
  unfold isIfc at ht
  cases h : P.underlying t with
  | none => rw [h] at ht; cases ht
  | some d =>
   rw [h] at ht
   cases d <;> first | exact ⟨_, rfl⟩ | (simp at ht)
 have e : Op.equal t v .nilIface = Op.equalIn (9999 + 1) t v .nilIface := rfl
 rw [e, Op.equalIn]
 refine semOk_underlying hu ?_
 rcases hv with ⟨rfl, rfl⟩ | ⟨⟨u, x, rfl⟩, rfl⟩
 ·exact semOk_pure' hk
 ·exact semOk_pure' hk
theorem q_ifnil {op : BinOp} {xt yt : TypeId} {x : Operand} {a : AV} {b : Bool} (ho : o.op = .binOp op xt x (.const .nilIface) yt) (hop : op = .eql \/ op = .neq) (hx : s.ev x = some a) (ha : (a = .val .nilIface /\ b = true) \/ ((∃ u y, a = .ifc u y) /\ b = false)) (ht : isIfc P xt = some true) :
  QStep lv P r o s (.val (.bool (if op == .neq then !b else b))) :=
 q_val (fun E V ac hc htk => by
  have hd := Den.ev htk hx
  generalize hvx : ac.eval x = vx at hd
  have hv : (vx = .nilIface /\ b = true) \/ ((∃ u y, vx = .iface u y) /\ b = false) := by
   rcases ha with ⟨rfl, rfl⟩ | ⟨⟨u, y, rfl⟩, rfl⟩
   ·cases hd; exact .inl ⟨rfl, rfl⟩
   ·cases hd; exact .inr ⟨⟨_, _, rfl⟩, rfl⟩
  have hy : ac.eval (.const .nilIface) = .nilIface := rfl
  unfold execOp; rw [ho]
  simp only [hvx, hy]
  refine semOk_bind ?_
  have guard : ∀ {K : Unit -> View -> Prop}, K () V -> SemOk P V (eqGuard op xt x (.const .nilIface) vx .nilIface) K (fun _ _ => False) := fun hK => by
   unfold eqGuard
   rcases hv with ⟨rfl, _⟩ | ⟨⟨u, y, rfl⟩, _⟩ <;> rcases hop with rfl | rfl <;> first | exact semOk_pure' hK | (simp; exact semOk_pure' hK)
  refine semOk_bind (guard ?_)
  rcases hv with ⟨rfl, rfl⟩ | ⟨⟨u, y, rfl⟩, rfl⟩ <;> rcases hop with rfl | rfl <;> (unfold binOp; refine semOk_bind (equal_ifnil (b := _) ht (by first | exact .inl ⟨rfl, rfl⟩ | exact .inr ⟨⟨_, _, rfl⟩, rfl⟩) (semOk_pure' (semOk_pure' ⟨rfl, _, rfl, ?_⟩))); exact .val _))
theorem equal_slnil {t : TypeId} {d : TypeId × Nat} {b : Option Addr} {n cap : Nat} {V : View} {K : Bool -> View -> Prop} {Kp : Value -> View -> Prop} (ht : IsSliceOf P t = some d) (hk : K b.isNone V) : SemOk P V (Op.equal t (.slice b n cap) (.slice none 0 0)) K Kp := by
 obtain ⟨el, hu⟩ : ∃ el, P.underlying t = some (.slice el) := by
  unfold IsSliceOf at ht
  split at ht
  ·rename_i e he; exact ⟨e, he⟩
  ·cases ht
 have e : Op.equal t (.slice b n cap) (.slice none 0 0) = Op.equalIn (9999 + 1) t (.slice b n cap) (.slice none 0 0) := rfl
 rw [e, Op.equalIn]
 refine semOk_underlying hu ?_
 cases b with
 | none => exact semOk_pure' hk
 | some a => exact semOk_pure' hk
theorem step_slnil {op : BinOp} {t yt : TypeId} {x : Operand} {n : Nat} {av : AV} {d : TypeId × Nat} (ho : o.op = .binOp op t x (.const (.slice none 0 0)) yt) (hop : op = .eql \/ op = .neq) (hx : s.ev x = some av) (hlen : av.len = some n) (ht : IsSliceOf P t = some d)
  (hn : ∀ b : Bool, (0 < n -> b = false) -> next (s.put o.dst (.val (.bool (if op == .neq then !b else b))))) : Step lv P r o s next bad := by
 intro E V a N Q hc htk hd hdf h1 _
 refine ⟨hdf, ?_⟩
 have hdx := Den.ev htk hx
 generalize hvx : a.eval x = vx at hdx
 obtain ⟨base, cap, rfl, hb⟩ : ∃ base cap, vx = .slice base n cap /\ (0 < n -> base.isNone = false) := by
  cases hdx with
  | sl b o cap f hcap he q1 q2 => cases hlen; exact ⟨_, _, rfl, fun _ => rfl⟩
  | nil he => cases hlen; exact ⟨_, _, rfl, fun h => absurd h (by omega)⟩
  | osl hi => cases hlen; exact ⟨_, _, rfl, fun _ => rfl⟩
  | _ => cases hlen
 unfold execOp; rw [ho]
 have hy : a.eval (.const (.slice none 0 0)) = .slice none 0 0 := rfl
 simp only [hvx, hy]
 have fin : SemOk P V (pure (Next.value (.bool (if op == .neq then !base.isNone else base.isNone)))) (Upon lv P r o a N Q) (fun v V' => Q (.panic [{ v, recovered := false }]) a V') :=
  semOk_pure' (h1 E V (a.put o.dst _) _ ⟨Env.Le.refl E, put_size _ _ _, put_defers _ _ _, rfl, rfl⟩ (by rw [put_H]; exact hc) (htk.putd hd (.val _)) (hn _ hb))
 rcases hop with rfl | rfl
 ·refine semOk_bind (semOk_bind (semOk_pure' ?_))
  unfold binOp
  exact semOk_bind (equal_slnil ht (semOk_pure' fin))
 ·refine semOk_bind (semOk_bind (semOk_pure' ?_))
  unfold binOp
  exact semOk_bind (equal_slnil ht (semOk_pure' fin))
theorem q_max {c : Call} {x y : Operand} {k j : IntKind} {m n : Int} (ho : o.op = .call c) (hcl : c.callee = .builtin .max) (hargs : c.args = #[x, y]) (hx : s.ev x = some (.val (.int k m))) (hy : s.ev y = some (.val (.int j n))) : QStep lv P r o s (.val (.int k (if n > m then n else m))) :=
 q_pure (fun E V a hc htk => by
  have h1 := Den.ev htk hx
  have h2 := Den.ev htk hy
  generalize hv1 : a.eval x = v1 at h1
  generalize hv2 : a.eval y = v2 at h2
  cases h1; cases h2
  refine ⟨_, ?_, .val _⟩
  unfold execOp; rw [ho]
  dsimp only
  unfold resolve
  rw [hcl]
  have hmap : c.args.map a.eval = #[.int k m, .int j n] := by rw [hargs]; simp [hv1, hv2]
  rw [hmap]
  rfl)
theorem q_min {c : Call} {x y : Operand} {k j : IntKind} {m n : Int} (ho : o.op = .call c) (hcl : c.callee = .builtin .min) (hargs : c.args = #[x, y]) (hx : s.ev x = some (.val (.int k m))) (hy : s.ev y = some (.val (.int j n))) : QStep lv P r o s (.val (.int k (if n < m then n else m))) :=
 q_pure (fun E V a hc htk => by
  have h1 := Den.ev htk hx
  have h2 := Den.ev htk hy
  generalize hv1 : a.eval x = v1 at h1
  generalize hv2 : a.eval y = v2 at h2
  cases h1; cases h2
  refine ⟨_, ?_, .val _⟩
  unfold execOp; rw [ho]
  dsimp only
  unfold resolve
  rw [hcl]
  have hmap : c.args.map a.eval = #[.int k m, .int j n] := by rw [hargs]; simp [hv1, hv2]
  rw [hmap]
  rfl)
theorem q_assert {x : Operand} {xt zas t : TypeId} {ok : Bool} {av : AV} {z : Value} (ho : o.op = .typeAssert x xt zas ok) (ht : isIfc P zas = some false) (hz : ZeroOf P zas = some z) (hx : s.ev x = some (.ifc t av)) (hok : ok = true \/ t = zas) :
  QStep lv P r o s (if t = zas then (if ok then .tup [av, .val (.bool true)] else av) else .tup [AV.of z, .val (.bool false)]) :=
 q_val (fun E V a hc htk => by
  have hd := Den.ev htk hx
  generalize hv : a.eval x = v at hd
  cases hd with
  | ifc hd =>
   obtain ⟨d, hu, hdd⟩ := dsome ht
   unfold execOp; rw [ho]; simp only [hv]
   refine semOk_bind ?_
   unfold Instr.typeAssert
   refine semOk_underlying hu ?_
   split
   ·rename_i h; cases hdd
   ·rename_i h; cases hdd
   ·rename_i h; cases h
   ·rename_i t' v' h
    cases h
    by_cases e : t = zas
    ·rw [if_pos e, if_pos e]
     cases ok
     ·exact semOk_pure' (semOk_pure' ⟨rfl, _, rfl, hd⟩)
     ·refine semOk_pure' (semOk_pure' ⟨rfl, _, rfl, .tup rfl fun i b hb => ?_⟩)
      match i, hb with
      | 0, hb => cases hb; exact hd
      | 1, hb => cases hb; exact .val _
    ·rw [if_neg e, if_neg e]
     have hok' : ok = true := hok.resolve_right e
     subst hok'
     simp only [if_true]
     refine semOk_bind (semOk_bind ?_)
     unfold ZeroOf at hz
     obtain ⟨inf, z1, z2⟩ := Option.bind_eq_some_iff.1 hz
     unfold typeInfo
     refine semOk_bind (semOk_program (semOk_pure ?_))
     rw [z1]
     refine semOk_pure' ?_
     rw [z2]
     refine semOk_pure' (semOk_pure' (semOk_pure' ⟨rfl, _, rfl, .tup rfl fun i b hb => ?_⟩))
     match i, hb with
     | 0, hb => cases hb; exact den_of E z
     | 1, hb => cases hb; exact .val _
   ·exfalso; simp_all)
theorem q_assertNil {x : Operand} {xt zas : TypeId} {z : Value} (ho : o.op = .typeAssert x xt zas true) (ht : isIfc P zas = some false) (hz : ZeroOf P zas = some z) (hx : s.ev x = some (.val .nilIface)) : QStep lv P r o s (.tup [AV.of z, .val (.bool false)]) :=
 q_val (fun E V a hc htk => by
  have hd := Den.ev htk hx
  generalize hv : a.eval x = v at hd
  cases hd
  obtain ⟨d, hu, hdd⟩ := dsome ht
  unfold execOp; rw [ho]; simp only [hv]
  refine semOk_bind ?_
  unfold Instr.typeAssert
  refine semOk_underlying hu ?_
  unfold ZeroOf at hz
  obtain ⟨inf, z1, z2⟩ := Option.bind_eq_some_iff.1 hz
  split
  ·rename_i h; cases hdd
  ·rename_i h; cases h
  ·simp only [if_true]
   refine semOk_bind (semOk_bind ?_)
   unfold typeInfo
   refine semOk_bind (semOk_program (semOk_pure ?_))
   rw [z1]
   refine semOk_pure' ?_
   rw [z2]
   refine semOk_pure' (semOk_pure' (semOk_pure' ⟨rfl, _, rfl, .tup rfl fun i b hb => ?_⟩))
   match i, hb with
   | 0, hb => cases hb; exact den_of E z
   | 1, hb => cases hb; exact .val _
  ·rename_i h; cases h
  ·exfalso; simp_all)
def NotNil (P : Program) (t : TypeId) (name : String) : Prop := ∀ v, Sure P (nilAhead (P.types.size + Made.depth) t v name) (some false)
theorem q_nilMeth {x : Operand} {name : String} {t : TypeId} {av : AV} (ho : o.op = .nilCheck x) (hx : s.ev x = some (.fn (.method name) [.ifc t av] [])) (hn : NotNil P t name) : QStep lv P r o s (.fn (.method name) [.ifc t av] []) :=
 q_val (fun E V a hc htk => by
  have hd := Den.ev htk hx
  unfold execOp; rw [ho]
  dsimp only
  generalize hv : a.eval x = v at hd ⊢
  have hd' := hd
  cases hd with
  | fn hs1 hs2 h1 h2 =>
   rename_i fa ca
   have hfa : fa.size = 1 := hs1
   have := h1 0 _ rfl
   rw [Array.getD_eq_getD_getElem?, Array.getElem?_eq_getElem (by omega)] at this
   simp only [Option.getD_some] at this
   have hg : fa[0]? = some fa[0] := Array.getElem?_eq_getElem (by omega)
   generalize hq : fa[0] = q at this hg
   cases this with
   | ifc hx' =>
    dsimp only
    rw [hg]
    dsimp only
    refine semOk_bind (semOk_program (semOk_pure ?_))
    refine (hn _).bind ?_
    simp only [bne_self_eq_false, Bool.false_eq_true, if_false]
    exact semOk_pure' ⟨rfl, _, rfl, hd'⟩)
def MapOf (P : Program) (t : TypeId) : Option (TypeId × TypeId) := match P.underlying t with
 | some (.map k e) => some (k, e)
 | _ => none
def putMap (es : Array MapEntry) (ck : Nat) (k x : Value) : Option (Nat × Value) -> Obj
 | none => .map (es.push { key := k, val := x, born := ck }) (ck + 1)
 | some (i, _) => .map (es.modify i fun e => { e with key := k, val := x }) ck
theorem step_mapUpdate {t kt et : TypeId} {m k x : Operand} {id ck : Nat} {es : Array MapEntry} {a b : AV} {K X : Value} {fd : Option (Nat × Value)} (ho : o.op = .mapUpdate t m k x \/ o.op = .insert t m k x) (ht : MapOf P t = some (kt, et)) (hm : s.ev m = some (.mp id)) (hk : s.ev k = some a) (hx : s.ev x = some b) (hK : a.raw = some K) (hX : b.raw = some X)
  (hH : s.H[id]? = some (.obj (.map es ck))) (hc : Sure P (Instr.checkKey false 10000 kt K) ()) (hf : Sure P (Instr.findKey kt K es.toList) fd) (hsame : ∀ i v, fd = some (i, v) -> Instr.sameBits 10000 (((es[i]?).map (·.key)).getD K) K = true)
  (hn : next ((⟨s.T, s.H.set id (.obj (putMap es ck K X fd))⟩ : AS).put o.dst (.val undef))) : Step lv P r o s next bad := by
 intro E V ac N Q hcc htk hd hdf h1 _
 refine ⟨hdf, ?_⟩
 have e1 := (Den.ev htk hk).raw hK
 have e2 := (Den.ev htk hx).raw hX
 have hdm := Den.ev htk hm
 generalize hvm : ac.eval m = vm at hdm
 cases hdm
 obtain ⟨p1, p2, p3, p4⟩ := hcc.obj id _ hH
 obtain ⟨g1, g2⟩ := hcc.notGroup hH rfl
 have go : SemOk P V (do Instr.mapUpdate t (.map (some (E.blk id))) K X; pure Next.skip) (Upon lv P r o ac N Q) (fun v V' => Q (.panic [{ v, recovered := false }]) ac V') := by
  refine semOk_bind ?_
  unfold MapOf at ht
  split at ht
  ·rename_i k' e' hu
   cases ht
   unfold Instr.mapUpdate
   refine semOk_underlying hu ?_
   dsimp only
   refine semOk_bind (semOk_getObj p1 p2 p3 g2 (semOk_pure ?_))
   dsimp only
   refine hc.bind (hf.bind ?_)
   have fin : ∀ y, y = putMap es ck K X fd -> SemOk P V (setObj (E.blk id) y) (fun _ V' => SemOk P V' (pure Next.skip) (Upon lv P r o ac N Q) (fun v V' => Q (.panic [{ v, recovered := false }]) ac V')) (fun v V' => Q (.panic [{ v, recovered := false }]) ac V') := fun y hy => by
    have hy1 : y.isCells = false := by rw [hy]; cases fd <;> rfl
    have hy2 : y.isChan = false := by rw [hy]; cases fd <;> rfl
    refine semOk_setObj p1 p2 hy2 g2 (semOk_pure (semOk_pure' ?_))
    exact h1 E _ (ac.put o.dst undef) _ ⟨Env.Le.refl E, put_size _ _ _, put_defers _ _ _, rfl, rfl⟩ (by rw [put_H]; rw [hy]; exact hcc.setObj hH (by cases fd <;> rfl) (by cases fd <;> rfl))
     (TOk.putd (s := ⟨s.T, s.H.set id (.obj (putMap es ck K X fd))⟩) htk hd (.val undef)) hn
   cases fd with
   | none => exact fin _ rfl
   | some iv =>
    obtain ⟨i, v⟩ := iv
    dsimp only
    unfold Instr.keyThatStays
    rw [hsame i v rfl]
    simp only [if_true]
    exact semOk_bind (semOk_pure' (fin _ rfl))
  ·cases ht
 unfold execOp
 rcases ho with ho | ho
 all_goals
  rw [ho]
  simp only [hvm, e1, e2]
  exact go
def delMap (es : Array MapEntry) : Option (Nat × Value) -> Array MapEntry
 | some (i, _) => es.eraseIdxIfInBounds i
 | none => es
theorem step_delete {c : Call} {t t' kt et : TypeId} {m k : Operand} {id ck : Nat} {es : Array MapEntry} {a : AV} {K : Value} {fd : Option (Nat × Value)} (ho : o.op = .call c) (hcl : c.callee = .builtin .delete) (hargs : c.args = #[m, k]) (hts : c.argTypes = #[t, t']) (ht : MapOf P t = some (kt, et)) (hm : s.ev m = some (.mp id)) (hk : s.ev k = some a) (hK : a.raw = some K)
  (hH : s.H[id]? = some (.obj (.map es ck))) (hc : Sure P (Instr.checkKey es.isEmpty 10000 kt K) ()) (hf : Sure P (Instr.findKey kt K es.toList) fd)
  (hn : next ((⟨s.T, s.H.set id (.obj (.map (delMap es fd) ck))⟩ : AS).put o.dst (.val undef))) : Step lv P r o s next bad := by
 intro E V ac N Q hcc htk hd hdf h1 _
 refine ⟨hdf, ?_⟩
 have e1 := (Den.ev htk hk).raw hK
 have hdm := Den.ev htk hm
 generalize hvm : ac.eval m = vm at hdm
 cases hdm
 obtain ⟨p1, p2, p3, p4⟩ := hcc.obj id _ hH
 obtain ⟨g1, g2⟩ := hcc.notGroup hH rfl
 unfold execOp; rw [ho]
 dsimp only
 unfold resolve
 rw [hcl]
 dsimp only
 refine semOk_bind (semOk_pure' ?_)
 unfold invoke builtin
 dsimp only
 refine semOk_bind ?_
 have hmap : c.args.map ac.eval = #[.map (some (E.blk id)), K] := by rw [hargs]; simp [hvm, e1]
 rw [hmap, hts]
 unfold MapOf at ht
 split at ht
 ·rename_i k' e' hu
  cases ht
  unfold Builtin.delete_
  simp only [List.getElem?_toArray, List.getElem?_cons_zero, List.getElem?_cons_succ]
  refine semOk_underlying hu ?_
  dsimp only
  refine semOk_bind (semOk_getObj p1 p2 p3 g2 (semOk_pure ?_))
  dsimp only
  refine hc.bind (hf.bind ?_)
  have fin : ∀ es', es' = (delMap es fd) -> SemOk P V (setObj (E.blk id) (.map es' ck)) (fun _ V' => SemOk P V' (pure (Value.tuple #[])) (fun x V' => SemOk P V' (pure (Next.value x)) (Upon lv P r o ac N Q) (fun v V' => Q (.panic [{ v, recovered := false }]) ac V')) (fun v V' => Q (.panic [{ v, recovered := false }]) ac V')) (fun v V' => Q (.panic [{ v, recovered := false }]) ac V') := fun y hy => by
   refine semOk_setObj p1 p2 rfl g2 (semOk_pure (semOk_pure' (semOk_pure' ?_)))
   exact h1 E _ (ac.put o.dst undef) _ ⟨Env.Le.refl E, put_size _ _ _, put_defers _ _ _, rfl, rfl⟩ (by rw [put_H]; rw [hy]; exact hcc.setObj hH rfl rfl)
    (TOk.putd (s := ⟨s.T, s.H.set id (.obj (.map (delMap es fd) ck))⟩) htk hd (.val undef)) hn
  cases fd with
  | none => exact semOk_bind (fin _ rfl)
  | some iv => exact semOk_bind (fin _ rfl)
 ·cases ht
theorem step_range {t kt et : TypeId} {x : Operand} {m ck : Nat} {es : Array MapEntry} (ho : o.op = .range t x) (ht : MapOf P t = some (kt, et)) (hx : s.ev x = some (.mp m)) (hH : s.H[m]? = some (.obj (.map es ck)))
  (hn : next ((⟨s.T, s.H ++ [.iter m ck #[] ck]⟩ : AS).put o.dst (.op s.H.length 0))) : Step lv P r o s next bad := by
 intro E V ac N Q hc htk hd hdf h1 _
 refine ⟨hdf, ?_⟩
 have hdm := Den.ev htk hx
 generalize hvm : ac.eval x = vm at hdm
 cases hdm with
 | mp hm =>
  obtain ⟨p1, p2, p3, p4⟩ := hc.obj m _ hH
  obtain ⟨g1, g2⟩ := hc.notGroup hH rfl
  unfold execOp; rw [ho]; simp only [hvm]
  refine semOk_bind ?_
  unfold MapOf at ht
  split at ht
  ·rename_i k' e' hu
   cases ht
   unfold Instr.range
   refine semOk_underlying hu ?_
   refine semOk_bind (semOk_getObj p1 p2 p3 g2 (semOk_pure ?_))
   dsimp only
   refine semOk_bind (semOk_pure' ?_)
   refine semOk_bind (semOk_new fun rr hf => semOk_pure (semOk_pure' (semOk_pure' ?_)))
   have hle : E.Le (E.add rr V.imm) := E.le_add rr (fun b o v h => by rw [<- hc.I]; exact h)
   have hc' : Conc (E.add rr V.imm) (V.upd rr (.mapIter (some (E.blk m)) ck #[] ck)) (s.H ++ [.iter m ck #[] ck]) := by
    refine hc.add hf _ ⟨?_, ?_, fun o => ?_⟩ (fun b e => ?_)
    ·exact Nat.lt_succ_of_lt hm
    ·rw [Env.add_blk, hle.blk m hm]; simp [View.upd]
    ·rw [Env.add_blk]; exact hf.2 o
    ·simp only [blkOf, Env.add_blk, Option.some.injEq] at e; exact e.symm
   exact h1 _ _ (ac.put o.dst (.pointer (some ⟨rr, 0, none⟩))) ((⟨s.T, s.H ++ [.iter m ck #[] ck]⟩ : AS).put o.dst (.op s.H.length 0)) ⟨hle, put_size _ _ _, put_defers _ _ _, rfl, rfl⟩ (by rw [put_H]; exact hc')
    (TOk.putd (s := ⟨s.T, s.H ++ [.iter m ck #[] ck]⟩) (htk.mono hle) hd (den_new hc.n rr V.imm)) hn
  ·cases ht
theorem Conc.setIter {E : Env} {V : View} {H : List AObj} (hc : Conc E V H) {id m a c : Nat} {b : Array Nat} (hk : H[id]? = some (.iter m a b c)) (a' : Nat) (b' : Array Nat) (c' : Nat) : Conc E (V.upd (E.blk id) (.mapIter (some (E.blk m)) a' b' c')) (H.set id (.iter m a' b' c')) := by
 obtain ⟨p1, p2, p4⟩ := hc.obj id _ hk
 refine hc.turn id (.iter m a' b' c') (Env.Le.refl E) hc.I (by simpa using hc.n) list_set_get rfl (fun _ _ _ => rfl) (fun b z hb hz => ⟨?_, fun _ => rfl⟩) ⟨p1, by simp [View.upd], p4⟩ (fun b h => .inl ⟨_, hk, h⟩)
 have : b ≠ E.blk id := fun e => hb _ hk (by rw [e]; rfl)
 simpa [View.upd, this] using hz
theorem step_next {it : Operand} {id m since ck stepped : Nat} {seen : Array Nat} {es : Array MapEntry} (ho : o.op = .next it false) (hi : s.ev it = some (.op id 0)) (hI : s.H[id]? = some (.iter m since seen stepped)) (hM : s.H[m]? = some (.obj (.map es ck)))
  (hok : es.all (fun e => decide (e.born >= stepped)) = false \/ es.isEmpty = true \/ seen.isEmpty = true)
  (hn : ∀ e ∈ es, e.born ∉ seen -> next ((⟨s.T, s.H.set id (.iter m since (seen.push e.born) ck)⟩ : AS).put o.dst (.tup [.val (.bool true), AV.of e.key, AV.of e.val])))
  (hover : (∀ e ∈ es, e.born < since -> e.born ∈ seen) -> next (s.put o.dst (.tup [.val (.bool false)]))) : Step lv P r o s next bad := by
 intro E V ac N Q hc htk hd hdf h1 _
 refine ⟨hdf, ?_⟩
 have hdi := Den.ev htk hi
 generalize hvi : ac.eval it = vi at hdi
 cases hdi with
 | op hid =>
  obtain ⟨q1, q2, q3⟩ := hc.obj id _ hI
  obtain ⟨p1, p2, p3, p4⟩ := hc.obj m _ hM
  have gi := hc.notGroup hI rfl
  have gm := hc.notGroup hM rfl
  unfold execOp; rw [ho]; simp only [hvi]
  refine semOk_bind ?_
  unfold Instr.next
  dsimp only
  refine semOk_bind (semOk_getObj q2 rfl rfl gi.2 (semOk_pure ?_))
  dsimp only
  refine semOk_bind (semOk_getObj p1 p2 p3 gm.2 (semOk_pure ?_))
  dsimp only
  rw [if_neg (by
   intro h
   simp only [Bool.and_eq_true, Bool.not_eq_true'] at h
   rcases hok with hk | hk | hk
   ·rw [hk] at h; cases h.2
   ·rw [hk] at h; cases h.1.2
   ·rw [hk] at h; cases h.1.1)]
  generalize hcand : (if ((es.filter fun e => !seen.contains e.born).filter (fun e => decide (e.born < since))).isEmpty = true then #[none] else #[]) ++ ((es.filter fun e => !seen.contains e.born).filter (fun e => decide (e.born < since)) ++ (es.filter fun e => !seen.contains e.born).filter (fun e => decide (e.born >= since))).map some = cand
  have hin : ∀ x ∈ cand, match x with
    | some e => e ∈ es /\ e.born ∉ seen
    | none => ∀ e ∈ es, e.born < since -> e.born ∈ seen := by
   intro x hx
   rw [<- hcand] at hx
   rcases Array.mem_append.1 hx with hx | hx
   ·split at hx
    ·rename_i hem
     simp at hx
     subst hx
     intro e he hlt
     apply Classical.byContradiction
     intro hns
     have : e ∈ ((es.filter fun e => !seen.contains e.born).filter (fun e => decide (e.born < since))) := by simp [he, hlt, hns]
     rw [Array.isEmpty_iff] at hem
     rw [hem] at this; simp at this
    ·simp at hx
   ·rw [Array.mem_map] at hx
    obtain ⟨e, he, rfl⟩ := hx
    rcases Array.mem_append.1 he with he | he <;> simp at he <;> exact ⟨he.1, he.2.2⟩
  have hpos : 0 < cand.size := by
   rw [<- hcand]
   split
   ·simp; omega
   ·rename_i hem
    have : 0 < ((es.filter fun e => !seen.contains e.born).filter (fun e => decide (e.born < since))).size := by
     rw [Array.isEmpty_iff] at hem
     exact Array.size_pos_iff.2 hem
    simp only [Array.size_append, Array.size_map, List.size_toArray, List.length_nil]
    omega
  have fin : ∀ j, j < cand.size -> SemOk P V (match cand[j]? with
    | some (some e) => do setObj (E.blk id) (.mapIter (some (E.blk m)) since (seen.push e.born) ck); pure (Value.tuple #[.bool true, e.key, e.val])
    | some none => pure (Value.tuple #[.bool false])
    | none => stuck "Next: no such candidate") (fun x V' => SemOk P V' (pure (Next.value x)) (Upon lv P r o ac N Q) (fun v V' => Q (.panic [{ v, recovered := false }]) ac V')) (fun v V' => Q (.panic [{ v, recovered := false }]) ac V') := by
   intro j hj
   rw [Array.getElem?_eq_getElem hj]
   have hm := hin cand[j] (Array.getElem_mem hj)
   generalize cand[j] = x at hm
   cases x with
   | none =>
    dsimp only
    refine semOk_pure' (semOk_pure' ?_)
    exact h1 E V (ac.put o.dst _) (s.put o.dst (.tup [.val (.bool false)])) ⟨Env.Le.refl E, put_size _ _ _, put_defers _ _ _, rfl, rfl⟩ (by rw [put_H]; exact hc)
     (TOk.putd htk hd (.tup rfl fun i b hb => by
      match i, hb with
      | 0, hb => cases hb; exact .val _)) (hover hm)
   | some e =>
    dsimp only
    refine semOk_bind (semOk_setObj q2 rfl rfl gi.2 (semOk_pure (semOk_pure' (semOk_pure' ?_))))
    exact h1 E _ (ac.put o.dst _) _ ⟨Env.Le.refl E, put_size _ _ _, put_defers _ _ _, rfl, rfl⟩ (by rw [put_H]; exact hc.setIter hI since (seen.push e.born) ck)
     (TOk.putd (s := ⟨s.T, s.H.set id (.iter m since (seen.push e.born) ck)⟩) htk hd (.tup rfl fun i b hb => by
      match i, hb with
      | 0, hb => cases hb; exact .val _
      | 1, hb => cases hb; exact den_of E _
      | 2, hb => cases hb; exact den_of E _)) (hn e hm.1 hm.2)
  refine semOk_bind (semOk_choose (fun hf => semOk_pure (fin 0 hpos)) (fun hf t => semOk_pure (fin _ (Nat.mod_lt _ hpos))))
def AV.found (z : Value) (ok : Bool) : Option (Nat × Value) -> AV
 | some (_, v) => if ok then .tup [AV.of v, .val (.bool true)] else AV.of v
 | none => if ok then .tup [AV.of z, .val (.bool false)] else AV.of z
theorem q_lookup {t kt et : TypeId} {m k : Operand} {id ck : Nat} {es : Array MapEntry} {a : AV} {K z : Value} {ok : Bool} {fd : Option (Nat × Value)} (ho : o.op = .lookup t m k ok) (ht : MapOf P t = some (kt, et)) (hz : ZeroOf P et = some z) (hm : s.ev m = some (.mp id)) (hk : s.ev k = some a) (hK : a.raw = some K)
  (hH : s.H[id]? = some (.obj (.map es ck))) (hc : Sure P (Instr.checkKey es.isEmpty 10000 kt K) ()) (hf : Sure P (Instr.findKey kt K es.toList) fd) : QStep lv P r o s (AV.found z ok fd) :=
 q_val (fun E V ac hcc htk => by
  have e1 := (Den.ev htk hk).raw hK
  have hdm := Den.ev htk hm
  generalize hvm : ac.eval m = vm at hdm
  cases hdm
  obtain ⟨p1, p2, p3, p4⟩ := hcc.obj id _ hH
  have g := hcc.notGroup hH rfl
  unfold MapOf at ht
  split at ht
  ·rename_i k' e' hu
   cases ht
   unfold execOp; rw [ho]; simp only [hvm, e1]
   refine semOk_bind ?_
   unfold Instr.lookup
   refine semOk_underlying hu ?_
   dsimp only
   refine semOk_bind (semOk_bind (semOk_getObj p1 p2 p3 g.2 (semOk_pure' (semOk_pure' ?_))))
   refine hc.bind (semOk_bind (hf.ok ?_))
   have two : ∀ (v : Value) (b : Bool) (i : Nat) (x : AV), [AV.of v, .val (.bool b)][i]? = some x -> Den E x ((#[v, Value.bool b] : Array Value).getD i undef) := fun v b i x hx => by
    match i, hx with
    | 0, hx => cases hx; exact den_of E _
    | 1, hx => cases hx; exact .val _
   cases fd with
   | some iv =>
    obtain ⟨i, v⟩ := iv
    refine semOk_pure' (semOk_pure' ⟨rfl, _, rfl, ?_⟩)
    cases ok with
    | true => exact .tup rfl (two v true)
    | false => exact den_of E _
   | none =>
    refine semOk_zero hz (semOk_pure' (semOk_pure' ⟨rfl, _, rfl, ?_⟩))
    cases ok with
    | true => exact .tup rfl (two z false)
    | false => exact den_of E _
  ·cases ht)
theorem q_entry {it : Operand} {id m since ck : Nat} {seen : Array Nat} {es : Array MapEntry} {b : Nat} {e : MapEntry} (ho : o.op = .entry it) (hi : s.ev it = some (.op id 0)) (hI : s.H[id]? = some (.iter m since seen ck)) (hM : s.H[m]? = some (.obj (.map es ck)))
  (hb : seen.back? = some b) (he : es.find? (·.born == b) = some e) : QStep lv P r o s (.tup [AV.of e.key, AV.of e.val]) :=
 q_val (fun E V ac hc htk => by
  have hdi := Den.ev htk hi
  generalize hvi : ac.eval it = vi at hdi
  cases hdi with
  | op hid =>
   obtain ⟨q1, q2, q3⟩ := hc.obj id _ hI
   obtain ⟨p1, p2, p3, p4⟩ := hc.obj m _ hM
   have gi := hc.notGroup hI rfl
   have gm := hc.notGroup hM rfl
   unfold execOp; rw [ho]; simp only [hvi]
   refine semOk_bind ?_
   unfold Instr.entry
   dsimp only
   refine semOk_bind (semOk_getObj q2 rfl rfl gi.2 (semOk_pure ?_))
   dsimp only
   rw [hb]
   dsimp only
   refine semOk_bind (semOk_getObj p1 p2 p3 gm.2 (semOk_pure ?_))
   dsimp only
   rw [if_neg (by simp)]
   rw [he]
   refine semOk_pure' (semOk_pure' ⟨rfl, _, rfl, .tup rfl fun i b hb => ?_⟩)
   match i, hb with
   | 0, hb => cases hb; exact den_of E _
   | 1, hb => cases hb; exact den_of E _)
end
open Go.Conc
def RetC (E : Env) (V : View) (k : AV -> List AObj -> Prop) (kp : AV -> List AObj -> Prop) : Out -> View -> Prop
 | .ret v, V' => ∃ av E' H', E.Le E' /\ V'.role = V.role /\ V'.deaf = V.deaf /\ Den E' av v /\ Conc E' V' H' /\ k av H'
 | .panic ch, V' => ∃ pv v E' H', ch = [{ v, recovered := false }] /\ E.Le E' /\ V'.role = V.role /\ V'.deaf = V.deaf /\ Den E' pv v /\ Conc E' V' H' /\ kp pv H'
def FnC (lv : Bool) (P : Program) (f : FuncId) (H : List AObj) (args : List AV) (k : AV -> List AObj -> Prop) (kp : AV -> List AObj -> Prop) : Prop :=
 ∀ (E : Env) (V : View) (vs : Array Value), Conc E V H -> Denl E args vs -> Body lv P f vs .normal V (RetC E V k kp)
def Nx (lv : Bool) (P : Program) (R : Out -> View -> Prop) : Next -> View -> Prop
 | .value v, V => R (.ret v) V
 | .skip, V => R (.ret undef) V
 | .enter f args, V => Body lv P f args .normal V R
 | .round l f tmps assign body, V => Runs lv P (Frame.round l f tmps assign body .normal) V R
 | _, _ => False
def CallC (lv : Bool) (P : Program) (c : AV) (H : List AObj) (args : List AV) (k : AV -> List AObj -> Prop) (kp : AV -> List AObj -> Prop) : Prop :=
 ∀ (E : Env) (V : View) (cv : Value) (vs : Array Value), Conc E V H -> Den E c cv -> Denl E args vs ->
  SemOk P V (do let d <- Deferred.ofValue cv vs; invoke d.target d.args) (fun nx V' => Nx lv P (RetC E V k kp) nx V') (fun v V' => RetC E V k kp (.panic [{ v, recovered := false }]) V')
def InvC (lv : Bool) (P : Program) (c : AV) (name : String) (H : List AObj) (args : List AV) (k : AV -> List AObj -> Prop) (kp : AV -> List AObj -> Prop) : Prop :=
 ∀ (E : Env) (V : View) (cv : Value) (vs : Array Value), Conc E V H -> Den E c cv -> Denl E args vs ->
  SemOk P V (invoke (.fn (.method name) #[]) (#[cv] ++ vs)) (fun nx V' => Nx lv P (RetC E V k kp) nx V') (fun v V' => RetC E V k kp (.panic [{ v, recovered := false }]) V')
theorem RetC.mono {E : Env} {V : View} {k k' kp kp' : AV -> List AObj -> Prop} (h : ∀ a H, k a H -> k' a H) (hp : ∀ a H, kp a H -> kp' a H) : ∀ {o V'}, RetC E V k kp o V' -> RetC E V k' kp' o V'
 | .ret _, _, ⟨av, E', H', a, b, c, d, e, f⟩ => ⟨av, E', H', a, b, c, d, e, h _ _ f⟩
 | .panic _, _, ⟨pv, v, E', H', a, b, c, d, e, f, g⟩ => ⟨pv, v, E', H', a, b, c, d, e, f, hp _ _ g⟩
theorem Nx.mono {lv : Bool} {P : Program} {R R' : Out -> View -> Prop} (h : ∀ o V, R o V -> R' o V) : ∀ {nx V}, Nx lv P R nx V -> Nx lv P R' nx V := by
 intro nx V hn
 cases nx with
 | value v => exact h _ _ hn
 | skip => exact h _ _ hn
 | enter f args => exact Body.mono hn h
 | round l f tmps a b => exact Runs.mono hn h
 | _ => exact hn
theorem FnC.mono {lv : Bool} {P : Program} {f : FuncId} {H : List AObj} {args : List AV} {k k' kp kp' : AV -> List AObj -> Prop} (h : FnC lv P f H args k kp) (hk : ∀ a H, k a H -> k' a H) (hp : ∀ a H, kp a H -> kp' a H) : FnC lv P f H args k' kp' := fun E V vs hc hd =>
 (h E V vs hc hd).mono fun _ _ x => x.mono hk hp
theorem CallC.mono {lv : Bool} {P : Program} {f : AV} {H : List AObj} {args : List AV} {k k' kp kp' : AV -> List AObj -> Prop} (h : CallC lv P f H args k kp) (hk : ∀ a H, k a H -> k' a H) (hp : ∀ a H, kp a H -> kp' a H) : CallC lv P f H args k' kp' := fun E V cv vs hc hd hds =>
 (h E V cv vs hc hd hds).mono (fun _ _ x => Nx.mono (fun _ _ y => y.mono hk hp) x) (fun _ _ y => y.mono hk hp)
def Callable (P : Program) (g : FuncId) : Bool := match P.funcs[g]? with
 | some fn => fn.body.isSome && !(fn.name == "runtime.NumGoroutine")
 | none => false
theorem semOk_callFunc {lv : Bool} {P : Program} {V : View} {g : FuncId} {vs : Array Value} {R : Out -> View -> Prop} {Kp : Value -> View -> Prop} (hg : Callable P g = true) (h : Body lv P g vs .normal V R) : SemOk P V (callFunc g vs) (fun nx V' => Nx lv P R nx V') Kp := by
 unfold callFunc
 refine semOk_bind (semOk_program (semOk_pure ?_))
 unfold Callable at hg
 split at hg
 ·rename_i fn hfn
  simp only [Bool.and_eq_true, Bool.not_eq_true'] at hg
  rw [hfn]
  dsimp only
  have hbn : fn.body.isNone = false := by
   have h1 := hg.1
   cases hb : fn.body with
   | none => rw [hb] at h1; cases h1
   | some _ => rfl
  rw [if_neg (by rw [hg.2]; simp), if_neg (by rw [hbn]; simp)]
  exact semOk_pure' h
 ·cases hg
section
variable {lv : Bool} {P : Program} {H : List AObj} {args : List AV} {k kp : AV -> List AObj -> Prop}
theorem callC_func {g : FuncId} {first caps : List AV} (hg : Callable P g = true) (hf : FnC lv P g H (first ++ args ++ caps) k kp) : CallC lv P (.fn (.func g) first caps) H args k kp := by
 intro E V cv vs hc hd hds
 cases hd with
 | fn hs1 hs2 h1 h2 =>
  rename_i fa ca
  unfold Deferred.ofValue
  refine semOk_bind (semOk_pure' ?_)
  unfold invoke
  dsimp only
  exact semOk_callFunc hg (hf E V _ hc (denl_app (denl_app ⟨hs1, h1⟩ hds) ⟨hs2, h2⟩))
def MethOf (P : Program) (t : TypeId) (name : String) (f : FuncId) : Prop := ∀ v, Sure P (method (P.types.size + Made.depth) t v name) (f, v)
theorem invC {t : TypeId} {a : AV} {name : String} {g : FuncId} (hm : MethOf P t name g) (hg : Callable P g = true) (hf : FnC lv P g H (a :: args) k kp) : InvC lv P (.ifc t a) name H args k kp := by
 intro E V cv vs hc hd hds
 cases hd with
 | ifc hd =>
  rename_i v
  unfold invoke
  have e : (#[Value.iface t v] ++ vs)[0]? = some (.iface t v) := by rw [Array.getElem?_append_left (by simp)]; rfl
  simp only [e]
  have e2 : (#[Value.iface t v] ++ vs).extract 1 (#[Value.iface t v] ++ vs).size = vs := by
   apply Array.ext'
   simp [Array.toList_extract, List.extract_eq_take_drop]
  rw [e2]
  unfold callMethod
  dsimp only
  refine semOk_bind (semOk_program (semOk_pure ?_))
  refine (hm v).bind ?_
  dsimp only
  refine semOk_callFunc hg (hf E V _ hc ?_)
  have := denl_app (l := [a]) (x := #[v]) (E := E) ⟨rfl, fun i b hb => by
   match i, hb with
   | 0, hb => cases hb; exact hd⟩ hds
  exact this
end
def evs (s : AS) : List Operand -> Option (List AV)
 | [] => some []
 | x :: l => match s.ev x, evs s l with
  | some a, some zas => some (a :: zas)
  | _, _ => none
theorem evs_den {E : Env} {s : AS} {a : Act} (k : TOk E s.T a.tmps) : ∀ {l : List Operand} {zas : List AV}, evs s l = some zas -> Denl E zas (l.map a.eval).toArray
 | [], _, h => by cases h; exact ⟨rfl, by simp⟩
 | x :: l, zas, h => by
  simp only [evs] at h
  split at h
  ·rename_i av avs h1 h2
   cases h
   have ih := evs_den k h2
   refine ⟨by have := ih.1; simpa using this, fun i b e => ?_⟩
   cases i with
   | zero => simp at e; subst e; simpa [Array.getD_eq_getD_getElem?] using Den.ev k h1
   | succ i =>
    simp only [List.getElem?_cons_succ] at e
    have := ih.2 i b e
    simpa [Array.getD_eq_getD_getElem?] using this
  ·cases h
section
variable {lv : Bool} {P : Program} {r : Option Nat} {o : Oper} {s : AS} {next : AS -> Prop} {bad : AV -> AS -> Prop}
theorem nx_upon {E : Env} {V : View} {a : Act} {N : Act -> View -> Prop} {Q : Ex -> Act -> View -> Prop} (htk : TOk E s.T a.tmps) (hd : ∀ d, o.dst = some d -> d < a.tmps.size)
  (h1 : ∀ E' V' a' s', Kept E E' V V' a a' -> Conc E' V' s'.H -> TOk E' s'.T a'.tmps -> next s' -> N a' V')
  (h2 : ∀ E' V' s' pv v, Kept E E' V V' a a -> Conc E' V' s'.H -> TOk E' s'.T a.tmps -> Den E' pv v -> bad pv s' -> Q (.panic [{ v, recovered := false }]) a V') :
  (∀ nx V', Nx lv P (RetC E V (fun b H' => next ((⟨s.T, H'⟩ : AS).put o.dst b)) (fun pv H' => bad pv ⟨s.T, H'⟩)) nx V' -> Upon lv P r o a N Q nx V') /\
  (∀ v V', RetC E V (fun b H' => next ((⟨s.T, H'⟩ : AS).put o.dst b)) (fun pv H' => bad pv ⟨s.T, H'⟩) (.panic [{ v, recovered := false }]) V' -> Q (.panic [{ v, recovered := false }]) a V') := by
 have hv : ∀ v V', RetC E V (fun b H' => next ((⟨s.T, H'⟩ : AS).put o.dst b)) (fun pv H' => bad pv ⟨s.T, H'⟩) (.ret v) V' -> N (a.put o.dst v) V' := fun v V' ⟨av, E', H', hle, hro, hde, hden, hc', hk⟩ =>
  h1 E' V' _ _ ⟨hle, put_size _ _ _, put_defers _ _ _, hro, hde⟩ (by rw [put_H]; exact hc') (TOk.putd (s := ⟨s.T, H'⟩) (htk.mono hle) hd hden) hk
 have hp : ∀ ch V', RetC E V (fun b H' => next ((⟨s.T, H'⟩ : AS).put o.dst b)) (fun pv H' => bad pv ⟨s.T, H'⟩) (.panic ch) V' -> Q (.panic ch) a V' := fun ch V' ⟨pv, v, E', H', hch, hle, hro, hde, hden, hc', hk⟩ => by
  subst hch
  exact h2 E' V' ⟨s.T, H'⟩ pv v ⟨hle, rfl, rfl, hro, hde⟩ hc' (htk.mono hle) hden hk
 refine ⟨fun nx V' hn => ?_, fun v V' h => hp _ _ h⟩
 cases nx with
 | value v => exact hv _ _ hn
 | skip => exact hv _ _ hn
 | enter f args =>
  refine Body.mono (R' := fun
   | .ret v, V' => N (a.put o.dst v) V'
   | .panic ch, V' => Q (.panic ch) a V') hn fun ot V'' h => ?_
  cases ot with
  | ret v => exact hv _ _ h
  | panic ch => exact hp _ _ h
 | round l f tmps zas b =>
  refine Runs.mono (R' := fun
   | .ret v, V' => N (a.put o.dst v) V'
   | .panic ch, V' => Q (.panic ch) a V') hn fun ot V'' h => ?_
  cases ot with
  | ret v => exact hv _ _ h
  | panic ch => exact hp _ _ h
 | _ => exact hn.elim
theorem step_call {c : Call} {x : Operand} {cav : AV} {zas : List AV} (ho : o.op = .call c) (hcl : c.callee = .value x) (hx : s.ev x = some cav) (has : evs s c.args.toList = some zas)
  (hf : CallC lv P cav s.H zas (fun b H' => next ((⟨s.T, H'⟩ : AS).put o.dst b)) (fun pv H' => bad pv ⟨s.T, H'⟩)) : Step lv P r o s next bad := by
 intro E V a N Q hc htk hd hdf h1 h2
 have hup := nx_upon (lv := lv) (P := P) (r := r) htk hd h1 h2
 refine ⟨hdf, ?_⟩
 unfold execOp; rw [ho]
 dsimp only
 unfold resolve
 rw [hcl]
 dsimp only
 have e : c.args.map a.eval = (c.args.toList.map a.eval).toArray := by apply Array.ext'; simp
 rw [e]
 exact (hf E V (a.eval x) _ hc (Den.ev htk hx) (evs_den htk has)).mono (fun nx V' h => hup.1 nx V' h) (fun v V' h => hup.2 v V' h)
theorem step_inv {c : Call} {x : Operand} {name : String} {cav : AV} {zas : List AV} (ho : o.op = .call c) (hcl : c.callee = .invoke x name) (hx : s.ev x = some cav) (has : evs s c.args.toList = some zas)
  (hf : InvC lv P cav name s.H zas (fun b H' => next ((⟨s.T, H'⟩ : AS).put o.dst b)) (fun pv H' => bad pv ⟨s.T, H'⟩)) : Step lv P r o s next bad := by
 intro E V a N Q hc htk hd hdf h1 h2
 have hup := nx_upon (lv := lv) (P := P) (r := r) htk hd h1 h2
 refine ⟨hdf, ?_⟩
 unfold execOp; rw [ho]
 dsimp only
 unfold resolve
 rw [hcl]
 dsimp only
 refine semOk_bind (semOk_pure' ?_)
 have e : c.args.map a.eval = (c.args.toList.map a.eval).toArray := by apply Array.ext'; simp
 rw [e]
 exact (hf E V (a.eval x) _ hc (Den.ev htk hx) (evs_den htk has)).mono (fun nx V' h => hup.1 nx V' h) (fun v V' h => hup.2 v V' h)
theorem step_panic {x : Operand} {t : TypeId} {av : AV} (ho : o.op = .panic x) (hx : s.ev x = some (.ifc t av)) (hb : bad (.ifc t av) s) : Step lv P r o s next bad := by
 intro E V a N Q hc htk hd hdf _ h2
 refine ⟨hdf, ?_⟩
 have hdx := Den.ev htk hx
 unfold execOp; rw [ho]
 dsimp only
 refine semOk_bind ?_
 generalize a.eval x = v at hdx ⊢
 have hdx' := hdx
 cases hdx with
 | ifc hv =>
  unfold Instr.panic
  dsimp only
  exact semOk_panic (h2 E V s (.ifc t av) _ ⟨Env.Le.refl E, rfl, rfl, rfl, rfl⟩ hc htk hdx' hb)
end
structure KeptK (k kp : AV -> List AObj -> Prop) : Type where
 n : Nat
def CallG (lv : Bool) (P : Program) (c : AV) (H : List AObj) (args : List AV) (k kp : AV -> List AObj -> Prop) (_t : KeptK k kp) : Prop := CallC lv P c H args k kp
def InvG (lv : Bool) (P : Program) (c : AV) (name : String) (H : List AObj) (args : List AV) (k kp : AV -> List AObj -> Prop) (_t : KeptK k kp) : Prop := InvC lv P c name H args k kp
theorem callG {lv : Bool} {P : Program} {c : AV} {H : List AObj} {args : List AV} {k kp : AV -> List AObj -> Prop} {t : KeptK k kp} (h : CallC lv P c H args k kp) : CallG lv P c H args k kp t := h
theorem invG {lv : Bool} {P : Program} {c : AV} {name : String} {H : List AObj} {args : List AV} {k kp : AV -> List AObj -> Prop} {t : KeptK k kp} (h : InvC lv P c name H args k kp) : InvG lv P c name H args k kp t := h
def one1 {α : Type} (x : Option α) (k : α -> Prop) : Prop := match x with
 | some a => k a
 | none => False
def AV.asBool (a : AV) (k : Bool -> Prop) : Prop := match a with
 | .val (.bool b) => k b
 | _ => False
def AV.asInt (a : AV) (k : IntKind -> Int -> Prop) : Prop := match a with
 | .val (.int j n) => k j n
 | _ => False
def AV.asTup (a : AV) (k : List AV -> Prop) : Prop := match a with
 | .tup l => k l
 | _ => False
def AV.asAgg (a : AV) (k : List AV -> Prop) : Prop := match a with
 | .agg l => k l
 | _ => False
def AV.asOp (a : AV) (k : Nat -> Nat -> Prop) : Prop := match a with
 | .op i j => k i j
 | _ => False
def AV.asMp (a : AV) (k : Nat -> Prop) : Prop := match a with
 | .mp i => k i
 | _ => False
def AV.asSl (a : AV) (k : Nat -> List AV -> End -> Prop) : Prop := match a with
 | .sl n l e => k n l e
 | _ => False
theorem one1.out {α : Type} {x : Option α} {k : α -> Prop} (h : one1 x k) : ∃ a, x = some a /\ k a := by
 cases x with
 | none => exact h.elim
 | some a => exact ⟨a, rfl, h⟩
theorem asBool_out {a : AV} {k : Bool -> Prop} (h : a.asBool k) : ∃ b, a = .val (.bool b) /\ k b := by
 unfold AV.asBool at h; split at h
 ·exact ⟨_, rfl, h⟩
 ·exact h.elim
theorem asInt_out {a : AV} {k : IntKind -> Int -> Prop} (h : a.asInt k) : ∃ j n, a = .val (.int j n) /\ k j n := by
 unfold AV.asInt at h; split at h
 ·exact ⟨_, _, rfl, h⟩
 ·exact h.elim
theorem asTup_out {a : AV} {k : List AV -> Prop} (h : a.asTup k) : ∃ l, a = .tup l /\ k l := by
 unfold AV.asTup at h; split at h
 ·exact ⟨_, rfl, h⟩
 ·exact h.elim
theorem asAgg_out {a : AV} {k : List AV -> Prop} (h : a.asAgg k) : ∃ l, a = .agg l /\ k l := by
 unfold AV.asAgg at h; split at h
 ·exact ⟨_, rfl, h⟩
 ·exact h.elim
theorem asOp_out {a : AV} {k : Nat -> Nat -> Prop} (h : a.asOp k) : ∃ i j, a = .op i j /\ k i j := by
 unfold AV.asOp at h; split at h
 ·exact ⟨_, _, rfl, h⟩
 ·exact h.elim
theorem asMp_out {a : AV} {k : Nat -> Prop} (h : a.asMp k) : ∃ i, a = .mp i /\ k i := by
 unfold AV.asMp at h; split at h
 ·exact ⟨_, rfl, h⟩
 ·exact h.elim
theorem asSl_out {a : AV} {k : Nat -> List AV -> End -> Prop} (h : a.asSl k) : ∃ n l e, a = .sl n l e /\ k n l e := by
 unfold AV.asSl at h; split at h
 ·exact ⟨_, _, _, rfl, h⟩
 ·exact h.elim
section
variable (P : Program) (s : AS)
def ABin (op : BinOp) (xt : TypeId) (a b : AV) (k : AV -> Prop) : Prop := match a, b with
 | .val (.int j m), .val (.int j' n) => if isShift op then one1 (shiftInt op j m n) fun v => k (.val v) else j' = j /\ one1 (binInt op j m n) fun v => k (.val v)
 | _, _ => (op = .eql \/ op = .neq) /\ one1 a.raw fun X => one1 b.raw fun Y => eqKind X Y = true /\ P.eqGuardType P.depth xt = false /\ ∃ e, Sure P (Op.equal xt X Y) e /\ k (.val (.bool (if op == .neq then !e else e)))
def ABinY (op : BinOp) (xt : TypeId) (y : Operand) (a : AV) (k : AV -> Prop) : Prop := match y, a with
 | .const .nilIface, .val .nilIface => isIfc P xt = some true /\ (op = .eql \/ op = .neq) /\ k (.val (.bool (if op == .neq then false else true)))
 | .const .nilIface, .ifc _ _ => isIfc P xt = some true /\ (op = .eql \/ op = .neq) /\ k (.val (.bool (if op == .neq then true else false)))
 | y, a => one1 (s.ev y) fun b => ABin P op xt a b k
def ASlice (t : TypeId) (a : AV) (l h m : Option Int) (k : AV -> Prop) : Prop := match a with
 | .sl n li e => one1 (IsSliceOf P t) fun (_, sz) => SlCut n li e sz l h m k
 | .osl id off n cap => one1 (IsSliceOf P t) fun (_, sz) => OwnCut id off n cap sz l h m k
 | .op id off => one1 (IsArrOf P t) fun (n, sz) => OwnCut id off n n sz l h m k
 | _ => False
def ALen (t : TypeId) (a : AV) (k : AV -> Prop) : Prop := match LenOf P t, a with
 | some .slice, .sl n _ _ => k (.val (.int .i64 n))
 | some .slice, .osl _ _ n _ => k (.val (.int .i64 n))
 | some .str, .val (.string b) => k (.val (.int .i64 b.size))
 | some .map, .mp id => match s.H[id]? with
  | some (.obj (.map es _)) => k (.val (.int .i64 es.size))
  | _ => False
 | _, _ => False
def ANil (a : AV) (k : AV -> Prop) : Prop := match a with
 | .fn (.method name) [.ifc t av] [] => NotNil P t name /\ k (.fn (.method name) [.ifc t av] [])
 | a => a.sure = true /\ k a
def AAssert (zas : TypeId) (ok : Bool) (a : AV) (k : AV -> Prop) : Prop := isIfc P zas = some false /\ one1 (ZeroOf P zas) fun z => match a with
 | .ifc t av => if t = zas then k (if ok then .tup [av, .val (.bool true)] else av) else ok = true /\ k (.tup [AV.of z, .val (.bool false)])
 | .val .nilIface => ok = true /\ k (.tup [AV.of z, .val (.bool false)])
 | _ => False
def AOp (o : Oper) (k : AV -> Prop) : Prop := match o.op with
 | .move x => one1 (s.ev x) k
 | .assign x => one1 (s.ev x) k
 | .pick c x y => one1 (s.ev c) fun b => one1 (s.ev x) fun a => one1 (s.ev y) fun a' => b.asBool fun b => k (if b then a else a')
 | .binOp op xt x y _ => one1 (s.ev x) fun a => ABinY P s op xt y a k
 | .unOp .not _ x => one1 (s.ev x) fun a => a.asBool fun b => k (.val (.bool !b))
 | .unOp .neg _ x => one1 (s.ev x) fun a => a.asInt fun j n => k (.val (.int j (j.wrap (0 - n))))
 | .convert src dst x => one1 (s.ev x) fun a => match ConvOf P src dst with
   | some (some j) => a.asInt fun _ n => k (.val (.int j (j.wrap n)))
   | _ => False
 | .extract x i => one1 (s.ev x) fun a => a.asTup fun l => one1 l[i]? k
 | .nilCheck x => one1 (s.ev x) fun a => ANil P a k
 | .makeInterface t x => isIfc P t = some false /\ one1 (s.ev x) fun a => k (.ifc t a)
 | .makeFunc f first caps => one1 (first.toList.mapM s.ev) fun fa => one1 (caps.toList.mapM s.ev) fun ca => k (.fn f fa ca)
 | .typeAssert x _ zas ok => one1 (s.ev x) fun a => AAssert P zas ok a k
 | .build t parts => one1 (BuildOf P t) fun (pl, z) => one1 (evp s parts.toList) fun zas => one1 (fillA pl.at (zeros z) zas) fun l => k (.agg l)
 | .buildSlice t len parts => one1 (SliceOf P t) fun (_, sz, z) => len * sz <= 2 ^ 24 /\ one1 (evp s parts.toList) fun zas => one1 (fillA (Places.at (.elems sz)) (zeroRow z (len * sz)) zas) fun l => k (.sl len l .exact)
 | .fieldAddr t x f => one1 (s.ev x) fun a => one1 (FieldOf P t f) fun n => one1 (a.shift n) k
 | .indexAddr t x ix => one1 (s.ev x) fun a => one1 (s.ev ix) fun i => i.asInt fun _ i => one1 (IdxOf P t) fun
   |(some n, sz) => (0 <= i /\ i < n) /\ one1 (a.shift (i.toNat * sz)) k
   |(none, sz) => one1 a.row fun (n, p) => (0 <= i /\ i < n) /\ one1 (p.shift (i.toNat * sz)) k
 | .field t x f => one1 (s.ev x) fun a => a.asAgg fun l => one1 (PartOf P t f) fun (off, n, g) => one1 (AV.cut l off n g) k
 | .index t x ix => one1 (s.ev x) fun a => one1 (s.ev ix) fun i => i.asInt fun _ i => match a with
   | .agg l => one1 (ElemOf P t) fun (n, sz, g) => (0 <= i /\ i < n) /\ one1 (AV.cut l (i.toNat * sz) sz g) k
   | .val (.string b) => (match LenOf P t with | some .str => True | _ => False) /\ 0 <= i /\ one1 b[i.toNat]? fun c => k (.val (.int .u8 c.toNat))
   | _ => False
 | .load t x => one1 (s.ev x) fun p => one1 (s.at p) fun l => one1 (Ty P t) fun
   |(n, true) => n <= l.length /\ k (.agg (l.take n))
   |(_, false) => one1 l[0]? k
 | .lookup t m k' ok => one1 (MapOf P t) fun (kt, et) => one1 (ZeroOf P et) fun z => one1 (s.ev m) fun p => one1 (s.ev k') fun a => one1 a.raw fun K => p.asMp fun id => match s.H[id]? with
  | some (.obj (.map es _)) => Sure P (Instr.checkKey es.isEmpty 10000 kt K) () /\ ∃ fd, Sure P (Instr.findKey kt K es.toList) fd /\ k (AV.found z ok fd)
  | _ => False
 | .slice t x lo hi mx => one1 (s.ev x) fun a => one1 (s.bnd lo) fun l => one1 (s.bnd hi) fun h => one1 (s.bnd mx) fun m => ASlice P t a l h m k
 | .entry it => one1 (s.ev it) fun p => p.asOp fun id off => off = 0 /\ match s.H[id]? with
   | some (.iter m _ seen ck) => match s.H[m]? with
    | some (.obj (.map es ck')) => ck' = ck /\ one1 seen.back? fun b => one1 (es.find? (·.born == b)) fun e => k (.tup [AV.of e.key, AV.of e.val])
    | _ => False
   | _ => False
 | .call c => match c.callee with
  | .builtin .len => one1 c.args[0]? fun x => one1 c.argTypes[0]? fun t => one1 (s.ev x) fun a => ALen P s t a k
  | .builtin .max => match c.args.toList with
   | [x, y] => one1 (s.ev x) fun a => one1 (s.ev y) fun b => a.asInt fun j m => b.asInt fun _ n => k (.val (.int j (if n > m then n else m)))
   | _ => False
  | .builtin .min => match c.args.toList with
   | [x, y] => one1 (s.ev x) fun a => one1 (s.ev y) fun b => a.asInt fun j m => b.asInt fun _ n => k (.val (.int j (if n < m then n else m)))
   | _ => False
  | _ => False
 | _ => False
end
section
variable {lv : Bool} {P : Program} {r : Option Nat} {o : Oper} {s : AS}
theorem args2 {c : Call} {x y : Operand} (h : c.args.toList = [x, y]) : c.args = #[x, y] := by
 apply Array.ext'; simpa using h
theorem AOp.sound {k : AV -> Prop} (h : AOp P s o k) : ∃ av, QStep lv P r o s av /\ k av := by
 unfold AOp at h
 split at h
 ·rename_i x ho
  obtain ⟨a, h1, h2⟩ := h.out
  exact ⟨a, q_move (.inl ho) h1, h2⟩
 ·rename_i x ho
  obtain ⟨a, h1, h2⟩ := h.out
  exact ⟨a, q_move (.inr ho) h1, h2⟩
 ·rename_i c x y ho
  obtain ⟨b, h1, h⟩ := h.out
  obtain ⟨a, h2, h⟩ := h.out
  obtain ⟨a', h3, h⟩ := h.out
  obtain ⟨b, rfl, h⟩ := asBool_out h
  exact ⟨_, q_pick ho h1 h2 h3, h⟩
 ·rename_i op xt x y yt ho
  obtain ⟨a, h1, hY⟩ := h.out
  clear h
  unfold ABinY at hY
  split at hY
  ·exact ⟨_, q_ifnil ho hY.2.1 h1 (.inl ⟨rfl, rfl⟩) hY.1, hY.2.2⟩
  ·exact ⟨_, q_ifnil ho hY.2.1 h1 (.inr ⟨⟨_, _, rfl⟩, rfl⟩) hY.1, hY.2.2⟩
  rename_i n1 n2
  clear n1 n2
  obtain ⟨b, h2, h⟩ := hY.out
  unfold ABin at h
  split at h
  ·rename_i j m j' n
   split at h
   ·obtain ⟨v, h3, h⟩ := h.out
    exact ⟨_, q_shift ho h1 h2 h3, h⟩
   ·obtain ⟨rfl, h⟩ := h
    obtain ⟨v, h3, h⟩ := h.out
    exact ⟨_, q_bin ho h1 h2 h3, h⟩
  ·obtain ⟨hop, h⟩ := h
   obtain ⟨X, h3, h⟩ := h.out
   obtain ⟨Y, h4, h⟩ := h.out
   obtain ⟨h5, h6, e, h7, h⟩ := h
   exact ⟨_, q_eq ho hop h1 h2 h3 h4 h5 h6 h7, h⟩
 ·rename_i t x ho
  obtain ⟨a, h1, h⟩ := h.out
  obtain ⟨b, rfl, h⟩ := asBool_out h
  exact ⟨_, q_not ho h1, h⟩
 ·rename_i t x ho
  obtain ⟨a, h1, h⟩ := h.out
  obtain ⟨j, n, rfl, h⟩ := asInt_out h
  exact ⟨_, q_neg ho h1, h⟩
 ·rename_i src dst x ho
  obtain ⟨a, h1, h⟩ := h.out
  split at h
  ·rename_i j hj
   obtain ⟨j', n, rfl, h⟩ := asInt_out h
   exact ⟨_, q_convInt ho hj h1, h⟩
  ·exact h.elim
 ·rename_i x i ho
  obtain ⟨a, h1, h⟩ := h.out
  obtain ⟨l, rfl, h⟩ := asTup_out h
  obtain ⟨b, h2, h⟩ := h.out
  exact ⟨_, q_extract ho h1 h2, h⟩
 ·rename_i x ho
  obtain ⟨a, h1, h⟩ := h.out
  unfold ANil at h
  split at h
  ·exact ⟨_, q_nilMeth ho h1 h.1, h.2⟩
  ·exact ⟨_, q_nil ho h1 h.1, h.2⟩
 ·rename_i t x ho
  obtain ⟨h1, h⟩ := h
  obtain ⟨a, h2, h⟩ := h.out
  exact ⟨_, q_makeIfc ho h1 h2, h⟩
 ·rename_i f first caps ho
  obtain ⟨fa, h1, h⟩ := h.out
  obtain ⟨ca, h2, h⟩ := h.out
  exact ⟨_, q_makeFunc ho h1 h2, h⟩
 ·rename_i x xt zas ok ho
  obtain ⟨a, h1, hA⟩ := h.out
  obtain ⟨h2, hB⟩ := hA
  obtain ⟨z, h3, hC⟩ := hB.out
  clear h hB
  split at hC
  ·rename_i t av
   split at hC
   ·rename_i e
    subst e
    exact ⟨_, q_assert ho h2 h3 h1 (.inr rfl), by rw [if_pos rfl]; exact hC⟩
   ·rename_i e
    exact ⟨_, q_assert ho h2 h3 h1 (.inl hC.1), by rw [if_neg e]; exact hC.2⟩
  ·obtain ⟨e, hC⟩ := hC
   subst e
   exact ⟨_, q_assertNil ho h2 h3 h1, hC⟩
  ·exact hC.elim
 ·rename_i t parts ho
  obtain ⟨⟨pl, z⟩, h1, h⟩ := h.out
  obtain ⟨zas, h2, h⟩ := h.out
  obtain ⟨l, h3, h⟩ := h.out
  exact ⟨_, q_build ho h1 h2 h3, h⟩
 ·rename_i t len parts ho
  obtain ⟨⟨e, sz, z⟩, h1, h⟩ := h.out
  obtain ⟨hs, h⟩ := h
  obtain ⟨zas, h2, h⟩ := h.out
  obtain ⟨l, h3, h⟩ := h.out
  exact ⟨_, q_buildSlice ho h1 hs h2 h3, h⟩
 ·rename_i t x f ho
  obtain ⟨a, h1, h⟩ := h.out
  obtain ⟨n, hn, h⟩ := h.out
  obtain ⟨b, h2, h⟩ := h.out
  exact ⟨_, q_field ho hn h1 h2, h⟩
 ·rename_i t x ix ho
  obtain ⟨a, h1, h⟩ := h.out
  obtain ⟨i, h2, h⟩ := h.out
  obtain ⟨j, i, rfl, h⟩ := asInt_out h
  obtain ⟨⟨on, sz⟩, ht, h⟩ := h.out
  cases on with
  | some n =>
   obtain ⟨⟨h3, h4⟩, h⟩ := h
   obtain ⟨q, h5, h⟩ := h.out
   exact ⟨_, q_indexArr ho ht h1 h2 h3 h4 h5, h⟩
  | none =>
   obtain ⟨⟨n, p⟩, hrow, h⟩ := one1.out h
   obtain ⟨⟨h3, h4⟩, h⟩ := h
   obtain ⟨q, h5, h⟩ := h.out
   exact ⟨_, q_index ho ht h1 hrow h2 h3 h4 h5, h⟩
 ·rename_i t x f ho
  obtain ⟨a, h1, h⟩ := h.out
  obtain ⟨l, rfl, h⟩ := asAgg_out h
  obtain ⟨⟨off, n, g⟩, h2, h⟩ := h.out
  obtain ⟨b, h3, h⟩ := h.out
  exact ⟨_, q_fieldVal ho h2 h1 h3, h⟩
 ·rename_i t x ix ho
  obtain ⟨a, h1, h⟩ := h.out
  obtain ⟨i, h2, h⟩ := h.out
  obtain ⟨j, i, rfl, h⟩ := asInt_out h
  split at h
  ·obtain ⟨⟨n, sz, g⟩, h3, h⟩ := h.out
   obtain ⟨⟨h4, h5⟩, h⟩ := h
   obtain ⟨b, h6, h⟩ := h.out
   exact ⟨_, q_indexVal ho h3 h1 h2 h4 h5 h6, h⟩
  ·obtain ⟨h3, h4, h⟩ := h
   obtain ⟨c, h5, h⟩ := h.out
   split at h3
   ·rename_i hl
    exact ⟨_, q_indexStr ho hl h1 h2 h4 h5, h⟩
   ·exact h3.elim
  ·exact h.elim
 ·rename_i t x ho
  obtain ⟨p, h1, h⟩ := h.out
  obtain ⟨l, hl, h⟩ := h.out
  obtain ⟨⟨n, g⟩, ht, h⟩ := h.out
  cases g with
  | true => exact ⟨_, q_load ho ht h1 hl h.1, h.2⟩
  | false =>
   obtain ⟨av, h2, h⟩ := one1.out h
   exact ⟨_, q_load1 ho ht h1 hl h2, h⟩
 ·rename_i t m k' ok ho
  obtain ⟨⟨kt, et⟩, h1, hA⟩ := h.out
  obtain ⟨z, h2, hB⟩ := hA.out
  obtain ⟨p, h3, hC⟩ := hB.out
  obtain ⟨a, h4, hD⟩ := hC.out
  obtain ⟨K, h5, hE⟩ := hD.out
  obtain ⟨id, e1, hF⟩ := asMp_out hE
  subst e1
  split at hF
  ·rename_i es ck hH
   obtain ⟨h6, fd, h7, h8⟩ := hF
   exact ⟨_, q_lookup ho h1 h2 h3 h4 h5 hH h6 h7, h8⟩
  ·exact hF.elim
 ·rename_i t x lo hi mx ho
  obtain ⟨a, h1, h⟩ := h.out
  obtain ⟨l, h2, h⟩ := h.out
  obtain ⟨hh, h3, h⟩ := h.out
  obtain ⟨m, h4, h⟩ := h.out
  unfold ASlice at h
  split at h
  ·obtain ⟨⟨e, sz⟩, h5, h⟩ := h.out
   exact q_slice ho h5 h1 h2 h3 h4 h
  ·obtain ⟨⟨e, sz⟩, h5, h⟩ := h.out
   exact q_sliceOwn ho h5 h1 h2 h3 h4 h
  ·obtain ⟨⟨n, sz⟩, h5, h⟩ := h.out
   exact q_sliceArr ho h5 h1 h2 h3 h4 h
  ·exact h.elim
 ·rename_i it ho
  obtain ⟨p, h1, hA⟩ := h.out
  obtain ⟨id, off, e1, hB⟩ := asOp_out hA
  clear h hA
  subst e1
  obtain ⟨e1, hC⟩ := hB
  subst e1
  split at hC
  ·rename_i m since seen ck hI
   split at hC
   ·rename_i es ck' hM
    obtain ⟨e1, hD⟩ := hC
    subst e1
    obtain ⟨b, h2, hE⟩ := hD.out
    obtain ⟨e, h3, hF⟩ := hE.out
    exact ⟨_, q_entry ho h1 hI hM h2 h3, hF⟩
   ·exact hC.elim
  ·exact hC.elim
 ·rename_i c ho
  split at h
  ·rename_i hcl
   obtain ⟨x, h1, h⟩ := h.out
   obtain ⟨t, h2, h⟩ := h.out
   obtain ⟨a, h3, h⟩ := h.out
   unfold ALen at h
   split at h
   ·rename_i hl
    exact ⟨_, q_len ho hcl h1 h2 hl h3 rfl, h⟩
   ·rename_i hl
    exact ⟨_, q_len ho hcl h1 h2 hl h3 rfl, h⟩
   ·rename_i hl
    exact ⟨_, q_lenStr ho hcl h1 h2 hl h3, h⟩
   ·rename_i hl
    split at h
    ·rename_i hM
     exact ⟨_, q_lenMap ho hcl h1 h2 hl h3 hM, h⟩
    ·exact h.elim
   ·exact h.elim
  ·rename_i hcl
   split at h
   ·rename_i x y hargs
    obtain ⟨a, h1, hA⟩ := h.out
    obtain ⟨b, h2, hB⟩ := hA.out
    obtain ⟨j, m, e1, hC⟩ := asInt_out hB
    obtain ⟨j', n, e2, hD⟩ := asInt_out hC
    subst e1 e2
    exact ⟨_, q_max ho hcl (args2 hargs) h1 h2, hD⟩
   ·exact h.elim
  ·rename_i hcl
   split at h
   ·rename_i x y hargs
    obtain ⟨a, h1, hA⟩ := h.out
    obtain ⟨b, h2, hB⟩ := hA.out
    obtain ⟨j, m, e1, hC⟩ := asInt_out hB
    obtain ⟨j', n, e2, hD⟩ := asInt_out hC
    subst e1 e2
    exact ⟨_, q_min ho hcl (args2 hargs) h1 h2, hD⟩
   ·exact h.elim
  ·exact h.elim
 ·exact h.elim
end
end Go.Gg
