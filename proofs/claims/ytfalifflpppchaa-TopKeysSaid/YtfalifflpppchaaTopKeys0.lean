/- A part of the proof. -/
import Derived.Conc.Own5
import Derived.Conc.Own4
import Derived.Conc.Own3
import Derived.Conc.Own2
import Derived.Conc.QuitsD
import Derived.Conc.Deaf
import Derived.Conc.CompanyDraw
import Derived.Conc.Comm2
import Derived.Conc.Beside
import Derived.Conc.Events
import Derived.Conc.CrowdTrace
import Derived.Conc.CrowdComm
import Derived.Conc.CrowdStepC
set_option linter.all false
set_option maxRecDepth 4000
set_option maxHeartbeats 1000000
namespace Go.Gg
open Go.Conc
abbrev Imm:=Nat -> Nat -> Option Value
abbrev Own:=Nat -> Option Obj
abbrev Spec:=Value -> Imm -> Own -> Prop
inductive Role where
 | plain
 | fork (c Wg : Nat) (Ss : List (List Spec))
 | recv (c Wg : Nat) (Ss : List (List Spec))
 | work (c Wg : Nat) (S : List Spec)
def Role.group : Role -> Option Nat
 | .fork _ Wg _ => some Wg
 | _ => none
def Role.chan : Role -> Option Nat
 | .fork c _ _ => some c
 | _ => none
structure View where
 imm : Imm
 own : Own
 deaf : Nat
 role : Role
structure Sat (V : View) (w : World) : Prop where
 imm : ∀ b o v,V.imm b o = some v -> w.cell? ⟨b,o,none⟩ = some v
 own : ∀ b x,V.own b = some x -> w.heap[b]? = some x
def MayRead (V : View) (n : Nat) (a : Addr) : Prop:=n <= a.block \/ V.own a.block ≠ none \/ V.imm a.block a.off ≠ none
def MayWrite (V : View) (n : Nat) (a : Addr) : Prop:=n <= a.block \/ (V.own a.block ≠ none /\ V.imm a.block a.off = none)
def EvOk (V : View) (n : Nat) (e : Event) : Prop :=
 match e with
 | ⟨.cell a,false,s⟩ => MayRead V n a /\ (s = true \/ V.role.group ≠ some a.block)
 | ⟨.cell a,true,s⟩ => MayWrite V n a /\ (s = true \/ V.role.group ≠ some a.block)
 | ⟨.obj r,_,s⟩ => (s = false /\ (n <= r \/ V.own r ≠ none)) /\ V.role.chan ≠ some r
 | ⟨.mark (.read a),_,_⟩ => MayWrite V n a
 | ⟨.mark (.write a),_,_⟩ => MayWrite V n a
 | ⟨.mark .disable,_,s⟩ => s = true
 | ⟨.mark .enable,_,s⟩ => s = true
 | ⟨.mark .noRoom,_,_⟩ => True
 | _ => False
structure StepOk (V : View) (w : World) (V' : View) (w' : World) (es : Array Event) : Prop where
 sat : Sat V' w'
 tape : w'.tape = w.tape
 os : w'.os = w.os
 output : w'.output = w.output
 size : w.heap.size <= w'.heap.size
 frame : ∀ b,b < w.heap.size -> V.own b = none -> w'.heap[b]? = w.heap[b]?
 own : ∀ b,b < w.heap.size -> V.own b = none -> V'.own b = none
 imm : ∀ b o v,V.imm b o = some v -> V'.imm b o = some v
 immNew : ∀ b o v,V'.imm b o = some v -> V.imm b o = some v \/ V.own b ≠ none \/ w.heap.size <= b
 evs : ∀ e ∈ es,EvOk V w.heap.size e
 deaf : V'.deaf = deafBehind V.deaf es
 role : V'.role = V.role
 chan : ∀ c x,V.role.chan = some c -> V.own c = some x -> V'.own c = some x
 low : ∀ e ∈ es,(MemAct.ofEvent e).low w'.heap.size
structure Ghost (V V' : View) : Prop where
 sat : ∀ w,Sat V w -> Sat V' w
 own : ∀ b,V.own b = none -> V'.own b = none
 imm : ∀ b o v,V.imm b o = some v -> V'.imm b o = some v
 immNew : ∀ b o v,V'.imm b o = some v -> V.imm b o = some v \/ V.own b ≠ none
 deaf : V'.deaf = V.deaf
 role : V'.role = V.role
 chan : ∀ c x,V.role.chan = some c -> V.own c = some x -> V'.own c = some x
theorem Ghost.refl (V : View) : Ghost V V:=⟨fun _ h => h,fun _ h => h,fun _ _ _ h => h,fun _ _ _ h => .inl h,rfl,rfl,fun _ _ _ e => e⟩
theorem Ghost.trans {V V' V'' : View} (h : Ghost V V') (k : Ghost V' V'') : Ghost V V'' :=
 ⟨fun w x => k.sat w (h.sat w x),fun b x => k.own b (h.own b x),fun b o v x => k.imm b o v (h.imm b o v x),fun b o v x => (k.immNew b o v x).elim (fun y => h.immNew b o v y) (fun y => .inr fun z => y (h.own b z)),k.deaf.trans h.deaf,k.role.trans h.role,fun c x e e' => k.chan c x (by rw [h.role]; exact e) (h.chan c x e e')⟩
theorem MayRead.of_ghost {V V' : View} (g : Ghost V V') {n : Nat} {a : Addr} (h : MayRead V' n a) : MayRead V n a:=by
 rcases h with h | h | h
 ·exact .inl h
 ·exact .inr (.inl fun e => h (g.own _ e))
 ·cases e : V'.imm a.block a.off with
  | none => exact absurd e h
  | some v => exact (g.immNew _ _ _ e).elim (fun x => .inr (.inr (by rw [x]; simp))) (fun x => .inr (.inl x))
theorem MayWrite.of_ghost {V V' : View} (g : Ghost V V') {n : Nat} {a : Addr} (h : MayWrite V' n a) : MayWrite V n a:=by
 rcases h with h | ⟨h,h'⟩
 ·exact .inl h
 ·refine .inr ⟨fun e => h (g.own _ e),?_⟩;cases e : V.imm a.block a.off with
  | none => rfl
  | some v => rw [g.imm _ _ _ e] at h'; cases h'
theorem EvOk.of_ghost {V V' : View} (g : Ghost V V') {n : Nat} {e : Event} (h : EvOk V' n e) : EvOk V n e:=by
 unfold EvOk at h ⊢;split at h
 ·exact ⟨MayRead.of_ghost g h.1,by rw [<- g.role]; exact h.2⟩
 ·exact ⟨MayWrite.of_ghost g h.1,by rw [<- g.role]; exact h.2⟩
 ·exact ⟨⟨h.1.1,h.1.2.imp id fun x y => x (g.own _ y)⟩,by rw [<- g.role]; exact h.2⟩
 ·exact MayWrite.of_ghost g h
 ·exact MayWrite.of_ghost g h
 ·exact h
 ·exact h
 ·trivial
 ·exact h.elim
theorem StepOk.of_ghost {V V₁ V' : View} {w w' : World} {es : Array Event} (g : Ghost V V₁) (h : StepOk V₁ w V' w' es) : StepOk V w V' w' es :=
 ⟨h.sat,h.tape,h.os,h.output,h.size,fun b hb e => h.frame b hb (g.own b e),fun b hb e => h.own b hb (g.own b e),fun b o v e => h.imm b o v (g.imm b o v e),
  fun b o v e => (h.immNew b o v e).elim (fun x => (g.immNew b o v x).imp id .inl) (fun x => .inr (x.imp (fun y z => y (g.own b z)) id)),fun e he => EvOk.of_ghost g (h.evs e he),by rw [h.deaf,g.deaf],h.role.trans g.role,fun c x e e' => h.chan c x (by rw [g.role]; exact e) (g.chan c x e e'),h.low⟩
theorem StepOk.ghost {V V' V'' : View} {w w' : World} {es : Array Event} (h : StepOk V w V' w' es) (g : Ghost V' V'') : StepOk V w V'' w' es :=
 ⟨g.sat _ h.sat,h.tape,h.os,h.output,h.size,h.frame,fun b hb e => g.own b (h.own b hb e),fun b o v e => g.imm b o v (h.imm b o v e),
  fun b o v e => (g.immNew b o v e).elim (fun x => h.immNew b o v x) (fun x => by
   by_cases hb : b < w.heap.size
   ·exact .inr (.inl fun y => x (h.own b hb y))
   ·exact .inr (.inr (by omega))),h.evs,by rw [g.deaf,h.deaf],g.role.trans h.role,fun c x e e' => g.chan c x (by rw [h.role]; exact e) (h.chan c x e e'),h.low⟩
theorem StepOk.idle {V : View} {w : World} (h : Sat V w) : StepOk V w V w #[] :=
 ⟨h,rfl,rfl,rfl,Nat.le_refl _,fun _ _ _ => rfl,fun _ _ e => e,fun _ _ _ e => e,fun _ _ _ e => .inl e,by simp,rfl,rfl,fun _ _ _ e => e,by simp⟩
theorem Sat.drew {V : View} {w : World} (h : Sat V w) (d : Nat) : Sat V { w with drawn:=d }:=⟨h.imm,h.own⟩
theorem StepOk.draw {V : View} {w : World} (h : Sat V w) (d : Nat) : StepOk V w V { w with drawn:=d } #[] :=
 ⟨h.drew d,rfl,rfl,rfl,Nat.le_refl _,fun _ _ _ => rfl,fun _ _ e => e,fun _ _ _ e => e,fun _ _ _ e => .inl e,by simp,rfl,rfl,fun _ _ _ e => e,by simp⟩
def zeV (Wg : Nat) : Addr:=⟨Wg,0,none⟩
def zlY (Wg : Nat) : Addr:=⟨Wg,1,none⟩
def zok (P : Program) : TypeId := ((P.types.findIdx? fun i => match i.desc with | .named n _ => n == "sync.WaitGroup" | _ => false).getD 0)
def zjD (P : Program) (st sm : Int) : Obj:=.cells #[.int .u64 st,.int .u32 sm] (zok P)
def WgAt (P : Program) (Wg : Nat) (w : World) (st sm : Int) : Prop:=w.heap[Wg]? = some (zjD P st sm)
def KK : Int:=4294967296
def eRd (a : Addr) : Event:=⟨.cell a,false,true⟩
def eWr (a : Addr) : Event:=⟨.cell a,true,true⟩
def eMk (m : Mark) : Event:=⟨.mark m,false,true⟩
def zn9 (a : Addr) : Array Event:=#[eMk .disable,eRd a,eWr a,eMk .enable]
def Slide (P : Program) (Stop : Nat -> Goroutine -> Prop) : Nat -> Nat -> Goroutine -> Prop
 | 0,d,g => Stop d g
 | n + 1,d,g => Stop d g \/ (g.status = .running /\ ∃ g' es,(∀ e ∈ es,Event.mute e = true) /\ (∀ w,stepG P false g w = .go g' w es) /\ Slide P Stop n (deafBehind d es) g')
def SlideW (P : Program) (Wg : Nat) (Stop : Nat -> Goroutine -> Prop) : Nat -> Nat -> Goroutine -> Prop
 | 0,d,g => Stop d g
 | n + 1,d,g => Stop d g \/ (g.status = .running /\ ∃ g' es,(∀ e ∈ es,Event.mute e = true) /\ (∀ w x y,WgAt P Wg w x y -> stepG P false g w = .go g' w es) /\ SlideW P Wg Stop n (deafBehind d es) g')
section
variable (P : Program) (Wg : Nat)
def DSem (d : Nat) (g : Goroutine) : Prop:=d = 1 /\ g.status = .running /\ mayWake P g = true /\ ∃ g',(∀ w,WgAt P Wg w 0 0 -> stepG P false g w = .go g' (w.setCell (zlY Wg) (.int .u32 1)) (zn9 (zlY Wg))) /\ ∃ q,QuitsD P q 1 g'
def zn5 (d : Nat) (g : Goroutine) : Prop:=d = 1 /\ g.status = .running /\ ∃ g',(∀ w,WgAt P Wg w 1 0 -> stepG P false g w = .go g' (w.setCell (zeV Wg) (.int .u64 0)) #[eWr (zeV Wg)]) /\ ∃ n,Slide P (DSem P Wg) n 1 g'
def zqr (d : Nat) (g : Goroutine) : Prop:=d = 1 /\ g.status = .running /\ ∃ g',(∀ w,WgAt P Wg w 1 0 -> stepG P false g w = .go g' w #[eRd (zeV Wg)]) /\ ∃ n,Slide P (zn5 P Wg) n 1 g'
def DAdd (d : Nat) (g : Goroutine) : Prop:=d = 1 /\ g.status = .running /\ ∀ v wt : Nat,wt <= 1 -> v < 4 -> ∃ g',(∀ w,WgAt P Wg w (((v + 1 : Nat) : Int) * KK + wt) 0 -> stepG P false g w = .go g' (w.setCell (zeV Wg) (.int .u64 ((v : Int) * KK + wt))) #[eRd (zeV Wg),eWr (zeV Wg)]) /\
 ((v = 0 /\ wt = 1) -> ∃ n,Slide P (zqr P Wg) n 1 g') /\ (¬ (v = 0 /\ wt = 1) -> ∃ q,QuitsD P q 1 g')
def zmR (g : Goroutine) : Prop:=g.status = .running /\ ∃ g',(∀ w,stepG P false g w = .go g' w #[eMk (.releaseMerge (zeV Wg))]) /\ ∃ n,Slide P (DAdd P Wg) n 0 g'
end
section
variable (P : Program) (Im : Imm) (c Wg : Nat)
def zoJ (d : Nat) (g : Goroutine) : Prop:=d = 0 /\ g.status = .running /\ mayWake P g = true /\ ∃ g',(∀ w s,w.heap[c]? = some (.chan 0 #[] false s s false) -> stepG P false g w = .go g' { w with heap:=w.heap.setIfInBounds c (.chan 0 #[] true s s false) } #[⟨.obj c,false,true⟩,⟨.obj c,true,true⟩]) /\ ∃ q,QuitsD P q 0 g'
def zr7 (d : Nat) (g : Goroutine) : Prop:=d = 0 /\ g.status = .running /\ ∃ b o x g',Im b o = some x /\ (∀ w,w.cell? ⟨b,o,none⟩ = some x -> stepG P false g w = .go g' w #[⟨.cell ⟨b,o,none⟩,false,false⟩]) /\ ∃ n,Slide P (zoJ P c) n 0 g'
def CAcq (d : Nat) (g : Goroutine) : Prop:=d = 0 /\ g.status = .running /\ ∃ g',(∀ w,stepG P false g w = .go g' w #[eMk (.acquire (zeV Wg))]) /\ ∃ n,Slide P (zr7 P Im c) n 0 g'
def zr8 (d : Nat) (g : Goroutine) : Prop:=d = 1 /\ g.status = .running /\ ∃ g',(∀ w,WgAt P Wg w 0 0 -> stepG P false g w = .go g' w #[eRd (zeV Wg)]) /\ ∃ n,SlideW P Wg (CAcq P Im c Wg) n 1 g'
def CSem (d : Nat) (g : Goroutine) : Prop:=d = 1 /\ g.status = .running /\ g.offers = none /\ (∀ w st,WgAt P Wg w st 0 -> stepG P false g w = .go { g with status:=.blocked } w #[]) /\
 ∃ g',(∀ w,WgAt P Wg w 0 1 -> stepG P false g w = .go g' (w.setCell (zlY Wg) (.int .u32 0)) (zn9 (zlY Wg))) /\ ∃ n,Slide P (zr8 P Im c Wg) n 1 g'
def zqs (d : Nat) (g : Goroutine) : Prop:=d = 1 /\ g.status = .running /\ ∃ g',(∀ w,stepG P false g w = .go g' w #[eMk (.write (zlY Wg))]) /\ ∃ n,Slide P (CSem P Im c Wg) n 1 g'
def CHead : Nat -> Nat -> Goroutine -> Prop
 | 0,_,_ => False
 | k + 1,d,g => d = 1 /\ g.status = .running /\ ∀ v : Nat,v <= k -> v <= 4 -> ∃ g',(∀ w,WgAt P Wg w ((v : Int) * KK) 0 -> stepG P false g w = .go g' w #[eRd (zeV Wg)]) /\ (v = 0 -> ∃ n,SlideW P Wg (CAcq P Im c Wg) n 1 g') /\
  (v ≠ 0 -> ∃ n,Slide P (fun d g => d = 1 /\ g.status = .running /\
   (∃ g',(∀ w,WgAt P Wg w ((v : Int) * KK) 0 -> stepG P false g w = .go g' (w.setCell (zeV Wg) (.int .u64 ((v : Int) * KK + 1))) #[eRd (zeV Wg),eWr (zeV Wg)]) /\ ∃ n,SlideW P Wg (zqs P Im c Wg) n 1 g') /\
   (∀ u : Nat,u < v -> ∃ g',(∀ w,WgAt P Wg w ((u : Int) * KK) 0 -> stepG P false g w = .go g' w #[eRd (zeV Wg)]) /\ ∃ n,Slide P (CHead v) n 1 g')) n 1 g')
 termination_by k _ _ => k
def zoI (g : Goroutine) : Prop:=∃ n,Slide P (CHead P Im c Wg 5) n 0 g
end
structure Closed0 (P : Program) (main : Bool) (J : View -> Goroutine -> Prop) : Prop where
 step : ∀ V g,g.status = .running -> (∀ w,Sat V w -> ∃ g' w' es V',stepG P main g w = .go g' w' es /\ StepOk V w V' w' es /\ J V' g') -> J V g
 ghost : ∀ V V' g,Ghost V V' -> J V' g -> J V g
 send : ∀ V g c Wg sp S v z (B : Nat -> Bool),V.role = .work c Wg (sp :: S) -> V.deaf = 0 -> g.status = .running -> g.offers = none ->
  (∀ w,Sat V w -> stepG P main g w = .comm g #[scase c v z] true .send w #[]) -> sp v V.imm (fun b => if B b then V.own b else none) ->
  J { V with own:=fun b => if B b then none else V.own b,role:=.work c Wg S } (Conc.served g undef) -> J V g
 done : ∀ V g c Wg,V.role = .work c Wg [] -> V.deaf = 0 -> zmR P Wg g -> J V g
 slip : ∀ V g g' c Wg,V.role = .work c Wg [] -> g.status = .running -> (∀ w st,Sat V w -> WgAt P Wg w st 0 -> stepG P main g w = .go g' w #[]) -> J V g' -> J V g
structure Closed1 (P : Program) (main : Bool) (J : View -> Goroutine -> Prop) : Prop where
 start : ∀ V g c Wg,V.role = .plain -> c ≠ Wg -> V.own c = some (.chan 0 #[] false 0 0 false) -> V.own Wg ≠ none -> (∀ o,V.imm Wg o = none) -> J { V with role:=.fork c Wg [] } g -> J V g
 goW : ∀ V g g' child c Wg Ss sp S,V.role = .fork c Wg Ss -> V.deaf = 0 -> g.status = .running -> V.own c = some (.chan 0 #[] false 0 0 false) -> V.own Wg = some (zjD P (((Ss.length + 1 : Nat) : Int) * 4294967296) 0) -> Ss.length < 4 -> (∀ o,V.imm Wg o = none) ->
  (∀ w,Sat V w -> stepG P main g w = .spawn g' child w #[]) -> child.status = .running ->
  (∀ J0,Closed0 P false J0 -> J0 { imm:=V.imm,own:=fun _ => none,deaf:=0,role:=.work c Wg (sp :: S) } child) ->
  J { V with role:=.fork c Wg (Ss ++ [sp :: S]) } g' -> J V g
 goC : ∀ V g g' child c Wg Ss,V.role = .fork c Wg Ss -> V.deaf = 0 -> g.status = .running -> c ≠ Wg -> V.own c = some (.chan 0 #[] false 0 0 false) -> V.own Wg = some (zjD P (((Ss.length : Nat) : Int) * 4294967296) 0) -> (∀ o,V.imm c o = none) -> (∀ o,V.imm Wg o = none) ->
  (∀ w,Sat V w -> stepG P main g w = .spawn g' child w #[]) -> child.status = .running -> zoI P V.imm c Wg child ->
  J { V with own:=fun b => if b = c \/ b = Wg then none else V.own b,role:=.recv c Wg Ss } g' -> J V g
 recv : ∀ V g c Wg Ss z,V.role = .recv c Wg Ss -> V.deaf = 0 -> g.status = .running -> g.offers = none ->
  (∀ w,Sat V w -> stepG P main g w = .comm g #[rcase c z] true (.recv true) w #[]) ->
  (∀ i sp S v Im Ow,Ss[i]? = some (sp :: S) -> sp v Im Ow -> (∀ b,V.own b ≠ none -> Ow b = none) -> (∀ b o,V.own b ≠ none -> Im b o ≠ none -> V.imm b o ≠ none) -> (∃ w,Sat V w /\ (∀ b o x,Im b o = some x -> w.cell? ⟨b,o,none⟩ = some x) /\ ∀ b x,Ow b = some x -> w.heap[b]? = some x) ->
   J { V with imm:=fun b o => match V.imm b o with | some x => some x | none => Im b o,own:=fun b => match V.own b with | some x => some x | none => Ow b,role:=.recv c Wg (Ss.set i S) } (Conc.served g (.tuple #[v,.bool true]))) ->
  ((∀ S ∈ Ss,S = []) -> J { V with role:=.plain } (Conc.served g (.tuple #[z,.bool false]))) -> J V g
structure Closed (lv : Bool) (P : Program) (main : Bool) (J : View -> Goroutine -> Prop) : Prop extends Closed0 P main J where
 more : lv = true -> Closed1 P main J
theorem Closed.idle {lv : Bool} {P : Program} {main : Bool} {J : View -> Goroutine -> Prop} (C : Closed lv P main J) {V : View} {g g' : Goroutine} (hs : g.status = .running) (h : ∀ w,stepG P main g w = .go g' w #[]) (hJ : J V g') : J V g :=
 C.step V g hs fun w hw => ⟨g',w,#[],V,h w,.idle hw,hJ⟩
def on (b : Frame) (a : Act) (todo : List Item) : Frame:={ b with tmps:=a.tmps,todo,defers:=a.defers,mode:=.run }
inductive Ex where
 | normal
 | exit (id : Nat)
 | goto (l : Nat)
 | ret
 | panic (chain : List PanicEntry)
def Lands (J : View -> Goroutine -> Prop) (b : Frame) (k : List Item) (cs : List Frame) : Ex -> Act -> View -> Prop
 | .normal,a,V => J V (G (on b a k) cs)
 | .exit id,a,V => ∃ k',exitTo id k = some k' /\ J V (G (on b a k') cs)
 | .goto l,a,V => ∃ k',gotoIn l k = some k' /\ J V (G (on b a k') cs)
 | .ret,a,V => ∀ k,J V (G (on b a (.code .ret :: k)) cs)
 | .panic chain,a,V => ∀ todo,J V (G { on b a todo with mode:=.panicking chain } cs)
def WP (lv : Bool) (P : Program) (r : Option Nat) (c : Code) (Q : Ex -> Act -> View -> Prop) (a : Act) (V : View) : Prop :=
 ∀ (main : Bool) (J : View -> Goroutine -> Prop),Closed lv P main J -> ∀ (b : Frame) (k : List Item) (cs : List Frame),b.kind ≠ .early -> b.roundOf = r ->
  (∀ e a' V',Q e a' V' -> Lands J b k cs e a' V') -> J V (G (on b a (.code c :: k)) cs)
section steps
variable {P : Program} {main : Bool} {b : Frame} {a : Act} {k : List Item} {cs : List Frame} {w : World}
theorem s_skip : stepG P main (G (on b a (.code .skip :: k)) cs) w = .go (G (on b a k) cs) w #[]:=by simp [G,stepG,stepG.exec,on]
theorem zqZ {l : Nat} : stepG P main (G (on b a (.code (.label l) :: k)) cs) w = .go (G (on b a k) cs) w #[]:=by simp [G,stepG,stepG.exec,on]
theorem zkc {id : Nat} : stepG P main (G (on b a (.inBlock id :: k)) cs) w = .go (G (on b a k) cs) w #[]:=by simp [G,stepG,stepG.exec,on]
theorem zkb {c : Code} : stepG P main (G (on b a (.inScope c :: k)) cs) w = .go (G (on b a k) cs) w #[]:=by simp [G,stepG,stepG.exec,on]
theorem s_seq {x y : Code} : stepG P main (G (on b a (.code (.seq x y) :: k)) cs) w = .go (G (on b a (.code x :: .code y :: k)) cs) w #[]:=by simp [G,stepG,stepG.exec,on]
theorem zhu (b : Frame) (a : Act) (todo : List Item) (x : Operand) : (on b a todo).eval x = a.eval x:=by cases x <;> rfl
theorem zpq (b : Frame) (a : Act) (todo : List Item) : (on b a todo).eval = a.eval:=funext (zhu b a todo)
theorem s_cond {c : Operand} {x y : Code} {t : Bool} (h : a.eval c = .bool t) :
  stepG P main (G (on b a (.code (.cond c x y) :: k)) cs) w = .go (G (on b a (.code (if t then x else y) :: k)) cs) w #[]:=by
 have h' : (on b a (.code (.cond c x y) :: k)).eval c = .bool t:=by rw [zhu]; exact h
 simp only [on] at h';simp [G,stepG,stepG.exec,on,h']
theorem zq0 {id : Nat} {c : Code} : stepG P main (G (on b a (.code (.block id c) :: k)) cs) w = .go (G (on b a (.code c :: .inBlock id :: k)) cs) w #[]:=by simp [G,stepG,stepG.exec,on]
theorem zqY {c : Code} : stepG P main (G (on b a (.code (.scope c) :: k)) cs) w = .go (G (on b a (.code c :: .inScope c :: k)) cs) w #[]:=by simp [G,stepG,stepG.exec,on]
theorem s_loop {c : Code} : stepG P main (G (on b a (.code (.loop c) :: k)) cs) w = .go (G (on b a (.code c :: .inLoop c :: k)) cs) w #[]:=by simp [G,stepG,stepG.exec,on]
theorem zo3 {c : Code} : stepG P main (G (on b a (.inLoop c :: k)) cs) w = .go (G (on b a (.code c :: .inLoop c :: k)) cs) w #[]:=by simp [G,stepG,stepG.exec,on]
theorem zqx {id : Nat} {k' : List Item} (h : exitTo id k = some k') : stepG P main (G (on b a (.code (.exit id) :: k)) cs) w = .go (G (on b a k') cs) w #[]:=by simp [G,stepG,stepG.exec,on,h]
theorem s_goto {l : Nat} {k' : List Item} (h : gotoIn l k = some k') : stepG P main (G (on b a (.code (.goto l) :: k)) cs) w = .go (G (on b a k') cs) w #[]:=by simp [G,stepG,stepG.exec,on,h]
theorem zh8 {id : Nat} {ops : Array Oper} : stepG P main (G (on b a (.code (.region id ops false) :: k)) cs) w = .go (G (on b a (.inRegion ops (List.range ops.size) :: k)) cs) w #[]:=by simp [G,stepG,stepG.exec,on]
theorem s_draw {id : Nat} {ops : Array Oper} : stepG P main (G (on b a (.code (.region id ops true) :: k)) cs) w =
  .go (G (on b a (.inRegion ops (Region.schedule (P.follows .mixedOrders) ops (w.tape w.drawn (.order b.fn id))) :: k)) cs) { w with drawn:=w.drawn + 1 } #[]:=by
 simp [G,stepG,stepG.exec,on,choose,Sem.run,Question.forced,Question.cut]
theorem zgl {ops : Array Oper} : stepG P main (G (on b a (.inRegion ops [] :: k)) cs) w = .go (G (on b a k) cs) w #[]:=by simp [G,stepG,stepG.exec,on]
theorem zj9 (h : b.roundOf = none) : stepG P main (G (on b a (.code .ret :: k)) cs) w = .go (G { on b a (.code .ret :: k) with mode:=.returning } cs) w #[]:=by simp [G,stepG,stepG.exec,on,h]
theorem zkd (h : b.roundOf = none) : stepG P main (G (on b a []) cs) w = .go (G { on b a [] with mode:=.returning } cs) w #[]:=by simp [G,stepG,stepG.exec,on,h]
end steps
section rules
variable {lv : Bool} {P : Program} {r : Option Nat} {Q : Ex -> Act -> View -> Prop} {a : Act} {V : View}
theorem WP.mono {c : Code} {Q' : Ex -> Act -> View -> Prop} (h : WP lv P r c Q a V) (hq : ∀ e a V,Q e a V -> Q' e a V) : WP lv P r c Q' a V :=
 fun main J C b k cs hb hr hL => h main J C b k cs hb hr fun e a' V' q => hL e a' V' (hq _ _ _ q)
theorem WP.ghost {c : Code} {V' : View} (g : Ghost V V') (h : WP lv P r c Q a V') : WP lv P r c Q a V :=
 fun main J C b k cs hb hr hL => C.ghost _ _ _ g (h main J C b k cs hb hr hL)
theorem zfm (h : Q .normal a V) : WP lv P r .skip Q a V:=fun _ _ C _ _ _ _ _ hL => C.idle rfl (fun _ => s_skip) (hL _ _ _ h)
theorem zoR {l : Nat} (h : Q .normal a V) : WP lv P r (.label l) Q a V:=fun _ _ C _ _ _ _ _ hL => C.idle rfl (fun _ => zqZ) (hL _ _ _ h)
theorem zfn {id : Nat} (h : Q (.exit id) a V) : WP lv P r (.exit id) Q a V:=fun _ _ C _ _ _ _ _ hL =>
 let ⟨_,hk,hJ⟩:=hL _ _ _ h; C.idle rfl (fun _ => zqx hk) hJ
theorem zqt (h : Q .ret a V) : WP lv P r .ret Q a V:=fun _ _ _ _ k _ _ _ hL => hL _ _ _ h k
def Ex.then (next : Act -> View -> Prop) (Q : Ex -> Act -> View -> Prop) : Ex -> Act -> View -> Prop
 | .normal,a,V => next a V
 | e,a,V => Q e a V
theorem Lands.under {J : View -> Goroutine -> Prop} {b : Frame} {k : List Item} {cs : List Frame} {x : Item} (hx : x.plain = true) {e : Ex} (he : e ≠ .normal) {a : Act} {V : View} (h : Lands J b k cs e a V) : Lands J b (x :: k) cs e a V:=by
 cases e with
 | normal => exact absurd rfl he
 | exit id => obtain ⟨k',hk,hJ⟩:=h; exact ⟨k',by cases x <;> simp_all [exitTo,Item.plain],hJ⟩
 | goto l => obtain ⟨k',hk,hJ⟩:=h; exact ⟨k',by cases x <;> simp_all [gotoIn,Item.plain],hJ⟩
 | ret => exact h
 | panic ch => exact h
theorem zaV {x y : Code} (h : WP lv P r x (Ex.then (WP lv P r y Q) Q) a V) : WP lv P r (.seq x y) Q a V:=by
 intro main J C b k cs hb hr hL;refine C.idle rfl (fun _ => s_seq) (h main J C b (.code y :: k) cs hb hr fun e a' V' q => ?_);cases e with
 | normal => exact q main J C b k cs hb hr hL
 | exit id => exact (hL _ _ _ q).under rfl (by simp)
 | goto l => exact (hL _ _ _ q).under rfl (by simp)
 | ret => exact (hL _ _ _ q).under rfl (by simp)
 | panic ch => exact (hL _ _ _ q).under rfl (by simp)
theorem zjN {c : Operand} {x y : Code} {t : Bool} (hc : a.eval c = .bool t) (h : WP lv P r (if t then x else y) Q a V) : WP lv P r (.cond c x y) Q a V :=
 fun main J C b k cs hb hr hL => C.idle rfl (fun _ => s_cond hc) (h main J C b k cs hb hr hL)
def Ex.inBlock (id : Nat) (Q : Ex -> Act -> View -> Prop) : Ex -> Act -> View -> Prop
 | .exit id',a,V => if id' = id then Q .normal a V else Q (.exit id') a V
 | e,a,V => Q e a V
theorem zbS {id : Nat} {c : Code} (h : WP lv P r c (Ex.inBlock id Q) a V) : WP lv P r (.block id c) Q a V:=by
 intro main J C b k cs hb hr hL;refine C.idle rfl (fun _ => zq0) (h main J C b (.inBlock id :: k) cs hb hr fun e a' V' q => ?_);cases e with
 | normal => exact C.idle rfl (fun _ => zkc) (hL _ _ _ q)
 | exit id' =>
  by_cases hid : id' = id
  ·simp only [Ex.inBlock,hid,if_true] at q;exact ⟨k,by simp [exitTo,hid],hL _ _ _ q⟩
  ·simp only [Ex.inBlock,hid,if_false] at q;obtain ⟨k',hk,hJ⟩:=hL _ _ _ q;have : (id == id') = false:=(by simp; exact fun h => hid h.symm);exact ⟨k',by simp [exitTo,this,hk],hJ⟩
 | goto l => obtain ⟨k',hk,hJ⟩:=hL _ _ _ q; exact ⟨k',by simp [gotoIn,hk],hJ⟩
 | ret => exact hL _ _ _ q
 | panic ch => exact hL _ _ _ q
theorem ze3 {α : Type} {lt : α -> α -> Prop} (wf : WellFounded lt) {c : Code} (I : α -> Act -> View -> Prop) (m : α) (h₀ : I m a V)
  (round : ∀ m a V,I m a V -> WP lv P r c (Ex.then (fun a' V' => ∃ m',lt m' m /\ I m' a' V') Q) a V) : WP lv P r (.loop c) Q a V:=by
 intro main J C b k cs hb hr hL;have key : ∀ m a V,I m a V -> J V (G (on b a (.code c :: .inLoop c :: k)) cs):=by
  intro m;induction m using wf.induction with
  | _ m ih =>
   intro a V hI;refine round m a V hI main J C b (.inLoop c :: k) cs hb hr fun e a' V' q => ?_;cases e with
   | normal => obtain ⟨m',hlt,hI'⟩:=q; exact C.idle rfl (fun _ => zo3) (ih m' hlt a' V' hI')
   | exit id => exact (hL _ _ _ q).under rfl (by simp)
   | goto l => exact (hL _ _ _ q).under rfl (by simp)
   | ret => exact (hL _ _ _ q).under rfl (by simp)
   | panic ch => exact (hL _ _ _ q).under rfl (by simp)
 exact C.idle rfl (fun _ => s_loop) (key m a V h₀)
theorem zg2 {c : Code} (I : Nat -> Act -> View -> Prop) (m : Nat) (h₀ : I m a V)
  (round : ∀ m a V,I m a V -> WP lv P r c (Ex.then (fun a' V' => ∃ m',m' < m /\ I m' a' V') Q) a V) : WP lv P r (.loop c) Q a V :=
 ze3 Nat.lt_wfRel.wf I m h₀ round
theorem zhV {c : Code} (I : Nat -> Nat -> Act -> View -> Prop)
  (start : ∃ n : Nat,WP lv P r c (fun e a V => match e with
   | .goto l => ∃ rest,findLabel c l = some rest /\ ∃ m,m < n /\ I l m a V
   | e => Q e a V) a V)
  (back : ∀ l rest m a V,findLabel c l = some rest -> I l m a V -> WP lv P r rest (fun e a V => match e with
   | .goto l' => ∃ rest',findLabel c l' = some rest' /\ ∃ m',m' < m /\ I l' m' a V
   | e => Q e a V) a V) : WP lv P r (.scope c) Q a V:=by
 intro main J C b k cs hb hr hL;have land : ∀ (n : Nat),(∀ l rest m a V,m < n -> findLabel c l = some rest -> I l m a V -> J V (G (on b a (.code rest :: .inScope c :: k)) cs)) ->
   ∀ e a' V',(match e with
   | .goto l => ∃ rest,findLabel c l = some rest /\ ∃ m,m < n /\ I l m a' V'
   | e => Q e a' V') -> Lands J b (.inScope c :: k) cs e a' V':=by
  intro n hn e a' V' q;cases e with
  | normal => exact C.idle rfl (fun _ => zkb) (hL _ _ _ q)
  | exit id => obtain ⟨k',hk,hJ⟩:=hL _ _ _ q; exact ⟨k',by simpa [exitTo] using hk,hJ⟩
  | goto l =>
   obtain ⟨rest,hf,m,hm,hI⟩:=q;exact ⟨_,by simp [gotoIn,hf],hn l rest m a' V' hm hf hI⟩
  | ret => exact hL _ _ _ q
  | panic ch => exact hL _ _ _ q
 have key : ∀ n l rest m a V,m < n -> findLabel c l = some rest -> I l m a V -> J V (G (on b a (.code rest :: .inScope c :: k)) cs):=by
  intro n;induction n with
  | zero => intro _ _ _ _ _ h; omega
  | succ n ih =>
   intro l rest m a V hm hf hI;exact back l rest m a V hf hI main J C b (.inScope c :: k) cs hb hr (land m fun l' rest' m' a' V' h' => ih l' rest' m' a' V' (by omega))
 obtain ⟨n,hn⟩:=start;exact C.idle rfl (fun _ => zqY) (hn main J C b (.inScope c :: k) cs hb hr (land n (key n)))
end rules
open Go.Conc
def View.get (V : View) (b o : Nat) : Option Value :=
 match V.imm b o with
 | some v => some v
 | none => match V.own b with
  | some (.cells c _ _) => c[o]?
  | _ => none
def View.upd (V : View) (b : Nat) (x : Obj) : View:={ V with own:=fun b' => if b' = b then some x else V.own b' }
def View.fresh (V : View) (b : Nat) : Prop:=V.own b = none /\ ∀ o,V.imm b o = none
theorem Sat.get {V : View} {w : World} (h : Sat V w) {b o : Nat} {v : Value} (e : V.get b o = some v) : w.cell? ⟨b,o,none⟩ = some v:=by
 unfold View.get at e;split at e
 ·rename_i v' hv; cases e; exact h.imm _ _ _ hv
 ·split at e
  ·rename_i c el f ho;have:=h.own _ _ ho;simpa [World.cell?,this] using e
  ·cases e
theorem Sat.lt {V : View} {w : World} (h : Sat V w) {b : Nat} {x : Obj} (e : V.own b = some x) : b < w.heap.size:=by
 have:=h.own _ _ e;exact (Array.getElem?_eq_some_iff.1 this).1
theorem Sat.imm_lt {V : View} {w : World} (h : Sat V w) {b o : Nat} {v : Value} (e : V.imm b o = some v) : b < w.heap.size:=by
 have:=h.imm _ _ _ e;unfold World.cell? at this;split at this
 ·rename_i hh; exact (Array.getElem?_eq_some_iff.1 hh).1
 ·cases this
theorem Sat.fresh {V : View} {w : World} (h : Sat V w) {b : Nat} (hb : w.heap.size <= b) : V.fresh b :=
 ⟨by cases e : V.own b with
  | none => rfl
  | some x => have:=h.lt e; omega,fun o => by
  cases e : V.imm b o with
  | none => rfl
  | some x => have:=h.imm_lt e; omega⟩
theorem Sat.get_lt {V : View} {w : World} (h : Sat V w) {b o : Nat} {v : Value} (e : V.get b o = some v) : b < w.heap.size:=by
 have:=h.get e;unfold World.cell? at this;split at this
 ·rename_i hh; exact (Array.getElem?_eq_some_iff.1 hh).1
 ·cases this
theorem MayRead.of_step {V V₁ : View} {w w₁ : World} {es : Array Event} (s : StepOk V w V₁ w₁ es) {a : Addr} (h : MayRead V₁ w₁.heap.size a) : MayRead V w.heap.size a:=by
 rcases h with h | h | h
 ·exact .inl (Nat.le_trans s.size h)
 ·by_cases hb : a.block < w.heap.size
  ·exact .inr (.inl fun e => h (s.own _ hb e))
  ·exact .inl (by omega)
 ·cases e : V₁.imm a.block a.off with
  | none => exact absurd e h
  | some v =>
   rcases s.immNew _ _ _ e with x | x | x
   ·exact .inr (.inr (by rw [x]; simp))
   ·exact .inr (.inl x)
   ·exact .inl x
theorem MayWrite.of_step {V V₁ : View} {w w₁ : World} {es : Array Event} (s : StepOk V w V₁ w₁ es) {a : Addr} (h : MayWrite V₁ w₁.heap.size a) : MayWrite V w.heap.size a:=by
 rcases h with h | ⟨h,h'⟩
 ·exact .inl (Nat.le_trans s.size h)
 ·by_cases hb : a.block < w.heap.size
  ·refine .inr ⟨fun e => h (s.own _ hb e),?_⟩;cases e : V.imm a.block a.off with
   | none => rfl
   | some v => rw [s.imm _ _ _ e] at h'; cases h'
  ·exact .inl (by omega)
theorem EvOk.of_step {V V₁ : View} {w w₁ : World} {es : Array Event} (s : StepOk V w V₁ w₁ es) {e : Event} (h : EvOk V₁ w₁.heap.size e) : EvOk V w.heap.size e:=by
 unfold EvOk at h ⊢;split at h
 ·exact ⟨MayRead.of_step s h.1,by rw [<- s.role]; exact h.2⟩
 ·exact ⟨MayWrite.of_step s h.1,by rw [<- s.role]; exact h.2⟩
 ·refine ⟨⟨h.1.1,?_⟩,by rw [<- s.role]; exact h.2⟩;rename_i r _ _;rcases h.1.2 with x | x
  ·exact .inl (Nat.le_trans s.size x)
  ·by_cases hb : r < w.heap.size
   ·exact .inr fun y => x (s.own _ hb y)
   ·exact .inl (by omega)
 ·exact MayWrite.of_step s h
 ·exact MayWrite.of_step s h
 ·exact h
 ·exact h
 ·trivial
 ·exact h.elim
theorem zbZ (d : Nat) (x y : Array Event) : deafBehind d (x ++ y) = deafBehind (deafBehind d x) y:=by
 simp [deafBehind]
theorem StepOk.trans {V V₁ V₂ : View} {w w₁ w₂ : World} {es es' : Array Event} (s : StepOk V w V₁ w₁ es) (s' : StepOk V₁ w₁ V₂ w₂ es') : StepOk V w V₂ w₂ (es ++ es') :=
 ⟨s'.sat,s'.tape.trans s.tape,s'.os.trans s.os,s'.output.trans s.output,Nat.le_trans s.size s'.size,
  fun b hb e => (s'.frame b (Nat.lt_of_lt_of_le hb s.size) (s.own b hb e)).trans (s.frame b hb e),fun b hb e => s'.own b (Nat.lt_of_lt_of_le hb s.size) (s.own b hb e),
  fun b o v e => s'.imm b o v (s.imm b o v e),fun b o v e => by
   rcases s'.immNew b o v e with x | x | x
   ·exact s.immNew b o v x
   ·by_cases hb : b < w.heap.size
    ·exact .inr (.inl fun y => x (s.own b hb y))
    ·exact .inr (.inr (by omega))
   ·exact .inr (.inr (Nat.le_trans s.size x)),
  fun e he => (Array.mem_append.1 he).elim (s.evs e) (fun h => (s'.evs e h).of_step s),by rw [s'.deaf,s.deaf,zbZ],s'.role.trans s.role,fun c x e e' => s'.chan c x (by rw [s.role]; exact e) (s.chan c x e e'),
  fun e he => (Array.mem_append.1 he).elim (fun x => MemAct.low_mono s'.size (s.low e x)) (s'.low e)⟩
def zk0 (es : Array Event) : Array Event:=es.filter fun e => match e.loc with | .mark (.extern _) => false | _ => true
def SemOk (P : Program) {α : Type} (V : View) (s : Sem α) (K : α -> View -> Prop) (Kp : Value -> View -> Prop) : Prop :=
 ∀ w,Sat V w -> ∀ es0,∃ es w' V',StepOk V w V' w' (zk0 es) /\
  ((∃ x,s.runT P w es0 = (.ok x w',es0 ++ es) /\ K x V') \/ (∃ v,s.runT P w es0 = (.halt (.panic v) w',es0 ++ es) /\ Kp v V'))
section
variable {P : Program} {α β : Type} {V : View} {K : α -> View -> Prop} {Kp : Value -> View -> Prop}
theorem zeu (x y : Array Event) : zk0 (x ++ y) = zk0 x ++ zk0 y:=by simp [zk0]
theorem SemOk.mono {s : Sem α} {K' : α -> View -> Prop} {Kp' : Value -> View -> Prop} (h : SemOk P V s K Kp) (hk : ∀ x V,K x V -> K' x V) (hp : ∀ x V,Kp x V -> Kp' x V) : SemOk P V s K' Kp':=fun w hw es0 =>
 let ⟨es,w',V',h1,h2⟩:=h w hw es0
 ⟨es,w',V',h1,h2.imp (fun ⟨x,a,b⟩ => ⟨x,a,hk _ _ b⟩) (fun ⟨x,a,b⟩ => ⟨x,a,hp _ _ b⟩)⟩
theorem SemOk.ghost {s : Sem α} {V' : View} (g : Ghost V V') (h : SemOk P V' s K Kp) : SemOk P V s K Kp:=fun w hw es0 =>
 let ⟨es,w',V',h1,h2⟩:=h w (g.sat w hw) es0
 ⟨es,w',V',h1.of_ghost g,h2⟩
theorem SemOk.cont {s : Sem α} (h : ∀ w,Sat V w -> ∃ es w' V' s',StepOk V w V' w' (zk0 es) /\ (∀ es0,s.runT P w es0 = s'.runT P w' (es0 ++ es)) /\ SemOk P V' s' K Kp) : SemOk P V s K Kp:=by
 intro w hw es0;obtain ⟨es,w',V',s',h1,h2,h3⟩:=h w hw;obtain ⟨es',w'',V'',h4,h5⟩:=h3 w' h1.sat (es0 ++ es);refine ⟨es ++ es',w'',V'',by rw [zeu]; exact h1.trans h4,?_⟩;rw [h2,<- Array.append_assoc];exact h5
theorem zan {x : α} (h : K x V) : SemOk P V (.pure x) K Kp:=fun w hw es0 => ⟨#[],w,V,by simpa [zk0] using StepOk.idle hw,.inl ⟨x,by simp [-Sem.runT_eq,Sem.runT],h⟩⟩
theorem zbq {x : α} (h : K x V) : SemOk P V (pure x) K Kp:=zan h
theorem zhk {v : Value} (h : Kp v V) : SemOk P V (.halt (.panic v) : Sem α) K Kp:=fun w hw es0 => ⟨#[],w,V,by simpa [zk0] using StepOk.idle hw,.inr ⟨v,by simp [-Sem.runT_eq,Sem.runT],h⟩⟩
theorem zbe {e : Event} (h : ∀ f,e.loc ≠ .mark (.extern f)) : zk0 #[e] = #[e]:=by
 unfold zk0;have : (match e.loc with | .mark (.extern _) => false | _ => true) = true:=by
  split
  ·rename_i f hf; exact absurd hf (h f)
  ·rfl
 simp [Array.filter]
theorem zcB (d : Nat) (a : Addr) (wr s : Bool) : deafBehind d #[⟨.cell a,wr,s⟩] = d:=by simp [deafBehind]
theorem zcW (d : Nat) (a : Nat) (wr s : Bool) : deafBehind d #[⟨.obj a,wr,s⟩] = d:=by simp [deafBehind]
theorem zdH {m : Mode} {b o : Nat} {v : Value} {k : Value -> Sem α} (e : V.get b o = some v) (hgr : V.role.group ≠ some b \/ m = .atomic) (h : SemOk P V (k v) K Kp) : SemOk P V (.load m ⟨b,o,none⟩ k) K Kp:=by
 refine .cont fun w hw => ⟨#[⟨.cell ⟨b,o,none⟩,false,m == .atomic⟩],w,V,k v,?_,fun es0 => ?_,h⟩
 ·rw [zbe (by simp)];refine ⟨hw,rfl,rfl,rfl,Nat.le_refl _,fun _ _ _ => rfl,fun _ _ e => e,fun _ _ _ e => e,fun _ _ _ e => .inl e,fun ev hev => ?_,by rw [zcB],rfl,fun _ _ _ e => e,fun ev hev => by simp at hev; subst hev; exact hw.get_lt e⟩;simp only [List.mem_toArray,List.mem_cons,List.not_mem_nil,or_false] at hev;subst hev;refine ⟨.inr ?_,hgr.elim .inr (fun x => .inl (by subst x; rfl))⟩;show V.own b ≠ none \/ V.imm b o ≠ none;unfold View.get at e;split at e
  ·rename_i hv; exact .inr (by rw [hv]; simp)
  ·split at e
   ·rename_i hv; exact .inl (by rw [hv]; simp)
   ·cases e
 ·simp [-Sem.runT_eq,Sem.runT,hw.get e]
def _root_.Go.Value.one : Value -> Bool
 | .agg _ | .tuple _ => false
 | _ => true
theorem Sat.upd_cells {V : View} {w : World} (h : Sat V w) {b o : Nat} {v : Value} {c : Array Value} {el : TypeId} {f : Nat × Nat} (ho : V.own b = some (.cells c el f)) (hi : V.imm b o = none) :
  Sat (V.upd b (.cells (c.setIfInBounds o v) el f)) (w.setCell ⟨b,o,none⟩ v):=by
 have hb:=h.own _ _ ho;have hlt:=h.lt ho;have hm : (w.setCell ⟨b,o,none⟩ v).heap = w.heap.setIfInBounds b (.cells (c.setIfInBounds o v) el f):=by
  unfold World.setCell;apply Array.ext_getElem?;intro i;by_cases hi' : b = i
  ·subst hi'; rw [Array.getElem?_modify,Array.getElem?_setIfInBounds_self_of_lt hlt]; simp [hb]
  ·simp [Array.getElem?_modify,hi',Array.getElem?_setIfInBounds_ne hi']
 refine ⟨fun b' o' v' e => ?_,fun b' x e => ?_⟩
 ·have:=h.imm _ _ _ e;simp only [View.upd] at e;by_cases hbb : b = b'
  ·subst hbb;have hoo : o ≠ o':=(by intro x; subst x; rw [hi] at e; cases e);simp only [World.cell?,hb] at this;simp only [World.cell?,hm,Array.getElem?_setIfInBounds_self_of_lt hlt,Array.getElem?_setIfInBounds_ne hoo];exact this
  ·simp only [World.cell?,hm,Array.getElem?_setIfInBounds_ne hbb];exact this
 ·simp only [View.upd] at e;rw [hm];by_cases hbb : b' = b
  ·subst hbb; simp at e; rw [Array.getElem?_setIfInBounds_self_of_lt hlt,e]
  ·simp only [hbb,if_false] at e;rw [Array.getElem?_setIfInBounds_ne (Ne.symm hbb)];exact h.own _ _ e
theorem zlj (w : World) (a : Addr) (v : Value) : (w.setCell a v).heap.size = w.heap.size:=by simp [World.setCell]
theorem zaM (w : World) (a : Addr) (v : Value) {b : Nat} (h : a.block ≠ b) : (w.setCell a v).heap[b]? = w.heap[b]?:=by simp [World.setCell,Array.getElem?_modify,h]
theorem zhj {m : Mode} {b o : Nat} {v : Value} {k : Sem α} {c : Array Value} {el : TypeId} {lo hi : Nat} (ho : V.own b = some (.cells c el (lo,hi))) (hin : o < c.size) (hi' : V.imm b o = none) (hv : v.one = true)
  (hf : ¬ (lo <= o /\ o < hi)) (hgr : V.role.group ≠ some b \/ m = .atomic) (hgc : V.role.chan ≠ some b) (h : SemOk P (V.upd b (.cells (c.setIfInBounds o v) el (lo,hi))) k K Kp) : SemOk P V (.store m ⟨b,o,none⟩ v k) K Kp:=by
 refine .cont fun w hw => ⟨#[⟨.cell ⟨b,o,none⟩,true,m == .atomic⟩],w.setCell ⟨b,o,none⟩ v,_,k,?_,fun es0 => ?_,h⟩
 ·rw [zbe (by simp)];refine ⟨hw.upd_cells ho hi',rfl,rfl,rfl,by rw [zlj]; exact Nat.le_refl _,fun b' hb' e => zaM _ _ _ (fun x => ?_),fun b' hb' e => ?_,fun _ _ _ e => e,fun _ _ _ e => .inl e,fun ev hev => ?_,by rw [zcB]; rfl,rfl,fun c' x hc' e => by rw [<- e]; simp only [View.upd,ite_eq_right_iff]; intro x'; subst x'; exact absurd hc' hgc,fun ev hev => by simp at hev; subst hev; show b < _; rw [zlj]; exact hw.lt ho⟩
  ·have x' : b = b':=x;subst x'; rw [ho] at e; cases e
  ·have : b' ≠ b:=(by intro x; subst x; rw [ho] at e; cases e);simp only [View.upd,this,if_false]; exact e
  ·simp only [List.mem_toArray,List.mem_cons,List.not_mem_nil,or_false] at hev;subst hev;exact ⟨.inr ⟨by show V.own b ≠ none; rw [ho]; simp,hi'⟩,hgr.elim .inr (fun x => .inl (by subst x; rfl))⟩
 ·have hc : w.cell? ⟨b,o,none⟩ = some c[o]:=by simp [World.cell?,hw.own _ _ ho,hin]
  have hfz : w.frozen? ⟨b,o,none⟩ = false:=by
   simp only [World.frozen?,hw.own _ _ ho];simpa using hf
  cases v <;> simp_all [-Sem.runT_eq,Sem.runT,Value.one]
theorem za7 {x : Obj} {k : Nat -> Sem α} (h : ∀ r,V.fresh r -> SemOk P (V.upd r x) (k r) K Kp) : SemOk P V (.new x k) K Kp:=by
 refine .cont fun w hw => ⟨#[],{ w with heap:=w.heap.push x },V.upd w.heap.size x,k w.heap.size,?_,fun es0 => by simp [-Sem.runT_eq,Sem.runT],h _ (hw.fresh (Nat.le_refl _))⟩;have hfr:=hw.fresh (Nat.le_refl w.heap.size);have hne : ∀ {b y},V.own b = some y -> b ≠ w.heap.size:=fun e x => by rw [x,hfr.1] at e; cases e
 refine ⟨⟨fun b o v e => ?_,fun b y e => ?_⟩,rfl,rfl,rfl,by simp,fun b hb _ => ?_,fun b hb e => ?_,fun _ _ _ e => e,fun _ _ _ e => .inl e,by simp [zk0],rfl,rfl,fun c' x hc' e => by rw [<- e]; simp only [View.upd,ite_eq_right_iff]; intro x'; exact absurd x' (hne e),by simp [zk0]⟩
 ·have hlt:=hw.imm_lt e;have:=hw.imm _ _ _ e;simp only [World.cell?,Array.getElem?_push_lt hlt] at this ⊢;simpa [World.cell?,hlt] using this
 ·simp only [View.upd] at e;by_cases hb : b = w.heap.size
  ·subst hb; simp at e; simp [e]
  ·simp only [hb,if_false] at e;have:=hw.own _ _ e;have hlt:=hw.lt e;simp only [Array.getElem?_push_lt hlt];simpa [hlt] using this
 ·simp [Array.getElem?_push,Nat.ne_of_lt hb]
 ·simp only [View.upd,Nat.ne_of_lt hb,if_false]; exact e
theorem zdY {q : Question} {k : Nat -> Sem α} (h0 : q.forced = true -> SemOk P V (k 0) K Kp) (h : q.forced = false -> ∀ t,SemOk P V (k (q.cut t)) K Kp) : SemOk P V (.choose q k) K Kp:=by
 cases hf : q.forced with
 | true => exact .cont fun w hw => ⟨#[],w,V,k 0,by simpa [zk0] using StepOk.idle hw,fun es0 => by simp [-Sem.runT_eq,Sem.runT,hf],h0 hf⟩
 | false => exact .cont fun w hw => ⟨#[],{ w with drawn:=w.drawn + 1 },V,_,by simpa [zk0] using StepOk.draw hw (w.drawn + 1),fun es0 => by simp [-Sem.runT_eq,Sem.runT,hf],h hf (w.tape w.drawn q)⟩
theorem zaG {k : Program -> Sem α} (h : SemOk P V (k P) K Kp) : SemOk P V (.program k) K Kp :=
 .cont fun w hw => ⟨#[],w,V,k P,by simpa [zk0] using StepOk.idle hw,fun es0 => by simp [-Sem.runT_eq,Sem.runT],h⟩
theorem zgk {k : Sem α} (h : SemOk P V k K Kp) : SemOk P V (.mark .noRoom k) K Kp :=
 .cont fun w hw => ⟨#[⟨.mark .noRoom,false,true⟩],w,V,k,by
  rw [zbe (by simp)];exact ⟨hw,rfl,rfl,rfl,Nat.le_refl _,fun _ _ _ => rfl,fun _ _ e => e,fun _ _ _ e => e,fun _ _ _ e => .inl e,fun ev hev => by simp at hev; subst hev; trivial,by simp [deafBehind],rfl,fun _ _ _ e => e,fun ev hev => by simp at hev; subst hev; trivial⟩,
  fun es0 => by simp [-Sem.runT_eq,Sem.runT],h⟩
theorem ziM {m : Mark} {k : Sem α} (hm : m = .disable \/ m = .enable) (h : SemOk P { V with deaf:=deafBehind V.deaf #[⟨.mark m,false,true⟩] } k K Kp) : SemOk P V (.mark m k) K Kp :=
 .cont fun w hw => ⟨#[⟨.mark m,false,true⟩],w,_,k,by
  rw [zbe (by rcases hm with rfl | rfl <;> simp)];exact ⟨⟨hw.imm,hw.own⟩,rfl,rfl,rfl,Nat.le_refl _,fun _ _ _ => rfl,fun _ _ e => e,fun _ _ _ e => e,fun _ _ _ e => .inl e,fun ev hev => by simp at hev; subst hev; rcases hm with rfl | rfl <;> rfl,rfl,rfl,fun _ _ _ e => e,fun ev hev => by simp at hev; subst hev; rcases hm with rfl | rfl <;> trivial⟩,
  fun es0 => by simp [-Sem.runT_eq,Sem.runT],h⟩
theorem ziL {m : Mark} {a : Addr} {k : Sem α} (hm : m = .read a \/ m = .write a) (ha : V.own a.block ≠ none /\ V.imm a.block a.off = none) (h : SemOk P V k K Kp) : SemOk P V (.mark m k) K Kp :=
 .cont fun w hw => ⟨#[⟨.mark m,false,true⟩],w,_,k,by
  rw [zbe (by rcases hm with rfl | rfl <;> simp)];exact ⟨⟨hw.imm,hw.own⟩,rfl,rfl,rfl,Nat.le_refl _,fun _ _ _ => rfl,fun _ _ e => e,fun _ _ _ e => e,fun _ _ _ e => .inl e,fun ev hev => by simp at hev; subst hev; rcases hm with rfl | rfl <;> exact .inr ha,
   by rcases hm with rfl | rfl <;> simp [deafBehind],rfl,fun _ _ _ e => e,fun ev hev => by
    simp at hev; subst hev;have : a.block < w.heap.size:=by
     cases e : V.own a.block with
     | none => exact absurd e ha.1
     | some y => exact hw.lt e
    rcases hm with rfl | rfl <;> exact this⟩,
  fun es0 => by simp [-Sem.runT_eq,Sem.runT],h⟩
def _root_.Go.Obj.isCells : Obj -> Bool
 | .cells .. => true
 | _ => false
theorem zaI {r : Nat} {x : Obj} {k : Obj -> Sem α} (ho : V.own r = some x) (hx : x.isCells = false) (hc : x.isChan = false) (hgr : V.role.chan ≠ some r) (h : SemOk P V (k x) K Kp) : SemOk P V (.getObj r k) K Kp :=
 .cont fun w hw => ⟨#[⟨.obj r,false,false⟩],w,V,k x,by
  rw [zbe (by simp)];exact ⟨hw,rfl,rfl,rfl,Nat.le_refl _,fun _ _ _ => rfl,fun _ _ e => e,fun _ _ _ e => e,fun _ _ _ e => .inl e,fun ev hev => by simp at hev; subst hev; exact ⟨⟨rfl,.inr (by rw [ho]; simp)⟩,hgr⟩,by rw [zcW],rfl,fun _ _ _ e => e,fun ev hev => by simp at hev; subst hev; exact hw.lt ho⟩,
  fun es0 => by
   have:=hw.own _ _ ho;cases x <;> simp_all [-Sem.runT_eq,Sem.runT,Obj.isCells,Obj.isChan],h⟩
theorem Sat.upd_obj {V : View} {w : World} (h : Sat V w) {r : Nat} {x y : Obj} (ho : V.own r = some x) (hx : x.isCells = false) : Sat (V.upd r y) { w with heap:=w.heap.setIfInBounds r y }:=by
 have hlt:=h.lt ho;refine ⟨fun b o v e => ?_,fun b z e => ?_⟩
 ·have:=h.imm _ _ _ e;have hb : r ≠ b:=by
   intro e'; subst e';simp only [World.cell?,h.own _ _ ho] at this;cases x <;> simp_all [Obj.isCells]
  simp only [World.cell?,Array.getElem?_setIfInBounds_ne hb] at this ⊢;exact this
 ·simp only [View.upd] at e;by_cases hb : b = r
  ·subst hb; simp at e; simp [hlt,e]
  ·simp only [hb,if_false] at e;simp only [Array.getElem?_setIfInBounds_ne (Ne.symm hb)];exact h.own _ _ e
theorem za6 {r : Nat} {x y : Obj} {k : Sem α} (ho : V.own r = some x) (hx : x.isCells = false) (hy : y.isChan = false) (hgr : V.role.chan ≠ some r) (h : SemOk P (V.upd r y) k K Kp) : SemOk P V (.setObj r y k) K Kp :=
 .cont fun w hw => ⟨#[⟨.obj r,true,false⟩],{ w with heap:=w.heap.setIfInBounds r y },_,k,by
  rw [zbe (by simp)];refine ⟨hw.upd_obj ho hx,rfl,rfl,rfl,by simp,fun b hb e => ?_,fun b hb e => ?_,fun _ _ _ e => e,fun _ _ _ e => .inl e,fun ev hev => by simp at hev; subst hev; exact ⟨⟨rfl,.inr (by rw [ho]; simp)⟩,hgr⟩,by rw [zcW]; rfl,rfl,fun c' x hc' e => by rw [<- e]; simp only [View.upd,ite_eq_right_iff]; intro x'; subst x'; exact absurd hc' hgr,fun ev hev => by simp at hev; subst hev; show r < _; simp; exact hw.lt ho⟩
  ·exact Array.getElem?_setIfInBounds_ne (fun x' => by subst x'; rw [ho] at e; cases e)
  ·have : b ≠ r:=(by intro x'; subst x'; rw [ho] at e; cases e);simp only [View.upd,this,if_false]; exact e,
  fun es0 => by
   have:=hw.own _ _ ho;cases x <;> simp_all [-Sem.runT_eq,Sem.runT,Obj.isCells,Obj.isChan],h⟩
theorem znO {s : Sem α} {f : α -> Sem β} {K : β -> View -> Prop} (h : SemOk P V s (fun x V' => SemOk P V' (f x) K Kp) Kp) : SemOk P V (s.bind f) K Kp:=by
 intro w hw es0;obtain ⟨es,w',V',h1,h2⟩:=h w hw es0;have key : (s.bind f).runT P w es0 = match s.runT P w es0 with
   |(.ok x w',e) => (f x).runT P w' e
   |(.halt h w',e) => (.halt h w',e):=by
  have hr:=Sem.run_bind' P s f w;have he:=Sem.events_bind' P s f w es0;rw [Sem.runT_eq,Sem.runT_eq];have hr' : (s.bind f).run P w = _:=hr;have he' : (s.bind f).events P w es0 = _:=he;rw [hr',he'];cases s.run P w <;> simp [Result.andThen,Result.evThen]
 rcases h2 with ⟨x,hx,hK⟩ | ⟨v,hv,hKp⟩
 ·obtain ⟨es',w'',V'',h3,h4⟩:=hK w' h1.sat (es0 ++ es);refine ⟨es ++ es',w'',V'',by rw [zeu]; exact h1.trans h3,?_⟩;rw [key,hx,<- Array.append_assoc];exact h4
 ·refine ⟨es,w',V',h1,.inr ⟨v,?_,hKp⟩⟩;rw [key,hv]
theorem zac {s : Sem α} {f : α -> Sem β} {K : β -> View -> Prop} (h : SemOk P V s (fun x V' => SemOk P V' (f x) K Kp) Kp) : SemOk P V (s >>= f) K Kp:=znO h
end
open Go.Conc
def znp (e : Event) : Prop:=∀ m,e.loc = .mark m -> (m = .disable \/ m = .enable) -> e.sync = true
theorem EvOk.good {V : View} {n : Nat} {e : Event} (h : EvOk V n e) : znp e:=by
 intro m hm hd;obtain ⟨l,wr,s⟩:=e;simp only at hm;subst hm;rcases hd with rfl | rfl
 ·simpa [EvOk] using h
 ·simpa [EvOk] using h
theorem zeM (d : Nat) (x : Array Event) (e : Event) : deafBehind d (x.push e) = deafBehind (deafBehind d x) #[e]:=by
 simp [deafBehind]
theorem zjr {d : Nat} {e : Event} (hg : znp e) (hs : e.sync = false) : deafBehind d #[e] = d:=by
 obtain ⟨l,wr,s⟩:=e;cases l with
 | mark m =>
  cases m <;> first
   |(have:=hg _ rfl (.inl rfl); simp_all)
   |(have:=hg _ rfl (.inr rfl); simp_all)
   | simp [deafBehind]
 | _ => simp [deafBehind]
theorem ziN (P : Program) (fn : FuncId) (es : Array Event) (hg : ∀ e ∈ zk0 es,znp e) (d : Nat) : (∀ e ∈ seen P fn es,e ∈ zk0 es) /\ deafBehind d (seen P fn es) = deafBehind d (zk0 es):=by
 rw [seen_def];obtain ⟨l⟩:=es;have key : ∀ (l : List Event) (q : Bool) (kept ref : Array Event),(∀ e ∈ zk0 l.toArray,znp e) -> (∀ e ∈ kept,e ∈ ref) -> deafBehind d kept = deafBehind d ref ->
   (∀ e ∈ (l.foldl (seenStep fun f => (P.funcs[f]?).any (·.norace)) (q,kept)).2,e ∈ ref ++ zk0 l.toArray) /\
   deafBehind d (l.foldl (seenStep fun f => (P.funcs[f]?).any (·.norace)) (q,kept)).2 = deafBehind d (ref ++ zk0 l.toArray):=by
  intro l;induction l with
  | nil => intro q kept ref _ h1 h2; simpa [zk0] using ⟨h1,h2⟩
  | cons e l ih =>
   intro q kept ref hg h1 h2;rw [List.foldl_cons];by_cases hx : ∃ f,e.loc = .mark (.extern f)
   ·obtain ⟨f,hf⟩:=hx;have e1 : zk0 (e :: l).toArray = zk0 l.toArray:=(by simp [zk0,hf]);rw [e1] at hg ⊢;have e3 : seenStep (fun f => (P.funcs[f]?).any (·.norace)) (q,kept) e = ((P.funcs[f]?).any (·.norace),kept):=(by simp [seenStep,hf]);rw [e3];exact ih _ kept ref hg h1 h2
   ·have hne : ∀ f,e.loc ≠ .mark (.extern f):=fun f hf => hx ⟨f,hf⟩;have e1 : zk0 (e :: l).toArray = #[e] ++ zk0 l.toArray:=by
     have : (e :: l).toArray = #[e] ++ l.toArray:=(by simp);rw [this,zeu,zbe hne]
    have hge : znp e:=hg e (by rw [e1]; simp);have hgl : ∀ x ∈ zk0 l.toArray,znp x:=fun x hx => hg x (by rw [e1]; exact Array.mem_append.2 (.inr hx));have e2 : seenStep (fun f => (P.funcs[f]?).any (·.norace)) (q,kept) e = (q,if q && !e.sync then kept else kept.push e):=by
     unfold seenStep;dsimp only;split
     ·rename_i f hf; exact absurd hf (hne f)
     ·rfl
    rw [e1,<- Array.append_assoc];rw [e2];refine ih q _ (ref ++ #[e]) hgl (fun x hx => ?_) ?_
    ·split at hx
     ·exact Array.mem_append.2 (.inl (h1 x hx))
     ·rcases Array.mem_push.1 hx with hx | rfl
      ·exact Array.mem_append.2 (.inl (h1 x hx))
      ·exact Array.mem_append.2 (.inr (by simp))
    ·split
     ·rename_i hq;simp only [Bool.and_eq_true,Bool.not_eq_true'] at hq;rw [zbZ,zjr hge hq.2,h2]
     ·rw [zbZ,zeM,h2]
 have:=key l ((P.funcs[fn]?).any (·.norace)) #[] #[] hg (by simp) rfl;simpa only [Array.empty_append] using this
theorem StepOk.seen {V V' : View} {w w' : World} {es : Array Event} (h : StepOk V w V' w' (zk0 es)) (P : Program) (fn : FuncId) : StepOk V w V' w' (seen P fn es):=by
 have:=ziN P fn es (fun e he => (h.evs e he).good) V.deaf;exact ⟨h.sat,h.tape,h.os,h.output,h.size,h.frame,h.own,h.imm,h.immNew,fun e he => h.evs e (this.1 e he),by rw [h.deaf,this.2],h.role,h.chan,fun e he => h.low e (this.1 e he)⟩
open Go.Conc
inductive Out where
 | ret (v : Value)
 | panic (chain : List PanicEntry)
def zm4 (P : Program) (fr : Frame) (f : FuncId) (kd : CallKind) (o : Out) (V : View) : Prop :=
 fr.fn = f /\ fr.defers = [] /\ fr.kind = kd /\ ∃ fn,P.funcs[f]? = some fn /\
  match o with
  | .ret v => fr.mode = .returning /\ SemOk P V (results fn fr.tmps) (fun x V' => x = v /\ V' = V) (fun _ _ => False)
  | .panic ch => fr.mode = .panicking ch
def Body (lv : Bool) (P : Program) (f : FuncId) (args : Array Value) (kd : CallKind) (V : View) (R : Out -> View -> Prop) : Prop :=
 ∀ (main : Bool) (J : View -> Goroutine -> Prop),Closed lv P main J -> ∀ cs,(∀ o V' fr,R o V' -> zm4 P fr f kd o V' -> J V' (G fr cs)) -> J V (G (Frame.enter P f args kd) cs)
def Runs (lv : Bool) (P : Program) (fr : Frame) (V : View) (R : Out -> View -> Prop) : Prop :=
 ∀ (main : Bool) (J : View -> Goroutine -> Prop),Closed lv P main J -> ∀ c cs,(∀ v V',R (.ret v) V' -> J V' (G (c.finish v) cs)) -> (∀ ch V',R (.panic ch) V' -> J V' (G (c.raise ch) cs)) -> J V (G fr (c :: cs))
theorem Body.mono {lv : Bool} {P : Program} {f : FuncId} {args : Array Value} {kd : CallKind} {V : View} {R R' : Out -> View -> Prop} (h : Body lv P f args kd V R) (hr : ∀ o V,R o V -> R' o V) : Body lv P f args kd V R' :=
 fun main J C cs hk => h main J C cs fun o V' fr r hl => hk o V' fr (hr _ _ r) hl
theorem Body.ghost {lv : Bool} {P : Program} {f : FuncId} {args : Array Value} {kd : CallKind} {V V' : View} {R : Out -> View -> Prop} (g : Ghost V V') (h : Body lv P f args kd V' R) : Body lv P f args kd V R :=
 fun main J C cs hk => C.ghost _ _ _ g (h main J C cs hk)
theorem Runs.mono {lv : Bool} {P : Program} {fr : Frame} {V : View} {R R' : Out -> View -> Prop} (h : Runs lv P fr V R) (hr : ∀ o V,R o V -> R' o V) : Runs lv P fr V R' :=
 fun main J C c cs h1 h2 => h main J C c cs (fun v V' r => h1 v V' (hr _ _ r)) (fun v V' r => h2 v V' (hr _ _ r))
theorem Runs.ghost {lv : Bool} {P : Program} {fr : Frame} {V V' : View} {R : Out -> View -> Prop} (g : Ghost V V') (h : Runs lv P fr V' R) : Runs lv P fr V R :=
 fun main J C c cs h1 h2 => C.ghost _ _ _ g (h main J C c cs h1 h2)
theorem SemOk.runs {P : Program} {α : Type} {V : View} {s : Sem α} {K : α -> View -> Prop} {Kp : Value -> View -> Prop} (h : SemOk P V s K Kp) {w : World} (hw : Sat V w) :
  ∃ es w' V',StepOk V w V' w' (zk0 es) /\ s.events P w #[] = es /\ ((∃ x,s.run P w = .ok x w' /\ K x V') \/ (∃ v,s.run P w = .halt (.panic v) w' /\ Kp v V')):=by
 obtain ⟨es,w',V',h1,h2⟩:=h w hw #[];refine ⟨es,w',V',h1,?_⟩;simp only [Sem.runT_eq,Prod.mk.injEq,Array.empty_append] at h2;rcases h2 with ⟨x,⟨a,b⟩,c⟩ | ⟨x,⟨a,b⟩,c⟩
 ·exact ⟨b,.inl ⟨x,a,c⟩⟩
 ·exact ⟨b,.inr ⟨x,a,c⟩⟩
theorem zjb {lv : Bool} {P : Program} {main : Bool} {J : View -> Goroutine -> Prop} (C : Closed lv P main J) {fr c : Frame} {cs : List Frame} {f : FuncId} {v : Value} {V : View} (h : zm4 P fr f .normal (.ret v) V) (hJ : J V (G (c.finish v) cs)) : J V (G fr (c :: cs)):=by
 obtain ⟨rfl,hd,hk,fn,hf,hm,hr⟩:=h;refine C.step _ _ rfl fun w hw => ?_;obtain ⟨es,w',V',h1,h2,h3⟩:=hr.runs hw;rcases h3 with ⟨x,h3,rfl,rfl⟩ | ⟨_,_,h⟩
 ·exact ⟨G (c.finish x) cs,w',seen P fr.fn es,V',by simp [G,stepG,unwind,doReturn,hm,hd,hk,hf,h3,h2,GStep.after],h1.seen P fr.fn,hJ⟩
 ·exact h.elim
theorem zgz {lv : Bool} {P : Program} {main : Bool} {J : View -> Goroutine -> Prop} (C : Closed lv P main J) {fr c : Frame} {cs : List Frame} {f : FuncId} {kd : CallKind} {ch : List PanicEntry} {V : View} (h : zm4 P fr f kd (.panic ch) V) (hJ : J V (G (c.raise ch) cs)) : J V (G fr (c :: cs)):=by
 obtain ⟨rfl,hd,hk,fn,hf,hm⟩:=h;refine C.idle rfl (fun w => ?_) hJ;simp [G,stepG,unwind,Frame.catches,hm,hd,hf]
theorem Body.runs {lv : Bool} {P : Program} {f : FuncId} {args : Array Value} {V : View} {R : Out -> View -> Prop} (h : Body lv P f args .normal V R) : Runs lv P (Frame.enter P f args .normal) V R:=by
 intro main J C c cs h1 h2;refine h main J C (c :: cs) fun o V' fr r hl => ?_;cases o with
 | ret v => exact zjb C hl (h1 v V' r)
 | panic ch => exact zgz C hl (h2 ch V' r)
def Upon (lv : Bool) (P : Program) (r : Option Nat) (o : Oper) (a : Act) (next : Act -> View -> Prop) (Q : Ex -> Act -> View -> Prop) (nx : Next) (V : View) : Prop :=
 match nx with
 | .value v => next (a.put o.dst v) V
 | .skip => next (a.put o.dst undef) V
 | .defer d => r = none /\ next ({ a with defers:=d :: a.defers }.put o.dst undef) V
 | .enter f args => Body lv P f args .normal V fun
   | .ret v,V' => next (a.put o.dst v) V'
   | .panic ch,V' => Q (.panic ch) a V'
 | .round l f tmps assign body => Runs lv P (Frame.round l f tmps assign body .normal) V fun
   | .ret v,V' => next (a.put o.dst v) V'
   | .panic ch,V' => Q (.panic ch) a V'
 | _ => False
def zk9 : Op -> Bool
 | .defer _ => true
 | _ => false
def OpWP (lv : Bool) (P : Program) (r : Option Nat) (o : Oper) (a : Act) (V : View) (next : Act -> View -> Prop) (Q : Ex -> Act -> View -> Prop) : Prop :=
 (r = none \/ zk9 o.op = false) /\ SemOk P V (execOp a.eval o) (Upon lv P r o a next Q) (fun v V' => Q (.panic [{ v,recovered:=false }]) a V')
def SpecWP (lv : Bool) (P : Program) (o : Oper) (a : Act) (V : View) (next : Act -> View -> Prop) : Prop:=match o.op with
 | .send ch x => ∃ (c Wg : Nat) (sp : Spec) (S : List Spec) (B : Nat -> Bool),a.eval ch = .chan (some c) /\ V.role = .work c Wg (sp :: S) /\ V.deaf = 0 /\ sp (a.eval x) V.imm (fun b => if B b then V.own b else none) /\
   next (a.put o.dst undef) { V with own:=fun b => if B b then none else V.own b,role:=.work c Wg S }
 | .go cl => lv = true /\ ∃ (x : Operand) (f : FuncId) (fa ca : Array Value),cl.callee = .value x /\ a.eval x = .func (.func f) fa ca /\ V.deaf = 0 /\
   ((∃ (c Wg : Nat) (Ss : List (List Spec)) (sp : Spec) (S : List Spec),V.role = .fork c Wg Ss /\ V.own c = some (.chan 0 #[] false 0 0 false) /\ V.own Wg = some (zjD P (((Ss.length + 1 : Nat) : Int) * 4294967296) 0) /\ Ss.length < 4 /\ (∀ o,V.imm Wg o = none) /\
    (∀ J0,Closed0 P false J0 -> J0 { imm:=V.imm,own:=fun _ => none,deaf:=0,role:=.work c Wg (sp :: S) } (born P ⟨.fn (.func f) ca,fa ++ cl.args.map a.eval⟩)) /\ next (a.put o.dst undef) { V with role:=.fork c Wg (Ss ++ [sp :: S]) }) \/
    (∃ (c Wg : Nat) (Ss : List (List Spec)),V.role = .fork c Wg Ss /\ c ≠ Wg /\ V.own c = some (.chan 0 #[] false 0 0 false) /\ V.own Wg = some (zjD P (((Ss.length : Nat) : Int) * 4294967296) 0) /\ (∀ o,V.imm c o = none) /\ (∀ o,V.imm Wg o = none) /\
    zoI P V.imm c Wg (born P ⟨.fn (.func f) ca,fa ++ cl.args.map a.eval⟩) /\ next (a.put o.dst undef) { V with own:=fun b => if b = c \/ b = Wg then none else V.own b,role:=.recv c Wg Ss }))
 | .recv t ch true => lv = true /\ ∃ (c Wg : Nat) (Ss : List (List Spec)) (d : ChanDir) (el : TypeId) (i : TypeInfo) (z : Value),a.eval ch = .chan (some c) /\ P.underlying t = some (.chan d el) /\ P.info? el = some i /\ i.zero = some z /\ V.role = .recv c Wg Ss /\ V.deaf = 0 /\
   (∀ (i : Nat) (sp : Spec) (S : List Spec) (v : Value) (Im : Imm) (Ow : Own),Ss[i]? = some (sp :: S) -> sp v Im Ow -> (∀ b,V.own b ≠ none -> Ow b = none) -> (∀ b o,V.own b ≠ none -> Im b o ≠ none -> V.imm b o ≠ none) -> (∃ w,Sat V w /\ (∀ b o x,Im b o = some x -> w.cell? ⟨b,o,none⟩ = some x) /\ ∀ b x,Ow b = some x -> w.heap[b]? = some x) ->
    next (a.put o.dst (.tuple #[v,.bool true])) { V with imm:=fun b o => match V.imm b o with | some x => some x | none => Im b o,own:=fun b => match V.own b with | some x => some x | none => Ow b,role:=.recv c Wg (Ss.set i S) }) /\
   ((∀ S ∈ Ss,S = []) -> next (a.put o.dst (.tuple #[z,.bool false])) { V with role:=.plain })
 | _ => False
theorem SpecWP.mono {lv : Bool} {P : Program} {o : Oper} {a : Act} {V : View} {N N' : Act -> View -> Prop} (h : SpecWP lv P o a V N) (hN : ∀ a V,N a V -> N' a V) : SpecWP lv P o a V N':=by
 unfold SpecWP at h ⊢;split at h
 ·obtain ⟨c,Wg,sp,S,B,h1,h2,h3,h4,h5⟩:=h;exact ⟨c,Wg,sp,S,B,h1,h2,h3,h4,hN _ _ h5⟩
 ·obtain ⟨hlv,x,f,fa,ca,h1,h2,h3,h4⟩:=h;refine ⟨hlv,x,f,fa,ca,h1,h2,h3,h4.imp ?_ ?_⟩
  ·rintro ⟨c,Wg,Ss,sp,S,q1,q2,q3,q4,q5,q6,q7⟩
   exact ⟨c,Wg,Ss,sp,S,q1,q2,q3,q4,q5,q6,hN _ _ q7⟩
  ·rintro ⟨c,Wg,Ss,q1,q2,q3,q4,q5,q6,q7,q8⟩
   exact ⟨c,Wg,Ss,q1,q2,q3,q4,q5,q6,q7,hN _ _ q8⟩
 ·obtain ⟨hlv,c,Wg,Ss,d,el,ti,z,h1,h2,h3,h4,h5,h6,h7,h8⟩:=h;exact ⟨hlv,c,Wg,Ss,d,el,ti,z,h1,h2,h3,h4,h5,h6,fun i sp S v Im Ow r1 r2 r3 r4 r5 => hN _ _ (h7 i sp S v Im Ow r1 r2 r3 r4 r5),fun hS => hN _ _ (h8 hS)⟩
 ·exact h
def OpX (lv : Bool) (P : Program) (r : Option Nat) (o : Oper) (a : Act) (V : View) (next : Act -> View -> Prop) (Q : Ex -> Act -> View -> Prop) : Prop:=OpWP lv P r o a V next Q \/ SpecWP lv P o a V next
def zie (lv : Bool) (P : Program) (r : Option Nat) (ops : Array Oper) (Q : Ex -> Act -> View -> Prop) : List Nat -> Act -> View -> Prop
 | [],a,V => Q .normal a V
 | i :: rest,a,V =>
  match ops[i]? with
  | none => zie lv P r ops Q rest a V
  | some o => if Region.wanted o (yielded ops a.tmps) then OpX lv P r o a V (zie lv P r ops Q rest) Q else zie lv P r ops Q rest (a.put o.dst undef) V
theorem zb6 (b : Frame) (a : Act) (ops : Array Oper) (i : Nat) (rest : List Nat) (k : List Item) (v : Value) :
  (on b a (.inRegion ops (i :: rest) :: k)).finish v = on b (a.put ((ops[i]?).bind (·.dst)) v) (.inRegion ops rest :: k):=by
 cases h : (ops[i]?).bind (·.dst) <;> simp [Frame.finish,on,Act.put,h]
theorem zgm {P : Program} {main : Bool} {b : Frame} {a : Act} {k : List Item} {cs : List Frame} {w : World} {ops : Array Oper} {i : Nat} {rest : List Nat} (h : ((ops[i]?).map (Region.wanted · (yielded ops a.tmps))).getD false = false) :
  stepG P main (G (on b a (.inRegion ops (i :: rest) :: k)) cs) w = .go (G (on b (a.put ((ops[i]?).bind (·.dst)) undef) (.inRegion ops rest :: k)) cs) w #[]:=by
 rw [<- zb6];simp only [on] at *;simp [G,stepG,stepG.exec,h]
theorem s_op {P : Program} {main : Bool} {b : Frame} {a : Act} {k : List Item} {cs : List Frame} {w : World} {ops : Array Oper} {i : Nat} {rest : List Nat} {o : Oper} (ho : ops[i]? = some o) (hw : Region.wanted o (yielded ops a.tmps) = true) (hd : b.roundOf = none \/ zk9 o.op = false) :
  stepG P main (G (on b a (.inRegion ops (i :: rest) :: k)) cs) w = stepG.apply P true (on b a (.inRegion ops (i :: rest) :: k)) cs none (execOp a.eval o) w:=by
 have he:=zpq b a (.inRegion ops (i :: rest) :: k);simp only [on] at he;rcases hd with hd | hd
 ·rw [hd] at he;simp [G,stepG,stepG.exec,stepG.oper,Frame.oper?,on,ho,hw,he,hd]
 ·cases hr : b.roundOf with
  | none =>
   rw [hr] at he;simp [G,stepG,stepG.exec,stepG.oper,Frame.oper?,on,ho,hw,he,hr]
  | some l => cases hop : o.op <;> simp_all [G,stepG,stepG.exec,stepG.oper,Frame.oper?,on,zk9]
theorem zqW {lv : Bool} {P : Program} {main : Bool} {J : View -> Goroutine -> Prop} (C : Closed lv P main J) {ops : Array Oper} {i : Nat} {rest : List Nat} {o : Oper} {a : Act} {V : View} {N : Act -> View -> Prop} {b : Frame} {k : List Item} {cs : List Frame} (hb : b.kind ≠ .early)
  (ho : ops[i]? = some o) (hw : Region.wanted o (yielded ops a.tmps) = true) (h : SpecWP lv P o a V N) (hN : ∀ a' V',N a' V' -> J V' (G (on b a' (.inRegion ops rest :: k)) cs)) : J V (G (on b a (.inRegion ops (i :: rest) :: k)) cs):=by
 have hke : ((on b a (.inRegion ops (i :: rest) :: k)).kind == CallKind.early) = false:=by simpa [on] using hb
 have hfin : ∀ v,(on b a (.inRegion ops (i :: rest) :: k)).finish v = on b (a.put o.dst v) (.inRegion ops rest :: k):=by
  intro v; rw [zb6,ho]; rfl
 have hsv : ∀ v,Conc.served (G (on b a (.inRegion ops (i :: rest) :: k)) cs) v = G (on b (a.put o.dst v) (.inRegion ops rest :: k)) cs:=fun v => by rw [<- hfin v]; rfl
 unfold SpecWP at h;split at h
 ·rename_i ch x hop;obtain ⟨c,Wg,sp,S,B,h1,h2,h3,h4,h5⟩:=h;have hst : ∀ w,stepG P main (G (on b a (.inRegion ops (i :: rest) :: k)) cs) w = .comm (G (on b a (.inRegion ops (i :: rest) :: k)) cs) #[scase c (a.eval x) (.tuple #[])] true .send w #[]:=fun w => by
   rw [s_op ho hw (.inr (by rw [hop]; rfl))];have e : execOp a.eval o = pure (.comm #[scase c (a.eval x) (.tuple #[])] true .send):=by
    unfold execOp; simp only [hop]; rw [h1]; rfl
   rw [e];simp only [stepG.apply,Sem.runT_eq,if_true,hke,GStep.after,Sem.run_pure,Sem.events_pure,seen_none];rfl
  exact C.send _ _ c Wg sp S (a.eval x) (.tuple #[]) B h2 h3 rfl rfl (fun w _ => hst w) h4 (by rw [hsv]; exact hN _ _ h5)
 ·rename_i cl hop;obtain ⟨hlv,x,f,fa,ca,h1,h2,h3,h4⟩:=h;have hst : ∀ w,stepG P main (G (on b a (.inRegion ops (i :: rest) :: k)) cs) w = .spawn (G (on b (a.put o.dst undef) (.inRegion ops rest :: k)) cs) (born P ⟨.fn (.func f) ca,fa ++ cl.args.map a.eval⟩) w #[]:=fun w => by
   rw [s_op ho hw (.inr (by rw [hop]; rfl)),<- hfin undef];have e : execOp a.eval o = (pure (.spawn ⟨.fn (.func f) ca,fa ++ cl.args.map a.eval⟩) : Sem Next):=by
    unfold execOp; simp only [hop]; unfold resolve; simp only [h1,h2]; rfl
   rw [e];simp only [stepG.apply,Sem.runT_eq,if_true,hke,GStep.after,Sem.run_pure,Sem.events_pure,seen_none];simp [born,G,on];exact seen_none _ _
  rcases h4 with ⟨c,Wg,Ss,sp,S,q1,q2,q3,q4,q5,q6,q7⟩ | ⟨c,Wg,Ss,q1,q2,q3,q4,q5,q6,q7,q8⟩
  ·exact (C.more hlv).goW _ _ _ _ c Wg Ss sp S q1 h3 rfl q2 q3 q4 q5 (fun w _ => hst w) rfl q6 (hN _ _ q7)
  ·exact (C.more hlv).goC _ _ _ _ c Wg Ss q1 h3 rfl q2 q3 q4 q5 q6 (fun w _ => hst w) rfl q7 (hN _ _ q8)
 ·rename_i t ch hop;obtain ⟨hlv,c,Wg,Ss,d,el,ti,z,h1,h2,h3,h4,h5,h6,h7,h8⟩:=h;have hst : ∀ w,stepG P main (G (on b a (.inRegion ops (i :: rest) :: k)) cs) w = .comm (G (on b a (.inRegion ops (i :: rest) :: k)) cs) #[rcase c z] true (.recv true) w #[]:=fun w => by
   rw [s_op ho hw (.inr (by rw [hop]; rfl))];have hu : (underlying t).run P w = .ok (.chan d el) w:=run_underlying h2 w;have hi : (typeInfo el).run P w = .ok ti w:=(by simp [typeInfo,h3]);have hz : (zeroValue el).run P w = .ok z w:=(by simp [zeroValue,hi,h4]);have hz2 : (zeroValue el).events P w #[] = #[]:=(by simp [zeroValue,hi,h4]);have e1 : (execOp a.eval o).run P w = .ok (.comm #[rcase c z] true (.recv true)) w:=by
    unfold execOp; simp only [hop]; rw [h1]; simp [hu,hz,rcase]
   have e2 : (execOp a.eval o).events P w #[] = #[]:=by
    unfold execOp; simp only [hop]; rw [h1]; simp [hu,hz,hz2]
   simp only [stepG.apply,Sem.runT_eq,if_true,hke,GStep.after,e1,e2,seen_none];rfl
  refine (C.more hlv).recv _ _ c Wg Ss z h5 h6 rfl rfl (fun w _ => hst w) (fun i sp S v Im Ow r1 r2 r3 r4 r5 => ?_) fun hS => ?_
  ·rw [hsv]; exact hN _ _ (h7 i sp S v Im Ow r1 r2 r3 r4 r5)
  ·rw [hsv]; exact hN _ _ (h8 hS)
 ·exact h.elim
theorem zjM {lv : Bool} {P : Program} {r : Option Nat} {ops : Array Oper} {Q : Ex -> Act -> View -> Prop} (l : List Nat) :
  ∀ (a : Act) (V : View),zie lv P r ops Q l a V -> ∀ (main : Bool) (J : View -> Goroutine -> Prop),Closed lv P main J -> ∀ (b : Frame) (k : List Item) (cs : List Frame),b.kind ≠ .early -> b.roundOf = r ->
   (∀ e a' V',Q e a' V' -> Lands J b k cs e a' V') -> J V (G (on b a (.inRegion ops l :: k)) cs):=by
 induction l with
 | nil => exact fun a V h main J C b k cs _ _ hL => C.idle rfl (fun _ => zgl) (hL _ _ _ h)
 | cons i rest ih =>
  intro a V h main J C b k cs hb hr hL;simp only [zie] at h;cases ho : ops[i]? with
  | none =>
   simp only [ho] at h;refine C.idle rfl (fun w => zgm (by simp [ho])) ?_;simp only [ho,Option.bind_none,Act.put];exact ih a V h main J C b k cs hb hr hL
  | some o =>
   simp only [ho] at h;by_cases hw : Region.wanted o (yielded ops a.tmps) = true
   ·simp only [hw,if_true] at h;rcases h with h | h
    rotate_left
    ·exact zqW C hb ho hw h fun a' V' h' => ih a' V' h' main J C b k cs hb hr hL
    obtain ⟨hdf,hop⟩:=h;have hdf' : b.roundOf = none \/ zk9 o.op = false:=hr ▸ hdf;have hfin : ∀ v,(on b a (.inRegion ops (i :: rest) :: k)).finish v = on b (a.put o.dst v) (.inRegion ops rest :: k):=by
     intro v; rw [zb6,ho]; rfl
    have hke : ((on b a (.inRegion ops (i :: rest) :: k)).kind == CallKind.early) = false:=(by simpa [on] using hb);refine C.step _ _ rfl fun w hsat => ?_;obtain ⟨es,w',V',h1,h2,h3⟩:=hop.runs hsat;rw [s_op ho hw hdf'];rcases h3 with ⟨nx,h3,hU⟩ | ⟨v,h3,hU⟩
    ·cases nx with
     | value v => exact ⟨_,w',seen P b.fn es,V',by rw [<- hfin v]; simp only [stepG.apply,Sem.runT_eq,if_true,h3,h2,hke,GStep.after]; rfl,h1.seen P _,ih _ _ hU main J C b k cs hb hr hL⟩
     | skip => exact ⟨_,w',seen P b.fn es,V',by rw [<- hfin undef]; simp only [stepG.apply,Sem.runT_eq,if_true,h3,h2,hke,GStep.after]; rfl,h1.seen P _,ih _ _ hU main J C b k cs hb hr hL⟩
     | «defer» d =>
      obtain ⟨hrn,hU⟩:=hU;have hf2 : ({ on b a (.inRegion ops (i :: rest) :: k) with defers:=d :: a.defers } : Frame).finish undef = on b ({ a with defers:=d :: a.defers }.put o.dst undef) (.inRegion ops rest :: k):=by
       have:=zb6 b { a with defers:=d :: a.defers } ops i rest k undef;rw [ho] at this; exact this
      exact ⟨_,w',seen P b.fn es,V',by
       rw [<- hf2];simp only [stepG.apply,Sem.runT_eq,if_true,h3,h2,hke,GStep.after];rfl,h1.seen P _,ih _ _ hU main J C b k cs hb hr hL⟩
     | enter f args =>
      refine ⟨G (Frame.enter P f args .normal) (on b a (.inRegion ops (i :: rest) :: k) :: cs),w',seen P b.fn es,V',by simp only [stepG.apply,Sem.runT_eq,if_true,h3,h2,hke,GStep.after]; rfl,h1.seen P _,?_⟩;refine Body.runs hU main J C _ cs (fun v V'' hR => ?_) (fun ch V'' hR => ?_)
      ·rw [hfin]; exact ih _ _ hR main J C b k cs hb hr hL
      ·exact hL _ _ _ hR _
     | round l f tmps assign body =>
      refine ⟨G (Frame.round l f tmps assign body .normal) (on b a (.inRegion ops (i :: rest) :: k) :: cs),w',seen P b.fn es,V',by simp only [stepG.apply,Sem.runT_eq,if_true,h3,h2,hke,GStep.after]; rfl,h1.seen P _,?_⟩;refine hU main J C _ cs (fun v V'' hR => ?_) (fun ch V'' hR => ?_)
      ·rw [hfin]; exact ih _ _ hR main J C b k cs hb hr hL
      ·exact hL _ _ _ hR _
     | _ => exact hU.elim
    ·refine ⟨G ((on b a (.inRegion ops (i :: rest) :: k)).raise [{ v,recovered:=false }]) cs,w',seen P b.fn es,V',by simp only [stepG.apply,Sem.runT_eq,if_true,h3,h2,hke,GStep.after]; rfl,h1.seen P _,hL _ _ _ hU _⟩
   ·have hw' : Region.wanted o (yielded ops a.tmps) = false:=(by simpa using hw);simp only [hw',if_false,Bool.false_eq_true] at h;refine C.idle rfl (fun w => zgm (by simp [ho,hw'])) ?_;simp only [ho,Option.bind_some];exact ih _ _ h main J C b k cs hb hr hL
theorem zda {lv : Bool} {P : Program} {r : Option Nat} {id : Nat} {ops : Array Oper} {Q : Ex -> Act -> View -> Prop} {a : Act} {V : View} (h : zie lv P r ops Q (List.range ops.size) a V) : WP lv P r (.region id ops false) Q a V :=
 fun main J C b k cs hb hr hL => C.idle rfl (fun _ => zh8) (zjM _ a V h main J C b k cs hb hr hL)
theorem zg3 {lv : Bool} {P : Program} {r : Option Nat} {id : Nat} {ops : Array Oper} {Q : Ex -> Act -> View -> Prop} {a : Act} {V : View} (h : ∀ t,zie lv P r ops Q (Region.schedule (P.follows .mixedOrders) ops t) a V) : WP lv P r (.region id ops true) Q a V :=
 fun main J C b k cs hb hr hL => C.step _ _ rfl fun w hw => ⟨_,_,#[],V,s_draw,.draw hw _,zjM _ a V (h _) main J C b k cs hb hr hL⟩
def Ends (P : Program) (fn : Func) (R : Out -> View -> Prop) : Ex -> Act -> View -> Prop
 | .normal,a,V | .ret,a,V => a.defers = [] /\ ∃ v,SemOk P V (results fn a.tmps) (fun x V' => x = v /\ V' = V) (fun _ _ => False) /\ R (.ret v) V
 | .panic ch,a,V => a.defers = [] /\ R (.panic ch) V
 | _,_,_ => False
theorem zfh {lv : Bool} {P : Program} {f : FuncId} {fn : Func} {c : Code} {args : Array Value} {kd : CallKind} {V : View} {R : Out -> View -> Prop} (hk : kd ≠ .early) (hf : P.funcs[f]? = some fn) (hb : fn.body = some c)
  (h : WP lv P none c (Ends P fn R) { tmps:=args ++ Array.replicate (fn.ntmps - args.size) undef,defers:=[] } V) : Body lv P f args kd V R:=by
 intro main J C cs hR;let b : Frame:={ (default : Frame) with fn:=f,kind:=kd,roundOf:=none };have henter : Frame.enter P f args kd = on b { tmps:=args ++ Array.replicate (fn.ntmps - args.size) undef,defers:=[] } [.code c]:=by
  simp [Frame.enter,on,hf,hb,b]
 rw [henter];refine h main J C b [] cs hk rfl fun e a' V' q => ?_;cases e with
 | normal =>
  obtain ⟨hd,v,hs,hr⟩:=q;exact C.idle rfl (fun w => zkd rfl) (hR _ _ _ hr ⟨rfl,hd,rfl,fn,hf,rfl,hs⟩)
 | ret =>
  obtain ⟨hd,v,hs,hr⟩:=q;intro k;exact C.idle rfl (fun w => zj9 rfl) (hR _ _ _ hr ⟨rfl,hd,rfl,fn,hf,rfl,hs⟩)
 | panic ch =>
  obtain ⟨hd,hr⟩:=q;intro todo;exact hR _ _ _ hr ⟨rfl,hd,rfl,fn,hf,rfl⟩
 | exit id => exact q.elim
 | goto l => exact q.elim
open Go.Conc
inductive Ht where
 | z
 | s (f : World -> Ht)
inductive HtLt : Ht -> Ht -> Prop where
 | mk (f : World -> Ht) (w : World) : HtLt (f w) (.s f)
theorem htLt_wf : WellFounded HtLt:=by
 refine ⟨fun h => ?_⟩;induction h with
 | z => exact ⟨_,fun y hy => by cases hy⟩
 | s f ih => exact ⟨_,fun y hy => by cases hy with | mk _ w => exact ih w⟩
inductive WkJ (P : Program) : Ht -> View -> Goroutine -> Prop where
 | step {f : World -> Ht} {V V₁ : View} {g : Goroutine} (G' : World -> Goroutine) (W' : World -> World) (E' : World -> Array Event) (V' : World -> View) (hs : g.status = .running) (hg : Ghost V V₁)
   (h1 : ∀ w,Sat V₁ w -> stepG P false g w = .go (G' w) (W' w) (E' w)) (h2 : ∀ w,Sat V₁ w -> StepOk V₁ w (V' w) (W' w) (E' w)) (h3 : ∀ w,Sat V₁ w -> WkJ P (f w) (V' w) (G' w)) : WkJ P (.s f) V g
 | send {h : Ht} {V V₁ : View} {g : Goroutine} (c Wg : Nat) (sp : Spec) (S : List Spec) (v z : Value) (B : Nat -> Bool) (hs : g.status = .running) (hg : Ghost V V₁) (hr : V₁.role = .work c Wg (sp :: S)) (hd : V₁.deaf = 0) (ho : g.offers = none)
   (h1 : ∀ w,Sat V₁ w -> stepG P false g w = .comm g #[scase c v z] true .send w #[]) (h2 : sp v V₁.imm (fun b => if B b then V₁.own b else none))
   (h3 : WkJ P h { V₁ with own:=fun b => if B b then none else V₁.own b,role:=.work c Wg S } (Conc.served g undef)) : WkJ P (.s fun _ => h) V g
 | done {V V₁ : View} {g : Goroutine} (c Wg : Nat) (hg : Ghost V V₁) (hr : V₁.role = .work c Wg []) (hd : V₁.deaf = 0) (h1 : zmR P Wg g) : WkJ P (.s fun _ => .z) V g
 | slip {h : Ht} {V V₁ : View} {g g' : Goroutine} (c Wg : Nat) (hs : g.status = .running) (hg : Ghost V V₁) (hr : V₁.role = .work c Wg []) (h1 : ∀ w st,Sat V₁ w -> WgAt P Wg w st 0 -> stepG P false g w = .go g' w #[]) (h3 : WkJ P h V₁ g') : WkJ P (.s fun _ => h) V g
theorem WkJ.running {P : Program} {h : Ht} {V : View} {g : Goroutine} (k : WkJ P h V g) : g.status = .running:=by
 cases k with
 | step _ _ _ _ hs => exact hs
 | send _ _ _ _ _ _ _ hs => exact hs
 | done _ _ _ _ _ h1 => exact h1.1
 | slip _ _ hs => exact hs
open Classical in
theorem zjP (P : Program) : Closed0 P false (fun V g => ∃ h,WkJ P h V g) where
 step V g hs h:=by
  have hc : ∀ w,∃ h' g' w' es V',Sat V w -> stepG P false g w = .go g' w' es /\ StepOk V w V' w' es /\ WkJ P h' V' g':=by
   intro w;by_cases hw : Sat V w
   ·obtain ⟨g',w',es,V',h1,h2,h',h3⟩:=h w hw;exact ⟨h',g',w',es,V',fun _ => ⟨h1,h2,h3⟩⟩
   ·exact ⟨.z,g,w,#[],V,fun x => absurd x hw⟩
  have hcs:=fun w => (hc w).choose_spec.choose_spec.choose_spec.choose_spec.choose_spec;exact ⟨.s fun w => (hc w).choose,.step (fun w => (hc w).choose_spec.choose) (fun w => (hc w).choose_spec.choose_spec.choose) (fun w => (hc w).choose_spec.choose_spec.choose_spec.choose)
   (fun w => (hc w).choose_spec.choose_spec.choose_spec.choose_spec.choose) hs (Ghost.refl V) (fun w hw => (hcs w hw).1) (fun w hw => (hcs w hw).2.1) (fun w hw => (hcs w hw).2.2)⟩
 ghost V V' g hg h:=by
  obtain ⟨h,hk⟩:=h;cases hk with
  | step a b c d e f x y z => exact ⟨_,.step a b c d e (hg.trans f) x y z⟩
  | send a b c d e f m n o p q r s t u => exact ⟨_,.send a b c d e f m n (hg.trans o) p q r s t u⟩
  | done a b o p q r => exact ⟨_,.done a b (hg.trans o) p q r⟩
  | slip a b f o p q r => exact ⟨_,.slip a b f (hg.trans o) p q r⟩
 send V g c Wg sp S v z B h1 h2 h3 h4 h5 h6 h7:=by
  obtain ⟨h,hk⟩:=h7;exact ⟨_,.send c Wg sp S v z B h3 (Ghost.refl V) h1 h2 h4 h5 h6 hk⟩
 done V g c Wg h1 h2 h3:=⟨_,.done c Wg (Ghost.refl V) h1 h2 h3⟩
 slip V g g' c Wg h1 h2 h3 h4:=by
  obtain ⟨h,hk⟩:=h4;exact ⟨_,.slip c Wg h2 (Ghost.refl V) h1 h3 hk⟩
structure Rank where
 a : Nat
 h : Ht
 n : Nat
def zmp : Rank -> Rank -> Prop:=fun x y => x.a < y.a \/ (x.a = y.a /\ (HtLt x.h y.h \/ (x.h = y.h /\ x.n < y.n)))
theorem rankLt_wf : WellFounded zmp:=by
 refine ⟨fun ⟨a,h,n⟩ => ?_⟩;induction a using Nat.strongRecOn generalizing h n with
 | _ a iha =>
  induction h using htLt_wf.induction generalizing n with
  | _ h ihh =>
   induction n using Nat.strongRecOn with
   | _ n ihn =>
    refine ⟨_,fun ⟨a',h',n'⟩ hlt => ?_⟩;rcases hlt with x | ⟨rfl,x | ⟨rfl,x⟩⟩
    ·exact iha a' x h' n'
    ·exact ihh h' x n'
    ·exact ihn n' x
def znJ (N : Nat) (f' f : Nat -> Rank) : Prop:=∃ i,i < N /\ zmp (f' i) (f i) /\ ∀ j,j ≠ i -> f' j = f j
theorem zj8 (N : Nat) : WellFounded (znJ N):=by
 refine ⟨?_⟩;induction N with
 | zero => intro f; exact ⟨_,fun f' ⟨i,hi,_⟩ => by omega⟩
 | succ N ih =>
  have key : ∀ x : Rank,∀ f,f N = x -> Acc (znJ (N + 1)) f:=by
   intro x;induction x using rankLt_wf.induction with
   | _ x ihx =>
    intro f hf;have inner : ∀ f,Acc (znJ N) f -> f N = x -> Acc (znJ (N + 1)) f:=by
     intro f ha;induction ha with
     | intro f _ ihf =>
      intro hf;refine ⟨_,fun f' ⟨i,hi,hlt,ho⟩ => ?_⟩;by_cases hiN : i = N
      ·subst hiN; exact ihx (f' i) (hf ▸ hlt) f' rfl
      ·exact ihf f' ⟨i,by omega,hlt,ho⟩ ((ho N (Ne.symm hiN)).trans hf)
    exact inner f (ih f) hf
  exact fun f => key (f N) f rfl
def MuLt (N : Nat) (x y : (Nat -> Rank) × Nat) : Prop:=znJ N x.1 y.1 \/ (x.1 = y.1 /\ x.2 < y.2)
theorem zkt (N : Nat) : WellFounded (MuLt N):=by
 refine ⟨fun ⟨f,n⟩ => ?_⟩;induction f using (zj8 N).induction generalizing n with
 | _ f ihf =>
  induction n using Nat.strongRecOn with
  | _ n ihn =>
   refine ⟨_,fun ⟨f',n'⟩ hlt => ?_⟩;rcases hlt with x | ⟨x,y⟩
   ·exact ihf f' x n'
   ·have x' : f' = f:=x;subst x'; exact ihn n' y
open Go.Conc Go.ConcN
structure TI (t : Trace) (B N : Nat) (rd wr : Nat -> Loc -> Prop) (Sh : Loc -> Prop) (act : Nat -> Prop) (ic : Nat) : Prop where
 nr : ∀ said,¬ Race said t
 low : ∀ op ∈ t,op.act.low B
 gs : ∀ op ∈ t,op.g < N
 norel : ∀ op ∈ t,∀ a,op.act ≠ .mark (.release a)
 kr : ∀ i,i < N -> ∀ l,rd i l -> PermW t i l
 kw : ∀ i,i < N -> ∀ l,wr i l -> Perm t i l
 sp : ∀ idx a,touchAt t idx = some a -> Sh a.loc -> (a.kind = .plain -> ∀ i,act i -> Knows t i idx) /\ (a.kind = .said -> Knows t ic idx)
def Fit (B : Nat) (rd wr : Nat -> Loc -> Prop) (Sh : Loc -> Prop) (act : Nat -> Prop) (ic i : Nat) (x : Touch) : Prop :=
 (Sh x.loc /\ x.kind = .atomic /\ act i) \/ (Sh x.loc /\ x.kind = .said /\ i = ic /\ act i) \/ (¬ Sh x.loc /\ (wr i x.loc \/ (rd i x.loc /\ x.write = false) \/ ¬ x.loc.low B))
theorem zkw {B : Nat} {m : MemAct} (h : m.low B) {x : Touch} (hx : m.touch? = some x) : x.loc.low B:=by
 cases m with
 | access e => simp only [MemAct.touch?,Option.some.injEq] at hx; subst hx; exact h
 | mark m => cases m <;> simp [MemAct.touch?] at hx <;> (subst hx; exact h)
 | _ => simp [MemAct.touch?] at hx
theorem zcY {t : Trace} {B : Nat} (h : ∀ op ∈ t,op.act.low B) {idx : Nat} {a : Touch} (ha : touchAt t idx = some a) : a.loc.low B:=by
 obtain ⟨x,hx,hxa⟩:=touch_of ha;exact zkw (h x (mem_of_getElem? hx)) hxa
theorem zbu {t u : Trace} {idx : Nat} {a : Touch} (h : touchAt (t ++ u) idx = some a) : touchAt t idx = some a \/ (t.size <= idx /\ ∃ op ∈ u,(t ++ u)[idx]? = some op /\ op.act.touch? = some a):=by
 obtain ⟨x,hx,hxa⟩:=touch_of h;rcases getElem?_append_cases hx with ⟨_,hx'⟩ | ⟨hi,hu⟩
 ·exact .inl (by rw [touchAt_of hx']; exact hxa)
 ·exact .inr ⟨hi,x,hu,hx,hxa⟩
theorem TI.app {t : Trace} {B N B' : Nat} {rd wr rd' wr' : Nat -> Loc -> Prop} {Sh : Loc -> Prop} {act : Nat -> Prop} {ic : Nat} (h : TI t B N rd wr Sh act ic) {u : Trace} {i : Nat} (hi : i < N) (hu : ∀ op ∈ u,op.g = i)
  (hf : ∀ op ∈ u,∀ x,op.act.touch? = some x -> Fit B rd wr Sh act ic i x) (hl : ∀ op ∈ u,op.act.low B') (hB : B <= B') (hn : ∀ op ∈ u,∀ a,op.act ≠ .mark (.release a))
  (hrd : ∀ j l,j ≠ i -> rd' j l -> rd j l) (hwr : ∀ j l,j ≠ i -> wr' j l -> wr j l) (hri : ∀ l,rd' i l -> l.low B -> rd i l \/ wr i l) (hwi : ∀ l,wr' i l -> l.low B -> wr i l)
  (ex : ∀ l j,j ≠ i -> (wr i l -> ¬ rd j l /\ ¬ wr j l) /\ (rd i l -> ¬ wr j l)) (shx : ∀ l j,Sh l -> ¬ rd j l /\ ¬ wr j l) (lowj : ∀ j l,rd j l \/ wr j l -> l.low B) :
  TI (t ++ u) B' N rd' wr' Sh act ic where
 nr said:=by
  refine noRace_append (h.nr said) hu fun idx a ha op hop b hb hc => ?_;have hc':=hc;obtain ⟨hl1,_,hl3,hl4⟩:=hc;rcases hf op hop b hb with ⟨h1,h2,h3⟩ | ⟨h1,h2,h3,h4⟩ | ⟨_,h2 | ⟨h2,h3⟩ | h2⟩
  ·rw [h2] at hl4;rcases hl4 with x | x | ⟨_,_,x⟩
   ·exact (h.sp idx a ha (hl1 ▸ h1)).1 x i h3
   ·cases x
   ·cases x
  ·rw [h2] at hl4;rcases hl4 with x | x | ⟨_,x,_⟩
   ·exact (h.sp idx a ha (hl1 ▸ h1)).1 x i h4
   ·cases x
   ·rw [h3]; exact (h.sp idx a ha (hl1 ▸ h1)).2 x
  ·exact h.kw i hi _ h2 idx a ha hl1
  ·exact h.kr i hi _ h2 idx a ha hl1 (by rw [h3] at hl3; simpa using hl3)
  ·exact absurd (hl1 ▸ zcY h.low ha) h2
 low op hop:=(Array.mem_append.1 hop).elim (fun x => MemAct.low_mono hB (h.low op x)) (hl op)
 gs op hop:=(Array.mem_append.1 hop).elim (h.gs op) (fun x => by rw [hu op x]; exact hi)
 norel op hop:=(Array.mem_append.1 hop).elim (h.norel op) (hn op)
 kr j hj l hrl:=by
  by_cases hji : j = i
  ·subst hji;intro idx a ha hal hw;rcases zbu ha with ha' | ⟨_,op,hop,hidx,hx⟩
   ·have hlow : l.low B:=hal ▸ zcY h.low ha';rcases hri l hrl hlow with x | x
    ·exact (h.kr j hj l x idx a ha' hal hw).app u
    ·exact (h.kw j hj l x idx a ha' hal).app u
   ·have:=knows_own hidx; rwa [hu op hop] at this
  ·have hrj:=hrd j l hji hrl;refine (h.kr j hj l hrj).app fun op hop b hb hbl hw => ?_;exfalso;rcases hf op hop b hb with ⟨h1,_⟩ | ⟨h1,_⟩ | ⟨_,h2 | ⟨_,h3⟩ | h2⟩
   ·exact (shx l j (hbl ▸ h1)).1 hrj
   ·exact (shx l j (hbl ▸ h1)).1 hrj
   ·exact ((ex l j hji).1 (hbl ▸ h2)).1 hrj
   ·rw [h3] at hw; cases hw
   ·exact h2 (hbl ▸ lowj j l (.inl hrj))
 kw j hj l hwl:=by
  by_cases hji : j = i
  ·subst hji;intro idx a ha hal;rcases zbu ha with ha' | ⟨_,op,hop,hidx,hx⟩
   ·exact (h.kw j hj l (hwi l hwl (hal ▸ zcY h.low ha')) idx a ha' hal).app u
   ·have:=knows_own hidx; rwa [hu op hop] at this
  ·have hwj:=hwr j l hji hwl;refine (h.kw j hj l hwj).app fun op hop b hb hbl => ?_;exfalso;rcases hf op hop b hb with ⟨h1,_⟩ | ⟨h1,_⟩ | ⟨_,h2 | ⟨h2,_⟩ | h2⟩
   ·exact (shx l j (hbl ▸ h1)).2 hwj
   ·exact (shx l j (hbl ▸ h1)).2 hwj
   ·exact ((ex l j hji).1 (hbl ▸ h2)).2 hwj
   ·exact (ex l j hji).2 (hbl ▸ h2) hwj
   ·exact h2 (hbl ▸ lowj j l (.inr hwj))
 sp idx a ha hsh:=by
  rcases zbu ha with ha' | ⟨_,op,hop,hidx,hx⟩
  ·exact ⟨fun hp j hj => ((h.sp idx a ha' hsh).1 hp j hj).app u,fun hp => ((h.sp idx a ha' hsh).2 hp).app u⟩
  ·rcases hf op hop a hx with ⟨_,h2,_⟩ | ⟨_,h2,h3,_⟩ | ⟨h1,_⟩
   ·exact ⟨fun hp => absurd (h2.symm.trans hp) (by simp),fun hp => absurd (h2.symm.trans hp) (by simp)⟩
   ·refine ⟨fun hp => absurd (h2.symm.trans hp) (by simp),fun _ => ?_⟩;have:=knows_own hidx; rw [hu op hop,h3] at this; exact this
   ·exact absurd hsh h1
theorem TI.weaken {t : Trace} {B N B' : Nat} {rd wr rd' wr' : Nat -> Loc -> Prop} {Sh Sh' : Loc -> Prop} {act act' : Nat -> Prop} {ic ic' : Nat} (h : TI t B N rd wr Sh act ic) (hB : B <= B')
  (hrd : ∀ i l,i < N -> rd' i l -> rd i l \/ wr i l) (hwr : ∀ i l,i < N -> wr' i l -> wr i l)
  (hsp : ∀ idx a,touchAt t idx = some a -> Sh' a.loc -> (a.kind = .plain -> ∀ i,act' i -> Knows t i idx) /\ (a.kind = .said -> Knows t ic' idx)) : TI t B' N rd' wr' Sh' act' ic' :=
 ⟨h.nr,fun op hop => MemAct.low_mono hB (h.low op hop),h.gs,h.norel,fun i hi l x => (hrd i l hi x).elim (h.kr i hi l) (fun y => PermW.of (h.kw i hi l y)),fun i hi l x => h.kw i hi l (hwr i l hi x),hsp⟩
theorem zhw {t u : Trace} (h : ∀ said,¬ Race said t) (hn : ∀ op ∈ u,op.act.touch? = none) : ∀ said,¬ Race said (t ++ u):=by
 intro said
 rintro ⟨i,j,hij,⟨a,b,ha,hb,hc⟩,n1,n2⟩
 have old : ∀ {k : Nat} {x : Touch},((t ++ u).act? k).bind (·.touch?) = some x -> k < t.size /\ (t.act? k).bind (·.touch?) = some x:=by
  intro k x hx;obtain ⟨y,hy,hyx⟩:=touch_of hx;rcases getElem?_append_cases hy with ⟨hk,hy'⟩ | ⟨_,hyu⟩
  ·exact ⟨hk,by simp [Trace.act?,hy',hyx]⟩
  ·rw [hn y hyu] at hyx; cases hyx
 exact h said ⟨i,j,hij,⟨a,b,(old ha).2,(old hb).2,hc⟩,fun e => n1 (hb_app u e),fun e => n2 (hb_app u e)⟩
theorem zbn {t u : Trace} (hn : ∀ op ∈ u,op.act.touch? = none) {idx : Nat} {a : Touch} (h : touchAt (t ++ u) idx = some a) : touchAt t idx = some a:=by
 rcases zbu h with h | ⟨_,op,hop,_,hx⟩
 ·exact h
 ·rw [hn op hop] at hx; cases hx
theorem TI.mute {t : Trace} {B N N' : Nat} {rd wr rd' wr' : Nat -> Loc -> Prop} {Sh : Loc -> Prop} {act act' : Nat -> Prop} {ic ic' : Nat} (h : TI t B N rd wr Sh act ic) {u : Trace} (hn : ∀ op ∈ u,op.act.touch? = none) (hl : ∀ op ∈ u,op.act.low B) (hg : ∀ op ∈ u,op.g < N') (hN : N <= N')
  (hnr : ∀ op ∈ u,∀ a,op.act ≠ .mark (.release a))
  (kr : ∀ i,i < N' -> ∀ l,rd' i l -> ∀ idx a,touchAt t idx = some a -> a.loc = l -> a.write = true -> Knows (t ++ u) i idx) (kw : ∀ i,i < N' -> ∀ l,wr' i l -> ∀ idx a,touchAt t idx = some a -> a.loc = l -> Knows (t ++ u) i idx)
  (sp : ∀ idx a,touchAt t idx = some a -> Sh a.loc -> (a.kind = .plain -> ∀ i,act' i -> Knows (t ++ u) i idx) /\ (a.kind = .said -> Knows (t ++ u) ic' idx)) : TI (t ++ u) B N' rd' wr' Sh act' ic' :=
 ⟨zhw h.nr hn,fun op hop => (Array.mem_append.1 hop).elim (h.low op) (hl op),fun op hop => (Array.mem_append.1 hop).elim (fun x => Nat.lt_of_lt_of_le (h.gs op x) hN) (hg op),fun op hop => (Array.mem_append.1 hop).elim (h.norel op) (hnr op),
  fun i hi l x idx a ha => kr i hi l x idx a (zbn hn ha),fun i hi l x idx a ha => kw i hi l x idx a (zbn hn ha),fun idx a ha => sp idx a (zbn hn ha)⟩
theorem zbO {t u : Trace} {k : Nat} {x : MemOp} (h : u[k]? = some x) : (t ++ u)[t.size + k]? = some x:=by
 rw [Array.getElem?_append_right (by omega)]; simpa using h
theorem zb8 {t u : Trace} {k g : Nat} {x : MemOp} (h : u[k]? = some x) (hx : x.g = g) (hd : (t ++ u).deaf g (t.size + k) = 0) : (t ++ u).heard (t.size + k):=⟨g,by simp [Trace.g?,zbO h,hx],hd⟩
def zmE (m : MemAct) : Prop:=m ≠ .mark .disable /\ m ≠ .mark .enable
theorem zbY {g d : Nat} {y : MemOp} (h : zmE y.act) : deafStep g d y = d:=by
 unfold deafStep;obtain ⟨_,_,_,act⟩:=y;cases act with
 | mark m => cases m <;> first | rfl | exact absurd rfl h.1 | exact absurd rfl h.2
 | _ => rfl
theorem zbc {t u : Trace} {g : Nat} (hs : ∀ op ∈ u,zmE op.act) : ∀ {k : Nat},k <= u.size -> (t ++ u).deaf g (t.size + k) = Deaf t g:=by
 intro k;induction k with
 | zero => intro _; exact deaf_old (Nat.le_refl _)
 | succ k ih =>
  intro hk;have hlt : k < u.size:=by omega
  have hy : u[k]? = some u[k]:=Array.getElem?_eq_getElem hlt;have e:=deaf_succ (g:=g) (zbO (t:=t) hy);rw [show t.size + (k + 1) = t.size + k + 1 from rfl,e,ih (by omega),zbY (hs _ (Array.getElem_mem hlt))]
theorem zdR {t u : Trace} {g : Nat} (hs : ∀ op ∈ u,zmE op.act) : Deaf (t ++ u) g = Deaf t g:=by
 have:=zbc (t:=t) (g:=g) hs (Nat.le_refl u.size);unfold Deaf;rw [Array.size_append];exact this
theorem zi8 {t u : Trace} {k c s : Nat} {x0 x1 x2 x3 : MemOp} (hu : u = #[x0,x1,x2,x3]) (h0 : x0.g = k /\ x0.act = .send c s) (h1 : zmE x1.act) (h2 : zmE x2.act) (h3 : x3.g = 0 /\ x3.act = .recvDone c s) (dk : Deaf t k = 0) (d0 : Deaf t 0 = 0) {idx : Nat} (h : Knows t k idx) : Knows (t ++ u) 0 idx:=by
 have hs : ∀ op ∈ u,zmE op.act:=by
  subst hu;intro op hop;simp only [List.mem_toArray,List.mem_cons,List.not_mem_nil,or_false] at hop;rcases hop with rfl | rfl | rfl | rfl
  ·rw [h0.2]; exact ⟨by simp,by simp⟩
  ·exact h1
  ·exact h2
  ·rw [h3.2]; exact ⟨by simp,by simp⟩
 have e0 : u[0]? = some x0:=by subst hu; rfl
 have e3 : u[3]? = some x3:=by subst hu; rfl
 have hsz : u.size = 4:=by subst hu; rfl
 have g0:=zbO (t:=t) e0;have g3:=zbO (t:=t) e3;have hh0 : (t ++ u).heard (t.size + 0):=zb8 e0 h0.1 (by rw [zbc hs (by omega)]; exact dk);have hh3 : (t ++ u).heard (t.size + 3):=zb8 e3 h3.1 (by rw [zbc hs (by omega)]; exact d0);have hb : HappensBefore (t ++ u) idx (t.size + 0):=h.hb_new (by omega) g0 h0.1;exact ⟨_,x3,g3,h3.1,.inr (hb.trans (.single (.inr ⟨.handOver (c:=c) (k:=s) (by rw [act?_of g0,h0.2]) (by rw [act?_of g3,h3.2]),hh0,hh3⟩)))⟩
theorem zfZ {t : Trace} {a : Addr} {r q i : Nat} {y : MemOp} (hr : t.act? r = some (.mark (.releaseMerge a))) (hh : t.heard r) (hn : ∀ op ∈ t,∀ a,op.act ≠ .mark (.release a)) (hy : y.g = q /\ y.act = .mark (.acquire a)) (hd : Deaf t q = 0) (hb : Before t i r) : Knows (t ++ #[y]) q i:=by
 have e : (#[y] : Trace)[0]? = some y:=rfl;have g:=zbO (t:=t) e;have hrl:=lt_of_act? hr;have hst : ∀ op ∈ (#[y] : Trace),zmE op.act:=by
  intro op hop;simp only [List.mem_toArray,List.mem_cons,List.not_mem_nil,or_false] at hop;subst hop;rw [hy.2]; exact ⟨by simp,by simp⟩
 have hhy : (t ++ #[y]).heard (t.size + 0):=zb8 e hy.1 (by rw [zbc hst (by simp)]; exact hd);refine ⟨_,y,g,hy.1,.inr ((hb.app #[y]).hb (.single (.inr ⟨.marked (a:=a) (by omega) (.inr (by rw [act?_old hrl]; exact hr)) (by rw [act?_of g,hy.2]) (fun k hk1 hk2 e' => ?_),(heard_old hrl).2 hh,hhy⟩)))⟩;obtain ⟨op,ho,hoa⟩:=Option.map_eq_some_iff.1 e';rcases getElem?_append_cases ho with ⟨_,ho'⟩ | ⟨hk,_⟩
 ·exact hn op (mem_of_getElem? ho') a hoa
 ·omega
theorem zgT {t : Trace} {c p q i : Nat} {y : MemOp} (hp : t.act? p = some (.close c)) (hh : t.heard p) (hy : y.g = q /\ y.act = .recvClosed c) (hd : Deaf t q = 0) (hb : Before t i p) : Knows (t ++ #[y]) q i:=by
 have e : (#[y] : Trace)[0]? = some y:=rfl;have g:=zbO (t:=t) e;have hpl:=lt_of_act? hp;have hst : ∀ op ∈ (#[y] : Trace),zmE op.act:=by
  intro op hop;simp only [List.mem_toArray,List.mem_cons,List.not_mem_nil,or_false] at hop;subst hop;rw [hy.2]; exact ⟨by simp,by simp⟩
 have hhy : (t ++ #[y]).heard (t.size + 0):=zb8 e hy.1 (by rw [zbc hst (by simp)]; exact hd);exact ⟨_,y,g,hy.1,.inr ((hb.app #[y]).hb (.single (.inr ⟨.closed (c:=c) (by rw [act?_old hpl]; exact hp) (by rw [act?_of g,hy.2]),(heard_old hpl).2 hh,hhy⟩)))⟩
open Go.Conc Go.ConcN
def Disj (U V : View) : Prop:=∀ b,U.own b ≠ none -> V.own b = none /\ ∀ o,V.imm b o ≠ none -> U.imm b o ≠ none
def RdV (V : View) : Loc -> Prop
 | .cell a => V.own a.block ≠ none \/ V.imm a.block a.off ≠ none
 | .obj r => V.own r ≠ none
 | _ => False
def WrV (V : View) : Loc -> Prop
 | .cell a => V.own a.block ≠ none /\ V.imm a.block a.off = none
 | .obj r => V.own r ≠ none
 | _ => False
theorem WrV.rd {V : View} : ∀ {l : Loc},WrV V l -> RdV V l
 | .cell _,h => .inl h.1
 | .obj _,h => h
theorem StepOk.others {V V' U : View} {w w' : World} {es : Array Event} (s : StepOk V w V' w' es) (hV : Sat V w) (h : Sat U w) (d : Disj V U) : Sat U w':=by
 refine ⟨fun b o v e => ?_,fun b x e => ?_⟩
 ·have hc:=h.imm b o v e;have hb:=h.imm_lt e;cases ho : V.own b with
  | none =>
   have:=s.frame b hb ho;simp only [World.cell?,this] at hc ⊢;exact hc
  | some x =>
   have hp:=(d b (by rw [ho]; simp)).2 o (by rw [e]; simp);cases hi : V.imm b o with
   | none => exact absurd hi hp
   | some v' =>
    have e1:=hV.imm b o v' hi;rw [hc] at e1;cases e1;exact s.sat.imm b o v (s.imm b o v hi)
 ·have hb:=h.lt e;have ho : V.own b = none:=by
   cases ho : V.own b with
   | none => rfl
   | some y => rw [(d b (by rw [ho]; simp)).1] at e; cases e
  rw [s.frame b hb ho];exact h.own b x e
theorem StepOk.disj {V V' U : View} {w w' : World} {es : Array Event} (s : StepOk V w V' w' es) (h : Sat U w) (d : Disj V U) (d' : Disj U V) : Disj V' U /\ Disj U V':=by
 have key : ∀ b,V'.own b ≠ none -> V.own b ≠ none \/ w.heap.size <= b:=by
  intro b hb;by_cases hlt : b < w.heap.size
  ·exact .inl fun e => hb (s.own b hlt e)
  ·exact .inr (by omega)
 refine ⟨fun b hb => ?_,fun b hb => ?_⟩
 ·rcases key b hb with x | x
  ·refine ⟨(d b x).1,fun o ho => ?_⟩;have:=(d b x).2 o ho;cases e : V.imm b o with
   | none => exact absurd e this
   | some v => rw [s.imm b o v e]; simp
  ·have:=h.fresh x;exact ⟨this.1,fun o ho => absurd (this.2 o) ho⟩
 ·have hlt : b < w.heap.size:=by
   cases e : U.own b with
   | none => exact absurd e hb
   | some x => exact h.lt e
  refine ⟨?_,fun o ho => ?_⟩
  ·exact s.own b hlt (d' b hb).1
  ·cases e : V'.imm b o with
   | none => exact absurd e ho
   | some v =>
    rcases s.immNew b o v e with x | x | x
    ·exact (d' b hb).2 o (by rw [x]; simp)
    ·exact absurd (d' b hb).1 x
    ·omega
theorem Ghost.disj {V V' U : View} (g : Ghost V V') (d : Disj V U) (d' : Disj U V) : Disj V' U /\ Disj U V':=by
 refine ⟨fun b hb => ?_,fun b hb => ⟨g.own b (d' b hb).1,fun o ho => ?_⟩⟩
 ·have x : V.own b ≠ none:=fun e => hb (g.own b e);refine ⟨(d b x).1,fun o ho => ?_⟩;cases e : V.imm b o with
  | none => exact absurd e ((d b x).2 o ho)
  | some v => rw [g.imm b o v e]; simp
 ·cases e : V'.imm b o with
  | none => exact absurd e ho
  | some v =>
   rcases g.immNew b o v e with x | x
   ·exact (d' b hb).2 o (by rw [x]; simp)
   ·exact absurd (d' b hb).1 x
theorem Ghost.rd {V V' : View} (g : Ghost V V') : ∀ {l : Loc},RdV V' l -> RdV V l
 | .cell a,h => by
  rcases h with h | h
  ·exact .inl fun e => h (g.own _ e)
  ·cases e : V'.imm a.block a.off with
   | none => exact absurd e h
   | some v => exact (g.immNew _ _ _ e).elim (fun x => .inr (by rw [x]; simp)) .inl
 | .obj _,h => fun e => h (g.own _ e)
theorem Ghost.wr {V V' : View} (g : Ghost V V') : ∀ {l : Loc},WrV V' l -> WrV V l
 | .cell a,h => ⟨fun e => h.1 (g.own _ e),by
  cases e : V.imm a.block a.off with
  | none => rfl
  | some v => exact absurd (g.imm _ _ _ e) (by rw [h.2]; simp)⟩
 | .obj _,h => fun e => h (g.own _ e)
theorem RdV.low {V : View} {w : World} (h : Sat V w) : ∀ {l : Loc},RdV V l -> l.low w.heap.size
 | .cell a,x => by
  rcases x with x | x
  ·cases e : V.own a.block with
   | none => exact absurd e x
   | some y => exact h.lt e
  ·cases e : V.imm a.block a.off with
   | none => exact absurd e x
   | some y => exact h.imm_lt e
 | .obj r,x => by
  cases e : V.own r with
  | none => exact absurd e x
  | some y => exact h.lt e
theorem StepOk.rd {V V' : View} {w w' : World} {es : Array Event} (s : StepOk V w V' w' es) : ∀ {l : Loc},RdV V' l -> l.low w.heap.size -> RdV V l
 | .cell a,h,hl => by
  have hl' : a.block < w.heap.size:=hl;rcases h with h | h
  ·exact .inl fun e => h (s.own _ hl' e)
  ·cases e : V'.imm a.block a.off with
   | none => exact absurd e h
   | some v =>
    rcases s.immNew _ _ _ e with x | x | x
    ·exact .inr (by rw [x]; simp)
    ·exact .inl x
    ·omega
 | .obj r,h,hl => fun e => h (s.own _ hl e)
theorem StepOk.wr {V V' : View} {w w' : World} {es : Array Event} (s : StepOk V w V' w' es) : ∀ {l : Loc},WrV V' l -> l.low w.heap.size -> WrV V l
 | .cell a,h,hl => ⟨fun e => h.1 (s.own _ hl e),by
  cases e : V.imm a.block a.off with
  | none => rfl
  | some v => exact absurd (s.imm _ _ _ e) (by rw [h.2]; simp)⟩
 | .obj r,h,hl => fun e => h (s.own _ hl e)
theorem zkS {U V : View} (d : Disj U V) (d' : Disj V U) (l : Loc) : (WrV U l -> ¬ RdV V l /\ ¬ WrV V l) /\ (RdV U l -> ¬ WrV V l):=by
 cases l with
 | cell a =>
  refine ⟨fun h => ?_,fun h => ?_⟩
  ·have:=d _ h.1;refine ⟨fun x => ?_,fun x => x.1 this.1⟩;rcases x with x | x
   ·exact x this.1
   ·exact this.2 _ x h.2
  ·intro x;have:=d' _ x.1;rcases h with h | h
   ·exact h this.1
   ·exact this.2 _ h x.2
 | obj r => exact ⟨fun h => ⟨fun x => x (d r h).1,fun x => x (d r h).1⟩,fun h x => h (d' r x).1⟩
 | _ => exact ⟨fun h => h.elim,fun h => h.elim⟩
def ShP (c Wg : Nat) : Loc -> Prop
 | .cell a => a.block = Wg
 | .obj r => r = c
 | _ => False
structure Core (VV : Nat -> View) (N : Nat) (w : World) (t : Trace) (Sh : Loc -> Prop) (act : Nat -> Prop) (ic n0 : Nat) (W0 : World) : Prop where
 sat : ∀ i,i < N -> Sat (VV i) w
 dis : ∀ i j,i < N -> j < N -> i ≠ j -> Disj (VV i) (VV j)
 ti : TI t w.heap.size N (fun i l => i < N /\ RdV (VV i) l /\ ¬ Sh l) (fun i l => i < N /\ WrV (VV i) l /\ ¬ Sh l) Sh act ic
 tape : w.tape = W0.tape
 os : w.os = W0.os
 out : w.output = W0.output
 old : ∀ b,b < n0 -> w.heap[b]? = W0.heap[b]?
 oldOwn : ∀ i,i < N -> ∀ b,b < n0 -> (VV i).own b = none
 n0 : n0 <= w.heap.size
def upd {α : Type} (f : Nat -> α) (i : Nat) (x : α) : Nat -> α:=fun j => if j = i then x else f j
theorem zar {α : Type} (f : Nat -> α) (i : Nat) (x : α) : upd f i x i = x:=by simp [upd]
theorem zal {α : Type} (f : Nat -> α) {i j : Nat} (x : α) (h : j ≠ i) : upd f i x j = f j:=by simp [upd,h]
open Go.Conc Go.ConcN
section
variable {VV : Nat -> View} {N : Nat} {w w' : World} {t : Trace} {Sh : Loc -> Prop} {act : Nat -> Prop} {ic n0 i : Nat} {W0 : World}
theorem Core.draw (h : Core VV N w t Sh act ic n0 W0) (d : Nat) : Core VV N (w.at d) t Sh act ic n0 W0 :=
 ⟨fun i hi => ⟨(h.sat i hi).imm,(h.sat i hi).own⟩,h.dis,h.ti,h.tape,h.os,h.out,h.old,h.oldOwn,h.n0⟩
theorem zfP {V : View} {B : Nat} {e : Event} (he : EvOk V B e) {x : Touch} (hx : (MemAct.ofEvent e).touch? = some x) : (WrV V x.loc \/ (RdV V x.loc /\ x.write = false) \/ ¬ x.loc.low B) /\
  (∀ c,V.role.chan = some c -> x.loc ≠ .obj c) /\ (∀ Wg a,V.role.group = some Wg -> x.loc = .cell a -> a.block = Wg -> x.kind ≠ .plain):=by
 obtain ⟨l,wr,s⟩:=e;cases l with
 | cell a =>
  simp only [ofEvent_cell0,MemAct.touch?,Option.some.injEq] at hx;subst hx;cases wr with
  | false =>
   refine ⟨?_,fun c _ => by simp,fun Wg a' hr ha hb => ?_⟩
   ·rcases he.1 with h | h | h
    ·exact .inr (.inr (by show ¬ a.block < B; omega))
    ·exact .inr (.inl ⟨.inl h,rfl⟩)
    ·exact .inr (.inl ⟨.inr h,rfl⟩)
   ·cases ha;rcases he.2 with h | h
    ·subst h; simp
    ·subst hb; exact absurd hr h
  | true =>
   refine ⟨?_,fun c _ => by simp,fun Wg a' hr ha hb => ?_⟩
   ·rcases he.1 with h | h
    ·exact .inr (.inr (by show ¬ a.block < B; omega))
    ·exact .inl h
   ·cases ha;rcases he.2 with h | h
    ·subst h; simp
    ·subst hb; exact absurd hr h
 | obj r =>
  obtain ⟨⟨rfl,h2⟩,h3⟩:=he;have e1 : MemAct.ofEvent ⟨.obj r,wr,false⟩ = .access ⟨.obj r,wr,false⟩:=by cases wr <;> rfl
  rw [e1] at hx;simp only [MemAct.touch?,Option.some.injEq] at hx;subst hx;refine ⟨?_,fun c hc e => ?_,fun Wg a _ ha => by cases ha⟩
  ·rcases h2 with h | h
   ·exact .inr (.inr (by show ¬ r < B; omega))
   ·exact .inl h
  ·cases e; exact h3 hc
 | mark m =>
  have e1 : MemAct.ofEvent ⟨.mark m,wr,s⟩ = .mark m:=by cases wr <;> cases s <;> rfl
  rw [e1] at hx;cases m <;> simp only [MemAct.touch?,Option.some.injEq,reduceCtorEq] at hx
  all_goals
   subst hx;refine ⟨?_,fun c _ => by simp,fun Wg a' _ _ _ => by simp⟩;have he' : MayWrite V B _:=he;rcases he' with h | h
   ·exact .inr (.inr (by simp only [Loc.low]; omega))
   ·exact .inl h
 | _ => exact he.elim
theorem Core.excl (h : Core VV N w t Sh act ic n0 W0) (l : Loc) {i j : Nat} (hi : i < N) (hj : j ≠ i) :
  ((i < N /\ WrV (VV i) l /\ ¬ Sh l) -> ¬ (j < N /\ RdV (VV j) l /\ ¬ Sh l) /\ ¬ (j < N /\ WrV (VV j) l /\ ¬ Sh l)) /\ ((i < N /\ RdV (VV i) l /\ ¬ Sh l) -> ¬ (j < N /\ WrV (VV j) l /\ ¬ Sh l)):=by
 by_cases hjN : j < N
 ·have:=zkS (h.dis i j hi hjN (Ne.symm hj)) (h.dis j i hjN hi hj) l;exact ⟨fun ⟨_,x,_⟩ => ⟨fun ⟨_,y,_⟩ => (this.1 x).1 y,fun ⟨_,y,_⟩ => (this.1 x).2 y⟩,fun ⟨_,x,_⟩ ⟨_,y,_⟩ => this.2 x y⟩
 ·exact ⟨fun _ => ⟨fun ⟨y,_⟩ => hjN y,fun ⟨y,_⟩ => hjN y⟩,fun _ ⟨y,_⟩ => hjN y⟩
theorem Core.step (h : Core VV N w t Sh act ic n0 W0) (hi : i < N) {V' : View} {es : Array Event} (s : StepOk (VV i) w V' w' es)
  (hsh : ∀ e ∈ es,∀ x,(MemAct.ofEvent e).touch? = some x -> Sh x.loc -> (x.kind = .atomic /\ act i) \/ (x.kind = .said /\ i = ic /\ act i)) (fn : FuncId) (pos : String) :
  Core (upd VV i V') N w' (t ++ MemOp.ofEvents i fn pos es) Sh act ic n0 W0 where
 sat j hj:=by
  by_cases hji : j = i
  ·subst hji; rw [zar]; exact s.sat
  ·rw [zal _ _ hji]; exact s.others (h.sat i hi) (h.sat j hj) (h.dis i j hi hj (Ne.symm hji))
 dis a b ha hb hab:=by
  by_cases hai : a = i
  ·subst hai;have hba : b ≠ a:=Ne.symm hab;rw [zar,zal _ _ hba];exact (s.disj (h.sat b hb) (h.dis a b ha hb hab) (h.dis b a hb ha hba)).1
  ·by_cases hbi : b = i
   ·subst hbi;rw [zar,zal _ _ hai];exact (s.disj (h.sat a ha) (h.dis b a hb ha (Ne.symm hab)) (h.dis a b ha hb hab)).2
   ·rw [zal _ _ hai,zal _ _ hbi]; exact h.dis a b ha hb hab
 ti:=by
  refine h.ti.app hi (fun op hop => by obtain ⟨e,_,rfl⟩:=Conc.mem_ofEvents hop; rfl) (fun op hop x hx => ?_) (fun op hop => by obtain ⟨e,he,rfl⟩:=Conc.mem_ofEvents hop; exact s.low e he) s.size (fun op hop a => ?_)
   (fun j l hj ⟨x,y⟩ => by rw [zal _ _ hj] at y; exact ⟨x,y⟩) (fun j l hj ⟨x,y⟩ => by rw [zal _ _ hj] at y; exact ⟨x,y⟩)
   (fun l ⟨x,y,z⟩ hl => by rw [zar] at y; exact .inl ⟨x,s.rd y hl,z⟩) (fun l ⟨x,y,z⟩ hl => by rw [zar] at y; exact ⟨x,s.wr y hl,z⟩)
   (fun l j hj => h.excl l hi hj) (fun l j hs => ⟨fun x => x.2.2 hs,fun x => x.2.2 hs⟩) (fun j l x => x.elim (fun y => RdV.low (h.sat j y.1) y.2.1) (fun y => RdV.low (h.sat j y.1) y.2.1.rd))
  ·obtain ⟨e,he,rfl⟩:=Conc.mem_ofEvents hop;by_cases hs : Sh x.loc
   ·rcases hsh e he x hx hs with ⟨a,b⟩ | ⟨a,b,c⟩
    ·exact .inl ⟨hs,a,b⟩
    ·exact .inr (.inl ⟨hs,a,b,c⟩)
   ·refine .inr (.inr ⟨hs,?_⟩);rcases (zfP (s.evs e he) hx).1 with x' | ⟨x',y⟩ | x'
    ·exact .inl ⟨hi,x',hs⟩
    ·exact .inr (.inl ⟨⟨hi,x',hs⟩,y⟩)
    ·exact .inr (.inr x')
  ·obtain ⟨e,he,rfl⟩:=Conc.mem_ofEvents hop;intro e';have hk:=s.evs e he;obtain ⟨l,wr,sy⟩:=e;cases l with
   | mark m =>
    have e1 : MemAct.ofEvent ⟨.mark m,wr,sy⟩ = .mark m:=(by cases wr <;> cases sy <;> rfl);simp only [e1,MemAct.mark.injEq] at e';subst e';exact hk
   | cell a' => simp [ofEvent_cell0] at e'
   | obj r => cases wr <;> cases sy <;> simp [MemAct.ofEvent] at e'
   | _ => exact hk
 tape:=s.tape.trans h.tape
 os:=s.os.trans h.os
 out:=s.output.trans h.out
 old b hb:=(s.frame b (Nat.lt_of_lt_of_le hb h.n0) (h.oldOwn i hi b hb)).trans (h.old b hb)
 oldOwn j hj b hb:=by
  by_cases hji : j = i
  ·subst hji; rw [zar]; exact s.own b (Nat.lt_of_lt_of_le hb h.n0) (h.oldOwn j hj b hb)
  ·rw [zal _ _ hji]; exact h.oldOwn j hj b hb
 n0:=Nat.le_trans h.n0 s.size
theorem Core.ghost (h : Core VV N w t Sh act ic n0 W0) (hi : i < N) {V' : View} (g : Ghost (VV i) V') : Core (upd VV i V') N w t Sh act ic n0 W0 where
 sat j hj:=by
  by_cases hji : j = i
  ·subst hji; rw [zar]; exact g.sat _ (h.sat j hj)
  ·rw [zal _ _ hji]; exact h.sat j hj
 dis a b ha hb hab:=by
  by_cases hai : a = i
  ·subst hai;have hba : b ≠ a:=Ne.symm hab;rw [zar,zal _ _ hba];exact (g.disj (h.dis a b ha hb hab) (h.dis b a hb ha hba)).1
  ·by_cases hbi : b = i
   ·subst hbi;rw [zar,zal _ _ hai];exact (g.disj (h.dis b a hb ha (Ne.symm hab)) (h.dis a b ha hb hab)).2
   ·rw [zal _ _ hai,zal _ _ hbi]; exact h.dis a b ha hb hab
 ti:=h.ti.weaken (Nat.le_refl _) (fun j l _ ⟨x,y,z⟩ => by
   by_cases hji : j = i
   ·subst hji; rw [zar] at y; exact .inl ⟨x,g.rd y,z⟩
   ·rw [zal _ _ hji] at y; exact .inl ⟨x,y,z⟩) (fun j l _ ⟨x,y,z⟩ => by
   by_cases hji : j = i
   ·subst hji; rw [zar] at y; exact ⟨x,g.wr y,z⟩
   ·rw [zal _ _ hji] at y; exact ⟨x,y,z⟩) h.ti.sp
 tape:=h.tape
 os:=h.os
 out:=h.out
 old:=h.old
 oldOwn j hj b hb:=by
  by_cases hji : j = i
  ·subst hji; rw [zar]; exact g.own b (h.oldOwn j hj b hb)
  ·rw [zal _ _ hji]; exact h.oldOwn j hj b hb
 n0:=h.n0
def Less (V' V : View) : Prop:=(∀ b,V'.own b = none \/ V'.own b = V.own b) /\ (∀ b o,V'.imm b o = none \/ V'.imm b o = V.imm b o) /\ (∀ b,V'.own b ≠ none -> ∀ o,V'.imm b o = V.imm b o)
theorem Less.sat {V V' : View} (l : Less V' V) {w : World} (h : Sat V w) : Sat V' w :=
 ⟨fun b o v e => h.imm b o v (by rcases l.2.1 b o with x | x <;> rw [x] at e; cases e; exact e),fun b x e => h.own b x (by rcases l.1 b with y | y <;> rw [y] at e; cases e; exact e)⟩
theorem Less.rd {V V' : View} (k : Less V' V) : ∀ {l : Loc},RdV V' l -> RdV V l
 | .cell a,h => h.imp (fun x y => by rcases k.1 a.block with z | z; exact x z; exact x (z.trans y)) (fun x y => by rcases k.2.1 a.block a.off with z | z; exact x z; exact x (z.trans y))
 | .obj r,h => fun y => by rcases k.1 r with z | z; exact h z; exact h (z.trans y)
theorem Less.wr {V V' : View} (k : Less V' V) : ∀ {l : Loc},WrV V' l -> WrV V l
 | .cell a,h => ⟨fun y => by rcases k.1 a.block with z | z; exact h.1 z; exact h.1 (z.trans y),by rw [<- k.2.2 _ h.1]; exact h.2⟩
 | .obj r,h => fun y => by rcases k.1 r with z | z; exact h z; exact h (z.trans y)
theorem Less.disj {V V' U : View} (k : Less V' V) (d : Disj V U) (d' : Disj U V) : Disj V' U /\ Disj U V':=by
 refine ⟨fun b hb => ?_,fun b hb => ⟨?_,fun o ho => ?_⟩⟩
 ·have x : V.own b ≠ none:=fun y => by rcases k.1 b with z | z; exact hb z; exact hb (z.trans y)
  exact ⟨(d b x).1,fun o ho => by rw [k.2.2 b hb]; exact (d b x).2 o ho⟩
 ·rcases k.1 b with z | z; exact z; exact z.trans (d' b hb).1
 ·exact (d' b hb).2 o fun y => by rcases k.2.1 b o with z | z; exact ho z; exact ho (z.trans y)
theorem Core.less (h : Core VV N w t Sh act ic n0 W0) (hi : i < N) {V' : View} (k : Less V' (VV i)) : Core (upd VV i V') N w t Sh act ic n0 W0 where
 sat j hj:=by
  by_cases hji : j = i
  ·subst hji; rw [zar]; exact k.sat (h.sat j hj)
  ·rw [zal _ _ hji]; exact h.sat j hj
 dis a b ha hb hab:=by
  by_cases hai : a = i
  ·subst hai;have hba : b ≠ a:=Ne.symm hab;rw [zar,zal _ _ hba];exact (k.disj (h.dis a b ha hb hab) (h.dis b a hb ha hba)).1
  ·by_cases hbi : b = i
   ·subst hbi;rw [zar,zal _ _ hai];exact (k.disj (h.dis b a hb ha (Ne.symm hab)) (h.dis a b ha hb hab)).2
   ·rw [zal _ _ hai,zal _ _ hbi]; exact h.dis a b ha hb hab
 ti:=h.ti.weaken (Nat.le_refl _) (fun j l _ ⟨x,y,z⟩ => by
   by_cases hji : j = i
   ·subst hji; rw [zar] at y; exact .inl ⟨x,k.rd y,z⟩
   ·rw [zal _ _ hji] at y; exact .inl ⟨x,y,z⟩) (fun j l _ ⟨x,y,z⟩ => by
   by_cases hji : j = i
   ·subst hji; rw [zar] at y; exact ⟨x,k.wr y,z⟩
   ·rw [zal _ _ hji] at y; exact ⟨x,y,z⟩) h.ti.sp
 tape:=h.tape
 os:=h.os
 out:=h.out
 old:=h.old
 oldOwn j hj b hb:=by
  by_cases hji : j = i
  ·subst hji; rw [zar]; rcases k.1 b with z | z; exact z; exact z.trans (h.oldOwn j hj b hb)
  ·rw [zal _ _ hji]; exact h.oldOwn j hj b hb
 n0:=h.n0
theorem Core.shared (h : Core VV N w t Sh act ic n0 W0) (hi : i < N) {es : Array Event} (hev : ∀ e ∈ es,∀ x,(MemAct.ofEvent e).touch? = some x -> Fit w.heap.size (fun i l => i < N /\ RdV (VV i) l /\ ¬ Sh l) (fun i l => i < N /\ WrV (VV i) l /\ ¬ Sh l) Sh act ic i x)
  (hlow : ∀ e ∈ es,(MemAct.ofEvent e).low w.heap.size) (hnr : ∀ e ∈ es,∀ a,MemAct.ofEvent e ≠ .mark (.release a)) (SB : Nat -> Prop) (hsb : ∀ b,SB b -> n0 <= b /\ ∀ j,j < N -> (VV j).own b = none /\ ∀ o,(VV j).imm b o = none)
  (hsz : w'.heap.size = w.heap.size) (hfr : ∀ b,¬ SB b -> w'.heap[b]? = w.heap[b]?) (ht : w'.tape = w.tape) (ho : w'.os = w.os) (hu : w'.output = w.output) (fn : FuncId) (pos : String) :
  Core VV N w' (t ++ MemOp.ofEvents i fn pos es) Sh act ic n0 W0 where
 sat j hj:=by
  have hs:=h.sat j hj;refine ⟨fun b o v e => ?_,fun b x e => ?_⟩
  ·have hb : ¬ SB b:=fun x => (by rw [((hsb b x).2 j hj).2 o] at e; cases e);have:=hs.imm b o v e;simp only [World.cell?,hfr b hb];exact this
  ·have hb : ¬ SB b:=fun y => (by rw [((hsb b y).2 j hj).1] at e; cases e);rw [hfr b hb]; exact hs.own b x e
 dis:=h.dis
 ti:=by
  rw [hsz];refine h.ti.app hi (fun op hop => by obtain ⟨e,_,rfl⟩:=Conc.mem_ofEvents hop; rfl) (fun op hop x hx => by obtain ⟨e,he,rfl⟩:=Conc.mem_ofEvents hop; exact hev e he x hx) (fun op hop => by obtain ⟨e,he,rfl⟩:=Conc.mem_ofEvents hop; exact hlow e he) (Nat.le_refl _) (fun op hop a => by obtain ⟨e,he,rfl⟩:=Conc.mem_ofEvents hop; exact hnr e he a)
   (fun j l _ x => x) (fun j l _ x => x) (fun l x _ => .inl x) (fun l x _ => x) (fun l j hj => h.excl l hi hj) (fun l j hs => ⟨fun x => x.2.2 hs,fun x => x.2.2 hs⟩) (fun j l x => x.elim (fun y => RdV.low (h.sat j y.1) y.2.1) (fun y => RdV.low (h.sat j y.1) y.2.1.rd))
 tape:=ht.trans h.tape
 os:=ho.trans h.os
 out:=hu.trans h.out
 old b hb:=(hfr b (fun x => by have:=(hsb b x).1; omega)).trans (h.old b hb)
 oldOwn:=h.oldOwn
 n0:=by rw [hsz]; exact h.n0
theorem Core.quiet (h : Core VV N w t Sh act ic n0 W0) (hi : i < N) {es : Array Event} (hes : ∀ e ∈ es,(MemAct.ofEvent e).touch? = none /\ (MemAct.ofEvent e).low w.heap.size /\ ∀ a,MemAct.ofEvent e ≠ .mark (.release a)) (fn : FuncId) (pos : String) :
  Core VV N w (t ++ MemOp.ofEvents i fn pos es) Sh act ic n0 W0 :=
 h.shared hi (fun e he x hx => by rw [(hes e he).1] at hx; cases hx) (fun e he => (hes e he).2.1) (fun e he => (hes e he).2.2) (fun _ => False) (fun b x => x.elim) rfl (fun _ _ => rfl) rfl rfl rfl fn pos
theorem Core.role (h : Core VV N w t Sh act ic n0 W0) (hi : i < N) {V' : View} (h1 : V'.imm = (VV i).imm) (h2 : V'.own = (VV i).own) : Core (upd VV i V') N w t Sh act ic n0 W0 :=
 h.less hi ⟨fun b => .inr (by rw [h2]),fun b o => .inr (by rw [h1]),fun b _ o => by rw [h1]⟩
end
open Go.Conc Go.ConcN
inductive GS where
 | gone (q : Nat)
 | work (j : Nat) (h : Ht) (V : View)
 | park (j : Nat) (h : Ht) (V V' : View) (g0 : Goroutine) (v z : Value)
 | add (n : Nat)
 | load (n : Nat)
 | store (n : Nat)
 | sem (n : Nat)
 | head (k n : Nat)
 | cas (v n : Nat)
 | said (n : Nat)
 | csem (n : Nat)
 | last (n : Nat)
 | acq (n : Nat)
 | look (n : Nat)
 | close (n : Nat)
def zlA : View:={ imm:=fun _ _ => none,own:=fun _ => none,deaf:=0,role:=.plain }
def GS.view (Im : Imm) : GS -> View
 | .work _ _ V => V
 | .park _ _ V _ _ _ _ => V
 | .head .. | .cas .. | .said _ | .csem _ | .last _ | .acq _ | .look _ => { zlA with imm:=Im }
 | _ => zlA
def GS.cnt : GS -> Nat
 | .work .. | .park .. | .add _ => 1
 | _ => 0
def GS.late : GS -> Nat
 | .load _ | .store _ | .sem _ => 1
 | _ => 0
def GS.idx : GS -> Option Nat
 | .work j _ _ => some j
 | .park j _ _ _ _ _ _ => some j
 | _ => none
def GS.shape : GS -> GS
 | .gone _ => .gone 0
 | .work j _ _ => .work j .z zlA
 | .park j _ _ _ _ _ _ => .work j .z zlA
 | .add _ => .add 0
 | .load _ => .load 0
 | .store _ => .store 0
 | .sem _ => .sem 0
 | .head k _ => .head k 0
 | .cas v _ => .cas v 0
 | .said _ => .said 0
 | .csem _ => .csem 0
 | .last _ => .last 0
 | .acq _ => .acq 0
 | .look _ => .look 0
 | .close _ => .close 0
theorem GS.cnt_shape : ∀ K : GS,K.shape.cnt = K.cnt:=by intro K; cases K <;> rfl
theorem GS.late_shape : ∀ K : GS,K.shape.late = K.late:=by intro K; cases K <;> rfl
theorem GS.idx_shape : ∀ K : GS,K.shape.idx = K.idx:=by intro K; cases K <;> rfl
def GS.closer : GS -> Bool
 | .head .. | .cas .. | .said _ | .csem _ | .last _ | .acq _ | .look _ | .close _ => true
 | _ => false
theorem GS.closer_shape : ∀ K : GS,K.shape.closer = K.closer:=by intro K; cases K <;> rfl
def GS.rank : GS -> Rank
 | .gone q => ⟨0,.z,q⟩
 | .work _ h V => ⟨11 + 2 * (match V.role with | .work _ _ S => S.length | _ => 0),h,0⟩
 | .park _ h V _ _ _ _ => ⟨10 + 2 * (match V.role with | .work _ _ S => S.length | _ => 0),h,0⟩
 | .add n => ⟨8,.z,n⟩
 | .load n => ⟨7,.z,n⟩
 | .store n => ⟨6,.z,n⟩
 | .sem n => ⟨5,.z,n⟩
 | .head k n => ⟨100 + 3 * k,.z,n⟩
 | .cas v n => ⟨102 + 3 * v,.z,n⟩
 | .said n => ⟨60,.z,n⟩
 | .csem n => ⟨50,.z,n⟩
 | .last n => ⟨40,.z,n⟩
 | .acq n => ⟨30,.z,n⟩
 | .look n => ⟨20,.z,n⟩
 | .close n => ⟨15,.z,n⟩
section
variable (P : Program) (c Wg : Nat) (Im : Imm) (Ss : List (List Spec))
def CCas (v d : Nat) (g : Goroutine) : Prop:=d = 1 /\ g.status = .running /\
 (∃ g',(∀ w,WgAt P Wg w ((v : Int) * KK) 0 -> stepG P false g w = .go g' (w.setCell (zeV Wg) (.int .u64 ((v : Int) * KK + 1))) #[eRd (zeV Wg),eWr (zeV Wg)]) /\ ∃ n,SlideW P Wg (zqs P Im c Wg) n 1 g') /\
 (∀ u : Nat,u < v -> ∃ g',(∀ w,WgAt P Wg w ((u : Int) * KK) 0 -> stepG P false g w = .go g' w #[eRd (zeV Wg)]) /\ ∃ n,Slide P (CHead P Im c Wg v) n 1 g')
theorem CHead.succ {k d : Nat} {g : Goroutine} (h : CHead P Im c Wg (k + 1) d g) : d = 1 /\ g.status = .running /\ ∀ v : Nat,v <= k -> v <= 4 -> ∃ g',(∀ w,WgAt P Wg w ((v : Int) * KK) 0 -> stepG P false g w = .go g' w #[eRd (zeV Wg)]) /\
  (v = 0 -> ∃ n,SlideW P Wg (CAcq P Im c Wg) n 1 g') /\ (v ≠ 0 -> ∃ n,Slide P (CCas P c Wg Im v) n 1 g'):=by
 rw [CHead] at h;exact h
theorem CHead.zero {d : Nat} {g : Goroutine} (h : CHead P Im c Wg 0 d g) : False:=by
 rw [CHead] at h;exact h
def GS.is : GS -> Nat -> Goroutine -> Prop
 | .gone q,d,g => QuitsD P q d g
 | .work j h V,d,g => d = V.deaf /\ WkJ P h V g /\ ∃ S,Ss[j]? = some S /\ V.role = .work c Wg S
 | .park j h V V' g0 v z,d,g => d = 0 /\ V.deaf = 0 /\ g = parked g0 #[scase c v z] .send /\ WkJ P h V' (Conc.served g0 undef) /\ ∃ sp S,∃ B : Nat -> Bool,Ss[j]? = some (sp :: S) /\ V.role = .work c Wg (sp :: S) /\
   sp v V.imm (fun b => if B b then V.own b else none) /\ V' = { V with own:=fun b => if B b then none else V.own b,role:=.work c Wg S }
 | .add n,d,g => Slide P (DAdd P Wg) n d g
 | .load n,d,g => Slide P (zqr P Wg) n d g
 | .store n,d,g => Slide P (zn5 P Wg) n d g
 | .sem n,d,g => Slide P (DSem P Wg) n d g
 | .head k n,d,g => Slide P (CHead P Im c Wg k) n d g
 | .cas v n,d,g => Slide P (CCas P c Wg Im v) n d g
 | .said n,d,g => SlideW P Wg (zqs P Im c Wg) n d g
 | .csem n,d,g => Slide P (CSem P Im c Wg) n d g \/ (n = 0 /\ ∃ g1,g = { g1 with status:=.blocked } /\ CSem P Im c Wg d g1)
 | .last n,d,g => Slide P (zr8 P Im c Wg) n d g
 | .acq n,d,g => SlideW P Wg (CAcq P Im c Wg) n d g
 | .look n,d,g => Slide P (zr7 P Im c) n d g
 | .close n,d,g => Slide P (zoJ P c) n d g
end
theorem Slide.running {P : Program} {Stop : Nat -> Goroutine -> Prop} (hs : ∀ d g,Stop d g -> g.status = .running) : ∀ {n d : Nat} {g : Goroutine},Slide P Stop n d g -> g.status = .running
 | 0,_,_,h => hs _ _ h
 | _ + 1,_,_,h => h.elim (hs _ _) (fun x => x.1)
theorem SlideW.running {P : Program} {Wg : Nat} {Stop : Nat -> Goroutine -> Prop} (hs : ∀ d g,Stop d g -> g.status = .running) : ∀ {n d : Nat} {g : Goroutine},SlideW P Wg Stop n d g -> g.status = .running
 | 0,_,_,h => hs _ _ h
 | _ + 1,_,_,h => h.elim (hs _ _) (fun x => x.1)
theorem zot {P : Program} {Im : Imm} {c Wg : Nat} : ∀ {k d : Nat} {g : Goroutine},CHead P Im c Wg k d g -> g.status = .running
 | 0,_,_,h => (CHead.zero P c Wg Im h).elim
 | _ + 1,_,_,h => (CHead.succ P c Wg Im h).2.1
theorem GS.runs {P : Program} {c Wg : Nat} {Im : Imm} {Ss : List (List Spec)} {K : GS} {d : Nat} {g : Goroutine} (h : K.is P c Wg Im Ss d g) :
  g.status = .running \/ g.status = .finished /\ (∃ q,K = .gone q) \/ (∃ j h V V' g0 v z,K = .park j h V V' g0 v z) \/ ((∃ n,K = .csem n) /\ g.status = .blocked /\ g.offers = none):=by
 cases K with
 | gone q => exact (QuitsD.status h).elim .inl (fun x => .inr (.inl ⟨x,q,rfl⟩))
 | work j h' V => exact .inl h.2.1.running
 | park j h' V V' g0 v z => exact .inr (.inr (.inl ⟨j,h',V,V',g0,v,z,rfl⟩))
 | add n => exact .inl (Slide.running (fun d g x => x.2.1) h)
 | load n => exact .inl (Slide.running (fun d g x => x.2.1) h)
 | store n => exact .inl (Slide.running (fun d g x => x.2.1) h)
 | sem n => exact .inl (Slide.running (fun d g x => x.2.1) h)
 | head k n => exact .inl (Slide.running (fun d g x => zot x) h)
 | cas v n => exact .inl (Slide.running (fun d g x => x.2.1) h)
 | said n => exact .inl (SlideW.running (fun d g x => x.2.1) h)
 | csem n =>
  rcases h with h | ⟨_,g1,rfl,h⟩
  ·exact .inl (Slide.running (fun d g x => x.2.1) h)
  ·exact .inr (.inr (.inr ⟨⟨n,rfl⟩,rfl,h.2.2.1⟩))
 | last n => exact .inl (Slide.running (fun d g x => x.2.1) h)
 | acq n => exact .inl (SlideW.running (fun d g x => x.2.1) h)
 | look n => exact .inl (Slide.running (fun d g x => x.2.1) h)
 | close n => exact .inl (Slide.running (fun d g x => x.2.1) h)
structure Rel (Wg : Nat) (t : Trace) (i r : Nat) : Prop where
 act : t.act? r = some (.mark (.releaseMerge (zeV Wg)))
 g : t.g? r = some i
 heard : t.heard r
theorem Rel.app {Wg : Nat} {t u : Trace} {i r : Nat} (h : Rel Wg t i r) : Rel Wg (t ++ u) i r :=
 have hr:=lt_of_act? h.act
 ⟨by rw [act?_old hr]; exact h.act,by rw [g?_old hr]; exact h.g,(heard_old hr).2 h.heard⟩
inductive Stage where
 | early
 | got
 | shut (p : Nat)
 deriving DecidableEq
def HeldBy (Wg : Nat) (t : Trace) (K : Nat -> GS) (ic : Nat) : Stage -> Nat -> Prop
 | .early,idx => ∃ i,t.g? idx = some i /\ 0 < i /\ (((K i).idx.isSome = true) \/ (i = ic) \/ ∃ r,Rel Wg t i r /\ idx <= r)
 | .got,idx => Knows t ic idx
 | .shut p,idx => Before t idx p
def Rest (Wg : Nat) (t : Trace) (K : Nat -> GS) (ic : Nat) (st : Option Stage) : Prop :=
 ∀ idx a,touchAt t idx = some a -> a.loc.isMemory = true -> Knows t 0 idx \/ (a.kind = .atomic /\ ¬ t.heard idx) \/ ∃ s,st = some s /\ HeldBy Wg t K ic s idx
def Mode (P : Program) (c Wg N : Nat) (w : World) (gs : Array Goroutine) (t : Trace) (K : Nat -> GS) (ic : Nat) (s : Stage) : Prop :=
 let cn : Nat:=sumTo N fun i => (K i).cnt;let la : Nat:=sumTo N fun i => (K i).late;let opn:=∃ n,w.heap[c]? = some (.chan 0 #[] false n n false)
 (opn /\ s = .early /\ la = 0 /\ cn <= 4 /\ WgAt P Wg w ((cn : Int) * KK) 0 /\ ((∃ k,(K ic).shape = .head k 0 /\ cn < k) \/ (∃ v,(K ic).shape = .cas v 0 /\ cn <= v /\ 0 < v))) \/
 (opn /\ s = .early /\ la = 0 /\ 1 <= cn /\ cn <= 4 /\ WgAt P Wg w ((cn : Int) * KK + 1) 0 /\ ((K ic).shape = .said 0 \/ (K ic).shape = .csem 0)) \/
 (opn /\ s = .early /\ la = 1 /\ cn = 0 /\ ((K ic).shape = .said 0 \/ (K ic).shape = .csem 0) /\ (∀ i,i < N -> ((K i).shape = .load 0 \/ (K i).shape = .store 0) -> WgAt P Wg w 1 0) /\ (∀ i,i < N -> (K i).shape = .sem 0 -> WgAt P Wg w 0 0)) \/
 (opn /\ s = .early /\ la = 0 /\ cn = 0 /\ WgAt P Wg w 0 1 /\ (∀ g,gs[ic]? = some g -> g.status = .running) /\ ((K ic).shape = .said 0 \/ (K ic).shape = .csem 0)) \/
 (opn /\ s = .early /\ la = 0 /\ cn = 0 /\ WgAt P Wg w 0 0 /\ ((K ic).shape = .last 0 \/ (K ic).shape = .acq 0)) \/
 (opn /\ s = .got /\ la = 0 /\ cn = 0 /\ ((K ic).shape = .look 0 \/ (K ic).shape = .close 0)) \/
 ((∃ p n,s = .shut p /\ t.act? p = some (.close c) /\ t.heard p /\ w.heap[c]? = some (.chan 0 #[] true n n false)) /\ la = 0 /\ cn = 0 /\ (K ic).shape = .gone 0)
def MainAt (gs : Array Goroutine) (g : Goroutine) : Prop:=∃ g0,gs[0]? = some g0 /\ g0.status = .running /\ g0.frame = g.frame /\ g0.callers = g.callers /\ g0.dying = g.dying
def zhQ (gs : Array Goroutine) (g : Goroutine) (c : Nat) : Prop:=∃ g0 z,gs[0]? = some (parked g0 #[rcase c z] (.recv true)) /\ g0.frame = g.frame /\ g0.callers = g.callers /\ g0.dying = g.dying
structure Phase where
 c : Nat
 Wg : Nat
 Ss : List (List Spec)
 recv : Bool
def VVof (V : View) (Im : Imm) (K : Nat -> GS) : Nat -> View:=fun i => if i = 0 then V else (K i).view Im
structure Inv (P : Program) (n0 : Nat) (W0 : World) (V : View) (gs : Array Goroutine) (w : World) (t : Trace) (K : Nat -> GS) (Im : Imm) (ic : Nat) (ph : Option Phase) (st : Option Stage) : Prop where
 pos : 0 < gs.size
 k0 : K 0 = .gone 0
 d0 : Deaf t 0 = V.deaf
 «is» : ∀ i g,0 < i -> gs[i]? = some g -> match ph with
  | some p => (K i).is P p.c p.Wg Im p.Ss (Deaf t i) g
  | none => ∃ q,K i = .gone q /\ QuitsD P q (Deaf t i) g
 core : Core (VVof V Im K) gs.size w t (match ph with | some p => ShP p.c p.Wg | none => fun _ => False)
  (fun i => match ph with | some p => if p.recv then 0 < i /\ i < gs.size /\ ((K i).idx.isSome = true \/ i = ic \/ (K i).cnt = 1 \/ (K i).late = 1) else i = 0 \/ (i < gs.size /\ (K i).idx.isSome = true) | none => False) ic n0 W0
 rest : Rest (match ph with | some p => p.Wg | none => 0) t K ic st
 phase : match ph with
  | none => st = none
  | some p => n0 <= p.c /\ n0 <= p.Wg /\ p.c ≠ p.Wg /\ p.c < w.heap.size /\ p.Wg < w.heap.size /\ p.Ss.length <= 4 /\
   (∀ i,0 < i -> ((K i).view Im).own p.c = none /\ (∀ o,((K i).view Im).imm p.c o = none) /\ ((K i).view Im).own p.Wg = none /\ (∀ o,((K i).view Im).imm p.Wg o = none) /\ ((K i).closer = true -> i = ic)) /\
   (∀ i i' j,0 < i -> i < gs.size -> 0 < i' -> i' < gs.size -> (K i).idx = some j -> (K i').idx = some j -> i = i') /\
   (∀ j S,p.Ss[j]? = some S -> S ≠ [] -> ∃ i,0 < i /\ i < gs.size /\ (K i).idx = some j) /\
   (if p.recv then (V.own p.c = none /\ (∀ o,V.imm p.c o = none) /\ V.own p.Wg = none /\ (∀ o,V.imm p.Wg o = none)) /\ 0 < ic /\ ic < gs.size /\ (∃ s,st = some s /\ Mode P p.c p.Wg gs.size w gs t K ic s)
    else V.own p.c = some (.chan 0 #[] false 0 0 false) /\ ic = 0 /\ st = some .early /\ (∀ i,0 < i -> i < gs.size -> (K i).idx.isSome = true \/ ∃ q,K i = .gone q) /\ (∀ S ∈ p.Ss,S ≠ []) /\ (sumTo gs.size fun i => (K i).cnt) = p.Ss.length)
open Go.Conc Go.ConcN
theorem zdE (K : Nat -> GS) (k : GS) (φ : GS -> Nat) {i N : Nat} (hi : i < N) : sumTo N (fun a => φ (upd K i k a)) + φ (K i) = sumTo N (fun a => φ (K a)) + φ k:=sumTo_upd K k φ hi
theorem zaO (K : Nat -> GS) (k : GS) (φ : GS -> Nat) {i N : Nat} (h : φ k = φ (K i)) : sumTo N (fun a => φ (upd K i k a)) = sumTo N (fun a => φ (K a)) :=
 sumTo_congr fun a _ => by by_cases ha : a = i; subst ha; rw [zar,h]; rw [zal _ _ ha]
theorem Core.act_mono {VV : Nat -> View} {N : Nat} {w : World} {t : Trace} {Sh : Loc -> Prop} {act act' : Nat -> Prop} {ic n0 : Nat} {W0 : World} (h : Core VV N w t Sh act ic n0 W0) (ha : ∀ i,act' i -> act i) : Core VV N w t Sh act' ic n0 W0 :=
 ⟨h.sat,h.dis,h.ti.weaken (Nat.le_refl _) (fun _ _ _ x => .inl x) (fun _ _ _ x => x) (fun idx a x y => ⟨fun hp i hi => (h.ti.sp idx a x y).1 hp i (ha i hi),(h.ti.sp idx a x y).2⟩),h.tape,h.os,h.out,h.old,h.oldOwn,h.n0⟩
theorem Core.congr {VV VV' : Nat -> View} {N : Nat} {w : World} {t : Trace} {Sh : Loc -> Prop} {act : Nat -> Prop} {ic n0 : Nat} {W0 : World} (h : Core VV N w t Sh act ic n0 W0) (e : ∀ i,i < N -> VV' i = VV i) : Core VV' N w t Sh act ic n0 W0 :=
 ⟨fun i hi => by rw [e i hi]; exact h.sat i hi,fun i j hi hj hij => by rw [e i hi,e j hj]; exact h.dis i j hi hj hij,
  h.ti.weaken (Nat.le_refl _) (fun i l hi ⟨x,y,z⟩ => .inl ⟨x,by rw [<- e i hi]; exact y,z⟩) (fun i l hi ⟨x,y,z⟩ => ⟨x,by rw [<- e i hi]; exact y,z⟩) h.ti.sp,h.tape,h.os,h.out,h.old,fun i hi b hb => by rw [e i hi]; exact h.oldOwn i hi b hb,h.n0⟩
theorem zjQ (V : View) (Im : Imm) (K : Nat -> GS) {i : Nat} (hi : 0 < i) (k : GS) : VVof V Im (upd K i k) = upd (VVof V Im K) i (k.view Im):=by
 funext j;by_cases hj : j = i
 ·subst hj; rw [zar]; simp [VVof,zar]; omega
 ·rw [zal _ _ hj]; simp [VVof,zal _ _ hj]
theorem zih {P : Program} {c Wg : Nat} {Im : Imm} {Ss : List (List Spec)} {k : GS} {d : Nat} {x g g' : Goroutine} {w' : World} (ho : (∃ n,w'.heap[c]? = some (.chan 0 #[] false n n false)) \/ k.idx = none) (h : k.is P c Wg Im Ss d x) :
  k.is P c Wg Im Ss d (woken P g g' w' x):=by
 rcases GS.runs h with hr | ⟨hf,q,rfl⟩ | ⟨j,h',V,V',g0,v,z,rfl⟩ | ⟨⟨n,rfl⟩,hb,hof⟩
 ·rw [woken_run hr]; exact h
 ·rw [woken_quitsD h]; exact h
 ·rcases ho with ⟨n,ho⟩ | ho
  ·obtain ⟨h1,h2,rfl,h4⟩:=h;rw [woken_send_open _ _ ho];exact ⟨h1,h2,rfl,h4⟩
  ·cases ho
 ·rcases h with h | ⟨hn,g1,rfl,h⟩
  ·rw [Slide.running (fun d g x => x.2.1) h] at hb; cases hb
  ·unfold woken;split
   ·subst hn;refine .inl ?_;have e : ({ g1 with status:=GoStatus.blocked } : Goroutine).again w' = g1:=by
     obtain ⟨f,cs,s,dy,o⟩:=g1;have h2:=h.2.1;have h3:=h.2.2.1;simp only at h2 h3;subst h2 h3;rfl
    rw [e]; exact h
   ·exact .inr ⟨hn,g1,rfl,h⟩
theorem zdL {P : Program} {gs : Array Goroutine} {g : Goroutine} {w' : World} {i : Nat} {gi gi' : Goroutine} (hi : 0 < i) (h : MainAt gs g) : MainAt ((gs.map (woken P gi gi' w')).setIfInBounds i gi') g:=by
 obtain ⟨g0,h0,h1,h2⟩:=h;exact ⟨g0,by rw [Array.getElem?_setIfInBounds_ne (by omega),Array.getElem?_map,h0]; simp [woken_run h1],h1,h2⟩
theorem zdI {P : Program} {gs : Array Goroutine} {g : Goroutine} {w' : World} {i c : Nat} {gi gi' : Goroutine} (hi : 0 < i) (h : zhQ gs g c) (ho : ∃ n,w'.heap[c]? = some (.chan 0 #[] false n n false)) : zhQ ((gs.map (woken P gi gi' w')).setIfInBounds i gi') g c:=by
 obtain ⟨g0,z,h0,h2⟩:=h;obtain ⟨n,ho⟩:=ho;exact ⟨g0,z,by rw [Array.getElem?_setIfInBounds_ne (by omega),Array.getElem?_map,h0]; simp [woken_recv_open _ _ ho],h2⟩
theorem zhp {P : Program} {gs : Array Goroutine} {g : Goroutine} {w' : World} {i c : Nat} {gi gi' : Goroutine} (hi : 0 < i) (h : zhQ gs g c) (hw : mayWake P gi = true) (hs : gi'.status = .running \/ gi'.status = .finished) (ho : ∃ n,w'.heap[c]? = some (.chan 0 #[] true n n false)) :
  MainAt ((gs.map (woken P gi gi' w')).setIfInBounds i gi') g:=by
 obtain ⟨g0,z,h0,h2⟩:=h;obtain ⟨n,ho⟩:=ho;refine ⟨{ parked g0 #[rcase c z] (.recv true) with status:=.running },?_,rfl,h2⟩;rw [Array.getElem?_setIfInBounds_ne (by omega),Array.getElem?_map,h0];have : woken P gi gi' w' (parked g0 #[rcase c z] (.recv true)) = { parked g0 #[rcase c z] (.recv true) with status:=.running }:=by
  unfold woken;have hc : (mayWake P gi && gi'.status != .blocked && gi'.status != .waiting) = true:=by rcases hs with hs | hs <;> simp [hw,hs]
  rw [if_pos hc,again_recv_closed ho]
 simp [this]
def Opn (w : World) (c : Nat) : Prop:=∃ n,w.heap[c]? = some (.chan 0 #[] false n n false)
def zoG (gs gs' : Array Goroutine) (w w' : World) (g : Goroutine) (c : Nat) : Prop:=(MainAt gs g -> MainAt gs' g) /\ (zhQ gs g c -> Opn w c -> MainAt gs' g \/ (zhQ gs' g c /\ Opn w' c))
def Calm (gs : Array Goroutine) : Prop:=∀ i x,0 < i -> gs[i]? = some x -> x.status = .blocked -> x.offers = none
def flag (gs : Array Goroutine) (ic : Nat) : Nat:=if (gs[ic]?).any (·.status == .running) then 1 else 0
def zlP (p : Phase) (N ic : Nat) (K : Nat -> GS) (i : Nat) : Prop:=if p.recv then 0 < i /\ i < N /\ ((K i).idx.isSome = true \/ i = ic \/ (K i).cnt = 1 \/ (K i).late = 1) else i = 0 \/ (i < N /\ (K i).idx.isSome = true)
section
variable {P : Program} {n0 : Nat} {W0 : World} {V : View} {gs : Array Goroutine} {w : World} {t : Trace} {K : Nat -> GS} {Im : Imm} {ic : Nat} {ph : Option Phase} {st : Option Stage}
structure Went (P : Program) (n0 : Nat) (W0 : World) (V : View) (gs : Array Goroutine) (w : World) (sl : Option (Nat × Nat)) (t : Trace) (K : Nat -> GS) (Im : Imm) (ic : Nat) (ph : Option Phase) (st : Option Stage) (i : Nat) : Prop where
 intro ::
 went : ∃ gs' w' ops K' st',runT P (crowd gs w sl) i = (.next (crowd gs' w' sl),ops) /\ gs'.size = gs.size /\ Inv P n0 W0 V gs' w' (t ++ ops) K' Im ic ph st' /\ (∀ g c,(∀ p,ph = some p -> p.c = c) -> zoG gs gs' w w' g c) /\ (∀ g c,zhQ gs g c -> Calm gs -> Calm gs') /\
  MuLt gs.size ((fun j => (K' j).rank),flag gs' ic) ((fun j => (K j).rank),flag gs ic)
theorem getElem?_next {gi gi' : Goroutine} {w' : World} {i j : Nat} {x : Goroutine} (hlt : i < gs.size) (h : ((gs.map (woken P gi gi' w')).setIfInBounds i gi')[j]? = some x) : (j = i /\ x = gi') \/ (j ≠ i /\ ∃ y,gs[j]? = some y /\ x = woken P gi gi' w' y):=by
 by_cases hji : j = i
 ·subst hji;rw [Array.getElem?_setIfInBounds_self_of_lt (by simpa using hlt)] at h;exact .inl ⟨rfl,(Option.some.inj h).symm⟩
 ·rw [Array.getElem?_setIfInBounds_ne (Ne.symm hji),Array.getElem?_map] at h;obtain ⟨y,hy,rfl⟩:=Option.map_eq_some_iff.1 h;exact .inr ⟨hji,y,hy,rfl⟩
theorem Rest.app {Wg : Nat} {t u : Trace} {K K' : Nat -> GS} {ic : Nat} {s s' : Stage} (h : Rest Wg t K ic (some s)) (hold : ∀ idx a,touchAt t idx = some a -> HeldBy Wg t K ic s idx -> Knows (t ++ u) 0 idx \/ HeldBy Wg (t ++ u) K' ic s' idx)
  (hnew : ∀ idx a,t.size <= idx -> (∃ op ∈ u,(t ++ u)[idx]? = some op /\ op.act.touch? = some a) -> a.loc.isMemory = true -> Knows (t ++ u) 0 idx \/ (a.kind = .atomic /\ ¬ (t ++ u).heard idx) \/ HeldBy Wg (t ++ u) K' ic s' idx) : Rest Wg (t ++ u) K' ic (some s'):=by
 intro idx a ha hm;rcases zbu ha with ha' | ⟨hi,hx⟩
 ·obtain ⟨op,hop,_⟩:=touch_of ha';rcases h idx a ha' hm with x | ⟨x,y⟩ | ⟨s1,hs1,x⟩
  ·exact .inl (x.app u)
  ·exact .inr (.inl ⟨x,fun z => y ((heard_old (lt_size_of_getElem? hop)).1 z)⟩)
  ·cases hs1;exact (hold idx a ha' x).imp id fun y => .inr ⟨s',rfl,y⟩
 ·exact (hnew idx a hi hx hm).imp id (fun y => y.imp id fun z => ⟨s',rfl,z⟩)
theorem HeldBy.app {Wg : Nat} {t u : Trace} {K K' : Nat -> GS} {ic idx : Nat} {s : Stage} (hidx : idx < t.size) (h : HeldBy Wg t K ic s idx) (hK : ∀ i,t.g? idx = some i -> 0 < i -> (K i).idx.isSome = true -> (K' i).idx.isSome = true \/ ∃ r,Rel Wg (t ++ u) i r /\ idx <= r) : HeldBy Wg (t ++ u) K' ic s idx:=by
 cases s with
 | early =>
  obtain ⟨i,hg,h0,hx⟩:=h;refine ⟨i,by rw [g?_old hidx]; exact hg,h0,?_⟩;rcases hx with x | x | ⟨r,x,y⟩
  ·exact (hK i hg h0 x).imp id .inr
  ·exact .inr (.inl x)
  ·exact .inr (.inr ⟨r,x.app,y⟩)
 | got => exact Knows.app u h
 | shut p => exact Before.app u h
end
open Go.Conc Go.ConcN
def shOf (ph : Option Phase) : Loc -> Prop:=match ph with | some p => ShP p.c p.Wg | none => fun _ => False
def zmC (ph : Option Phase) (N ic : Nat) (K : Nat -> GS) : Nat -> Prop:=fun i => match ph with | some p => zlP p N ic K i | none => False
def wgOf (ph : Option Phase) : Nat:=match ph with | some p => p.Wg | none => 0
section
variable {P : Program} {n0 : Nat} {W0 : World} {V : View} {gs : Array Goroutine} {w w' : World} {sl : Option (Nat × Nat)} {t : Trace} {K : Nat -> GS} {Im : Imm} {ic : Nat} {ph : Option Phase} {st st' : Option Stage}
def zmM (P : Program) (n0 : Nat) (V : View) (gs : Array Goroutine) (w : World) (t : Trace) (K : Nat -> GS) (Im : Imm) (ic : Nat) (ph : Option Phase) (st : Option Stage) : Prop:=match ph with
  | none => st = none
  | some p => n0 <= p.c /\ n0 <= p.Wg /\ p.c ≠ p.Wg /\ p.c < w.heap.size /\ p.Wg < w.heap.size /\ p.Ss.length <= 4 /\
   (∀ i,0 < i -> ((K i).view Im).own p.c = none /\ (∀ o,((K i).view Im).imm p.c o = none) /\ ((K i).view Im).own p.Wg = none /\ (∀ o,((K i).view Im).imm p.Wg o = none) /\ ((K i).closer = true -> i = ic)) /\
   (∀ i i' j,0 < i -> i < gs.size -> 0 < i' -> i' < gs.size -> (K i).idx = some j -> (K i').idx = some j -> i = i') /\
   (∀ j S,p.Ss[j]? = some S -> S ≠ [] -> ∃ i,0 < i /\ i < gs.size /\ (K i).idx = some j) /\
   (if p.recv then (V.own p.c = none /\ (∀ o,V.imm p.c o = none) /\ V.own p.Wg = none /\ (∀ o,V.imm p.Wg o = none)) /\ 0 < ic /\ ic < gs.size /\ (∃ s,st = some s /\ Mode P p.c p.Wg gs.size w gs t K ic s)
    else V.own p.c = some (.chan 0 #[] false 0 0 false) /\ ic = 0 /\ st = some .early /\ (∀ i,0 < i -> i < gs.size -> (K i).idx.isSome = true \/ ∃ q,K i = .gone q) /\ (∀ S ∈ p.Ss,S ≠ []) /\ (sumTo gs.size fun i => (K i).cnt) = p.Ss.length)
def IsPh (P : Program) (Im : Imm) (ph : Option Phase) (k : GS) (d : Nat) (g : Goroutine) : Prop:=match ph with
  | some p => k.is P p.c p.Wg Im p.Ss d g
  | none => ∃ q,k = .gone q /\ QuitsD P q d g
theorem Inv.mk' (pos : 0 < gs.size) (k0 : K 0 = .gone 0) (d0 : Deaf t 0 = V.deaf) (his : ∀ i g,0 < i -> gs[i]? = some g -> IsPh P Im ph (K i) (Deaf t i) g)
  (hc : Core (VVof V Im K) gs.size w t (shOf ph) (zmC ph gs.size ic K) ic n0 W0) (hr : Rest (wgOf ph) t K ic st) (hp : zmM P n0 V gs w t K Im ic ph st) : Inv P n0 W0 V gs w t K Im ic ph st:=by
 cases ph with
 | none => exact ⟨pos,k0,d0,his,hc,hr,hp⟩
 | some p => exact ⟨pos,k0,d0,his,hc,hr,hp⟩
theorem Inv.out (h : Inv P n0 W0 V gs w t K Im ic ph st) : (∀ i g,0 < i -> gs[i]? = some g -> IsPh P Im ph (K i) (Deaf t i) g) /\ Core (VVof V Im K) gs.size w t (shOf ph) (zmC ph gs.size ic K) ic n0 W0 /\ Rest (wgOf ph) t K ic st /\ zmM P n0 V gs w t K Im ic ph st:=by
 cases ph with
 | none => exact ⟨h.is,h.core,h.rest,h.phase⟩
 | some p => exact ⟨h.is,h.core,h.rest,h.phase⟩
theorem zjt {y : Goroutine} (hy : y.status = .blocked -> y.offers = none) : (y.again w').status = .blocked -> (y.again w').offers = none:=by
 obtain ⟨f,cs,s,d,o⟩:=y;unfold Goroutine.again;cases s <;> cases o <;> simp_all
theorem zjs {g g' y : Goroutine} (hy : y.status = .blocked -> y.offers = none) (hb : (woken P g g' w' y).status = .blocked) : (woken P g g' w' y).offers = none:=by
 unfold woken at hb ⊢;split
 ·rename_i hh; rw [if_pos hh] at hb; exact zjt hy hb
 ·rename_i hh; rw [if_neg hh] at hb; exact hy hb
theorem Inv.nextMu (h : Inv P n0 W0 V gs w t K Im ic ph st) {i : Nat} {gi gi' : Goroutine} {es : Array Event} {k' : GS} (hi : 0 < i) (hgi : gs[i]? = some gi) (hst : stepG P false gi w = .go gi' w' es)
  (hk : IsPh P Im ph k' (deafBehind (Deaf t i) es) gi') (hcalm : gi'.status = .blocked -> gi'.offers = none) (hopen : ∀ p,ph = some p -> (∃ n,w'.heap[p.c]? = some (.chan 0 #[] false n n false)) \/ (∀ j,0 < j -> j < gs.size -> j ≠ i -> (K j).idx = none))
  (hcore : Core (VVof V Im (upd K i k')) gs.size w' (t ++ MemOp.ofEvents i gi.frame.fn gi.frame.place es) (shOf ph) (zmC ph gs.size ic (upd K i k')) ic n0 W0)
  (hrest : Rest (wgOf ph) (t ++ MemOp.ofEvents i gi.frame.fn gi.frame.place es) (upd K i k') ic st')
  (hphase : zmM P n0 V ((gs.map (woken P gi gi' w')).setIfInBounds i gi') w' (t ++ MemOp.ofEvents i gi.frame.fn gi.frame.place es) (upd K i k') Im ic ph st')
  (hmu : MuLt gs.size ((fun j => (upd K i k' j).rank),flag ((gs.map (woken P gi gi' w')).setIfInBounds i gi') ic) ((fun j => (K j).rank),flag gs ic))
  (hmain : ∀ g c,(∀ p,ph = some p -> p.c = c) -> zoG gs ((gs.map (woken P gi gi' w')).setIfInBounds i gi') w w' g c) : Went P n0 W0 V gs w sl t K Im ic ph st i:=by
 have hlt : i < gs.size:=(Array.getElem?_eq_some_iff.1 hgi).1;have hi0 : (i == 0) = false:=by simp; omega
 have hsz : ((gs.map (woken P gi gi' w')).setIfInBounds i gi').size = gs.size:=by simp
 have hso : ∀ op ∈ MemOp.ofEvents i gi.frame.fn gi.frame.place es,op.g = i:=fun op hop => by obtain ⟨e,_,rfl⟩:=Conc.mem_ofEvents hop; rfl
 refine ⟨_,w',_,upd K i k',st',runT_crowd_go (P:=P) (sl:=sl) hgi (by rw [hi0]; exact hst),hsz,?_,hmain,?_,hmu⟩
 rotate_left
 ·intro g c _ hc j x hj hx hb;rcases getElem?_next hlt hx with ⟨_,rfl⟩ | ⟨_,y,hy,rfl⟩
  ·exact hcalm hb
  ·exact zjs (hc j y hj hy) hb
 refine Inv.mk' (by rw [hsz]; exact h.pos) (by rw [zal _ _ (by omega)]; exact h.k0) ?_ (fun j x hj hx => ?_) (by rw [hsz]; exact hcore) hrest hphase
 ·rw [Deaf_other t (g:=0) (g':=i) (by omega) _ hso]; exact h.d0
 ·rcases getElem?_next hlt hx with ⟨rfl,rfl⟩ | ⟨hji,y,hy,rfl⟩
  ·rw [zar,Deaf_own]; exact hk
  ·rw [zal _ _ hji,Deaf_other t (g:=j) (g':=i) (Ne.symm hji) _ hso];have hyk:=h.out.1 j y hj hy;have hjlt : j < gs.size:=(Array.getElem?_eq_some_iff.1 hy).1;cases ph with
   | none =>
    obtain ⟨q,hq,hy'⟩:=hyk;exact ⟨q,hq,by rw [woken_quitsD hy']; exact hy'⟩
   | some p =>
    refine zih ?_ hyk;rcases hopen p rfl with x | x
    ·exact .inl x
    ·exact .inr (x j hj hjlt hji)
theorem Inv.next (h : Inv P n0 W0 V gs w t K Im ic ph st) {i : Nat} {gi gi' : Goroutine} {es : Array Event} {k' : GS} (hi : 0 < i) (hgi : gs[i]? = some gi) (hst : stepG P false gi w = .go gi' w' es)
  (hk : IsPh P Im ph k' (deafBehind (Deaf t i) es) gi') (hcalm : gi'.status = .blocked -> gi'.offers = none) (hopen : ∀ p,ph = some p -> (∃ n,w'.heap[p.c]? = some (.chan 0 #[] false n n false)) \/ (∀ j,0 < j -> j < gs.size -> j ≠ i -> (K j).idx = none))
  (hcore : Core (VVof V Im (upd K i k')) gs.size w' (t ++ MemOp.ofEvents i gi.frame.fn gi.frame.place es) (shOf ph) (zmC ph gs.size ic (upd K i k')) ic n0 W0)
  (hrest : Rest (wgOf ph) (t ++ MemOp.ofEvents i gi.frame.fn gi.frame.place es) (upd K i k') ic st')
  (hphase : zmM P n0 V ((gs.map (woken P gi gi' w')).setIfInBounds i gi') w' (t ++ MemOp.ofEvents i gi.frame.fn gi.frame.place es) (upd K i k') Im ic ph st')
  (hrank : zmp k'.rank (K i).rank)
  (hmain : ∀ g c,(∀ p,ph = some p -> p.c = c) -> zoG gs ((gs.map (woken P gi gi' w')).setIfInBounds i gi') w w' g c) : Went P n0 W0 V gs w sl t K Im ic ph st i :=
 h.nextMu hi hgi hst hk hcalm hopen hcore hrest hphase (.inl ⟨i,(Array.getElem?_eq_some_iff.1 hgi).1,by simpa only [zar] using hrank,fun j hj => by show (upd K i k' j).rank = (K j).rank; rw [zal _ _ hj]⟩) hmain
theorem zi7 {B : Nat} {e : Event} (h : e.mute = true) : (MemAct.ofEvent e).touch? = none /\ (MemAct.ofEvent e).low B /\ ∀ a,MemAct.ofEvent e ≠ .mark (.release a):=by
 refine ⟨touch_mute h,low_mute h B,fun a => ?_⟩;obtain ⟨l,wr,sy⟩:=e;cases l with
 | mark m => cases m <;> cases wr <;> cases sy <;> simp_all [MemAct.ofEvent,Event.mute]
 | _ => simp [Event.mute] at h
theorem Mode.keep {c Wg N : Nat} {gs' : Array Goroutine} {u : Trace} {K' : Nat -> GS} {s : Stage} (h : Mode P c Wg N w gs t K ic s) (hs : ∀ j,(K' j).shape = (K j).shape) (hc : w'.heap[c]? = w.heap[c]?) (hW : w'.heap[Wg]? = w.heap[Wg]?)
  (hr : (∀ g,gs[ic]? = some g -> g.status = .running) -> ∀ g,gs'[ic]? = some g -> g.status = .running) : Mode P c Wg N w' gs' (t ++ u) K' ic s:=by
 have e1 : sumTo N (fun i => (K' i).cnt) = sumTo N fun i => (K i).cnt:=sumTo_congr fun i _ => by rw [<- GS.cnt_shape,hs i,GS.cnt_shape]
 have e2 : sumTo N (fun i => (K' i).late) = sumTo N fun i => (K i).late:=sumTo_congr fun i _ => by rw [<- GS.late_shape,hs i,GS.late_shape]
 have e3 : ∀ st sm,WgAt P Wg w' st sm = WgAt P Wg w st sm:=fun st sm => by unfold WgAt; rw [hW]
 unfold Mode at h ⊢;simp only [e1,e2,e3,hs,hc];rcases h with h | h | h | h | h | h | h
 ·exact .inl h
 ·exact .inr (.inl h)
 ·exact .inr (.inr (.inl h))
 ·exact .inr (.inr (.inr (.inl ⟨h.1,h.2.1,h.2.2.1,h.2.2.2.1,h.2.2.2.2.1,hr h.2.2.2.2.2.1,h.2.2.2.2.2.2⟩)))
 ·exact .inr (.inr (.inr (.inr (.inl h))))
 ·exact .inr (.inr (.inr (.inr (.inr (.inl h)))))
 ·obtain ⟨⟨p,n,a,b,c',d⟩,e⟩:=h;exact .inr (.inr (.inr (.inr (.inr (.inr ⟨⟨p,n,a,by rw [act?_old (lt_of_act? b)]; exact b,(heard_old (lt_of_act? b)).2 c',d⟩,e⟩)))))
theorem zdZ {i : Nat} {gi gi' : Goroutine} (hlt : i < gs.size) (hg : gi'.status = .running) (h : ∀ g,gs[ic]? = some g -> g.status = .running) : ∀ g,((gs.map (woken P gi gi' w')).setIfInBounds i gi')[ic]? = some g -> g.status = .running:=by
 intro g hg';rcases getElem?_next hlt hg' with ⟨_,rfl⟩ | ⟨_,y,hy,rfl⟩
 ·exact hg
 ·rw [woken_run (h y hy)]; exact h y hy
theorem GS.idx_none {k : GS} (h : k.cnt = 0) : k.idx = none:=by
 cases k <;> first | rfl | (simp [GS.cnt] at h)
theorem Inv.opens (h : Inv P n0 W0 V gs w t K Im ic ph st) {p : Phase} (hp : ph = some p) : (∃ n,w.heap[p.c]? = some (.chan 0 #[] false n n false)) \/ ((∀ j,0 < j -> j < gs.size -> (K j).idx = none) /\ (∃ n,w.heap[p.c]? = some (.chan 0 #[] true n n false)) /\ p.recv = true):=by
 subst hp;obtain ⟨_,hc,_,hph⟩:=h.out;obtain ⟨_,_,_,_,_,_,_,_,_,hx⟩:=hph;by_cases hr : p.recv = true
 ·rw [if_pos hr] at hx;obtain ⟨_,_,_,s,_,hm⟩:=hx;rcases hm with h | h | h | h | h | h | h
  ·exact .inl h.1
  ·exact .inl h.1
  ·exact .inl h.1
  ·exact .inl h.1
  ·exact .inl h.1
  ·exact .inl h.1
  ·obtain ⟨⟨_,n,_,_,_,hn⟩,_,hcn,_⟩:=h;refine .inr ⟨fun j hj hjs => ?_,⟨n,hn⟩,hr⟩;have hle : (K j).cnt <= sumTo gs.size fun i => (K i).cnt:=le_sumTo (f:=fun i => (K i).cnt) hjs;exact GS.idx_none (by omega)
 ·rw [if_neg hr] at hx;have:=(hc.sat 0 h.pos).own p.c _ (by simp only [VVof,if_true]; exact hx.1);exact .inl ⟨0,this⟩
theorem Inv.slip (h : Inv P n0 W0 V gs w t K Im ic ph st) {i : Nat} {gi gi' : Goroutine} {es : Array Event} {k' : GS} (hi : 0 < i) (hgi : gs[i]? = some gi) (hst : stepG P false gi w = .go gi' w es) (hmu : ∀ e ∈ es,e.mute = true)
  (hk : IsPh P Im ph k' (deafBehind (Deaf t i) es) gi') (hcalm : gi'.status = .blocked -> gi'.offers = none) (hsh : k'.shape = (K i).shape) (hview : k'.view Im = (K i).view Im) (hrun : (K i).shape = .csem 0 \/ (K i).shape = .said 0 -> gi'.status = .running) (hrank : zmp k'.rank (K i).rank) : Went P n0 W0 V gs w sl t K Im ic ph st i:=by
 have hlt : i < gs.size:=(Array.getElem?_eq_some_iff.1 hgi).1;obtain ⟨_,hc,hr,hp⟩:=h.out;have hidx : ∀ j,((upd K i k') j).idx = (K j).idx:=fun j => by
  by_cases hj : j = i
  ·subst hj; rw [zar,<- GS.idx_shape,hsh,GS.idx_shape]
  ·rw [zal _ _ hj]
 have hshape : ∀ j,((upd K i k') j).shape = (K j).shape:=fun j => by
  by_cases hj : j = i
  ·subst hj; rw [zar,hsh]
  ·rw [zal _ _ hj]
 have hviews : ∀ j,((upd K i k') j).view Im = (K j).view Im:=fun j => by
  by_cases hj : j = i
  ·subst hj; rw [zar,hview]
  ·rw [zal _ _ hj]
 have hcnt : ∀ j,((upd K i k') j).cnt = (K j).cnt:=fun j => by rw [<- GS.cnt_shape,hshape,GS.cnt_shape]
 have hlate : ∀ j,((upd K i k') j).late = (K j).late:=fun j => by rw [<- GS.late_shape,hshape,GS.late_shape]
 refine h.next (st':=st) hi hgi hst hk hcalm (fun p hp' => (h.opens hp').imp id fun x j a b _ => x.1 j a b) ?_ ?_ ?_ hrank ?_
 ·refine ((hc.quiet hlt (fun e he => zi7 (hmu e he)) gi.frame.fn gi.frame.place).congr fun j hj => ?_).act_mono fun j hj => ?_
  ·simp only [VVof,hviews]
  ·cases ph with
   | none => exact hj
   | some p => simpa only [zmC,zlP,hidx,hcnt,hlate] using hj
 ·cases st with
  | none =>
   intro idx a ha hm;have ha':=zbn (fun op hop => by obtain ⟨e,he,rfl⟩:=Conc.mem_ofEvents hop; exact touch_mute (hmu e he)) ha;obtain ⟨op,hop,_⟩:=touch_of ha';rcases hr idx a ha' hm with x | ⟨x,y⟩ | ⟨_,z,_⟩
   ·exact .inl (x.app _)
   ·exact .inr (.inl ⟨x,fun z => y ((heard_old (lt_size_of_getElem? hop)).1 z)⟩)
   ·cases z
  | some s =>
   refine hr.app (fun idx a ha hx => .inr (hx.app (by obtain ⟨op,hop,_⟩:=touch_of ha; exact lt_size_of_getElem? hop) fun j _ _ hj => .inl (by rw [hidx]; exact hj))) (fun idx a _ ⟨op,hop,_,hx⟩ _ => ?_);obtain ⟨e,he,rfl⟩:=Conc.mem_ofEvents hop;rw [touch_mute (hmu e he)] at hx;cases hx
 ·cases ph with
  | none => exact hp
  | some p =>
   obtain ⟨a1,a2,a3,a4,a5,a6,a7,a8,a9,a10⟩:=hp;refine ⟨a1,a2,a3,a4,a5,a6,fun j hj => by rw [hviews,<- GS.closer_shape,hshape,GS.closer_shape]; exact a7 j hj,fun j j' m b1 b2 b3 b4 b5 b6 => a8 j j' m b1 (by simpa using b2) b3 (by simpa using b4) (by rw [<- hidx]; exact b5) (by rw [<- hidx]; exact b6),fun j S b1 b2 => ?_,?_⟩
   ·obtain ⟨m,c1,c2,c3⟩:=a9 j S b1 b2;exact ⟨m,c1,by simpa using c2,by rw [hidx]; exact c3⟩
   ·split
    ·rename_i hrv;rw [if_pos hrv] at a10;obtain ⟨c1,c2,c3,s,c4,c5⟩:=a10;refine ⟨c1,c2,by simpa using c3,s,c4,?_⟩;have hsz : ((gs.map (woken P gi gi' w)).setIfInBounds i gi').size = gs.size:=(by simp);rw [hsz];by_cases hic : i = ic /\ gi'.status ≠ .running
     ·
      obtain ⟨rfl,hnr⟩:=hic;unfold Mode at c5 ⊢;have e1 : sumTo gs.size (fun j => ((upd K i k') j).cnt) = sumTo gs.size fun j => (K j).cnt:=sumTo_congr fun j _ => hcnt j;have e2 : sumTo gs.size (fun j => ((upd K i k') j).late) = sumTo gs.size fun j => (K j).late:=sumTo_congr fun j _ => hlate j;simp only [e1,e2,hshape];rcases c5 with h | h | h | h | h | h | h
      ·exact .inl h
      ·exact .inr (.inl h)
      ·exact .inr (.inr (.inl h))
      ·exact absurd (hrun h.2.2.2.2.2.2.symm) hnr
      ·exact .inr (.inr (.inr (.inr (.inl h))))
      ·exact .inr (.inr (.inr (.inr (.inr (.inl h)))))
      ·obtain ⟨⟨p,n,a,b,c',d⟩,e⟩:=h;exact .inr (.inr (.inr (.inr (.inr (.inr ⟨⟨p,n,a,by rw [act?_old (lt_of_act? b)]; exact b,(heard_old (lt_of_act? b)).2 c',d⟩,e⟩)))))
     ·refine c5.keep hshape rfl rfl fun hrr g hg => ?_;rcases getElem?_next hlt hg with ⟨rfl,rfl⟩ | ⟨_,y,hy,rfl⟩
      ·exact Classical.byContradiction fun x => hic ⟨rfl,x⟩
      ·rw [woken_run (hrr y hy)]; exact hrr y hy
    ·rename_i hrv;rw [if_neg hrv] at a10;refine ⟨a10.1,a10.2.1,a10.2.2.1,fun j b1 b2 => ?_,a10.2.2.2.2.1,?_⟩
     rotate_left
     ·rw [show ((gs.map (woken P gi gi' w)).setIfInBounds i gi').size = gs.size by simp,sumTo_congr fun j _ => hcnt j]; exact a10.2.2.2.2.2
     rcases a10.2.2.2.1 j b1 (by simpa using b2) with x | ⟨q,x⟩
     ·exact .inl (by rw [hidx]; exact x)
     ·by_cases hj : j = i
      ·subst hj;rw [zar];rw [x] at hsh;cases k' <;> simp [GS.shape] at hsh;exact .inr ⟨_,rfl⟩
      ·rw [zal _ _ hj]; exact .inr ⟨q,x⟩
 ·intro g c _;exact ⟨zdL hi,fun hpk ho => .inr ⟨zdI hi hpk ho,ho⟩⟩
end
open Go.Conc Go.ConcN
section
variable {P : Program} {n0 : Nat} {W0 : World} {V : View} {gs : Array Goroutine} {w w' : World} {sl : Option (Nat × Nat)} {t : Trace} {K : Nat -> GS} {Im : Imm} {ic : Nat} {p : Phase} {st st' : Option Stage}
def Blind (p : Phase) (U : View) : Prop:=U.own p.c = none /\ (∀ o,U.imm p.c o = none) /\ U.own p.Wg = none /\ (∀ o,U.imm p.Wg o = none)
theorem Blind.step {U U' : View} {es : Array Event} (b : Blind p U) (s : StepOk U w U' w' es) (hc : p.c < w.heap.size) (hW : p.Wg < w.heap.size) : Blind p U':=by
 have key : ∀ b,b < w.heap.size -> U.own b = none -> (∀ o,U.imm b o = none) -> U'.own b = none /\ ∀ o,U'.imm b o = none:=by
  intro b hb ho hi;refine ⟨s.own b hb ho,fun o => ?_⟩;cases e : U'.imm b o with
  | none => rfl
  | some v =>
   rcases s.immNew b o v e with x | x | x
   ·rw [hi o] at x; cases x
   ·exact absurd ho x
   ·omega
 have k1:=key p.c hc b.1 b.2.1;have k2:=key p.Wg hW b.2.2.1 b.2.2.2;exact ⟨k1.1,k1.2,k2.1,k2.2⟩
theorem Blind.not_sh {U : View} (b : Blind p U) {l : Loc} (h : RdV U l) : ¬ ShP p.c p.Wg l:=by
 intro hs;cases l with
 | cell a =>
  have e : a.block = p.Wg:=hs;rcases h with h | h
  ·exact h (by rw [e]; exact b.2.2.1)
  ·exact h (by rw [e]; exact b.2.2.2 _)
 | obj r => have e : r = p.c:=hs; exact h (by rw [e]; exact b.1)
 | _ => exact hs
theorem Blind.ghost {U U' : View} (b : Blind p U) (g : Ghost U U') : Blind p U':=by
 have key : ∀ b,U.own b = none -> (∀ o,U.imm b o = none) -> U'.own b = none /\ ∀ o,U'.imm b o = none:=by
  intro b ho hi;refine ⟨g.own b ho,fun o => ?_⟩;cases e : U'.imm b o with
  | none => rfl
  | some v =>
   rcases g.immNew b o v e with x | x
   ·rw [hi o] at x; cases x
   ·exact absurd ho x
 have k1:=key p.c b.1 b.2.1;have k2:=key p.Wg b.2.2.1 b.2.2.2;exact ⟨k1.1,k1.2,k2.1,k2.2⟩
theorem blind_noView : Blind p zlA:=⟨rfl,fun _ => rfl,rfl,fun _ => rfl⟩
theorem Inv.blind (h : Inv P n0 W0 V gs w t K Im ic (some p) st) {i : Nat} (hi : 0 < i) : Blind p ((K i).view Im):=let x:=h.phase.2.2.2.2.2.2.1 i hi; ⟨x.1,x.2.1,x.2.2.1,x.2.2.2.1⟩
theorem Inv.theCloser (h : Inv P n0 W0 V gs w t K Im ic (some p) st) {i : Nat} (hi : 0 < i) (hc : (K i).closer = true) : i = ic:=(h.phase.2.2.2.2.2.2.1 i hi).2.2.2.2 hc
theorem Inv.low (h : Inv P n0 W0 V gs w t K Im ic (some p) st) : p.c < w.heap.size /\ p.Wg < w.heap.size:=⟨h.phase.2.2.2.1,h.phase.2.2.2.2.1⟩
theorem zqw (hc : p.c < w.heap.size) (hW : p.Wg < w.heap.size) {l : Loc} (h : ShP p.c p.Wg l) : l.low w.heap.size:=by
 cases l with
 | cell a => show a.block < _; rw [show a.block = p.Wg from h]; exact hW
 | obj r => show r < _; rw [show r = p.c from h]; exact hc
 | _ => exact h.elim
theorem Inv.countedW (h : Inv P n0 W0 V gs w t K Im ic (some p) st) (hr : p.recv = true) {i : Nat} (hlt : i < gs.size) (hk : (K i).cnt = 1) : ∃ s,WgAt P p.Wg w s 0:=by
 obtain ⟨_,_,_,_,_,_,_,_,_,hx⟩:=h.phase;rw [if_pos hr] at hx;obtain ⟨_,_,_,s,hs,hm⟩:=hx;have hle : (K i).cnt <= sumTo gs.size fun i => (K i).cnt:=le_sumTo (f:=fun i => (K i).cnt) hlt;rcases hm with h | h | h | h | h | h | h
 ·exact ⟨_,h.2.2.2.2.1⟩
 ·exact ⟨_,h.2.2.2.2.2.1⟩
 ·have:=h.2.2.2.1; omega
 ·have:=h.2.2.2.1; omega
 ·have:=h.2.2.2.1; omega
 ·have:=h.2.2.2.1; omega
 ·have:=h.2.2.1; omega
theorem Inv.acqW (h : Inv P n0 W0 V gs w t K Im ic (some p) st) (hr : p.recv = true) {n : Nat} (hk : K ic = .acq n \/ K ic = .said n) : ∃ x y,WgAt P p.Wg w x y:=by
 obtain ⟨_,_,_,_,_,_,_,_,_,hx⟩:=h.phase;rw [if_pos hr] at hx;obtain ⟨_,_,_,s,hs,hm⟩:=hx;unfold Mode at hm;rcases hm with h | h | h | h | h | h | h
 ·exact ⟨_,_,h.2.2.2.2.1⟩
 ·exact ⟨_,_,h.2.2.2.2.2.1⟩
 ·have key : ∀ N,0 < (sumTo N fun i => (K i).late) -> ∃ i,i < N /\ (K i).late ≠ 0:=by
   intro N;induction N with
   | zero => intro h; exact absurd h (by simp [sumTo])
   | succ N ih =>
    intro h;by_cases h0 : (K N).late = 0
    ·simp only [sumTo,h0] at h;obtain ⟨i,hi,hl⟩:=ih (by omega);exact ⟨i,by omega,hl⟩
    ·exact ⟨N,by omega,h0⟩
  have:=key gs.size (by have:=h.2.2.1; omega);obtain ⟨i,hi,hl⟩:=this;cases hKi : K i <;> rw [hKi] at hl <;> first
   | exact ⟨_,_,h.2.2.2.2.2.1 i hi (by rw [hKi]; exact .inl rfl)⟩
   | exact ⟨_,_,h.2.2.2.2.2.1 i hi (by rw [hKi]; exact .inr rfl)⟩
   | exact ⟨_,_,h.2.2.2.2.2.2 i hi (by rw [hKi]; rfl)⟩
   | exact absurd rfl hl
 ·exact ⟨_,_,h.2.2.2.2.1⟩
 ·exact ⟨_,_,h.2.2.2.2.1⟩
 ·exfalso;rcases hk with hk | hk <;> rw [hk] at h <;> rcases h.2.2.2.2 with h | h <;> cases h
 ·exfalso;rcases hk with hk | hk <;> rw [hk] at h <;> cases h.2.2.2
theorem Inv.counted (h : Inv P n0 W0 V gs w t K Im ic (some p) st) {i : Nat} (_hi : 0 < i) (hlt : i < gs.size) (hk : (K i).cnt = 1) : (∃ n,w.heap[p.c]? = some (.chan 0 #[] false n n false)) /\ st = some .early:=by
 have hph:=h.phase;obtain ⟨_,_,_,_,_,_,_,_,_,hx⟩:=hph;by_cases hr : p.recv = true
 ·rw [if_pos hr] at hx;obtain ⟨_,_,_,s,hs,hm⟩:=hx;have hle : (K i).cnt <= sumTo gs.size fun i => (K i).cnt:=le_sumTo (f:=fun i => (K i).cnt) hlt;rcases hm with h | h | h | h | h | h | h
  ·exact ⟨h.1,by rw [hs,h.2.1]⟩
  ·exact ⟨h.1,by rw [hs,h.2.1]⟩
  ·exact ⟨h.1,by rw [hs,h.2.1]⟩
  ·exact ⟨h.1,by rw [hs,h.2.1]⟩
  ·exact ⟨h.1,by rw [hs,h.2.1]⟩
  ·have:=h.2.2.2.1; omega
  ·have:=h.2.2.1; omega
 ·rw [if_neg hr] at hx;have:=(h.core.sat 0 h.pos).own p.c _ (by simp only [VVof,if_true]; exact hx.1);exact ⟨⟨0,this⟩,hx.2.2.1⟩
theorem Inv.phase_upd (h : Inv P n0 W0 V gs w t K Im ic (some p) st) {i : Nat} {k' : GS} {gs' : Array Goroutine} {t' : Trace} (hsz : gs'.size = gs.size) (hhs : w.heap.size <= w'.heap.size) (hb : Blind p (k'.view Im)) (hclo : k'.closer = true -> i = ic)
  (hidx : k'.idx = (K i).idx \/ (k'.idx = none /\ ∀ j,(K i).idx = some j -> p.Ss[j]? = some []))
  (hfin : if p.recv then ∃ s,st' = some s /\ Mode P p.c p.Wg gs.size w' gs' t' (upd K i k') ic s
    else st' = some .early /\ k'.idx.isSome = true /\ k'.cnt = (K i).cnt) : zmM P n0 V gs' w' t' (upd K i k') Im ic (some p) st':=by
 obtain ⟨a1,a2,a3,a4,a5,a6,a7,a8,a9,a10⟩:=h.phase;have hix : ∀ j m,((upd K i k') j).idx = some m -> (K j).idx = some m:=by
  intro j m hj;by_cases hji : j = i
  ·subst hji;rw [zar] at hj;rcases hidx with x | ⟨x,_⟩
   ·rw [<- x]; exact hj
   ·rw [x] at hj; cases hj
  ·rw [zal _ _ hji] at hj; exact hj
 refine ⟨a1,a2,a3,Nat.lt_of_lt_of_le a4 hhs,Nat.lt_of_lt_of_le a5 hhs,a6,fun j hj => ?_,fun j j' m b1 b2 b3 b4 b5 b6 => a8 j j' m b1 (hsz ▸ b2) b3 (hsz ▸ b4) (hix _ _ b5) (hix _ _ b6),fun j S b1 b2 => ?_,?_⟩
 ·by_cases hji : j = i
  ·subst hji; rw [zar]; exact ⟨hb.1,hb.2.1,hb.2.2.1,hb.2.2.2,hclo⟩
  ·rw [zal _ _ hji]; exact a7 j hj
 ·obtain ⟨m,c1,c2,c3⟩:=a9 j S b1 b2;refine ⟨m,c1,by rw [hsz]; exact c2,?_⟩;by_cases hmi : m = i
  ·subst hmi;rw [zar];rcases hidx with x | ⟨_,x⟩
   ·rw [x]; exact c3
   ·have:=x j c3;rw [this] at b1; cases b1; exact absurd rfl b2
  ·rw [zal _ _ hmi]; exact c3
 ·split
  ·rename_i hrv;rw [if_pos hrv] at a10 hfin;obtain ⟨c1,c2,c3,_⟩:=a10;exact ⟨c1,c2,by rw [hsz]; exact c3,by rw [hsz]; exact hfin⟩
  ·rename_i hrv;rw [if_neg hrv] at a10 hfin;obtain ⟨c1,c2,_,c4,c5⟩:=a10;refine ⟨c1,c2,hfin.1,fun j b1 b2 => ?_,c5.1,by rw [hsz,zaO K k' GS.cnt hfin.2.2]; exact c5.2⟩;by_cases hji : j = i
   ·subst hji; rw [zar]; exact .inl hfin.2.1
   ·rw [zal _ _ hji]; exact c4 j b1 (hsz ▸ b2)
theorem Inv.workStep (h : Inv P n0 W0 V gs w t K Im ic (some p) st) {i j : Nat} {gi gi' : Goroutine} {es : Array Event} {hh h' : Ht} {Vi V' : View} (hi : 0 < i) (hgi : gs[i]? = some gi) (hK : K i = .work j hh Vi) (hst : stepG P false gi w = .go gi' w' es)
  (s : StepOk Vi w V' w' es) (hk : WkJ P h' V' gi') (hlt' : HtLt h' hh) : Went P n0 W0 V gs w sl t K Im ic (some p) st i:=by
 have hlt : i < gs.size:=(Array.getElem?_eq_some_iff.1 hgi).1;have his:=h.is i gi hi hgi;simp only [hK,GS.is] at his;obtain ⟨hd,_,S,hS,hrole⟩:=his;have hcn : (K i).cnt = 1:=by rw [hK]; rfl
 obtain ⟨⟨n,hopen⟩,hst0⟩:=h.counted hi hlt hcn;have hlow:=h.low;have hbl : Blind p Vi:=by have:=h.blind hi; rw [hK] at this; exact this
 have hbl':=hbl.step s hlow.1 hlow.2;have hview : VVof V Im K i = Vi:=by simp [VVof,hK,GS.view]; omega
 have hch : w'.heap[p.c]? = w.heap[p.c]?:=s.frame p.c hlow.1 hbl.1;have hWh : w'.heap[p.Wg]? = w.heap[p.Wg]?:=s.frame p.Wg hlow.2 hbl.2.2.1;have hshape : ∀ m,((upd K i (.work j h' V')) m).shape = (K m).shape:=fun m => by
  by_cases hm : m = i
  ·subst hm; rw [zar,hK]; rfl
  ·rw [zal _ _ hm]
 have hidx : ∀ m,((upd K i (.work j h' V')) m).idx = (K m).idx:=fun m => by rw [<- GS.idx_shape,hshape,GS.idx_shape]
 have hcnt : ∀ m,((upd K i (.work j h' V')) m).cnt = (K m).cnt:=fun m => by rw [<- GS.cnt_shape,hshape,GS.cnt_shape]
 have hlate : ∀ m,((upd K i (.work j h' V')) m).late = (K m).late:=fun m => by rw [<- GS.late_shape,hshape,GS.late_shape]
 have hro : V'.role = Vi.role:=s.role;refine h.next (k':=.work j h' V') (st':=st) hi hgi hst ⟨by rw [hd,s.deaf],hk,S,hS,hro.trans hrole⟩ (fun x => by rw [hk.running] at x; cases x) (fun q hq => by cases hq; exact .inl ⟨n,by rw [hch]; exact hopen⟩) ?_ ?_ ?_ ?_ ?_
 ·rw [zjQ V Im K hi];refine (Core.step (V':=V') h.core hlt (by rw [hview]; exact s) (fun e he x hx hs => ?_) gi.frame.fn gi.frame.place).act_mono fun m hm => ?_
  ·exfalso;rcases (zfP (s.evs e he) hx).1 with y | ⟨y,_⟩ | y
   ·exact hbl.not_sh y.rd hs
   ·exact hbl.not_sh y hs
   ·exact y (zqw hlow.1 hlow.2 hs)
  ·simpa only [zmC,zlP,hidx,hcnt,hlate] using hm
 ·rw [hst0];have hr : Rest (wgOf (some p)) t K ic st:=h.out.2.2.1;rw [hst0] at hr;refine hr.app (fun idx a ha hx => .inr (hx.app (by obtain ⟨op,hop,_⟩:=touch_of ha; exact lt_size_of_getElem? hop) fun m _ _ hm => .inl (by rw [hidx]; exact hm))) (fun idx a _ ⟨op,hop,hidx',_⟩ _ => .inr (.inr ⟨i,?_,hi,.inl ?_⟩))
  ·obtain ⟨e,_,rfl⟩:=Conc.mem_ofEvents hop;simp [Trace.g?,hidx']
  ·rw [zar]; rfl
 ·refine h.phase_upd (by simp) s.size hbl' (fun x => by cases x) (.inl (by rw [hK]; rfl)) ?_;have hx:=h.phase.2.2.2.2.2.2.2.2.2;split
  ·rename_i hrv;rw [if_pos hrv] at hx;obtain ⟨_,_,_,s',hs',hm⟩:=hx;exact ⟨s',hs',hm.keep hshape hch hWh fun hrr => zdZ hlt hk.running hrr⟩
  ·exact ⟨hst0,rfl,by rw [hK]; rfl⟩
 ·rw [hK];refine .inr ⟨by simp [GS.rank,hro],.inl hlt'⟩
 ·intro g c hcp;have ho : Opn w' c:=⟨n,by rw [<- hcp p rfl,hch]; exact hopen⟩;exact ⟨zdL hi,fun hpk _ => .inr ⟨zdI hi hpk ho,ho⟩⟩
end
open Go.Conc Go.ConcN
def zmy (V : View) (I' : Imm) (O' : Own) (r : Role) : View :=
 { V with imm:=fun b o => match V.imm b o with | some x => some x | none => I' b o,own:=fun b => match V.own b with | some x => some x | none => O' b,role:=r }
def zmk (B : Nat -> Bool) (U : View) : Own:=fun b => if B b then U.own b else none
def zmm (B : Nat -> Bool) (U : View) (r : Role) : View:={ U with own:=fun b => if B b then none else U.own b,role:=r }
section
variable {P : Program} {n0 : Nat} {W0 : World} {V : View} {gs gs' : Array Goroutine} {w w' : World} {sl : Option (Nat × Nat)} {t : Trace} {K : Nat -> GS} {Im : Imm} {ic : Nat} {p : Phase} {st : Option Stage}
theorem zcV {k : GS} {d : Nat} {x : Goroutine} (h : k.is P p.c p.Wg Im p.Ss d x) (r : Nat) : offersAt x r false = []:=by
 rcases GS.runs h with hr | ⟨hf,_⟩ | ⟨j,h',V,V',g0,v,z,rfl⟩ | ⟨_,hb,ho⟩
 ·exact offersAt_of_not_blocked (by rw [hr]; simp) r false
 ·exact offersAt_of_not_blocked (by rw [hf]; simp) r false
 ·obtain ⟨_,_,rfl,_⟩:=h;exact offersAt_parked_send' _ _ _ _ _ _
 ·unfold offersAt; simp [hb,ho]
theorem zex {g : Goroutine} (h : MainAt gs g) {x : Goroutine} (hx : gs[0]? = some x) (r : Nat) (s : Bool) : offersAt x r s = []:=by
 obtain ⟨g0,h0,h1,_⟩:=h;rw [h0] at hx; cases hx;exact offersAt_of_not_blocked (by rw [h1]; simp) r s
theorem Inv.workPark (h : Inv P n0 W0 V gs w t K Im ic (some p) st) {g : Goroutine} (hm : MainAt gs g) {i j : Nat} {gi : Goroutine} {hh h' : Ht} {Vi V₁ : View} {sp : Spec} {S : List Spec} {v z : Value} {B : Nat -> Bool} (hi : 0 < i) (hgi : gs[i]? = some gi)
  (hK : K i = .work j hh Vi) (hg : Ghost Vi V₁) (hr : V₁.role = .work p.c p.Wg (sp :: S)) (hd : V₁.deaf = 0) (hst : stepG P false gi w = .comm gi #[scase p.c v z] true .send w #[])
  (hsp : sp v V₁.imm (zmk B V₁)) (hk : WkJ P h' (zmm B V₁ (.work p.c p.Wg S)) (Conc.served gi undef)) : Went P n0 W0 V gs w sl t K Im ic (some p) st i:=by
 have hlt : i < gs.size:=(Array.getElem?_eq_some_iff.1 hgi).1;have his:=h.is i gi hi hgi;simp only [hK,GS.is] at his;obtain ⟨hdf,_,S',hS,hrole⟩:=his;have hcn : (K i).cnt = 1:=by rw [hK]; rfl
 obtain ⟨⟨n,hopen⟩,hst0⟩:=h.counted hi hlt hcn;have hi0 : (i == 0) = false:=by simp; omega
 have er : Role.work p.c p.Wg S' = .work p.c p.Wg (sp :: S):=by rw [<- hrole,<- hg.role,hr]
 cases er;let k' : GS:=.park j h' V₁ (zmm B V₁ (.work p.c p.Wg S)) gi v z;have hw:=crowd_waits (P:=P) (sl:=sl) (i:=i) hgi (by rw [hi0]; exact hst) (fun cc hcc => by
  simp only [List.mem_toArray,List.mem_cons,List.not_mem_nil,or_false] at hcc;subst hcc;refine ways_send_none hopen (by simp) (partners_nil fun m x hx => ?_);rcases getElem?_stand gs i m x hx with ⟨_,rfl⟩ | ⟨_,hx'⟩
  ·exact offersAt_ph _ _
  ·rcases Nat.eq_zero_or_pos m with rfl | hm0
   ·exact zex hm hx' _ _
   ·exact zcV (h.is m x hm0 hx') _)
 have hview : VVof V Im K i = Vi:=by simp [VVof,hK,GS.view]; omega
 have hbl : Blind p Vi:=by have:=h.blind hi; rw [hK] at this; exact this
 have hidx : ∀ m,((upd K i k') m).idx = (K m).idx:=fun m => by
  by_cases hm : m = i
  ·subst hm; rw [zar,hK]; rfl
  ·rw [zal _ _ hm]
 have hshape : ∀ m,((upd K i k') m).shape = (K m).shape:=fun m => by
  by_cases hm : m = i
  ·subst hm; rw [zar,hK]; rfl
  ·rw [zal _ _ hm]
 have hcnt : ∀ m,((upd K i k') m).cnt = (K m).cnt:=fun m => by rw [<- GS.cnt_shape,hshape,GS.cnt_shape]
 have hlate : ∀ m,((upd K i k') m).late = (K m).late:=fun m => by rw [<- GS.late_shape,hshape,GS.late_shape]
 have e0 : t ++ MemOp.ofEvents i gi.frame.fn gi.frame.place #[] = t:=by simp [MemOp.ofEvents]
 have hsz : (gs.setIfInBounds i (parked gi #[scase p.c v z] .send)).size = gs.size:=by simp
 refine ⟨_,w,_,upd K i k',st,hw,hsz,?_,fun g' c _ => ⟨fun ⟨g0,a,b⟩ => ⟨g0,by rw [Array.getElem?_setIfInBounds_ne (by omega)]; exact a,b⟩,fun ⟨g0,z',a,b⟩ ho => .inr ⟨⟨g0,z',by rw [Array.getElem?_setIfInBounds_ne (by omega)]; exact a,b⟩,ho⟩⟩,fun g' c ⟨g1,z',a,_⟩ _ => (by obtain ⟨g0,h0,h1,_⟩:=hm; rw [a] at h0; cases h0; cases h1),
  .inl ⟨i,hlt,?_,fun m hm => by show (upd K i k' m).rank = (K m).rank; rw [zal _ _ hm]⟩⟩
 ·rw [e0];refine Inv.mk' (by rw [hsz]; exact h.pos) (by rw [zal _ _ (by omega)]; exact h.k0) h.d0 (fun m x hm hx => ?_) ?_ ?_ ?_
  ·by_cases hmi : m = i
   ·subst hmi;rw [Array.getElem?_setIfInBounds_self_of_lt hlt] at hx;cases hx;rw [zar];exact ⟨by rw [hdf,<- hg.deaf,hd],hd,rfl,hk,sp,S,B,hS,hr,hsp,rfl⟩
   ·rw [Array.getElem?_setIfInBounds_ne (Ne.symm hmi)] at hx;rw [zal _ _ hmi]; exact h.is m x hm hx
  ·rw [hsz,zjQ V Im K hi];exact (Core.ghost (V':=V₁) h.core hlt (by rw [hview]; exact hg)).act_mono fun m hm => by simpa only [zmC,zlP,hidx,hcnt,hlate] using hm
  ·have hr : Rest (wgOf (some p)) t K ic st:=h.out.2.2.1;rw [hst0] at hr ⊢;have:=hr.app (u:=#[]) (K':=upd K i k') (s':=.early) (fun idx a ha hx => .inr (hx.app (by obtain ⟨op,hop,_⟩:=touch_of ha; exact lt_size_of_getElem? hop) fun m _ _ hm => .inl (by rw [hidx]; exact hm))) (fun idx a _ ⟨op,hop,_⟩ _ => by simp at hop);simpa using this
  ·refine h.phase_upd hsz (Nat.le_refl _) (hbl.ghost hg) (fun x => by cases x) (.inl (by rw [hK]; rfl)) ?_;have hx:=h.phase.2.2.2.2.2.2.2.2.2;split
   ·rename_i hrv;rw [if_pos hrv] at hx;obtain ⟨_,hic0,_,s',hs',hm'⟩:=hx;refine ⟨s',hs',?_⟩;have:=hm'.keep (w':=w) (gs':=gs.setIfInBounds i (parked gi #[scase p.c v z] .send)) (u:=#[]) hshape rfl rfl fun hrr x hx => by
     by_cases hic : ic = i
     ·subst hic;exfalso;unfold Mode at hm';have hne : ∀ s : GS,(K ic).shape = s -> s = .work j .z zlA:=fun s e => (by rw [<- e,hK]; rfl);rcases hm' with h | h | h | h | h | h | h
      ·rcases h.2.2.2.2.2 with ⟨_,e,_⟩ | ⟨_,e,_⟩ <;> cases hne _ e
      ·rcases h.2.2.2.2.2.2 with e | e <;> cases hne _ e
      ·rcases h.2.2.2.2.1 with e | e <;> cases hne _ e
      ·rcases h.2.2.2.2.2.2 with e | e <;> cases hne _ e
      ·rcases h.2.2.2.2.2 with e | e <;> cases hne _ e
      ·rcases h.2.2.2.2 with e | e <;> cases hne _ e
      ·cases hne _ h.2.2.2
     ·rw [Array.getElem?_setIfInBounds_ne (Ne.symm hic)] at hx;exact hrr x hx
    simpa using this
   ·exact ⟨hst0,rfl,by rw [hK]; rfl⟩
 ·show zmp (upd K i k' i).rank (K i).rank;rw [hK];refine .inl ?_;simp only [zar,k',GS.rank,hr,hrole];omega
theorem Mode.keepOpen {c Wg N : Nat} {u : Trace} {K' : Nat -> GS} {s : Stage} (h : Mode P c Wg N w gs t K ic s) (hcn : 1 <= sumTo N fun i => (K i).cnt) (hs : ∀ j,(K' j).shape = (K j).shape) (ho : ∃ n,w'.heap[c]? = some (.chan 0 #[] false n n false)) (hW : w'.heap[Wg]? = w.heap[Wg]?) : Mode P c Wg N w' gs' (t ++ u) K' ic s:=by
 have e1 : sumTo N (fun i => (K' i).cnt) = sumTo N fun i => (K i).cnt:=sumTo_congr fun i _ => by rw [<- GS.cnt_shape,hs i,GS.cnt_shape]
 have e2 : sumTo N (fun i => (K' i).late) = sumTo N fun i => (K i).late:=sumTo_congr fun i _ => by rw [<- GS.late_shape,hs i,GS.late_shape]
 have e3 : ∀ st sm,WgAt P Wg w' st sm = WgAt P Wg w st sm:=fun st sm => by unfold WgAt; rw [hW]
 unfold Mode at h ⊢;simp only [e1,e2,e3,hs];rcases h with h | h | h | h | h | h | h
 ·exact .inl ⟨ho,h.2⟩
 ·exact .inr (.inl ⟨ho,h.2⟩)
 ·have:=h.2.2.2.1; omega
 ·have:=h.2.2.2.1; omega
 ·have:=h.2.2.2.1; omega
 ·have:=h.2.2.2.1; omega
 ·have:=h.2.2.1; omega
theorem Inv.met (h : Inv P n0 W0 V gs w t K Im ic (some p) st) (hrv : p.recv = true) (hV0 : V.deaf = 0) {i j : Nat} {h' : Ht} {V₁ : View} {gi : Goroutine} {sp : Spec} {S : List Spec} {B : Nat -> Bool} (hi : 0 < i) (hlt : i < gs.size)
  (hidxi : (K i).idx = some j) (hg : Ghost ((K i).view Im) V₁) (hr : V₁.role = .work p.c p.Wg (sp :: S)) (hd : V₁.deaf = 0) (hdi : Deaf t i = 0) (hS : p.Ss[j]? = some (sp :: S))
  (hk : WkJ P h' (zmm B V₁ (.work p.c p.Wg S)) (Conc.served gi undef)) (hsz : gs'.size = gs.size) (hgi : gs'[i]? = some (Conc.served gi undef)) (hgo : ∀ m,m ≠ i -> 0 < m -> gs'[m]? = gs[m]?)
  {u : Trace} {x0 x1 x2 x3 : MemOp} (hu : u = #[x0,x1,x2,x3]) {s : Nat} (h0 : x0.g = i /\ x0.act = .send p.c s) (h1 : x1.g = 0 /\ x1.act = .recv p.c s 0) (h2 : x2.g = i /\ x2.act = .sendDone p.c s) (h3 : x3.g = 0 /\ x3.act = .recvDone p.c s)
  (hw1 : w'.heap.size = w.heap.size) (hw2 : ∀ b,b ≠ p.c -> w'.heap[b]? = w.heap[b]?) (hw3 : ∃ n,w'.heap[p.c]? = some (.chan 0 #[] false n n false)) (hw4 : w'.tape = w.tape) (hw5 : w'.os = w.os) (hw6 : w'.output = w.output) :
  (∀ b,V.own b ≠ none -> zmk B V₁ b = none) /\ (∀ b o,V.own b ≠ none -> V₁.imm b o ≠ none -> V.imm b o ≠ none) /\
  Inv P n0 W0 (zmy V V₁.imm (zmk B V₁) (.recv p.c p.Wg (p.Ss.set j S))) gs' w' (t ++ u) (upd K i (.work j h' (zmm B V₁ (.work p.c p.Wg S)))) Im ic (some { p with Ss:=p.Ss.set j S }) st:=by
 obtain ⟨his,hc,hrest,hph⟩:=h.out;obtain ⟨a1,a2,a3,a4,a5,a6,a7,a8,a9,a10⟩:=hph;rw [if_pos hrv] at a10;obtain ⟨⟨c1,c2,c3,c4⟩,c5,c6,s',c7,c8⟩:=a10;have hbV : Blind p V:=⟨c1,c2,c3,c4⟩;have hbU:=(h.blind hi).ghost hg;have hview : VVof V Im K i = (K i).view Im:=by simp [VVof]; omega
 have hv0 : VVof V Im K 0 = V:=by simp [VVof]
 have hc1 : Core (upd (VVof V Im K) i V₁) gs.size w t (shOf (some p)) (zmC (some p) gs.size ic K) ic n0 W0:=hc.ghost hlt (by rw [hview]; exact hg);have hs1 : Sat V₁ w:=by have:=hc1.sat i hlt; rwa [zar] at this
 have hs0 : Sat V w:=by have:=hc1.sat 0 h.pos; rwa [zal _ _ (by omega),hv0] at this
 have d0i : Disj V V₁:=by have:=hc1.dis 0 i h.pos hlt (by omega); rwa [zal _ _ (show 0 ≠ i by omega),zar,hv0] at this
 have di0 : Disj V₁ V:=by have:=hc1.dis i 0 hlt h.pos (by omega); rwa [zar,zal _ _ (show 0 ≠ i by omega),hv0] at this
 have hdisj : ∀ b,V.own b ≠ none -> zmk B V₁ b = none:=fun b hb => by
  unfold zmk; split
  ·exact (d0i b hb).1
  ·rfl
 refine ⟨hdisj,fun b o hb => (d0i b hb).2 o,?_⟩;have hmu : ∀ op ∈ u,op.act.touch? = none /\ zmE op.act /\ (op.g = 0 \/ op.g = i) /\ op.act.low w.heap.size /\ ∀ a,op.act ≠ .mark (.release a):=by
  intro op hop;rw [hu] at hop;simp only [List.mem_toArray,List.mem_cons,List.not_mem_nil,or_false] at hop;rcases hop with rfl | rfl | rfl | rfl
  ·rw [h0.2,h0.1]; exact ⟨rfl,⟨by simp,by simp⟩,.inr rfl,a4,by simp⟩
  ·rw [h1.2,h1.1]; exact ⟨rfl,⟨by simp,by simp⟩,.inl rfl,a4,by simp⟩
  ·rw [h2.2,h2.1]; exact ⟨rfl,⟨by simp,by simp⟩,.inr rfl,a4,by simp⟩
  ·rw [h3.2,h3.1]; exact ⟨rfl,⟨by simp,by simp⟩,.inl rfl,a4,by simp⟩
 have hstl : ∀ op ∈ u,zmE op.act:=fun op hop => (hmu op hop).2.1;have hdeaf : ∀ m,Deaf (t ++ u) m = Deaf t m:=fun m => zdR hstl;have d00 : Deaf t 0 = 0:=by rw [h.d0,hV0]
 have hkn : ∀ idx,Knows t i idx -> Knows (t ++ u) 0 idx:=fun idx hx => zi8 hu h0 (hmu x1 (by rw [hu]; simp)).2.1 (hmu x2 (by rw [hu]; simp)).2.1 h3 hdi d00 hx;let k' : GS:=.work j h' (zmm B V₁ (.work p.c p.Wg S));let V' : View:=zmy V V₁.imm (zmk B V₁) (.recv p.c p.Wg (p.Ss.set j S));have hidx : ∀ m,((upd K i k') m).idx = (K m).idx:=fun m => by
  by_cases hm : m = i
  ·subst hm; rw [zar,hidxi]; rfl
  ·rw [zal _ _ hm]
 have hsh : (K i).shape = .work j .z zlA:=by
  cases hKi : K i <;> rw [hKi] at hidxi <;> simp [GS.idx] at hidxi
  ·subst hidxi; rfl
  ·subst hidxi; rfl
 have hshape : ∀ m,((upd K i k') m).shape = (K m).shape:=fun m => by
  by_cases hm : m = i
  ·subst hm; rw [zar,hsh]; rfl
  ·rw [zal _ _ hm]
 have hcnt : ∀ m,((upd K i k') m).cnt = (K m).cnt:=fun m => by rw [<- GS.cnt_shape,hshape,GS.cnt_shape]
 have hlate : ∀ m,((upd K i k') m).late = (K m).late:=fun m => by rw [<- GS.late_shape,hshape,GS.late_shape]
 have hcn : (K i).cnt = 1:=by rw [<- GS.cnt_shape,hsh]; rfl
 have hst0:=(h.counted hi hlt hcn).2;have vv0 : VVof V' Im (upd K i k') 0 = V':=by simp [VVof]
 have vvi : VVof V' Im (upd K i k') i = zmm B V₁ (.work p.c p.Wg S):=by simp [VVof,zar,k',GS.view]; omega
 have vvm : ∀ m,m ≠ 0 -> m ≠ i -> VVof V' Im (upd K i k') m = upd (VVof V Im K) i V₁ m:=fun m h1 h2 => by simp [VVof,zal _ _ h2,h1]
 have old0 : upd (VVof V Im K) i V₁ 0 = V:=by rw [zal _ _ (by omega),hv0]
 have oldi : upd (VVof V Im K) i V₁ i = V₁:=zar _ _ _;have hbk : ∀ {U : View},Blind p U -> Sat U w -> Sat U w':=fun {U} hb hs => ⟨fun b o v e => by
   have hne : b ≠ p.c:=fun x => (by rw [x,hb.2.1 o] at e; cases e);have:=hs.imm b o v e;simp only [World.cell?,hw2 b hne] at this ⊢;exact this,fun b x e => by
   have hne : b ≠ p.c:=fun y => (by rw [y,hb.1] at e; cases e);rw [hw2 b hne]; exact hs.own b x e⟩
 have hsV' : Sat V' w:=⟨fun b o v e => by
   simp only [V',zmy] at e;split at e
   ·rename_i x hx; cases e; exact hs0.imm b o _ hx
   ·exact hs1.imm b o v e,fun b x e => by
   simp only [V',zmy] at e;split at e
   ·rename_i y hy; cases e; exact hs0.own b _ hy
   ·unfold zmk at e; split at e
    ·exact hs1.own b x e
    ·cases e⟩
 have hbV' : Blind p V':=⟨by simp [V',zmy,c1,zmk,hbU.1],fun o => by simp [V',zmy,c2,hbU.2.1],by simp [V',zmy,c3,zmk,hbU.2.2.1],fun o => by simp [V',zmy,c4,hbU.2.2.2]⟩;have hsK : Sat (zmm B V₁ (.work p.c p.Wg S)) w:=⟨hs1.imm,fun b x e => by
   simp only [zmm] at e;split at e
   ·cases e
   ·exact hs1.own b x e⟩
 have hbK : Blind p (zmm B V₁ (.work p.c p.Wg S)):=⟨by simp [zmm,hbU.1],hbU.2.1,by simp [zmm,hbU.2.2.1],hbU.2.2.2⟩;have own' : ∀ b,V'.own b ≠ none -> V.own b ≠ none \/ (B b = true /\ V₁.own b ≠ none):=fun b hb => by
  simp only [V',zmy] at hb;split at hb
  ·rename_i y hy; exact .inl (by rw [hy]; simp)
  ·unfold zmk at hb; split at hb
   ·rename_i hB; exact .inr ⟨hB,hb⟩
   ·exact absurd rfl hb
 have imm' : ∀ b o,V'.imm b o ≠ none <-> (V.imm b o ≠ none \/ V₁.imm b o ≠ none):=fun b o => by
  simp only [V',zmy];cases e : V.imm b o with
  | some x => simp
  | none => simp
 have ownK : ∀ b,(zmm B V₁ (.work p.c p.Wg S)).own b ≠ none -> B b = false /\ V₁.own b ≠ none:=fun b hb => by
  simp only [zmm] at hb;split at hb
  ·exact absurd rfl hb
  ·rename_i hB; exact ⟨by simpa using hB,hb⟩
 have hcore : Core (VVof V' Im (upd K i k')) gs.size w' (t ++ u) (shOf (some p)) (zmC (some p) gs.size ic K) ic n0 W0:=by
  refine ⟨fun m hm => ?_,fun a b ha hb hab => ?_,?_,hw4.trans hc.tape,hw5.trans hc.os,hw6.trans hc.out,fun b hb => (hw2 b (by omega)).trans (hc.old b hb),fun m hm b hb => ?_,by rw [hw1]; exact hc.n0⟩
  ·by_cases hm0 : m = 0
   ·subst hm0; rw [vv0]; exact hbk hbV' hsV'
   ·by_cases hmi : m = i
    ·subst hmi; rw [vvi]; exact hbk hbK hsK
    ·rw [vvm m hm0 hmi,zal _ _ hmi];have:=hc.sat m hm;refine hbk ?_ this;have e : VVof V Im K m = (K m).view Im:=(by simp [VVof,hm0]);rw [e]; exact h.blind (by omega)
  ·
   have dm : ∀ m,m < gs.size -> m ≠ 0 -> m ≠ i -> Disj (upd (VVof V Im K) i V₁ m) V /\ Disj V (upd (VVof V Im K) i V₁ m) /\ Disj (upd (VVof V Im K) i V₁ m) V₁ /\ Disj V₁ (upd (VVof V Im K) i V₁ m):=fun m hm h1 h2 =>
    ⟨by have:=hc1.dis m 0 hm h.pos h1; rwa [old0] at this,by have:=hc1.dis 0 m h.pos hm (Ne.symm h1); rwa [old0] at this,by have:=hc1.dis m i hm hlt h2; rwa [oldi] at this,by have:=hc1.dis i m hlt hm (Ne.symm h2); rwa [oldi] at this⟩
   by_cases ha0 : a = 0
   ·subst ha0;by_cases hbi : b = i
    ·subst hbi; rw [vv0,vvi];intro q hq;rcases own' q hq with x | ⟨hB,x⟩
     ·refine ⟨?_,fun o ho => (imm' q o).2 (.inl ((d0i q x).2 o ho))⟩;simp only [zmm]; split
      ·rfl
      ·exact (d0i q x).1
     ·refine ⟨by simp only [zmm,hB,if_true],fun o ho => (imm' q o).2 (.inr ho)⟩
    ·have hb0 : b ≠ 0:=Ne.symm hab;rw [vv0,vvm b hb0 hbi];obtain ⟨_,e2,_,e4⟩:=dm b hb hb0 hbi;intro q hq;rcases own' q hq with x | ⟨_,x⟩
     ·exact ⟨(e2 q x).1,fun o ho => (imm' q o).2 (.inl ((e2 q x).2 o ho))⟩
     ·exact ⟨(e4 q x).1,fun o ho => (imm' q o).2 (.inr ((e4 q x).2 o ho))⟩
   ·by_cases hai : a = i
    ·subst hai;by_cases hb0 : b = 0
     ·subst hb0; rw [vv0,vvi];intro q hq;obtain ⟨hB,x⟩:=ownK q hq;refine ⟨?_,fun o ho => ?_⟩
      ·simp only [V',zmy,(di0 q x).1,zmk,hB]; rfl
      ·rcases (imm' q o).1 ho with y | y
       ·exact (di0 q x).2 o y
       ·exact y
     ·rw [vvi,vvm b hb0 (Ne.symm hab)];obtain ⟨_,_,_,e4⟩:=dm b hb hb0 (Ne.symm hab);intro q hq;exact e4 q (ownK q hq).2
    ·rw [vvm a ha0 hai];obtain ⟨e1,e2,e3,e4⟩:=dm a ha ha0 hai;by_cases hb0 : b = 0
     ·subst hb0; rw [vv0];intro q hq;refine ⟨?_,fun o ho => ((imm' q o).1 ho).elim ((e1 q hq).2 o) ((e3 q hq).2 o)⟩;simp only [V',zmy,(e1 q hq).1,zmk,(e3 q hq).1,ite_self]
     ·by_cases hbi : b = i
      ·subst hbi; rw [vvi];intro q hq;refine ⟨?_,(e3 q hq).2⟩;simp only [zmm,(e3 q hq).1,ite_self]
      ·rw [vvm b hb0 hbi]; exact hc1.dis a b ha hb hab
  ·rw [hw1];refine hc1.ti.mute (fun op hop => (hmu op hop).1) (fun op hop => (hmu op hop).2.2.2.1) (fun op hop => ((hmu op hop).2.2.1).elim (fun x => by rw [x]; exact h.pos) (fun x => by rw [x]; exact hlt)) (Nat.le_refl _) (fun op hop => (hmu op hop).2.2.2.2) (fun m hm l hl idx a ha hal hwr => ?_) (fun m hm l hl idx a ha hal => ?_) (fun idx a ha hsh => ⟨fun hp m hm => ((hc1.ti.sp idx a ha hsh).1 hp m hm).app u,fun hp => ((hc1.ti.sp idx a ha hsh).2 hp).app u⟩)
   ·obtain ⟨_,hl1,hl2⟩:=hl;by_cases hm0 : m = 0
    ·subst hm0;rw [vv0] at hl1;have : RdV V l \/ RdV V₁ l:=by
      cases l with
      | cell a' =>
       rcases hl1 with x | x
       ·exact (own' _ x).imp .inl (fun y => .inl y.2)
       ·exact ((imm' _ _).1 x).imp .inr .inr
      | obj r => exact (own' _ hl1).imp id (fun y => y.2)
      | _ => exact hl1.elim
     rcases this with x | x
     ·exact (hc1.ti.kr 0 h.pos l ⟨h.pos,by rw [old0]; exact x,hl2⟩ idx a ha hal hwr).app u
     ·exact hkn idx (hc1.ti.kr i hlt l ⟨hlt,by rw [oldi]; exact x,hl2⟩ idx a ha hal hwr)
    ·by_cases hmi : m = i
     ·subst hmi;rw [vvi] at hl1;have : RdV V₁ l:=by
       cases l with
       | cell a' => exact hl1.imp (fun x => (ownK _ x).2) id
       | obj r => exact (ownK _ hl1).2
       | _ => exact hl1.elim
      exact (hc1.ti.kr m hm l ⟨hm,by rw [oldi]; exact this,hl2⟩ idx a ha hal hwr).app u
     ·rw [vvm m hm0 hmi] at hl1;exact (hc1.ti.kr m hm l ⟨hm,hl1,hl2⟩ idx a ha hal hwr).app u
   ·obtain ⟨_,hl1,hl2⟩:=hl;by_cases hm0 : m = 0
    ·subst hm0;rw [vv0] at hl1;have : WrV V l \/ WrV V₁ l:=by
      cases l with
      | cell a' =>
       have hi1 : V.imm a'.block a'.off = none:=by
        cases e : V.imm a'.block a'.off with
        | none => rfl
        | some x => exact absurd hl1.2 ((imm' _ _).2 (.inl (by rw [e]; simp)))
       have hi2 : V₁.imm a'.block a'.off = none:=by
        cases e : V₁.imm a'.block a'.off with
        | none => rfl
        | some x => exact absurd hl1.2 ((imm' _ _).2 (.inr (by rw [e]; simp)))
       exact (own' _ hl1.1).imp (fun x => ⟨x,hi1⟩) (fun x => ⟨x.2,hi2⟩)
      | obj r => exact (own' _ hl1).imp id (fun y => y.2)
      | _ => exact hl1.elim
     rcases this with x | x
     ·exact (hc1.ti.kw 0 h.pos l ⟨h.pos,by rw [old0]; exact x,hl2⟩ idx a ha hal).app u
     ·exact hkn idx (hc1.ti.kw i hlt l ⟨hlt,by rw [oldi]; exact x,hl2⟩ idx a ha hal)
    ·by_cases hmi : m = i
     ·subst hmi;rw [vvi] at hl1;have : WrV V₁ l:=by
       cases l with
       | cell a' => exact ⟨(ownK _ hl1.1).2,hl1.2⟩
       | obj r => exact (ownK _ hl1).2
       | _ => exact hl1.elim
      exact (hc1.ti.kw m hm l ⟨hm,by rw [oldi]; exact this,hl2⟩ idx a ha hal).app u
     ·rw [vvm m hm0 hmi] at hl1;exact (hc1.ti.kw m hm l ⟨hm,hl1,hl2⟩ idx a ha hal).app u
  ·by_cases hm0 : m = 0
   ·subst hm0; rw [vv0];have e1:=hc1.oldOwn 0 h.pos b hb;have e2:=hc1.oldOwn i hlt b hb;rw [old0] at e1; rw [oldi] at e2;simp [V',zmy,e1,zmk,e2]
   ·by_cases hmi : m = i
    ·subst hmi; rw [vvi];have e2:=hc1.oldOwn m hm b hb;rw [oldi] at e2;simp [zmm,e2]
    ·rw [vvm m hm0 hmi]; exact hc1.oldOwn m hm b hb
 refine Inv.mk' (by rw [hsz]; exact h.pos) (by rw [zal _ _ (by omega)]; exact h.k0) (by rw [hdeaf]; exact h.d0) (fun m x hm hx => ?_) ?_ ?_ ?_
 ·show (upd K i k' m).is P p.c p.Wg Im (p.Ss.set j S) (Deaf (t ++ u) m) x;rw [hdeaf];by_cases hmi : m = i
  ·subst hmi;rw [hgi] at hx; cases hx;rw [zar];have hjl : j < p.Ss.length:=(List.getElem?_eq_some_iff.1 hS).1;exact ⟨by rw [hdi]; exact hd.symm,hk,S,by simp [List.getElem?_set_self hjl],rfl⟩
  ·rw [hgo m hmi hm] at hx;rw [zal _ _ hmi];have hxm:=his m x hm hx;have hml : m < gs.size:=(Array.getElem?_eq_some_iff.1 hx).1;have hne : (K m).idx ≠ some j:=fun e => hmi (a8 m i j hm hml hi hlt e hidxi);cases hKm : K m with
   | work j2 h2 V2 =>
    rw [hKm] at hxm hne;obtain ⟨b1,b2,S2,b3,b4⟩:=hxm;exact ⟨b1,b2,S2,by rw [List.getElem?_set_ne (fun e => hne (by rw [e]; rfl))]; exact b3,b4⟩
   | park j2 h2 V2 V3 g2 v2 z2 =>
    rw [hKm] at hxm hne;obtain ⟨b1,b2,b3,b4,sp2,S2,B2,b5,b6⟩:=hxm;exact ⟨b1,b2,b3,b4,sp2,S2,B2,by rw [List.getElem?_set_ne (fun e => hne (by rw [e]; rfl))]; exact b5,b6⟩
   | _ => rw [hKm] at hxm; exact hxm
 ·rw [hsz];refine hcore.act_mono fun m hm => ?_;have hm' : zlP p gs.size ic (upd K i k') m:=hm;show zlP p gs.size ic K m;unfold zlP at hm' ⊢;rw [hidx,hcnt,hlate] at hm';exact hm'
 ·show Rest p.Wg (t ++ u) (upd K i k') ic st;have hr' : Rest p.Wg t K ic st:=hrest;rw [hst0] at hr' ⊢;exact hr'.app (fun idx a ha hx => .inr (hx.app (by obtain ⟨op,hop,_⟩:=touch_of ha; exact lt_size_of_getElem? hop) fun m _ _ hm => .inl (by rw [hidx]; exact hm))) (fun idx a _ ⟨op,hop,_,hx⟩ _ => by rw [(hmu op hop).1] at hx; cases hx)
 ·refine ⟨a1,a2,a3,by rw [hw1]; exact a4,by rw [hw1]; exact a5,by simpa using a6,fun m hm => ?_,fun m m' q b1 b2 b3 b4 b5 b6 => a8 m m' q b1 (hsz ▸ b2) b3 (hsz ▸ b4) (by rw [<- hidx]; exact b5) (by rw [<- hidx]; exact b6),fun q S2 b1 b2 => ?_,?_⟩
  ·by_cases hmi : m = i
   ·subst hmi; rw [zar]; exact ⟨hbK.1,hbK.2.1,hbK.2.2.1,hbK.2.2.2,fun x => by cases x⟩
   ·rw [zal _ _ hmi]; exact a7 m hm
  ·rw [hsz];by_cases hq : q = j
   ·subst hq; exact ⟨i,hi,hlt,by rw [hidx]; exact hidxi⟩
   ·have b1' : p.Ss[q]? = some S2:=by
     have:=b1;rwa [show ({ p with Ss:=p.Ss.set j S } : Phase).Ss = p.Ss.set j S from rfl,List.getElem?_set_ne (Ne.symm hq)] at this
    obtain ⟨m,e1,e2,e3⟩:=a9 q S2 b1' b2;exact ⟨m,e1,e2,by rw [hidx]; exact e3⟩
  ·show if p.recv = true then _ else _;rw [if_pos hrv];refine ⟨⟨hbV'.1,hbV'.2.1,hbV'.2.2.1,hbV'.2.2.2⟩,c5,by rw [hsz]; exact c6,s',c7,?_⟩;have hle : (K i).cnt <= sumTo gs.size fun i => (K i).cnt:=le_sumTo (f:=fun i => (K i).cnt) hlt;rw [hsz];exact c8.keepOpen (by omega) hshape hw3 (hw2 _ (Ne.symm a3))
end
open Go.Conc Go.ConcN
open Go.Conc Go.ConcN
open Go.Conc Go.ConcN
open Go.Conc Go.ConcN
open Go.Conc Go.ConcN
open Go.Conc Go.ConcN
open Go.Conc Go.ConcN
section
variable {P : Program} {n0 : Nat} {W0 : World} {V : View} {gs gs' : Array Goroutine} {w w' : World} {sl : Option (Nat × Nat)} {t : Trace} {K : Nat -> GS} {Im : Imm} {ic : Nat} {p : Phase} {st st' : Option Stage}
theorem Inv.shared (h : Inv P n0 W0 V gs w t K Im ic (some p) st) (hrv : p.recv = true) {i : Nat} {gi gi' : Goroutine} {es : Array Event} {k' : GS} {s' : Stage} (hi : 0 < i) (hgi : gs[i]? = some gi) (hst : stepG P false gi w = .go gi' w' es)
  (hk : k'.is P p.c p.Wg Im p.Ss (deafBehind (Deaf t i) es) gi') (hless : Less (k'.view Im) ((K i).view Im))
  (hclo : k'.closer = true -> i = ic) (hidx : k'.idx = none) (hidx' : ∀ j,(K i).idx = some j -> p.Ss[j]? = some [] /\ ∃ r,Rel p.Wg (t ++ MemOp.ofEvents i gi.frame.fn gi.frame.place es) i r /\ t.size <= r)
  (hact : i = ic \/ (K i).idx.isSome = true \/ (K i).cnt = 1 \/ (K i).late = 1)
  (hev : ∀ e ∈ es,∀ x,(MemAct.ofEvent e).touch? = some x -> (ShP p.c p.Wg x.loc /\ x.kind = .atomic) \/ (ShP p.c p.Wg x.loc /\ x.kind = .said /\ i = ic) \/ (¬ ShP p.c p.Wg x.loc /\ RdV ((K i).view Im) x.loc /\ x.write = false))
  (hlow : ∀ e ∈ es,(MemAct.ofEvent e).low w.heap.size) (hnr : ∀ e ∈ es,∀ a,MemAct.ofEvent e ≠ .mark (.release a))
  (hsz : w'.heap.size = w.heap.size) (hfr : ∀ b,b ≠ p.c -> b ≠ p.Wg -> w'.heap[b]? = w.heap[b]?) (ht : w'.tape = w.tape) (ho : w'.os = w.os) (hu : w'.output = w.output)
  (hmode : Mode P p.c p.Wg gs.size w' ((gs.map (woken P gi gi' w')).setIfInBounds i gi') (t ++ MemOp.ofEvents i gi.frame.fn gi.frame.place es) (upd K i k') ic s')
  (hopen : (∃ n,w'.heap[p.c]? = some (.chan 0 #[] false n n false)) \/ ((∀ j,0 < j -> j < gs.size -> j ≠ i -> (K j).idx = none) /\ ∀ g,zhQ gs g p.c -> MainAt ((gs.map (woken P gi gi' w')).setIfInBounds i gi') g))
  (hrest : Rest p.Wg (t ++ MemOp.ofEvents i gi.frame.fn gi.frame.place es) (upd K i k') ic (some s'))
  (hmu : MuLt gs.size ((fun j => (upd K i k' j).rank),flag ((gs.map (woken P gi gi' w')).setIfInBounds i gi') ic) ((fun j => (K j).rank),flag gs ic)) : Went P n0 W0 V gs w sl t K Im ic (some p) st i:=by
 have hlt : i < gs.size:=(Array.getElem?_eq_some_iff.1 hgi).1;obtain ⟨_,hc,_,hp⟩:=h.out;obtain ⟨a1,a2,a3,a4,a5,a6,a7,a8,a9,a10⟩:=hp;rw [if_pos hrv] at a10;obtain ⟨c1,c2,c3,_⟩:=a10;have hvi : VVof V Im K i = (K i).view Im:=by simp [VVof]; omega
 have hbV : ∀ j,j < gs.size -> Blind p (VVof V Im K j):=fun j _ => by
  by_cases hj : j = 0
  ·subst hj; rw [show VVof V Im K 0 = V by simp [VVof]]; exact ⟨c1.1,c1.2.1,c1.2.2.1,c1.2.2.2⟩
  ·simp only [VVof,hj,if_false]; exact h.blind (by omega)
 have hactp : zmC (some p) gs.size ic K i:=by
  show zlP p gs.size ic K i;unfold zlP; rw [if_pos hrv];exact ⟨hi,hlt,by rcases hact with x | x | x | x; exact .inr (.inl x); exact .inl x; exact .inr (.inr (.inl x)); exact .inr (.inr (.inr x))⟩
 refine h.nextMu (st':=some s') hi hgi hst hk (fun hb => ?_) (fun q hq => by cases hq; exact hopen.imp id And.left) ?_ hrest ?_ hmu ?_
 ·rcases GS.runs hk with x | ⟨x,_⟩ | ⟨_,_,_,_,_,_,_,e⟩ | ⟨_,_,x⟩
  ·rw [x] at hb; cases hb
  ·rw [x] at hb; cases hb
  ·rw [e] at hidx; cases hidx
  ·exact x
 ·rw [zjQ V Im K hi];have hsh:=hc.shared hlt (es:=es) (w':=w') (fun e he x hx => by
    rcases hev e he x hx with ⟨x1,x2⟩ | ⟨x1,x2,x3⟩ | ⟨x1,x2,x3⟩
    ·exact .inl ⟨x1,x2,hactp⟩
    ·exact .inr (.inl ⟨x1,x2,x3,hactp⟩)
    ·exact .inr (.inr ⟨x1,.inr (.inl ⟨⟨hlt,by rw [hvi]; exact x2,x1⟩,x3⟩)⟩)) hlow hnr (fun b => b = p.c \/ b = p.Wg)
   (fun b hb => by
    rcases hb with rfl | rfl
    ·exact ⟨a1,fun j hj => ⟨(hbV j hj).1,(hbV j hj).2.1⟩⟩
    ·exact ⟨a2,fun j hj => ⟨(hbV j hj).2.2.1,(hbV j hj).2.2.2⟩⟩) hsz (fun b hb => hfr b (fun x => hb (.inl x)) (fun x => hb (.inr x))) ht ho hu gi.frame.fn gi.frame.place
  refine (hsh.less (V':=k'.view Im) hlt (by rw [hvi]; exact hless)).act_mono fun m hm => ?_;have hm' : zlP p gs.size ic (upd K i k') m:=hm;show zlP p gs.size ic K m;unfold zlP at hm' ⊢;rw [if_pos hrv] at hm' ⊢;by_cases hmi : m = i
  ·subst hmi;exact ⟨hi,hlt,by rcases hact with x | x | x | x; exact .inr (.inl x); exact .inl x; exact .inr (.inr (.inl x)); exact .inr (.inr (.inr x))⟩
  ·rw [zal _ _ hmi] at hm'; exact hm'
 ·refine h.phase_upd (by simp) (by omega) ?_ hclo (.inr ⟨hidx,fun j hj => (hidx' j hj).1⟩) ?_
  ·have hb:=h.blind hi;exact ⟨(hless.1 _).elim id (fun x => x.trans hb.1),fun o => (hless.2.1 _ o).elim id (fun x => x.trans (hb.2.1 o)),(hless.1 _).elim id (fun x => x.trans hb.2.2.1),fun o => (hless.2.1 _ o).elim id (fun x => x.trans (hb.2.2.2 o))⟩
  ·rw [if_pos hrv]; exact ⟨s',rfl,hmode⟩
 ·intro g c hcp;refine ⟨zdL hi,fun hpk _ => ?_⟩;rw [<- hcp p rfl] at hpk ⊢;rcases hopen with x | ⟨_,x⟩
  ·exact .inr ⟨zdI hi hpk x,x⟩
  ·exact .inl (x g hpk)
theorem Mode.keep' {c Wg N : Nat} {u : Trace} {K' : Nat -> GS} {s : Stage} (h : Mode P c Wg N w gs t K ic s) (e1 : sumTo N (fun i => (K' i).cnt) = sumTo N fun i => (K i).cnt) (e2 : sumTo N (fun i => (K' i).late) = sumTo N fun i => (K i).late)
  (e4 : (K' ic).shape = (K ic).shape) (e5 : ∀ i,i < N -> ((K' i).shape = .load 0 \/ (K' i).shape = .store 0) -> ((K i).shape = .load 0 \/ (K i).shape = .store 0)) (e6 : ∀ i,i < N -> (K' i).shape = .sem 0 -> (K i).shape = .sem 0) (hc : w'.heap[c]? = w.heap[c]?) (hW : w'.heap[Wg]? = w.heap[Wg]?)
  (hr : (∀ g,gs[ic]? = some g -> g.status = .running) -> ∀ g,gs'[ic]? = some g -> g.status = .running) : Mode P c Wg N w' gs' (t ++ u) K' ic s:=by
 have e3 : ∀ st sm,WgAt P Wg w' st sm = WgAt P Wg w st sm:=fun st sm => by unfold WgAt; rw [hW]
 unfold Mode at h ⊢;simp only [e1,e2,e3,e4,hc];rcases h with h | h | h | h | h | h | h
 ·exact .inl h
 ·exact .inr (.inl h)
 ·exact .inr (.inr (.inl ⟨h.1,h.2.1,h.2.2.1,h.2.2.2.1,h.2.2.2.2.1,fun i hi x => h.2.2.2.2.2.1 i hi (e5 i hi x),fun i hi x => h.2.2.2.2.2.2 i hi (e6 i hi x)⟩))
 ·exact .inr (.inr (.inr (.inl ⟨h.1,h.2.1,h.2.2.1,h.2.2.2.1,h.2.2.2.2.1,hr h.2.2.2.2.2.1,h.2.2.2.2.2.2⟩)))
 ·exact .inr (.inr (.inr (.inr (.inl h))))
 ·exact .inr (.inr (.inr (.inr (.inr (.inl h)))))
 ·obtain ⟨⟨p,n,a,b,c',d⟩,e⟩:=h;exact .inr (.inr (.inr (.inr (.inr (.inr ⟨⟨p,n,a,by rw [act?_old (lt_of_act? b)]; exact b,(heard_old (lt_of_act? b)).2 c',d⟩,e⟩)))))
theorem Mode.waits {c Wg N : Nat} {s : Stage} (h : Mode P c Wg N w gs t K ic s) : (K ic).cnt = 0 /\ (K ic).late = 0:=by
 rw [<- GS.cnt_shape,<- GS.late_shape];rcases h with h | h | h | h | h | h | h
 ·rcases h.2.2.2.2.2 with ⟨_,e,_⟩ | ⟨_,e,_⟩ <;> rw [e] <;> exact ⟨rfl,rfl⟩
 ·rcases h.2.2.2.2.2.2 with e | e <;> rw [e] <;> exact ⟨rfl,rfl⟩
 ·rcases h.2.2.2.2.1 with e | e <;> rw [e] <;> exact ⟨rfl,rfl⟩
 ·rcases h.2.2.2.2.2.2 with e | e <;> rw [e] <;> exact ⟨rfl,rfl⟩
 ·rcases h.2.2.2.2.2 with e | e <;> rw [e] <;> exact ⟨rfl,rfl⟩
 ·rcases h.2.2.2.2 with e | e <;> rw [e] <;> exact ⟨rfl,rfl⟩
 ·rw [h.2.2.2]; exact ⟨rfl,rfl⟩
theorem muOf {i : Nat} {k' : GS} {a b : Nat} (hlt : i < gs.size) (hr : zmp k'.rank (K i).rank) : MuLt gs.size ((fun j => (upd K i k' j).rank),a) ((fun j => (K j).rank),b) :=
 .inl ⟨i,hlt,by simpa only [zar] using hr,fun j hj => by show (upd K i k' j).rank = (K j).rank; rw [zal _ _ hj]⟩
theorem Inv.mode (h : Inv P n0 W0 V gs w t K Im ic (some p) st) (hrv : p.recv = true) : ∃ s,st = some s /\ 0 < ic /\ ic < gs.size /\ Mode P p.c p.Wg gs.size w gs t K ic s:=by
 have hx:=h.phase.2.2.2.2.2.2.2.2.2;rw [if_pos hrv] at hx;obtain ⟨_,h1,h2,s,h3,h4⟩:=hx;exact ⟨s,h3,h1,h2,h4⟩
theorem zcv {i : Nat} {fn : FuncId} {pos : String} {e : Event} : MemOp.ofEvents i fn pos #[e] = #[{ g:=i,fn,pos,act:=.ofEvent e }]:=by simp [MemOp.ofEvents]
theorem zin {t u : Trace} {g : Nat} : (t ++ u).deaf g t.size = Deaf t g:=deaf_old (Nat.le_refl _)
theorem zdr (U : View) : Less zlA U:=⟨fun _ => .inl rfl,fun _ _ => .inl rfl,fun b hb => absurd rfl hb⟩
theorem Inv.release (h : Inv P n0 W0 V gs w t K Im ic (some p) st) (hrv : p.recv = true) {i j : Nat} {gi : Goroutine} {hh : Ht} {Vi V₁ : View} {c Wg : Nat} (hi : 0 < i) (hgi : gs[i]? = some gi) (hK : K i = .work j hh Vi) (hg : Ghost Vi V₁)
  (hr : V₁.role = .work c Wg []) (hd : V₁.deaf = 0) (hf : zmR P Wg gi) : Went P n0 W0 V gs w sl t K Im ic (some p) st i:=by
 have hlt : i < gs.size:=(Array.getElem?_eq_some_iff.1 hgi).1;have his:=h.is i gi hi hgi;simp only [hK,GS.is] at his;obtain ⟨hdf,_,S,hS,hrole⟩:=his;rw [hg.role,hrole] at hr;cases hr;have hcn : (K i).cnt = 1:=by rw [hK]; rfl
 obtain ⟨⟨n,hopen⟩,hst0⟩:=h.counted hi hlt hcn;obtain ⟨s,hs,hic0,hicl,hm⟩:=h.mode hrv;rw [hst0] at hs; cases hs;obtain ⟨hrun,g',hstep,m,hsl⟩:=hf;have hne : i ≠ ic:=fun e => by have:=(Mode.waits hm).1; rw [<- e,hcn] at this; cases this
 have hd0 : Deaf t i = 0:=by rw [hdf,<- hg.deaf,hd]
 have hrel : Rel p.Wg (t ++ MemOp.ofEvents i gi.frame.fn gi.frame.place #[eMk (.releaseMerge (zeV p.Wg))]) i t.size:=by
  rw [zcv];have e : (#[({ g:=i,fn:=gi.frame.fn,pos:=gi.frame.place,act:=.ofEvent (eMk (.releaseMerge (zeV p.Wg))) } : MemOp)] : Trace)[0]? = some _:=rfl;have g0:=zbO (t:=t) e;exact ⟨act?_of g0,by simp [Trace.g?,g0],zb8 e rfl (by rw [show t.size + 0 = t.size from rfl,zin]; exact hd0)⟩
 have hmt : ∀ e ∈ #[eMk (.releaseMerge (zeV p.Wg))],e = eMk (.releaseMerge (zeV p.Wg)):=fun e he => by simpa using he
 refine h.shared hrv (k':=.add m) (s':=.early) hi hgi (hstep w) ?_ (by rw [hK]; exact zdr _) (fun x => by cases x) rfl (fun j' hj' => ?_) (.inr (.inr (.inl hcn))) (fun e he x hx => ?_) (fun e he => ?_) (fun e he a => ?_) rfl (fun _ _ _ => rfl) rfl rfl rfl ?_ (.inl ⟨n,hopen⟩) ?_ (muOf hlt ?_)
 ·show Slide P (DAdd P p.Wg) m _ g';rw [hd0]; exact hsl
 ·rw [hK] at hj'; cases hj';exact ⟨hS,t.size,hrel,Nat.le_refl _⟩
 ·rw [hmt e he] at hx; cases hx
 ·rw [hmt e he]; exact h.low.2
 ·rw [hmt e he]; simp [eMk,MemAct.ofEvent]
 ·refine hm.keep' (zaO K _ GS.cnt (by rw [hcn]; rfl)) (zaO K _ GS.late (by rw [hK]; rfl)) (by rw [zal _ _ (Ne.symm hne)]) (fun m hm => ?_) (fun m hm => ?_) rfl rfl (zdZ hlt ?_)
  ·by_cases hmi : m = i
   ·subst hmi; rw [zar]; intro x; rcases x with x | x <;> cases x
   ·rw [zal _ _ hmi]; exact id
  ·by_cases hmi : m = i
   ·subst hmi; rw [zar]; intro x; cases x
   ·rw [zal _ _ hmi]; exact id
  ·exact Slide.running (fun d g x => x.2.1) hsl
 ·have hr : Rest p.Wg t K ic st:=h.out.2.2.1;rw [hst0] at hr;refine hr.app (fun idx a ha hx => .inr (hx.app (by obtain ⟨op,hop,_⟩:=touch_of ha; exact lt_size_of_getElem? hop) fun m hgm _ hm => ?_)) (fun idx a _ ⟨op,hop,_,hx⟩ _ => ?_)
  ·by_cases hmi : m = i
   ·subst hmi;exact .inr ⟨t.size,hrel,by obtain ⟨op,hop,_⟩:=touch_of ha; exact Nat.le_of_lt (lt_size_of_getElem? hop)⟩
   ·rw [zal _ _ hmi]; exact .inl hm
  ·rw [zcv] at hop;simp only [List.mem_toArray,List.mem_cons,List.not_mem_nil,or_false] at hop;subst hop; cases hx
 ·rw [hK]; refine .inl ?_;simp only [GS.rank,hrole]; omega
def Atom (a : Addr) (es : Array Event) : Prop:=es = #[eRd a] \/ es = #[eWr a] \/ es = #[eRd a,eWr a] \/ es = zn9 a
theorem Atom.mem {a : Addr} {es : Array Event} (h : Atom a es) {e : Event} (he : e ∈ es) : e = eRd a \/ e = eWr a \/ e = eMk .disable \/ e = eMk .enable:=by
 rcases h with rfl | rfl | rfl | rfl <;> simp only [zn9,List.mem_toArray,List.mem_cons,List.not_mem_nil,or_false] at he
 ·exact .inl he
 ·exact .inr (.inl he)
 ·exact he.imp id .inl
 ·rcases he with x | x | x | x
  ·exact .inr (.inr (.inl x))
  ·exact .inl x
  ·exact .inr (.inl x)
  ·exact .inr (.inr (.inr x))
theorem Atom.behind {a : Addr} {es : Array Event} (h : Atom a es) : deafBehind 1 es = 1:=by
 rcases h with rfl | rfl | rfl | rfl <;> rfl
theorem Atom.touch {a : Addr} {es : Array Event} (h : Atom a es) {e : Event} (he : e ∈ es) {x : Touch} (hx : (MemAct.ofEvent e).touch? = some x) : x.loc = .cell a /\ x.kind = .atomic:=by
 rcases h.mem he with rfl | rfl | rfl | rfl
 ·cases hx; exact ⟨rfl,rfl⟩
 ·cases hx; exact ⟨rfl,rfl⟩
 ·cases hx
 ·cases hx
theorem Atom.low {a : Addr} {es : Array Event} (h : Atom a es) {n : Nat} (ha : a.block < n) {e : Event} (he : e ∈ es) : (MemAct.ofEvent e).low n:=by
 rcases h.mem he with rfl | rfl | rfl | rfl
 ·exact ha
 ·exact ha
 ·trivial
 ·trivial
theorem Atom.norel {a : Addr} {es : Array Event} (h : Atom a es) {e : Event} (he : e ∈ es) (b : Addr) : MemAct.ofEvent e ≠ .mark (.release b):=by
 rcases h.mem he with rfl | rfl | rfl | rfl <;> simp [eRd,eWr,eMk,MemAct.ofEvent]
theorem Atom.unheard {a : Addr} {es : Array Event} (h : Atom a es) {i : Nat} {fn : FuncId} {pos : String} (hd : Deaf t i = 1) {idx : Nat} {op : MemOp} {x : Touch} (hidx : t.size <= idx) (hop : (t ++ MemOp.ofEvents i fn pos es)[idx]? = some op) (hx : op.act.touch? = some x) :
  ¬ (t ++ MemOp.ofEvents i fn pos es).heard idx:=by
 obtain ⟨k,rfl⟩ : ∃ k,idx = t.size + k:=⟨idx - t.size,by omega⟩;have hop' : (MemOp.ofEvents i fn pos es)[k]? = some op:=by rw [Array.getElem?_append_right (by omega)] at hop; simpa using hop
 have hgi : op.g = i:=by obtain ⟨e,_,rfl⟩:=Conc.mem_ofEvents (mem_of_getElem? hop'); rfl
 rintro ⟨g,hg,hz⟩
 have : g = i:=by simp [Trace.g?,hop,hgi] at hg; exact hg.symm
 subst this;have still2 : ∀ y : MemOp,y.act = MemAct.ofEvent (eRd a) \/ y.act = MemAct.ofEvent (eWr a) -> zmE y.act:=fun y hy => by rcases hy with e | e <;> rw [e] <;> exact ⟨by simp [eRd,eWr,MemAct.ofEvent],by simp [eRd,eWr,MemAct.ofEvent]⟩
 rcases h with rfl | rfl | rfl | rfl
 ·have:=zbc (t:=t) (u:=MemOp.ofEvents g fn pos #[eRd a]) (g:=g) (fun op hop => by obtain ⟨e,he,rfl⟩:=Conc.mem_ofEvents hop; simp only [List.mem_toArray,List.mem_cons,List.not_mem_nil,or_false] at he; subst he; exact still2 _ (.inl rfl)) (k:=k) (by have:=lt_size_of_getElem? hop'; omega);omega
 ·have:=zbc (t:=t) (u:=MemOp.ofEvents g fn pos #[eWr a]) (g:=g) (fun op hop => by obtain ⟨e,he,rfl⟩:=Conc.mem_ofEvents hop; simp only [List.mem_toArray,List.mem_cons,List.not_mem_nil,or_false] at he; subst he; exact still2 _ (.inr rfl)) (k:=k) (by have:=lt_size_of_getElem? hop'; omega);omega
 ·have:=zbc (t:=t) (u:=MemOp.ofEvents g fn pos #[eRd a,eWr a]) (g:=g) (fun op hop => by obtain ⟨e,he,rfl⟩:=Conc.mem_ofEvents hop; simp only [List.mem_toArray,List.mem_cons,List.not_mem_nil,or_false] at he; rcases he with rfl | rfl; exact still2 _ (.inl rfl); exact still2 _ (.inr rfl)) (k:=k) (by have:=lt_size_of_getElem? hop'; omega);omega
 ·
  have eu : MemOp.ofEvents g fn pos (zn9 a) = #[{ g,fn,pos,act:=.mark .disable },{ g,fn,pos,act:=.ofEvent (eRd a) },{ g,fn,pos,act:=.ofEvent (eWr a) },{ g,fn,pos,act:=.mark .enable }]:=by simp [MemOp.ofEvents,zn9,eMk,MemAct.ofEvent]
  rw [eu] at hop' hz;have d0 : (t ++ #[({ g,fn,pos,act:=.mark .disable } : MemOp),{ g,fn,pos,act:=.ofEvent (eRd a) },{ g,fn,pos,act:=.ofEvent (eWr a) },{ g,fn,pos,act:=.mark .enable }]).deaf g t.size = 1:=by rw [zin]; exact hd
  have d1:=deaf_succ (g:=g) (zbO (t:=t) (show (#[({ g,fn,pos,act:=.mark .disable } : MemOp),{ g,fn,pos,act:=.ofEvent (eRd a) },{ g,fn,pos,act:=.ofEvent (eWr a) },{ g,fn,pos,act:=.mark .enable }] : Trace)[0]? = some _ from rfl));have d2:=deaf_succ (g:=g) (zbO (t:=t) (show (#[({ g,fn,pos,act:=.mark .disable } : MemOp),{ g,fn,pos,act:=.ofEvent (eRd a) },{ g,fn,pos,act:=.ofEvent (eWr a) },{ g,fn,pos,act:=.mark .enable }] : Trace)[1]? = some _ from rfl));have d3:=deaf_succ (g:=g) (zbO (t:=t) (show (#[({ g,fn,pos,act:=.mark .disable } : MemOp),{ g,fn,pos,act:=.ofEvent (eRd a) },{ g,fn,pos,act:=.ofEvent (eWr a) },{ g,fn,pos,act:=.mark .enable }] : Trace)[2]? = some _ from rfl));rw [zbY (still2 _ (.inl rfl))] at d2;rw [zbY (still2 _ (.inr rfl))] at d3;simp only [Nat.add_zero] at d1;rw [d0] at d1;have d1:=d1.trans (show deafStep g 1 { g,fn,pos,act:=.mark .disable } = 2 by simp [deafStep]);have hk : k < 4:=by have:=lt_size_of_getElem? hop'; simpa using this
  match k,hk with
  | 0,_ => simp at hop'; subst hop'; cases hx
  | 1,_ => rw [d1] at hz; omega
  | 2,_ => rw [show t.size + 2 = t.size + 1 + 1 from rfl,d2,d1] at hz; omega
  | 3,_ => simp at hop'; subst hop'; cases hx
theorem Rest.atom {Wg : Nat} {s : Stage} (hr : Rest Wg t K ic (some s)) {a : Addr} {es : Array Event} (h : Atom a es) {i : Nat} {fn : FuncId} {pos : String} (hd : Deaf t i = 1) {K' : Nat -> GS} (hidx : ∀ m,(K' m).idx = (K m).idx) : Rest Wg (t ++ MemOp.ofEvents i fn pos es) K' ic (some s):=by
 refine hr.app (fun idx a ha hx => .inr (hx.app (by obtain ⟨op,hop,_⟩:=touch_of ha; exact lt_size_of_getElem? hop) fun m _ _ hm => .inl (by rw [hidx]; exact hm))) (fun idx x hi ⟨op,hop,hidx',hx⟩ _ => .inr (.inl ⟨?_,h.unheard hd hi hidx' hx⟩));obtain ⟨e,he,rfl⟩:=Conc.mem_ofEvents hop;exact (h.touch he hx).2
theorem WgAt.set_state {Wg : Nat} {a b : Int} (h : WgAt P Wg w a b) (v : Int) : WgAt P Wg (w.setCell (zeV Wg) (.int .u64 v)) v b:=by
 unfold WgAt at h ⊢;unfold World.setCell;rw [Array.getElem?_modify];simp [zeV,h,zjD]
theorem WgAt.set_sema {Wg : Nat} {a b : Int} (h : WgAt P Wg w a b) (v : Int) : WgAt P Wg (w.setCell (zlY Wg) (.int .u32 v)) a v:=by
 unfold WgAt at h ⊢;unfold World.setCell;rw [Array.getElem?_modify];simp [zlY,h,zjD]
theorem WgAt.inj {Wg : Nat} {a b a' b' : Int} (h : WgAt P Wg w a b) (k : WgAt P Wg w a' b') : a = a' /\ b = b':=by
 unfold WgAt at h k;rw [h] at k;simp [zjD] at k;exact k
theorem Inv.atomStep (h : Inv P n0 W0 V gs w t K Im ic (some p) st) (hrv : p.recv = true) {i : Nat} {gi gi' : Goroutine} {es : Array Event} {k' : GS} {s : Stage} {a : Addr} (hs : st = some s) (hi : 0 < i) (hgi : gs[i]? = some gi) (hst : stepG P false gi w = .go gi' w' es) (hd : Deaf t i = 1)
  (ha : Atom a es) (haW : a = zeV p.Wg \/ a = zlY p.Wg) (hw' : w' = w \/ ∃ x,w' = w.setCell a x) (hk : k'.is P p.c p.Wg Im p.Ss 1 gi') (hless : Less (k'.view Im) ((K i).view Im)) (hclo : k'.closer = true -> i = ic) (hidx : k'.idx = none) (hidxK : (K i).idx = none)
  (hact : i = ic \/ (K i).cnt = 1 \/ (K i).late = 1) (hopen : ∃ n,w.heap[p.c]? = some (.chan 0 #[] false n n false))
  (hmode : Mode P p.c p.Wg gs.size w' ((gs.map (woken P gi gi' w')).setIfInBounds i gi') (t ++ MemOp.ofEvents i gi.frame.fn gi.frame.place es) (upd K i k') ic s) (hrank : zmp k'.rank (K i).rank) : Went P n0 W0 V gs w sl t K Im ic (some p) st i:=by
 have hlt : i < gs.size:=(Array.getElem?_eq_some_iff.1 hgi).1;have hblk : a.block = p.Wg:=by rcases haW with rfl | rfl <;> rfl
 have hcW : p.c ≠ p.Wg:=h.phase.2.2.1;have hfr : ∀ b,b ≠ p.Wg -> w'.heap[b]? = w.heap[b]?:=fun b hb => by
  rcases hw' with rfl | ⟨x,rfl⟩
  ·rfl
  ·exact zaM _ _ _ (by rw [hblk]; exact Ne.symm hb)
 have hsz : w'.heap.size = w.heap.size:=by rcases hw' with rfl | ⟨x,rfl⟩; rfl; exact zlj _ _ _
 refine h.shared hrv hi hgi hst (by rw [hd,ha.behind]; exact hk) hless hclo hidx (fun j hj => by rw [hidxK] at hj; cases hj) (hact.imp id .inr) (fun e he x hx => .inl ?_) (fun e he => ha.low (by rw [hblk]; exact h.low.2) he) (fun e he b => ha.norel he b) hsz (fun b _ hb => hfr b hb)
  (by rcases hw' with rfl | ⟨x,rfl⟩ <;> rfl) (by rcases hw' with rfl | ⟨x,rfl⟩ <;> rfl) (by rcases hw' with rfl | ⟨x,rfl⟩ <;> rfl) hmode (.inl (by rw [hfr _ hcW]; exact hopen)) ?_ (muOf hlt hrank)
 ·have:=ha.touch he hx;exact ⟨by rw [this.1]; exact hblk,this.2⟩
 ·have hr : Rest p.Wg t K ic st:=h.out.2.2.1;rw [hs] at hr;exact hr.atom ha hd fun m => by
   by_cases hm : m = i
   ·subst hm; rw [zar,hidx,hidxK]
   ·rw [zal _ _ hm]
theorem Inv.addStep (h : Inv P n0 W0 V gs w t K Im ic (some p) st) (hrv : p.recv = true) {i n : Nat} {gi : Goroutine} (hi : 0 < i) (hgi : gs[i]? = some gi) (hK : K i = .add n) (hstop : DAdd P p.Wg (Deaf t i) gi) : Went P n0 W0 V gs w sl t K Im ic (some p) st i:=by
 have hlt : i < gs.size:=(Array.getElem?_eq_some_iff.1 hgi).1;obtain ⟨s,hs,hic0,hicl,hm⟩:=h.mode hrv;have hcn : (K i).cnt = 1:=by rw [hK]; rfl
 have hla : (K i).late = 0:=by rw [hK]; rfl
 have hidxK : (K i).idx = none:=by rw [hK]; rfl
 have hopen:=(h.counted hi hlt hcn).1;have hne : ic ≠ i:=fun e => by have:=(Mode.waits hm).1; rw [e,hcn] at this; cases this
 obtain ⟨hd,hrun,hstp⟩:=hstop;have hle : (K i).cnt <= sumTo gs.size fun i => (K i).cnt:=le_sumTo (f:=fun i => (K i).cnt) hlt;have hcW : p.c ≠ p.Wg:=h.phase.2.2.1;have hq : ∀ (k' : GS),sumTo gs.size (fun a => (upd K i k' a).cnt) + (K i).cnt = sumTo gs.size (fun a => (K a).cnt) + k'.cnt:=fun k' => zdE K k' GS.cnt hlt;have hq' : ∀ (k' : GS),sumTo gs.size (fun a => (upd K i k' a).late) + (K i).late = sumTo gs.size (fun a => (K a).late) + k'.late:=fun k' => zdE K k' GS.late hlt;have hless : ∀ k' : GS,k'.view Im = zlA -> Less (k'.view Im) ((K i).view Im):=fun k' e => by rw [e]; exact zdr _
 have leave : ∀ (wt v : Nat),wt <= 1 -> v + 1 = (sumTo gs.size fun i => (K i).cnt) -> v < 4 -> ¬ (v = 0 /\ wt = 1) -> s = .early -> (sumTo gs.size fun i => (K i).late) = 0 -> WgAt P p.Wg w (((v + 1 : Nat) : Int) * KK + wt) 0 ->
   ((wt = 0 /\ ((∃ k,(K ic).shape = .head k 0 /\ v < k) \/ (∃ u,(K ic).shape = .cas u 0 /\ v <= u /\ 0 < u))) \/ (wt = 1 /\ ((K ic).shape = .said 0 \/ (K ic).shape = .csem 0))) -> Went P n0 W0 V gs w sl t K Im ic (some p) st i:=by
  intro wt v hwt hv hv16 hno hse hla0 hW hcl;obtain ⟨g',hst,_,hql⟩:=hstp v wt hwt hv16;obtain ⟨q,hql⟩:=hql hno;have hqc:=hq (.gone q);have hqL:=hq' (.gone q);simp only [hcn,hla] at hqc hqL;rw [show (GS.gone q).cnt = 0 from rfl] at hqc;rw [show (GS.gone q).late = 0 from rfl] at hqL;refine h.atomStep hrv (k':=.gone q) (a:=zeV p.Wg) hs hi hgi (hst w hW) hd (.inr (.inr (.inl rfl))) (.inl rfl) (.inr ⟨_,rfl⟩) hql (hless _ rfl) (fun x => by cases x) rfl hidxK (.inr (.inl hcn)) hopen ?_ (by rw [hK]; exact .inl (by simp [GS.rank]));have hW':=hW.set_state ((v : Int) * KK + wt);unfold Mode;simp only [zal _ _ hne];have ecn : sumTo gs.size (fun a => (upd K i (.gone q) a).cnt) = v:=by omega
  have ela : sumTo gs.size (fun a => (upd K i (.gone q) a).late) = 0:=by omega
  simp only [ecn,ela];have ho : ∃ n,(w.setCell (zeV p.Wg) (.int .u64 ((v : Int) * KK + wt))).heap[p.c]? = some (.chan 0 #[] false n n false):=by
   obtain ⟨n,hn⟩:=hopen;exact ⟨n,by rw [zaM _ _ _ (Ne.symm hcW)]; exact hn⟩
  rcases hcl with ⟨rfl,hcl⟩ | ⟨rfl,hcl⟩
  ·exact .inl ⟨ho,hse,trivial,by omega,by simpa using hW',hcl⟩
  ·exact .inr (.inl ⟨ho,hse,trivial,by omega,by omega,by simpa using hW',hcl⟩)
 unfold Mode at hm;rcases hm with m | m | m | m | m | m | m
 ·obtain ⟨m1,m2,m3,m4,m5,m6⟩:=m;refine leave 0 ((sumTo gs.size fun i => (K i).cnt) - 1) (by omega) (by omega) (by omega) (by omega) m2 m3 ?_ (.inl ⟨rfl,?_⟩)
  ·rw [show (sumTo gs.size fun i => (K i).cnt) - 1 + 1 = (sumTo gs.size fun i => (K i).cnt) by omega]; simpa using m5
  ·rcases m6 with ⟨k,e1,e2⟩ | ⟨u,e1,e2,e3⟩
   ·exact .inl ⟨k,e1,by omega⟩
   ·exact .inr ⟨u,e1,by omega,e3⟩
 ·obtain ⟨m1,m2,m3,m4,m5,m6,m7⟩:=m;by_cases hv : (sumTo gs.size fun i => (K i).cnt) = 1
  ·
   obtain ⟨g',hst,hll,_⟩:=hstp 0 1 (by omega) (by omega);obtain ⟨n',hll⟩:=hll ⟨rfl,rfl⟩;have hqc:=hq (.load n');have hqL:=hq' (.load n');simp only [hcn,hla] at hqc hqL;rw [show (GS.load n').cnt = 0 from rfl] at hqc;rw [show (GS.load n').late = 1 from rfl] at hqL;rw [hv] at m6;have hW : WgAt P p.Wg w (((0 + 1 : Nat) : Int) * KK + (1 : Nat)) 0:=(by simpa using m6);refine h.atomStep hrv (k':=.load n') (a:=zeV p.Wg) hs hi hgi (hst w hW) hd (.inr (.inr (.inl rfl))) (.inl rfl) (.inr ⟨_,rfl⟩) hll (hless _ rfl) (fun x => by cases x) rfl hidxK (.inr (.inl hcn)) hopen ?_ (by rw [hK]; exact .inl (by simp [GS.rank]));have hW':=hW.set_state (((0 : Nat) : Int) * KK + (1 : Nat));unfold Mode;simp only [zal _ _ hne];have ecn : sumTo gs.size (fun a => (upd K i (.load n') a).cnt) = 0:=(by omega);have ela : sumTo gs.size (fun a => (upd K i (.load n') a).late) = 1:=(by omega);simp only [ecn,ela];have ho : ∃ n,(w.setCell (zeV p.Wg) (.int .u64 (((0 : Nat) : Int) * KK + (1 : Nat)))).heap[p.c]? = some (.chan 0 #[] false n n false):=by
    obtain ⟨n,hn⟩:=hopen;exact ⟨n,by rw [zaM _ _ _ (Ne.symm hcW)]; exact hn⟩
   refine .inr (.inr (.inl ⟨ho,m2,trivial,trivial,m7,fun _ _ _ => by simpa using hW',fun m hm hsem => ?_⟩));exfalso;have hmi : m ≠ i:=fun e => (by subst e; rw [zar] at hsem; cases hsem);rw [zal _ _ hmi] at hsem;have hlm : (K m).late <= sumTo gs.size fun i => (K i).late:=le_sumTo (f:=fun i => (K i).late) hm;rw [m3,<- GS.late_shape,hsem] at hlm;simp [GS.late] at hlm
  ·refine leave 1 ((sumTo gs.size fun i => (K i).cnt) - 1) (by omega) (by omega) (by omega) (by omega) m2 m3 ?_ (.inr ⟨rfl,m7⟩);rw [show (sumTo gs.size fun i => (K i).cnt) - 1 + 1 = (sumTo gs.size fun i => (K i).cnt) by omega]; simpa using m6
 ·have:=m.2.2.2.1; omega
 ·have:=m.2.2.2.1; omega
 ·have:=m.2.2.2.1; omega
 ·have:=m.2.2.2.1; omega
 ·have:=m.2.2.1; omega
theorem Mode.lateOf {c Wg N : Nat} {s : Stage} (hm : Mode P c Wg N w gs t K ic s) {i : Nat} (hlt : i < N) (hla : (K i).late = 1) :
  (∃ n,w.heap[c]? = some (.chan 0 #[] false n n false)) /\ s = .early /\ (sumTo N fun i => (K i).late) = 1 /\ (sumTo N fun i => (K i).cnt) = 0 /\ ((K ic).shape = .said 0 \/ (K ic).shape = .csem 0) /\
  (((K i).shape = .load 0 \/ (K i).shape = .store 0) -> WgAt P Wg w 1 0) /\ ((K i).shape = .sem 0 -> WgAt P Wg w 0 0):=by
 have hle : (K i).late <= sumTo N fun i => (K i).late:=le_sumTo (f:=fun i => (K i).late) hlt;unfold Mode at hm;rcases hm with m | m | m | m | m | m | m
 ·have:=m.2.2.1; omega
 ·have:=m.2.2.1; omega
 ·exact ⟨m.1,m.2.1,m.2.2.1,m.2.2.2.1,m.2.2.2.2.1,m.2.2.2.2.2.1 i hlt,m.2.2.2.2.2.2 i hlt⟩
 ·have:=m.2.2.1; omega
 ·have:=m.2.2.1; omega
 ·have:=m.2.2.1; omega
 ·have:=m.2.1; omega
theorem zid {N : Nat} (h : (sumTo N fun i => (K i).late) = 1) {i m : Nat} (hi : i < N) (hm : m < N) (hne : m ≠ i) (hla : (K i).late = 1) : (K m).late = 0:=by
 have:=zdE K (.gone 0) GS.late hi;have h2 : ((upd K i (.gone 0)) m).late <= sumTo N fun a => (upd K i (.gone 0) a).late:=le_sumTo (f:=fun a => (upd K i (.gone 0) a).late) hm;rw [zal _ _ hne] at h2;simp only [hla,h,show (GS.gone 0).late = 0 from rfl] at this;omega
theorem Inv.lateStep (h : Inv P n0 W0 V gs w t K Im ic (some p) st) (hrv : p.recv = true) {i : Nat} {gi gi' : Goroutine} {es : Array Event} {k' : GS} {a : Addr} (hi : 0 < i) (hgi : gs[i]? = some gi) (hst : stepG P false gi w = .go gi' w' es) (hd : Deaf t i = 1)
  (ha : Atom a es) (haW : a = zeV p.Wg \/ a = zlY p.Wg) (hw' : w' = w \/ ∃ x,w' = w.setCell a x) (hk : k'.is P p.c p.Wg Im p.Ss 1 gi') (hv : k'.view Im = zlA) (hidx : k'.idx = none) (hidxK : (K i).idx = none) (hcnt : (K i).cnt = 0) (hcnt' : k'.cnt = 0) (hclo : k'.closer = false) (hla : (K i).late = 1)
  (hend : (k'.late = 1 /\ ((k'.shape = .load 0 \/ k'.shape = .store 0) -> WgAt P p.Wg w' 1 0) /\ (k'.shape = .sem 0 -> WgAt P p.Wg w' 0 0)) \/
   (k'.late = 0 /\ WgAt P p.Wg w' 0 1 /\ ∀ g,((gs.map (woken P gi gi' w')).setIfInBounds i gi')[ic]? = some g -> g.status = .running)) (hrank : zmp k'.rank (K i).rank) : Went P n0 W0 V gs w sl t K Im ic (some p) st i:=by
 have hlt : i < gs.size:=(Array.getElem?_eq_some_iff.1 hgi).1;obtain ⟨s,hs,hic0,hicl,hm⟩:=h.mode hrv;obtain ⟨m1,m2,m3,m4,m5,m6,m7⟩:=hm.lateOf hlt hla;have hne : ic ≠ i:=fun e => by have:=(Mode.waits hm).2; rw [e,hla] at this; cases this
 have hcW : p.c ≠ p.Wg:=h.phase.2.2.1;have hblk : a.block = p.Wg:=by rcases haW with rfl | rfl <;> rfl
 have hfr : ∀ b,b ≠ p.Wg -> w'.heap[b]? = w.heap[b]?:=fun b hb => by
  rcases hw' with rfl | ⟨x,rfl⟩
  ·rfl
  ·exact zaM _ _ _ (by rw [hblk]; exact Ne.symm hb)
 refine h.atomStep hrv hs hi hgi hst hd ha haW hw' hk (by rw [hv]; exact zdr _) (fun x => by rw [hclo] at x; cases x) hidx hidxK (.inr (.inr hla)) m1 ?_ hrank;have e1 : sumTo gs.size (fun a => (upd K i k' a).cnt) = 0:=by have:=zdE K k' GS.cnt hlt; simp only [hcnt,hcnt',m4] at this; omega
 unfold Mode;simp only [zal _ _ hne,e1,hfr _ hcW];rcases hend with ⟨x1,x2,x3⟩ | ⟨x1,x2,x3⟩
 ·have e2 : sumTo gs.size (fun a => (upd K i k' a).late) = 1:=by have:=zdE K k' GS.late hlt; simp only [hla,x1,m3] at this; omega
  refine .inr (.inr (.inl ⟨m1,m2,e2,trivial,m5,fun m hm hsh => ?_,fun m hm hsh => ?_⟩))
  ·by_cases hmi : m = i
   ·subst hmi; rw [zar] at hsh; exact x2 hsh
   ·rw [zal _ _ hmi] at hsh;have:=zid m3 hlt hm hmi hla;rw [<- GS.late_shape] at this;rcases hsh with e | e <;> rw [e] at this <;> cases this
  ·by_cases hmi : m = i
   ·subst hmi; rw [zar] at hsh; exact x3 hsh
   ·rw [zal _ _ hmi] at hsh;have:=zid m3 hlt hm hmi hla;rw [<- GS.late_shape,hsh] at this; cases this
 ·have e2 : sumTo gs.size (fun a => (upd K i k' a).late) = 0:=by have:=zdE K k' GS.late hlt; simp only [hla,x1,m3] at this; omega
  exact .inr (.inr (.inr (.inl ⟨m1,m2,e2,trivial,x2,x3,m5⟩)))
theorem Inv.loadStep (h : Inv P n0 W0 V gs w t K Im ic (some p) st) (hrv : p.recv = true) {i n : Nat} {gi : Goroutine} (hi : 0 < i) (hgi : gs[i]? = some gi) (hK : K i = .load n) (hstop : zqr P p.Wg (Deaf t i) gi) : Went P n0 W0 V gs w sl t K Im ic (some p) st i:=by
 have hlt : i < gs.size:=(Array.getElem?_eq_some_iff.1 hgi).1;obtain ⟨s,hs,hic0,hicl,hm⟩:=h.mode hrv;have hla : (K i).late = 1:=by rw [hK]; rfl
 obtain ⟨m1,m2,m3,m4,m5,m6,m7⟩:=hm.lateOf hlt hla;obtain ⟨hd,hrun,g',hst,n',hsl⟩:=hstop;have hW:=m6 (by rw [hK]; exact .inl rfl);exact h.lateStep hrv (k':=.store n') (a:=zeV p.Wg) hi hgi (hst w hW) hd (.inl rfl) (.inl rfl) (.inl rfl) hsl rfl rfl (by rw [hK]; rfl) (by rw [hK]; rfl) rfl rfl hla (.inl ⟨rfl,fun _ => hW,fun x => by cases x⟩) (by rw [hK]; exact .inl (by simp [GS.rank]))
theorem Inv.storeStep (h : Inv P n0 W0 V gs w t K Im ic (some p) st) (hrv : p.recv = true) {i n : Nat} {gi : Goroutine} (hi : 0 < i) (hgi : gs[i]? = some gi) (hK : K i = .store n) (hstop : zn5 P p.Wg (Deaf t i) gi) : Went P n0 W0 V gs w sl t K Im ic (some p) st i:=by
 have hlt : i < gs.size:=(Array.getElem?_eq_some_iff.1 hgi).1;obtain ⟨s,hs,hic0,hicl,hm⟩:=h.mode hrv;have hla : (K i).late = 1:=by rw [hK]; rfl
 obtain ⟨m1,m2,m3,m4,m5,m6,m7⟩:=hm.lateOf hlt hla;obtain ⟨hd,hrun,g',hst,n',hsl⟩:=hstop;have hW:=m6 (by rw [hK]; exact .inr rfl);exact h.lateStep hrv (k':=.sem n') (a:=zeV p.Wg) hi hgi (hst w hW) hd (.inr (.inl rfl)) (.inl rfl) (.inr ⟨_,rfl⟩) hsl rfl rfl (by rw [hK]; rfl) (by rw [hK]; rfl) rfl rfl hla (.inl ⟨rfl,fun x => (x.elim (fun y => by cases y) (fun y => by cases y)),fun _ => hW.set_state 0⟩) (by rw [hK]; exact .inl (by simp [GS.rank]))
theorem Inv.semStep (h : Inv P n0 W0 V gs w t K Im ic (some p) st) (hrv : p.recv = true) {i n : Nat} {gi : Goroutine} (hi : 0 < i) (hgi : gs[i]? = some gi) (hK : K i = .sem n) (hstop : DSem P p.Wg (Deaf t i) gi) : Went P n0 W0 V gs w sl t K Im ic (some p) st i:=by
 have hlt : i < gs.size:=(Array.getElem?_eq_some_iff.1 hgi).1;obtain ⟨s,hs,hic0,hicl,hm⟩:=h.mode hrv;have hla : (K i).late = 1:=by rw [hK]; rfl
 obtain ⟨m1,m2,m3,m4,m5,m6,m7⟩:=hm.lateOf hlt hla;obtain ⟨hd,hrun,hmw,g',hst,q,hql⟩:=hstop;have hW:=m7 (by rw [hK]; rfl);have hne : ic ≠ i:=fun e => by have:=(Mode.waits hm).2; rw [e,hla] at this; cases this
 refine h.lateStep hrv (k':=.gone q) (a:=zlY p.Wg) hi hgi (hst w hW) hd (.inr (.inr (.inr rfl))) (.inr rfl) (.inr ⟨_,rfl⟩) hql rfl rfl (by rw [hK]; rfl) (by rw [hK]; rfl) rfl rfl hla (.inr ⟨rfl,hW.set_sema 1,fun g hg => ?_⟩) (by rw [hK]; exact .inl (by simp [GS.rank]));rcases getElem?_next hlt hg with ⟨e,_⟩ | ⟨_,y,hy,rfl⟩
 ·exact absurd e hne
 ·have hiy:=h.is ic y hic0 hy;simp only at hiy;have hsh : (∃ n,K ic = .said n) \/ ∃ n,K ic = .csem n:=by
   cases hKc : K ic <;> rw [hKc] at m5 <;> simp [GS.shape] at m5
   ·exact .inl ⟨_,rfl⟩
   ·exact .inr ⟨_,rfl⟩
  rcases hsh with ⟨n1,e⟩ | ⟨n1,e⟩
  ·rw [e] at hiy;have hr : y.status = .running:=SlideW.running (fun d g x => x.2.1) hiy;rw [woken_run hr]; exact hr
  ·rw [e] at hiy;rcases hiy with hiy | ⟨_,g1,rfl,hg1⟩
   ·have hr : y.status = .running:=Slide.running (fun d g x => x.2.1) hiy;rw [woken_run hr]; exact hr
   ·have hgs : g'.status = .running \/ g'.status = .finished:=QuitsD.status hql;unfold woken;have hcnd : (mayWake P gi && g'.status != .blocked && g'.status != .waiting) = true:=(by rcases hgs with hs | hs <;> simp [hmw,hs]);rw [if_pos hcnd];unfold Goroutine.again;have:=hg1.2.2.1;simp [this]
theorem Mode.atHead {c Wg N k : Nat} {s : Stage} (hm : Mode P c Wg N w gs t K ic s) (e : (K ic).shape = .head k 0) :
  (∃ n,w.heap[c]? = some (.chan 0 #[] false n n false)) /\ s = .early /\ (sumTo N fun i => (K i).late) = 0 /\ (sumTo N fun i => (K i).cnt) <= 4 /\ WgAt P Wg w (((sumTo N fun i => (K i).cnt : Nat) : Int) * KK) 0 /\ (sumTo N fun i => (K i).cnt) < k:=by
 unfold Mode at hm;simp only [e] at hm;rcases hm with m | m | m | m | m | m | m
 ·obtain ⟨a,b,c,d,f,x⟩:=m;refine ⟨a,b,c,d,f,?_⟩;rcases x with ⟨k',x,y⟩ | ⟨v,x,_⟩
  ·cases x; exact y
  ·cases x
 ·rcases m.2.2.2.2.2.2 with x | x <;> cases x
 ·rcases m.2.2.2.2.1 with x | x <;> cases x
 ·rcases m.2.2.2.2.2.2 with x | x <;> cases x
 ·rcases m.2.2.2.2.2 with x | x <;> cases x
 ·rcases m.2.2.2.2 with x | x <;> cases x
 ·cases m.2.2.2
theorem Mode.atCas {c Wg N v : Nat} {s : Stage} (hm : Mode P c Wg N w gs t K ic s) (e : (K ic).shape = .cas v 0) :
  (∃ n,w.heap[c]? = some (.chan 0 #[] false n n false)) /\ s = .early /\ (sumTo N fun i => (K i).late) = 0 /\ (sumTo N fun i => (K i).cnt) <= 4 /\ WgAt P Wg w (((sumTo N fun i => (K i).cnt : Nat) : Int) * KK) 0 /\ (sumTo N fun i => (K i).cnt) <= v /\ 0 < v:=by
 unfold Mode at hm;simp only [e] at hm;rcases hm with m | m | m | m | m | m | m
 ·obtain ⟨a,b,c,d,f,x⟩:=m;refine ⟨a,b,c,d,f,?_⟩;rcases x with ⟨k',x,y⟩ | ⟨v,x,y⟩
  ·cases x
  ·cases x; exact y
 ·rcases m.2.2.2.2.2.2 with x | x <;> cases x
 ·rcases m.2.2.2.2.1 with x | x <;> cases x
 ·rcases m.2.2.2.2.2.2 with x | x <;> cases x
 ·rcases m.2.2.2.2.2 with x | x <;> cases x
 ·rcases m.2.2.2.2 with x | x <;> cases x
 ·cases m.2.2.2
theorem Mode.atLast {c Wg N : Nat} {s : Stage} (hm : Mode P c Wg N w gs t K ic s) (e : (K ic).shape = .last 0 \/ (K ic).shape = .acq 0) :
  (∃ n,w.heap[c]? = some (.chan 0 #[] false n n false)) /\ s = .early /\ (sumTo N fun i => (K i).late) = 0 /\ (sumTo N fun i => (K i).cnt) = 0 /\ WgAt P Wg w 0 0:=by
 unfold Mode at hm;rcases hm with m | m | m | m | m | m | m
 ·rcases m.2.2.2.2.2 with ⟨_,x,_⟩ | ⟨_,x,_⟩ <;> rcases e with e | e <;> rw [e] at x <;> cases x
 ·rcases m.2.2.2.2.2.2 with x | x <;> rcases e with e | e <;> rw [e] at x <;> cases x
 ·rcases m.2.2.2.2.1 with x | x <;> rcases e with e | e <;> rw [e] at x <;> cases x
 ·rcases m.2.2.2.2.2.2 with x | x <;> rcases e with e | e <;> rw [e] at x <;> cases x
 ·exact ⟨m.1,m.2.1,m.2.2.1,m.2.2.2.1,m.2.2.2.2.1⟩
 ·rcases m.2.2.2.2 with x | x <;> rcases e with e | e <;> rw [e] at x <;> cases x
 ·have x:=m.2.2.2; rcases e with e | e <;> rw [e] at x <;> cases x
theorem Mode.atLook {c Wg N : Nat} {s : Stage} (hm : Mode P c Wg N w gs t K ic s) (e : (K ic).shape = .look 0 \/ (K ic).shape = .close 0) :
  (∃ n,w.heap[c]? = some (.chan 0 #[] false n n false)) /\ s = .got /\ (sumTo N fun i => (K i).late) = 0 /\ (sumTo N fun i => (K i).cnt) = 0:=by
 unfold Mode at hm;rcases hm with m | m | m | m | m | m | m
 ·rcases m.2.2.2.2.2 with ⟨_,x,_⟩ | ⟨_,x,_⟩ <;> rcases e with e | e <;> rw [e] at x <;> cases x
 ·rcases m.2.2.2.2.2.2 with x | x <;> rcases e with e | e <;> rw [e] at x <;> cases x
 ·rcases m.2.2.2.2.1 with x | x <;> rcases e with e | e <;> rw [e] at x <;> cases x
 ·rcases m.2.2.2.2.2.2 with x | x <;> rcases e with e | e <;> rw [e] at x <;> cases x
 ·rcases m.2.2.2.2.2 with x | x <;> rcases e with e | e <;> rw [e] at x <;> cases x
 ·exact ⟨m.1,m.2.1,m.2.2.1,m.2.2.2.1⟩
 ·have x:=m.2.2.2; rcases e with e | e <;> rw [e] at x <;> cases x
theorem Mode.atSaid {c Wg N : Nat} {s : Stage} (hm : Mode P c Wg N w gs t K ic s) (e : (K ic).shape = .said 0 \/ (K ic).shape = .csem 0) :
  (∃ n,w.heap[c]? = some (.chan 0 #[] false n n false)) /\ s = .early /\ ((∃ st,WgAt P Wg w st 0) \/ ((sumTo N fun i => (K i).late) = 0 /\ (sumTo N fun i => (K i).cnt) = 0 /\ WgAt P Wg w 0 1)) /\
  ∀ {w' : World} {gs' : Array Goroutine} {u : Trace} {k' : GS},(k'.shape = .said 0 \/ k'.shape = .csem 0) -> w'.heap[c]? = w.heap[c]? -> w'.heap[Wg]? = w.heap[Wg]? -> (WgAt P Wg w 0 1 -> ∀ g,gs'[ic]? = some g -> g.status = .running) -> ic < N -> Mode P c Wg N w' gs' (t ++ u) (upd K ic k') ic s:=by
 have wait : ∀ {k : GS},(k.shape = .said 0 \/ k.shape = .csem 0) -> k.cnt = 0 /\ k.late = 0:=fun {k} h => by rw [<- GS.cnt_shape,<- GS.late_shape]; rcases h with h | h <;> rw [h] <;> exact ⟨rfl,rfl⟩
 have tail : ∀ (w' : World) (gs' : Array Goroutine) (u : Trace) (k' : GS),(k'.shape = .said 0 \/ k'.shape = .csem 0) -> w'.heap[c]? = w.heap[c]? -> w'.heap[Wg]? = w.heap[Wg]? -> (WgAt P Wg w 0 1 -> ∀ g,gs'[ic]? = some g -> g.status = .running) -> ic < N -> Mode P c Wg N w' gs' (t ++ u) (upd K ic k') ic s:=by
  intro w' gs' u k' hk hc hW hr hic;have e1 : sumTo N (fun i => (upd K ic k' i).cnt) = sumTo N fun i => (K i).cnt:=zaO K k' GS.cnt (by rw [(wait hk).1,(wait e).1]);have e2 : sumTo N (fun i => (upd K ic k' i).late) = sumTo N fun i => (K i).late:=zaO K k' GS.late (by rw [(wait hk).2,(wait e).2]);have e3 : ∀ st sm,WgAt P Wg w' st sm = WgAt P Wg w st sm:=fun st sm => by unfold WgAt; rw [hW]
  have e5 : ∀ i (q : GS),(q = .load 0 \/ q = .store 0 \/ q = .sem 0) -> (upd K ic k' i).shape = q -> (K i).shape = q:=fun i q hq hs => by
   by_cases hi : i = ic
   ·subst hi; rw [zar] at hs;rcases hk with x | x <;> rw [x] at hs <;> subst hs <;> rcases hq with y | y | y <;> cases y
   ·rw [zal _ _ hi] at hs; exact hs
  unfold Mode at hm ⊢;simp only [e1,e2,e3,hc,zar];rcases hm with m | m | m | m | m | m | m
  ·rcases m.2.2.2.2.2 with ⟨_,x,_⟩ | ⟨_,x,_⟩ <;> rcases e with e | e <;> rw [e] at x <;> cases x
  ·exact .inr (.inl ⟨m.1,m.2.1,m.2.2.1,m.2.2.2.1,m.2.2.2.2.1,m.2.2.2.2.2.1,hk⟩)
  ·exact .inr (.inr (.inl ⟨m.1,m.2.1,m.2.2.1,m.2.2.2.1,hk,fun i hi x => m.2.2.2.2.2.1 i hi (x.imp (e5 i _ (.inl rfl)) (e5 i _ (.inr (.inl rfl)))),fun i hi x => m.2.2.2.2.2.2 i hi (e5 i _ (.inr (.inr rfl)) x)⟩))
  ·exact .inr (.inr (.inr (.inl ⟨m.1,m.2.1,m.2.2.1,m.2.2.2.1,m.2.2.2.2.1,hr m.2.2.2.2.1,hk⟩)))
  ·rcases m.2.2.2.2.2 with x | x <;> rcases e with e | e <;> rw [e] at x <;> cases x
  ·rcases m.2.2.2.2 with x | x <;> rcases e with e | e <;> rw [e] at x <;> cases x
  ·have x:=m.2.2.2; rcases e with e | e <;> rw [e] at x <;> cases x
 have hm0:=hm;unfold Mode at hm;rcases hm with m | m | m | m | m | m | m
 ·rcases m.2.2.2.2.2 with ⟨_,x,_⟩ | ⟨_,x,_⟩ <;> rcases e with e | e <;> rw [e] at x <;> cases x
 ·exact ⟨m.1,m.2.1,.inl ⟨_,m.2.2.2.2.2.1⟩,fun {w'} {gs'} {u} {k'} => tail w' gs' u k'⟩
 ·refine ⟨m.1,m.2.1,.inl ?_,fun {w'} {gs'} {u} {k'} => tail w' gs' u k'⟩;have : ∃ i,i < N /\ (K i).late = 1:=by
   apply Classical.byContradiction;intro hno;have hz : sumTo N (fun i => (K i).late) = sumTo N fun _ => 0:=sumTo_congr fun i hi => by
    have hne : ¬ (K i).late = 1:=fun x => hno ⟨i,hi,x⟩;cases hKi : K i <;> rw [hKi] at hne <;> first | rfl | exact absurd rfl hne
   have h0 : sumTo N (fun _ => 0) = 0:=by
    have : ∀ N,sumTo N (fun _ => 0) = 0:=fun N => (by induction N with | zero => rfl | succ N ih => simp [sumTo,ih]);exact this N
   have:=m.2.2.1;omega
  obtain ⟨i,hi,hla⟩:=this;obtain ⟨_,_,_,_,_,m6,m7⟩:=hm0.lateOf hi hla;cases hKi : K i <;> rw [hKi] at hla m6 m7 <;> simp [GS.late] at hla
  ·exact ⟨1,m6 (.inl rfl)⟩
  ·exact ⟨1,m6 (.inr rfl)⟩
  ·exact ⟨0,m7 rfl⟩
 ·exact ⟨m.1,m.2.1,.inr ⟨m.2.2.1,m.2.2.2.1,m.2.2.2.2.1⟩,fun {w'} {gs'} {u} {k'} => tail w' gs' u k'⟩
 ·rcases m.2.2.2.2.2 with x | x <;> rcases e with e | e <;> rw [e] at x <;> cases x
 ·rcases m.2.2.2.2 with x | x <;> rcases e with e | e <;> rw [e] at x <;> cases x
 ·have x:=m.2.2.2; rcases e with e | e <;> rw [e] at x <;> cases x
theorem zeb (Im : Imm) : Less { zlA with imm:=Im } { zlA with imm:=Im }:=⟨fun _ => .inr rfl,fun _ _ => .inr rfl,fun _ _ _ => rfl⟩
theorem zfF (Im : Imm) : Less zlA { zlA with imm:=Im }:=⟨fun _ => .inr rfl,fun _ _ => .inl rfl,fun b hb => absurd rfl hb⟩
theorem Inv.closerAtom (h : Inv P n0 W0 V gs w t K Im ic (some p) st) (hrv : p.recv = true) {gi gi' : Goroutine} {es : Array Event} {k' : GS} {a : Addr} {s : Stage} (hs : st = some s) (hgi : gs[ic]? = some gi) (hst : stepG P false gi w = .go gi' w' es) (hd : Deaf t ic = 1)
  (ha : Atom a es) (haW : a = zeV p.Wg \/ a = zlY p.Wg) (hw' : w' = w \/ ∃ x,w' = w.setCell a x) (hk : k'.is P p.c p.Wg Im p.Ss 1 gi') (hv : k'.view Im = { zlA with imm:=Im }) (hv' : (K ic).view Im = { zlA with imm:=Im }) (hidx : k'.idx = none) (hidxK : (K ic).idx = none)
  (hopen : ∃ n,w.heap[p.c]? = some (.chan 0 #[] false n n false))
  (hmode : Mode P p.c p.Wg gs.size w' ((gs.map (woken P gi gi' w')).setIfInBounds ic gi') (t ++ MemOp.ofEvents ic gi.frame.fn gi.frame.place es) (upd K ic k') ic s) (hrank : zmp k'.rank (K ic).rank) : Went P n0 W0 V gs w sl t K Im ic (some p) st ic:=by
 obtain ⟨s',_,hic0,_,_⟩:=h.mode hrv;exact h.atomStep hrv hs hic0 hgi hst hd ha haW hw' hk (by rw [hv,hv']; exact zeb Im) (fun _ => rfl) hidx hidxK (.inl rfl) hopen hmode hrank
theorem Inv.headStep (h : Inv P n0 W0 V gs w t K Im ic (some p) st) (hrv : p.recv = true) {k n : Nat} {gi : Goroutine} (hgi : gs[ic]? = some gi) (hK : K ic = .head k n) (hstop : CHead P Im p.c p.Wg k (Deaf t ic) gi) : Went P n0 W0 V gs w sl t K Im ic (some p) st ic:=by
 obtain ⟨s,hs,hic0,hicl,hm⟩:=h.mode hrv;obtain ⟨m1,m2,m3,m4,m5,m6⟩:=hm.atHead (k:=k) (by rw [hK]; rfl);obtain ⟨k,rfl⟩ : ∃ k',k = k' + 1:=⟨k - 1,by omega⟩;obtain ⟨hd,hrun,hstp⟩:=CHead.succ _ _ _ _ hstop;obtain ⟨g',hst,hz,hnz⟩:=hstp _ (by omega) m4;have hst':=hst w m5;have cnts : ∀ k' : GS,k'.cnt = 0 -> k'.late = 0 -> sumTo gs.size (fun i => (upd K ic k' i).cnt) = (sumTo gs.size fun i => (K i).cnt) /\ sumTo gs.size (fun i => (upd K ic k' i).late) = (sumTo gs.size fun i => (K i).late):=fun k' h1 h2 =>
  ⟨zaO K k' GS.cnt (by rw [h1,hK]; rfl),zaO K k' GS.late (by rw [h2,hK]; rfl)⟩
 by_cases hv : (sumTo gs.size fun i => (K i).cnt) = 0
 ·obtain ⟨n',hsl⟩:=hz hv;refine h.closerAtom hrv (k':=.acq n') (a:=zeV p.Wg) hs hgi hst' hd (.inl rfl) (.inl rfl) (.inl rfl) hsl rfl (by rw [hK]; rfl) rfl (by rw [hK]; rfl) m1 ?_ (by rw [hK]; exact .inl (by simp [GS.rank]; omega));unfold Mode;simp only [(cnts (.acq n') rfl rfl).1,(cnts (.acq n') rfl rfl).2,zar];refine .inr (.inr (.inr (.inr (.inl ⟨m1,m2,m3,hv,?_,.inr rfl⟩))));rw [hv] at m5; simpa using m5
 ·obtain ⟨n',hsl⟩:=hnz hv;refine h.closerAtom hrv (k':=.cas (sumTo gs.size fun i => (K i).cnt) n') (a:=zeV p.Wg) hs hgi hst' hd (.inl rfl) (.inl rfl) (.inl rfl) hsl rfl (by rw [hK]; rfl) rfl (by rw [hK]; rfl) m1 ?_ (by rw [hK]; exact .inl (by simp [GS.rank]; omega));unfold Mode;simp only [(cnts (.cas _ n') rfl rfl).1,(cnts (.cas _ n') rfl rfl).2,zar];exact .inl ⟨m1,m2,m3,m4,m5,.inr ⟨_,rfl,Nat.le_refl _,by omega⟩⟩
theorem Inv.casStep (h : Inv P n0 W0 V gs w t K Im ic (some p) st) (hrv : p.recv = true) {v n : Nat} {gi : Goroutine} (hgi : gs[ic]? = some gi) (hK : K ic = .cas v n) (hstop : CCas P p.c p.Wg Im v (Deaf t ic) gi) : Went P n0 W0 V gs w sl t K Im ic (some p) st ic:=by
 obtain ⟨s,hs,hic0,hicl,hm⟩:=h.mode hrv;obtain ⟨m1,m2,m3,m4,m5,m6,m7⟩:=hm.atCas (v:=v) (by rw [hK]; rfl);obtain ⟨hd,hrun,⟨g1,hst1,n1,hsl1⟩,hmiss⟩:=hstop;have hcW : p.c ≠ p.Wg:=h.phase.2.2.1;have cnts : ∀ k' : GS,k'.cnt = 0 -> k'.late = 0 -> sumTo gs.size (fun i => (upd K ic k' i).cnt) = (sumTo gs.size fun i => (K i).cnt) /\ sumTo gs.size (fun i => (upd K ic k' i).late) = (sumTo gs.size fun i => (K i).late):=fun k' h1 h2 =>
  ⟨zaO K k' GS.cnt (by rw [h1,hK]; rfl),zaO K k' GS.late (by rw [h2,hK]; rfl)⟩
 by_cases hv : (sumTo gs.size fun i => (K i).cnt) = v
 ·refine h.closerAtom hrv (k':=.said n1) (a:=zeV p.Wg) hs hgi (hst1 w (by rw [<- hv]; exact m5)) hd (.inr (.inr (.inl rfl))) (.inl rfl) (.inr ⟨_,rfl⟩) hsl1 rfl (by rw [hK]; rfl) rfl (by rw [hK]; rfl) m1 ?_ (by rw [hK]; exact .inl (by simp [GS.rank]; omega));unfold Mode;simp only [(cnts (.said n1) rfl rfl).1,(cnts (.said n1) rfl rfl).2,zar];refine .inr (.inl ⟨?_,m2,m3,by omega,m4,?_,.inl rfl⟩)
  ·obtain ⟨n,hn⟩:=m1;exact ⟨n,by rw [zaM _ _ _ (Ne.symm hcW)]; exact hn⟩
  ·rw [hv]; exact m5.set_state _
 ·obtain ⟨g',hst',n',hsl⟩:=hmiss (sumTo gs.size fun i => (K i).cnt) (by omega);refine h.closerAtom hrv (k':=.head v n') (a:=zeV p.Wg) hs hgi (hst' w m5) hd (.inl rfl) (.inl rfl) (.inl rfl) hsl rfl (by rw [hK]; rfl) rfl (by rw [hK]; rfl) m1 ?_ (by rw [hK]; exact .inl (by simp [GS.rank]));unfold Mode;simp only [(cnts (.head v n') rfl rfl).1,(cnts (.head v n') rfl rfl).2,zar];exact .inl ⟨m1,m2,m3,m4,m5,.inl ⟨v,rfl,by omega⟩⟩
theorem Inv.lastStep (h : Inv P n0 W0 V gs w t K Im ic (some p) st) (hrv : p.recv = true) {n : Nat} {gi : Goroutine} (hgi : gs[ic]? = some gi) (hK : K ic = .last n) (hstop : zr8 P Im p.c p.Wg (Deaf t ic) gi) : Went P n0 W0 V gs w sl t K Im ic (some p) st ic:=by
 obtain ⟨s,hs,hic0,hicl,hm⟩:=h.mode hrv;obtain ⟨m1,m2,m3,m4,m5⟩:=hm.atLast (.inl (by rw [hK]; rfl));obtain ⟨hd,hrun,g',hst,n',hsl⟩:=hstop;refine h.closerAtom hrv (k':=.acq n') (a:=zeV p.Wg) hs hgi (hst w m5) hd (.inl rfl) (.inl rfl) (.inl rfl) hsl rfl (by rw [hK]; rfl) rfl (by rw [hK]; rfl) m1 ?_ (by rw [hK]; exact .inl (by simp [GS.rank]));unfold Mode;have e1 : sumTo gs.size (fun i => (upd K ic (.acq n') i).cnt) = 0:=by rw [zaO K (.acq n') GS.cnt (by rw [hK]; rfl)]; exact m4
 have e2 : sumTo gs.size (fun i => (upd K ic (.acq n') i).late) = 0:=by rw [zaO K (.acq n') GS.late (by rw [hK]; rfl)]; exact m3
 simp only [e1,e2,zar];exact .inr (.inr (.inr (.inr (.inl ⟨m1,m2,trivial,trivial,m5,.inr rfl⟩))))
theorem Inv.csemStep (h : Inv P n0 W0 V gs w t K Im ic (some p) st) (hrv : p.recv = true) {n : Nat} {gi : Goroutine} (hgi : gs[ic]? = some gi) (hK : K ic = .csem n) (hstop : CSem P Im p.c p.Wg (Deaf t ic) gi) : Went P n0 W0 V gs w sl t K Im ic (some p) st ic:=by
 obtain ⟨s,hs,hic0,hicl,hm⟩:=h.mode hrv;obtain ⟨m1,m2,m3,mk⟩:=hm.atSaid (.inr (by rw [hK]; rfl));obtain ⟨hd,hrun,hoff,hblk,g',htake,n',hsl⟩:=hstop;have hcW : p.c ≠ p.Wg:=h.phase.2.2.1;rcases m3 with ⟨stv,hW⟩ | ⟨m4,m5,hW⟩
 ·
  have hst:=hblk w stv hW;have hnot : ¬ WgAt P p.Wg w 0 1:=fun x => by have:=(hW.inj x).2; cases this
  refine h.shared hrv (k':=.csem 0) (s':=s) hic0 hgi hst (.inr ⟨rfl,gi,rfl,by rw [hd]; exact ⟨rfl,hrun,hoff,hblk,g',htake,n',hsl⟩⟩) (by rw [hK]; exact zeb Im) (fun _ => rfl) rfl (fun j hj => by rw [hK] at hj; cases hj) (.inl rfl) (by simp) (by simp) (by simp) rfl (fun _ _ _ => rfl) rfl rfl rfl
   (mk (.inr rfl) rfl rfl (fun x => absurd x hnot) hicl) (.inl m1) ?_ ?_
  ·have e0 : t ++ MemOp.ofEvents ic gi.frame.fn gi.frame.place #[] = t:=(by simp [MemOp.ofEvents]);have hr : Rest p.Wg t K ic st:=h.out.2.2.1;rw [hs] at hr;refine hr.app (fun idx a ha hx => .inr (hx.app (by obtain ⟨op,hop,_⟩:=touch_of ha; exact lt_size_of_getElem? hop) fun m _ _ hj => .inl ?_)) (fun idx a _ ⟨op,hop,_⟩ _ => by simp [MemOp.ofEvents] at hop);by_cases hmi : m = ic
   ·subst hmi; rw [hK] at hj; cases hj
   ·rw [zal _ _ hmi]; exact hj
  ·by_cases hn : n = 0
   ·refine .inr ⟨funext fun j => ?_,?_⟩
    ·by_cases hj : j = ic
     ·subst hj; simp only [zar,hK,hn]
     ·simp only [zal _ _ hj]
    ·simp only [flag];rw [Array.getElem?_setIfInBounds_self_of_lt (by simpa using hicl),hgi];simp [hrun]
   ·exact muOf hicl (by rw [hK]; exact .inr ⟨rfl,.inr ⟨rfl,by simp only [GS.rank]; omega⟩⟩)
 ·refine h.closerAtom hrv (k':=.last n') (a:=zlY p.Wg) hs hgi (htake w hW) hd (.inr (.inr (.inr rfl))) (.inr rfl) (.inr ⟨_,rfl⟩) hsl rfl (by rw [hK]; rfl) rfl (by rw [hK]; rfl) m1 ?_ (by rw [hK]; exact .inl (by simp [GS.rank]));unfold Mode;have e1 : sumTo gs.size (fun i => (upd K ic (.last n') i).cnt) = 0:=by rw [zaO K (.last n') GS.cnt (by rw [hK]; rfl)]; exact m5
  have e2 : sumTo gs.size (fun i => (upd K ic (.last n') i).late) = 0:=by rw [zaO K (.last n') GS.late (by rw [hK]; rfl)]; exact m4
  simp only [e1,e2,zar];obtain ⟨n,hn⟩:=m1;exact .inr (.inr (.inr (.inr (.inl ⟨⟨n,by rw [zaM _ _ _ (Ne.symm hcW)]; exact hn⟩,m2,trivial,trivial,hW.set_sema 0,.inl rfl⟩))))
theorem Inv.saidStep (h : Inv P n0 W0 V gs w t K Im ic (some p) st) (hrv : p.recv = true) {n : Nat} {gi : Goroutine} (hgi : gs[ic]? = some gi) (hK : K ic = .said n) (hstop : zqs P Im p.c p.Wg (Deaf t ic) gi) : Went P n0 W0 V gs w sl t K Im ic (some p) st ic:=by
 obtain ⟨s,hs,hic0,hicl,hm⟩:=h.mode hrv;obtain ⟨m1,m2,m3,mk⟩:=hm.atSaid (.inl (by rw [hK]; rfl));obtain ⟨hd,hrun,g',hst,n',hsl⟩:=hstop;have hmt : ∀ e ∈ #[eMk (.write (zlY p.Wg))],e = eMk (.write (zlY p.Wg)):=fun e he => by simpa using he
 have hrun' : g'.status = .running:=Slide.running (fun d g x => x.2.1) hsl;refine h.shared hrv (k':=.csem n') (s':=s) hic0 hgi (hst w) (.inl (by rw [hd]; exact hsl)) (by rw [hK]; exact zeb Im) (fun _ => rfl) rfl (fun j hj => by rw [hK] at hj; cases hj) (.inl rfl) (fun e he x hx => .inr (.inl ?_)) (fun e he => ?_) (fun e he a => ?_) rfl (fun _ _ _ => rfl) rfl rfl rfl
  (mk (.inr rfl) rfl rfl (fun _ g hg => ?_) hicl) (.inl m1) ?_ (muOf hicl (by rw [hK]; exact .inl (by simp [GS.rank])))
 ·rw [hmt e he] at hx; cases hx; exact ⟨rfl,rfl,rfl⟩
 ·rw [hmt e he]; exact h.low.2
 ·rw [hmt e he]; simp [eMk,MemAct.ofEvent]
 ·rcases getElem?_next hicl hg with ⟨_,rfl⟩ | ⟨hne,_⟩
  ·exact hrun'
  ·exact absurd rfl hne
 ·have hr : Rest p.Wg t K ic st:=h.out.2.2.1;rw [hs,m2] at hr;rw [m2];refine hr.app (fun idx a ha hx => .inr (hx.app (by obtain ⟨op,hop,_⟩:=touch_of ha; exact lt_size_of_getElem? hop) fun m _ _ hj => .inl ?_)) (fun idx a _ ⟨op,hop,hidx',_⟩ _ => .inr (.inr ⟨ic,?_,hic0,.inr (.inl rfl)⟩))
  ·by_cases hmi : m = ic
   ·subst hmi; rw [hK] at hj; cases hj
   ·rw [zal _ _ hmi]; exact hj
  ·obtain ⟨e,_,rfl⟩:=Conc.mem_ofEvents hop;simp [Trace.g?,hidx']
theorem zeQ {t : Trace} {g i j : Nat} (hi : t.g? i = some g) (hj : t.g? j = some g) (h : i <= j) : Before t i j:=by
 rcases Nat.eq_or_lt_of_le h with rfl | h
 ·exact .inl rfl
 ·obtain ⟨a,ha,rfl⟩:=Option.map_eq_some_iff.1 hi;obtain ⟨b,hb,hg⟩:=Option.map_eq_some_iff.1 hj;exact .inr (.single (.inl ⟨h,by simp [Trace.g?,ha,hb,hg]⟩))
theorem Inv.acqStep (h : Inv P n0 W0 V gs w t K Im ic (some p) st) (hrv : p.recv = true) {n : Nat} {gi : Goroutine} (hgi : gs[ic]? = some gi) (hK : K ic = .acq n) (hstop : CAcq P Im p.c p.Wg (Deaf t ic) gi) : Went P n0 W0 V gs w sl t K Im ic (some p) st ic:=by
 obtain ⟨s,hs,hic0,hicl,hm⟩:=h.mode hrv;obtain ⟨m1,m2,m3,m4,m5⟩:=hm.atLast (.inr (by rw [hK]; rfl));obtain ⟨hd,hrun,g',hst,n',hsl⟩:=hstop;have hmt : ∀ e ∈ #[eMk (.acquire (zeV p.Wg))],e = eMk (.acquire (zeV p.Wg)):=fun e he => by simpa using he
 have hrun' : g'.status = .running:=Slide.running (fun d g x => x.2.1) hsl;refine h.shared hrv (k':=.look n') (s':=.got) hic0 hgi (hst w) (by rw [hd]; exact hsl) (by rw [hK]; exact zeb Im) (fun _ => rfl) rfl (fun j hj => by rw [hK] at hj; cases hj) (.inl rfl) (fun e he x hx => ?_) (fun e he => ?_) (fun e he a => ?_) rfl (fun _ _ _ => rfl) rfl rfl rfl
  ?_ (.inl m1) ?_ (muOf hicl (by rw [hK]; exact .inl (by simp [GS.rank])))
 ·rw [hmt e he] at hx; cases hx
 ·rw [hmt e he]; exact h.low.2
 ·rw [hmt e he]; simp [eMk,MemAct.ofEvent]
 ·unfold Mode;have e1 : sumTo gs.size (fun i => (upd K ic (.look n') i).cnt) = 0:=by rw [zaO K (.look n') GS.cnt (by rw [hK]; rfl)]; exact m4
  have e2 : sumTo gs.size (fun i => (upd K ic (.look n') i).late) = 0:=by rw [zaO K (.look n') GS.late (by rw [hK]; rfl)]; exact m3
  simp only [e1,e2,zar];exact .inr (.inr (.inr (.inr (.inr (.inl ⟨m1,trivial,trivial,trivial,.inl rfl⟩)))))
 ·have hr : Rest p.Wg t K ic st:=h.out.2.2.1;rw [hs,m2] at hr;rw [zcv];refine hr.app (fun idx a ha hx => .inr ?_) (fun idx a _ ⟨op,hop,_,hx⟩ _ => ?_)
  ·obtain ⟨i,hgi',hi0,hx⟩:=hx;have hnorel:=h.core.ti.norel;have own : t.g? idx = some ic -> Knows (t ++ #[{ g:=ic,fn:=gi.frame.fn,pos:=gi.frame.place,act:=.ofEvent (eMk (.acquire (zeV p.Wg))) }]) ic idx:=fun e => by
    obtain ⟨op,ho,hog⟩:=Option.map_eq_some_iff.1 e;rw [<- hog];exact (knows_own ho).app _
   rcases hx with hx | rfl | ⟨r,hrel,hle⟩
   ·exfalso;have hisz : i < gs.size:=by
     obtain ⟨op,ho,hog⟩:=Option.map_eq_some_iff.1 hgi';rw [<- hog]; exact h.core.ti.gs op (mem_of_getElem? ho)
    have hcn : (K i).cnt = 1:=by cases hKi : K i <;> rw [hKi] at hx <;> first | rfl | cases hx
    have hle : (K i).cnt <= sumTo gs.size fun i => (K i).cnt:=le_sumTo (f:=fun i => (K i).cnt) hisz;omega
   ·exact own hgi'
   ·exact zfZ hrel.act hrel.heard hnorel ⟨rfl,rfl⟩ hd (zeQ hgi' hrel.g hle)
  ·simp only [List.mem_toArray,List.mem_cons,List.not_mem_nil,or_false] at hop;subst hop; cases hx
theorem Rest.got {Wg : Nat} (hr : Rest Wg t K ic (some .got)) {es : Array Event} {fn : FuncId} {pos : String} {K' : Nat -> GS} : Rest Wg (t ++ MemOp.ofEvents ic fn pos es) K' ic (some .got):=by
 refine hr.app (fun idx a ha hx => .inr (Knows.app _ hx)) (fun idx a _ ⟨op,hop,hidx,_⟩ _ => .inr (.inr ?_));obtain ⟨e,_,rfl⟩:=Conc.mem_ofEvents hop;exact knows_own hidx
theorem Inv.lookStep (h : Inv P n0 W0 V gs w t K Im ic (some p) st) (hrv : p.recv = true) {n : Nat} {gi : Goroutine} (hgi : gs[ic]? = some gi) (hK : K ic = .look n) (hstop : zr7 P Im p.c (Deaf t ic) gi) : Went P n0 W0 V gs w sl t K Im ic (some p) st ic:=by
 obtain ⟨s,hs,hic0,hicl,hm⟩:=h.mode hrv;obtain ⟨m1,m2,m3,m4⟩:=hm.atLook (.inl (by rw [hK]; rfl));obtain ⟨hd,hrun,b,o,x,g',him,hst,n',hsl⟩:=hstop;have hsat : Sat ((K ic).view Im) w:=by have:=h.core.sat ic hicl; rwa [show VVof V Im K ic = (K ic).view Im by simp [VVof]; omega] at this
 have hcell:=hsat.imm b o x (by rw [hK]; exact him);have hb:=hsat.imm_lt (show ((K ic).view Im).imm b o = some x by rw [hK]; exact him);have hmt : ∀ e ∈ (#[⟨.cell ⟨b,o,none⟩,false,false⟩] : Array Event),e = ⟨.cell ⟨b,o,none⟩,false,false⟩:=fun e he => by simpa using he
 have hbl:=h.blind hic0;refine h.shared hrv (k':=.close n') (s':=.got) hic0 hgi (hst w hcell) (by rw [hd]; exact hsl) (by rw [hK]; exact zfF Im) (fun _ => rfl) rfl (fun j hj => by rw [hK] at hj; cases hj) (.inl rfl) (fun e he y hy => .inr (.inr ?_)) (fun e he => ?_) (fun e he a => ?_) rfl (fun _ _ _ => rfl) rfl rfl rfl
  ?_ (.inl m1) ?_ (muOf hicl (by rw [hK]; exact .inl (by simp [GS.rank])))
 ·rw [hmt e he] at hy; cases hy;refine ⟨fun hsh => ?_,.inr (by rw [hK]; show Im b o ≠ none; rw [him]; simp),rfl⟩;have e1 : b = p.Wg:=hsh;have:=hbl.2.2.2 o;rw [hK] at this;have e2 : Im p.Wg o = none:=this;rw [<- e1,him] at e2; cases e2
 ·rw [hmt e he]; exact hb
 ·rw [hmt e he]; simp [MemAct.ofEvent]
 ·unfold Mode;have e1 : sumTo gs.size (fun i => (upd K ic (.close n') i).cnt) = 0:=by rw [zaO K (.close n') GS.cnt (by rw [hK]; rfl)]; exact m4
  have e2 : sumTo gs.size (fun i => (upd K ic (.close n') i).late) = 0:=by rw [zaO K (.close n') GS.late (by rw [hK]; rfl)]; exact m3
  simp only [e1,e2,zar];exact .inr (.inr (.inr (.inr (.inr (.inl ⟨m1,trivial,trivial,trivial,.inr rfl⟩)))))
 ·have hr : Rest p.Wg t K ic st:=h.out.2.2.1;rw [hs,m2] at hr;exact hr.got
theorem Inv.closeStep (h : Inv P n0 W0 V gs w t K Im ic (some p) st) (hrv : p.recv = true) {n : Nat} {gi : Goroutine} (hgi : gs[ic]? = some gi) (hK : K ic = .close n) (hstop : zoJ P p.c (Deaf t ic) gi) : Went P n0 W0 V gs w sl t K Im ic (some p) st ic:=by
 obtain ⟨s,hs,hic0,hicl,hm⟩:=h.mode hrv;obtain ⟨⟨nn,m1⟩,m2,m3,m4⟩:=hm.atLook (.inr (by rw [hK]; rfl));obtain ⟨hd,hrun,hmw,g',hst,q,hql⟩:=hstop;have hst':=hst w nn m1;have hmem : ∀ e ∈ (#[⟨.obj p.c,false,true⟩,⟨.obj p.c,true,true⟩] : Array Event),e = ⟨.obj p.c,false,true⟩ \/ e = ⟨.obj p.c,true,true⟩:=fun e he => by simpa using he
 have hnc : ∀ j,0 < j -> j < gs.size -> j ≠ ic -> (K j).idx = none:=fun j _ hj _ => by
  have hle : (K j).cnt <= sumTo gs.size fun i => (K i).cnt:=le_sumTo (f:=fun i => (K i).cnt) hj;exact GS.idx_none (by omega)
 have hgs : g'.status = .running \/ g'.status = .finished:=QuitsD.status hql;have hcW : p.c ≠ p.Wg:=h.phase.2.2.1;have hclt:=h.low.1;have eu : MemOp.ofEvents ic gi.frame.fn gi.frame.place #[⟨.obj p.c,false,true⟩,⟨.obj p.c,true,true⟩] = #[{ g:=ic,fn:=gi.frame.fn,pos:=gi.frame.place,act:=.ofEvent ⟨.obj p.c,false,true⟩ },{ g:=ic,fn:=gi.frame.fn,pos:=gi.frame.place,act:=.close p.c }]:=by simp [MemOp.ofEvents,MemAct.ofEvent]
 have g1:=zbO (t:=t) (show (#[({ g:=ic,fn:=gi.frame.fn,pos:=gi.frame.place,act:=.ofEvent ⟨.obj p.c,false,true⟩ } : MemOp),{ g:=ic,fn:=gi.frame.fn,pos:=gi.frame.place,act:=.close p.c }] : Trace)[1]? = some _ from rfl);have hstl : ∀ op ∈ (#[({ g:=ic,fn:=gi.frame.fn,pos:=gi.frame.place,act:=.ofEvent ⟨.obj p.c,false,true⟩ } : MemOp),{ g:=ic,fn:=gi.frame.fn,pos:=gi.frame.place,act:=.close p.c }] : Trace),zmE op.act:=by
  intro op hop;simp only [List.mem_toArray,List.mem_cons,List.not_mem_nil,or_false] at hop;rcases hop with rfl | rfl <;> exact ⟨by simp [MemAct.ofEvent],by simp [MemAct.ofEvent]⟩
 have hclosed : ∃ n,({ w with heap:=w.heap.setIfInBounds p.c (.chan 0 #[] true nn nn false) } : World).heap[p.c]? = some (.chan 0 #[] true n n false):=⟨nn,by simp [hclt]⟩;refine h.shared hrv (k':=.gone q) (s':=.shut (t.size + 1)) hic0 hgi hst' (by rw [hd]; exact hql) (by rw [hK]; exact zdr _) (fun _ => rfl) rfl (fun j hj => by rw [hK] at hj; cases hj) (.inl rfl) (fun e he x hx => .inl ?_) (fun e he => ?_) (fun e he a => ?_) (by simp) (fun b hb _ => by simp [Array.getElem?_setIfInBounds,Ne.symm hb]) rfl rfl rfl
  ?_ (.inr ⟨hnc,fun g hg => zhp hic0 hg hmw hgs hclosed⟩) ?_ (muOf hicl (by rw [hK]; exact .inl (by simp [GS.rank])))
 ·rcases hmem e he with rfl | rfl
  ·cases hx; exact ⟨rfl,rfl⟩
  ·cases hx
 ·rcases hmem e he with rfl | rfl
  ·exact hclt
  ·exact hclt
 ·rcases hmem e he with rfl | rfl <;> simp [MemAct.ofEvent]
 ·unfold Mode;have e1 : sumTo gs.size (fun i => (upd K ic (.gone q) i).cnt) = 0:=by rw [zaO K (.gone q) GS.cnt (by rw [hK]; rfl)]; exact m4
  have e2 : sumTo gs.size (fun i => (upd K ic (.gone q) i).late) = 0:=by rw [zaO K (.gone q) GS.late (by rw [hK]; rfl)]; exact m3
  simp only [e1,e2,zar];obtain ⟨n,hn⟩:=hclosed;refine .inr (.inr (.inr (.inr (.inr (.inr ⟨⟨t.size + 1,n,rfl,?_,?_,hn⟩,trivial,trivial,rfl⟩)))))
  ·rw [eu]; exact act?_of g1
  ·rw [eu];exact zb8 (k:=1) rfl rfl (by rw [zbc hstl (by simp)]; exact hd)
 ·have hr : Rest p.Wg t K ic st:=h.out.2.2.1;rw [hs,m2] at hr;rw [eu];refine hr.app (fun idx a ha hx => .inr (.inr (Knows.hb_new hx (by omega) g1 rfl))) (fun idx a hi ⟨op,hop,hidx,_⟩ _ => .inr (.inr ?_));have hlt : idx < t.size + 2:=by have:=lt_size_of_getElem? hidx; simpa using this
  have hog : op.g = ic:=by
   simp only [List.mem_toArray,List.mem_cons,List.not_mem_nil,or_false] at hop;rcases hop with rfl | rfl <;> rfl
  exact zeQ (g:=ic) (by simp [Trace.g?,hidx,hog]) (by simp [Trace.g?,g1]) (by omega)
structure Met (P : Program) (n0 : Nat) (W0 : World) (V : View) (gs : Array Goroutine) (w : World) (sl : Option (Nat × Nat)) (t : Trace) (Im : Imm) (ic : Nat) (p : Phase) (st : Option Stage) (g : Goroutine) (i : Nat) : Prop where
 intro ::
 met : ∃ gs' w' ops K' j sp S v Im' Ow,runT P (crowd gs w sl) i = (.next (crowd gs' w' sl),ops) /\ gs'.size = gs.size /\ MainAt gs' (Conc.served g (.tuple #[v,.bool true])) /\ p.Ss[j]? = some (sp :: S) /\ sp v Im' Ow /\ (∀ b,V.own b ≠ none -> Ow b = none) /\ (∀ b o,V.own b ≠ none -> Im' b o ≠ none -> V.imm b o ≠ none) /\
  (∃ w,Sat V w /\ (∀ b o x,Im' b o = some x -> w.cell? ⟨b,o,none⟩ = some x) /\ ∀ b x,Ow b = some x -> w.heap[b]? = some x) /\
  Inv P n0 W0 (zmy V Im' Ow (.recv p.c p.Wg (p.Ss.set j S))) gs' w' (t ++ ops) K' Im ic (some { p with Ss:=p.Ss.set j S }) st
theorem Inv.sendMeets (h : Inv P n0 W0 V gs w t K Im ic (some p) st) (hrv : p.recv = true) (hV0 : V.deaf = 0) {g : Goroutine} (hm : zhQ gs g p.c) {i j : Nat} {gi : Goroutine} {hh h' : Ht} {Vi V₁ : View} {c Wg : Nat} {sp : Spec} {S : List Spec} {v z : Value} {B : Nat -> Bool} (hi : 0 < i) (hgi : gs[i]? = some gi)
  (hK : K i = .work j hh Vi) (hg : Ghost Vi V₁) (hr : V₁.role = .work c Wg (sp :: S)) (hd : V₁.deaf = 0) (hst : stepG P false gi w = .comm gi #[scase c v z] true .send w #[])
  (hsp : sp v V₁.imm (zmk B V₁)) (hk : WkJ P h' (zmm B V₁ (.work c Wg S)) (Conc.served gi undef)) : Met P n0 W0 V gs w sl t Im ic p st g i:=by
 have hlt : i < gs.size:=(Array.getElem?_eq_some_iff.1 hgi).1;have his:=h.is i gi hi hgi;simp only [hK,GS.is] at his;obtain ⟨hdf,_,S',hS,hrole⟩:=his;rw [hg.role,hrole] at hr;cases hr;have hcn : (K i).cnt = 1:=by rw [hK]; rfl
 obtain ⟨⟨n,hopen⟩,hst0⟩:=h.counted hi hlt hcn;have hi0 : (i == 0) = false:=by simp; omega
 obtain ⟨g0,z0,h0,hf1,hf2,hf3⟩:=hm;have hp : partners (gs.setIfInBounds i ph) p.c false = [(0,0)]:=by
  have h0' : (gs.setIfInBounds i ph)[0]? = some (parked g0 #[rcase p.c z0] (.recv true)):=by rw [Array.getElem?_setIfInBounds_ne (by omega)]; exact h0
  rw [partners_one h0' (fun m x hm hx => ?_),offersAt_parked_recv]
  ·simp
  ·rcases getElem?_stand gs i m x hx with ⟨_,rfl⟩ | ⟨_,hx'⟩
   ·exact offersAt_ph _ _
   ·exact zcV (h.is m x (by omega) hx') _
 have hrun:=crowd_send_meets (P:=P) (sl:=sl) (i:=i) hgi (by rw [hi0]; exact hst) hopen (by omega) h0 hp;rw [finishComm_recv,finishComm_send] at hrun;have hview : (K i).view Im = Vi:=by rw [hK]; rfl
 have hsz : ((gs.setIfInBounds 0 (Conc.served g0 (recvd true v true))).setIfInBounds i (Conc.served gi undef)).size = gs.size:=by simp
 have hd0 : Deaf t i = 0:=by rw [hdf,<- hg.deaf,hd]
 have hsat1 : Sat V₁ w:=by
  have:=h.core.sat i hlt;rw [show VVof V Im K i = (K i).view Im by simp [VVof]; omega,hview] at this;exact hg.sat w this
 have hsat0 : Sat V w:=by have:=h.core.sat 0 h.pos; rwa [show VVof V Im K 0 = V by simp [VVof]] at this
 have hmet:=h.met (gs':=(gs.setIfInBounds 0 (Conc.served g0 (recvd true v true))).setIfInBounds i (Conc.served gi undef)) (w':=w.setChan p.c 0 #[] false (n + 1) (n + 1) false) (gi:=gi) (h':=h') (V₁:=V₁) (S:=S) (sp:=sp) (B:=B) hrv hV0 hi hlt (by rw [hK]; rfl) (by rw [hview]; exact hg) (by rw [hg.role,hrole]) hd hd0 hS hk hsz
  (by rw [Array.getElem?_setIfInBounds_self_of_lt (by simpa using hlt)]) (fun m hm hm0 => by rw [Array.getElem?_setIfInBounds_ne (Ne.symm hm),Array.getElem?_setIfInBounds_ne (by omega)])
  (u:=MemOp.ofEvents i gi.frame.fn gi.frame.place #[] ++ #[{ g:=i,fn:=gi.frame.fn,pos:=gi.frame.place,act:=.send p.c n },{ g:=0,fn:=g0.frame.fn,pos:=g0.frame.place,act:=.recv p.c n 0 },
    { g:=i,fn:=gi.frame.fn,pos:=gi.frame.place,act:=.sendDone p.c n },{ g:=0,fn:=g0.frame.fn,pos:=g0.frame.place,act:=.recvDone p.c n }]) (s:=n) (by simp only [MemOp.ofEvents,Array.isEmpty_empty,if_true,Array.empty_append]; rfl) ⟨rfl,rfl⟩ ⟨rfl,rfl⟩ ⟨rfl,rfl⟩ ⟨rfl,rfl⟩
  (by simp [World.setChan]) (fun b hb => by simp [World.setChan,Array.getElem?_setIfInBounds,Ne.symm hb]) ⟨n + 1,by simp [World.setChan,h.low.1]⟩ rfl rfl rfl
 refine ⟨_,_,_,_,j,sp,S,v,V₁.imm,zmk B V₁,hrun,hsz,⟨Conc.served g0 (recvd true v true),?_,rfl,?_,hf2,hf3⟩,hS,hsp,hmet.1,hmet.2.1,⟨w,hsat0,hsat1.imm,fun b x e => ?_⟩,hmet.2.2⟩
 ·rw [Array.getElem?_setIfInBounds_ne (by omega),Array.getElem?_setIfInBounds_self_of_lt h.pos]
 ·simp only [Conc.served,hf1]; rfl
 ·unfold zmk at e; split at e
  ·exact hsat1.own b x e
  ·cases e
theorem Inv.recvMeets (h : Inv P n0 W0 V gs w t K Im ic (some p) st) (hrv : p.recv = true) (hV0 : V.deaf = 0) {g : Goroutine} {z : Value} (hm : MainAt gs g) (hst : stepG P true g w = .comm g #[rcase p.c z] true (.recv true) w #[])
  (hw : ∃ i j h' V₁ V₂ g1 v z1,0 < i /\ i < gs.size /\ K i = .park j h' V₁ V₂ g1 v z1) : Met P n0 W0 V gs w sl t Im ic p st g 0:=by
 obtain ⟨g0,h0,hf0,hf1,hf2,hf3⟩:=hm;have hst0 : stepG P (0 == 0) g0 w = .comm g #[rcase p.c z] true (.recv true) w #[]:=by rw [<- hst]; exact stepG_same hf1 hf2 hf3 w
 obtain ⟨i0,j0,a0,a1,a2,a3,a4,a5,b0,b1,b2⟩:=hw;have hcn0 : (K i0).cnt = 1:=by rw [b2]; rfl
 obtain ⟨⟨n,hopen⟩,hst1⟩:=h.counted b0 b1 hcn0;have hx0 : gs[i0]? = some gs[i0]:=Array.getElem?_eq_getElem b1;have hall : ∀ j k,(j,k) ∈ partners (gs.setIfInBounds 0 ph) p.c true -> k = 0 /\ j ≠ 0 /\ ∃ gj vj zj shj,gs[j]? = some (parked gj #[scase p.c vj zj] shj):=by
  intro j k hjk;obtain ⟨x,hx,hk⟩:=mem_partners.1 hjk;rcases getElem?_stand gs 0 j x hx with ⟨_,rfl⟩ | ⟨hj0,hx'⟩
  ·rw [offersAt_ph] at hk; cases hk
  ·rcases GS.runs (h.is j x (by omega) hx') with hr | ⟨hf,_⟩ | ⟨q,h',V1,V2,g1,v,z1,e⟩ | ⟨_,hb,ho⟩
   ·rw [offersAt_of_not_blocked (by rw [hr]; simp)] at hk; cases hk
   ·rw [offersAt_of_not_blocked (by rw [hf]; simp)] at hk; cases hk
   ·have:=h.is j x (by omega) hx';simp only [e,GS.is] at this;obtain ⟨_,_,rfl,_⟩:=this;rw [offersAt_parked_send] at hk;simp at hk;exact ⟨hk,hj0,g1,v,z1,.send,hx'⟩
   ·have : offersAt x p.c true = []:=(by unfold offersAt; simp [hb,ho]);rw [this] at hk; cases hk
 have hne : partners (gs.setIfInBounds 0 ph) p.c true ≠ []:=by
  intro e;have hmem : (i0,0) ∈ partners (gs.setIfInBounds 0 ph) p.c true:=by
   have:=h.is i0 _ b0 hx0;simp only [b2,GS.is] at this;obtain ⟨_,_,hpk,_⟩:=this;refine mem_partners.2 ⟨gs[i0],by rw [Array.getElem?_setIfInBounds_ne (by omega)]; exact hx0,?_⟩;rw [hpk,offersAt_parked_send]; simp
  rw [e] at hmem; cases hmem
 obtain ⟨i,gj,vj,zj,shj,d,hi0,hgi,hrun⟩:=crowd_recv_meets_some (P:=P) (sl:=sl) h0 hst0 hopen hne hall;have hi : 0 < i:=by omega
 have hlt : i < gs.size:=(Array.getElem?_eq_some_iff.1 hgi).1;obtain ⟨j,h',V₁,V₂,g1,v,z1,hK⟩ : ∃ j h' V₁ V₂ g1 v z1,K i = .park j h' V₁ V₂ g1 v z1:=by
  rcases GS.runs (h.is i _ hi hgi) with hr | ⟨hf,_⟩ | x | ⟨_,_,ho⟩
  ·cases hr
  ·cases hf
  ·exact x
  ·cases ho
 have his:=h.is i _ hi hgi;simp only [hK,GS.is] at his;obtain ⟨hdf,hd,hpk,hk,sp,S,B,hS,hrole,hsp,hV2⟩:=his;have efr : gj.frame = g1.frame /\ gj.callers = g1.callers /\ gj.dying = g1.dying /\ vj = v /\ zj = z1 /\ shj = .send:=by
  simp only [parked,Goroutine.mk.injEq,Option.some.injEq,Prod.mk.injEq] at hpk;obtain ⟨e1,e2,_,e3,e4,e5⟩:=hpk;simp [scase] at e4;exact ⟨e1,e2,e3,e4.1,e4.2,e5⟩
 obtain ⟨e1,e2,e3,rfl,rfl,rfl⟩:=efr;have esv : Conc.served gj undef = Conc.served g1 undef:=by simp [Conc.served,e1,e2,e3]
 rw [finishComm_send,finishComm_recv,esv] at hrun;subst hV2;have hview : (K i).view Im = V₁:=by rw [hK]; rfl
 have hsz : ((gs.setIfInBounds i (Conc.served g1 undef)).setIfInBounds 0 (Conc.served g (recvd true vj true))).size = gs.size:=by simp
 have hsat1 : Sat V₁ w:=by
  have:=h.core.sat i hlt;rwa [show VVof V Im K i = (K i).view Im by simp [VVof]; omega,hview] at this
 have hsat0 : Sat V w:=by have:=h.core.sat 0 h.pos; rwa [show VVof V Im K 0 = V by simp [VVof]] at this
 have hmet:=h.met (gs':=(gs.setIfInBounds i (Conc.served g1 undef)).setIfInBounds 0 (Conc.served g (recvd true vj true))) (w':=(w.at d).setChan p.c 0 #[] false (n + 1) (n + 1) false) (gi:=g1) (h':=h') (V₁:=V₁) (S:=S) (sp:=sp) (B:=B) hrv hV0 hi hlt (by rw [hK]; rfl) (by rw [hview]; exact Ghost.refl _) hrole hd hdf hS hk hsz
  (by rw [Array.getElem?_setIfInBounds_ne (by omega),Array.getElem?_setIfInBounds_self_of_lt hlt]) (fun m hm hm0 => by rw [Array.getElem?_setIfInBounds_ne (by omega),Array.getElem?_setIfInBounds_ne (Ne.symm hm)])
  (u:=MemOp.ofEvents 0 g0.frame.fn g0.frame.place #[] ++ #[{ g:=i,fn:=gj.frame.fn,pos:=gj.frame.place,act:=.send p.c n },{ g:=0,fn:=g.frame.fn,pos:=g.frame.place,act:=.recv p.c n 0 },
    { g:=i,fn:=gj.frame.fn,pos:=gj.frame.place,act:=.sendDone p.c n },{ g:=0,fn:=g.frame.fn,pos:=g.frame.place,act:=.recvDone p.c n }]) (s:=n) (by simp only [MemOp.ofEvents,Array.isEmpty_empty,if_true,Array.empty_append]; rfl) ⟨rfl,rfl⟩ ⟨rfl,rfl⟩ ⟨rfl,rfl⟩ ⟨rfl,rfl⟩
  (by simp [World.setChan,World.at]) (fun b hb => by simp [World.setChan,World.at,Array.getElem?_setIfInBounds,Ne.symm hb]) ⟨n + 1,by simp [World.setChan,World.at,h.low.1]⟩ rfl rfl rfl
 refine ⟨_,_,_,_,j,sp,S,vj,V₁.imm,zmk B V₁,hrun,hsz,⟨Conc.served g (recvd true vj true),?_,rfl,rfl,rfl,rfl⟩,hS,hsp,hmet.1,hmet.2.1,⟨w,hsat0,hsat1.imm,fun b x e => ?_⟩,hmet.2.2⟩
 ·rw [Array.getElem?_setIfInBounds_self_of_lt (by simpa using h.pos)]
 ·unfold zmk at e; split at e
  ·exact hsat1.own b x e
  ·cases e
end
open Go.Conc Go.ConcN
section
variable {P : Program} {n0 : Nat} {W0 : World} {V : View} {gs gs' : Array Goroutine} {w w' : World} {sl : Option (Nat × Nat)} {t : Trace} {K : Nat -> GS} {Im : Imm} {ic : Nat} {ph : Option Phase} {p : Phase} {st st' : Option Stage}
theorem Inv.slideStep (h : Inv P n0 W0 V gs w t K Im ic (some p) st) {i n : Nat} {gi : Goroutine} {Stop : Nat -> Goroutine -> Prop} {mk : Nat -> GS} (hi : 0 < i) (hgi : gs[i]? = some gi) (hK : K i = mk n) (hsl : Slide P Stop n (Deaf t i) gi)
  (hmk : ∀ n d g,Slide P Stop n d g -> (mk n).is P p.c p.Wg Im p.Ss d g) (hsh : ∀ n m,(mk n).shape = (mk m).shape) (hvw : ∀ n m,(mk n).view Im = (mk m).view Im) (hrk : ∀ n,zmp (mk n).rank (mk (n + 1)).rank) (hrn : ∀ d g,Stop d g -> g.status = .running)
  (hgo : Stop (Deaf t i) gi -> Went P n0 W0 V gs w sl t K Im ic (some p) st i) : Went P n0 W0 V gs w sl t K Im ic (some p) st i:=by
 cases n with
 | zero => exact hgo hsl
 | succ n =>
  rcases hsl with hs | ⟨hr,g',es,hm,hst,hs⟩
  ·exact hgo hs
  ·exact h.slip (k':=mk n) hi hgi (hst w) hm (hmk _ _ _ hs) (fun x => by rw [Slide.running hrn hs] at x; cases x) (by rw [hK]; exact hsh _ _) (by rw [hK]; exact hvw _ _) (fun _ => Slide.running hrn hs) (by rw [hK]; exact hrk n)
theorem Inv.slideStepW (h : Inv P n0 W0 V gs w t K Im ic (some p) st) {i n : Nat} {gi : Goroutine} {Stop : Nat -> Goroutine -> Prop} {mk : Nat -> GS} (hi : 0 < i) (hgi : gs[i]? = some gi) (hK : K i = mk n) (hW : ∃ x y,WgAt P p.Wg w x y) (hsl : SlideW P p.Wg Stop n (Deaf t i) gi)
  (hmk : ∀ n d g,SlideW P p.Wg Stop n d g -> (mk n).is P p.c p.Wg Im p.Ss d g) (hsh : ∀ n m,(mk n).shape = (mk m).shape) (hvw : ∀ n m,(mk n).view Im = (mk m).view Im) (hrk : ∀ n,zmp (mk n).rank (mk (n + 1)).rank) (hrn : ∀ d g,Stop d g -> g.status = .running)
  (hgo : Stop (Deaf t i) gi -> Went P n0 W0 V gs w sl t K Im ic (some p) st i) : Went P n0 W0 V gs w sl t K Im ic (some p) st i:=by
 cases n with
 | zero => exact hgo hsl
 | succ n =>
  rcases hsl with hs | ⟨hr,g',es,hm,hst,hs⟩
  ·exact hgo hs
  ·exact h.slip (k':=mk n) hi hgi (hst w _ _ hW.choose_spec.choose_spec) hm (hmk _ _ _ hs) (fun x => by rw [SlideW.running hrn hs] at x; cases x) (by rw [hK]; exact hsh _ _) (by rw [hK]; exact hvw _ _) (fun _ => SlideW.running hrn hs) (by rw [hK]; exact hrk n)
theorem Inv.other (h : Inv P n0 W0 V gs w t K Im ic ph st) {g : Goroutine} (hmain : MainAt gs g \/ ∃ p,ph = some p /\ p.recv = true /\ V.deaf = 0 /\ zhQ gs g p.c) {i : Nat} {gi : Goroutine} (hi : 0 < i) (hgi : gs[i]? = some gi) (hrun : gi.status = .running) :
  Went P n0 W0 V gs w sl t K Im ic ph st i \/ ∃ p,ph = some p /\ Met P n0 W0 V gs w sl t Im ic p st g i /\ zhQ gs g p.c:=by
 have hlt : i < gs.size:=(Array.getElem?_eq_some_iff.1 hgi).1;have his:=h.out.1 i gi hi hgi;have gone : ∀ q,K i = .gone q -> QuitsD P q (Deaf t i) gi -> Went P n0 W0 V gs w sl t K Im ic ph st i:=by
  intro q hK hq;cases q with
  | zero => rw [hq.1] at hrun; cases hrun
  | succ q =>
   rcases hq with ⟨hf,_⟩ | ⟨_,g',es,hm,hst,hq'⟩
   ·rw [hf] at hrun; cases hrun
   ·refine h.slip (k':=.gone q) hi hgi (hst w) hm ?_ (fun x => by rcases hq'.status with e | e <;> rw [e] at x <;> cases x) (by rw [hK]; rfl) (by rw [hK]; rfl) (fun x => by rw [hK] at x; rcases x with x | x <;> cases x) (by rw [hK]; exact .inr ⟨rfl,.inr ⟨rfl,Nat.lt_succ_self _⟩⟩);cases ph with
    | none => exact ⟨q,rfl,hq'⟩
    | some p => exact hq'
 cases ph with
 | none =>
  obtain ⟨q,hK,hq⟩:=his;exact .inl (gone q hK hq)
 | some p =>
  have his' : (K i).is P p.c p.Wg Im p.Ss (Deaf t i) gi:=his;have hrecv : (K i).idx = none -> (∀ q,K i ≠ .gone q) -> p.recv = true:=fun h1 h2 => by
   cases hrv : p.recv with
   | true => rfl
   | false =>
    have hx:=h.phase.2.2.2.2.2.2.2.2.2;rw [if_neg (by rw [hrv]; simp)] at hx;rcases hx.2.2.2.1 i hi hlt with x | ⟨q,x⟩
    ·rw [h1] at x; cases x
    ·exact absurd x (h2 q)
  cases hK : K i with
  | gone q => rw [hK] at his'; exact .inl (gone q hK his')
  | park j h' V1 V2 g0 v z =>
   rw [hK] at his';obtain ⟨_,_,rfl,_⟩:=his';cases hrun
  | work j hh Vi =>
   rw [hK] at his';obtain ⟨hd,hwk,S,hS,hrole⟩:=his';have hview : VVof V Im K i = Vi:=(by simp [VVof,hK,GS.view]; omega);have hsat : Sat Vi w:=(by have:=h.core.sat i hlt; rwa [hview] at this);cases hwk with
   | step G' W' E' V' hs hg h1 h2 h3 =>
    exact .inl (h.workStep hi hgi hK (h1 w (hg.sat w hsat)) (StepOk.of_ghost hg (h2 w (hg.sat w hsat))) (h3 w (hg.sat w hsat)) (.mk _ w))
   | send c Wg sp S1 v z B hs hg hr hd1 ho h1 h2 h3 =>
    have er : Role.work p.c p.Wg S = .work c Wg (sp :: S1):=(by rw [<- hrole,<- hg.role,hr]);cases er;rcases hmain with hm | ⟨p',hp',hrv,hV0,hm⟩
    ·exact .inl (h.workPark hm hi hgi hK hg hr hd1 (h1 w (hg.sat w hsat)) h2 h3)
    ·cases hp';exact .inr ⟨p,rfl,h.sendMeets hrv hV0 hm hi hgi hK hg hr hd1 (h1 w (hg.sat w hsat)) h2 h3,hm⟩
   | done c Wg hg hr hd1 h1 =>
    have er : Role.work p.c p.Wg S = .work c Wg []:=(by rw [<- hrole,<- hg.role,hr]);cases er;refine .inl (h.release ?_ hi hgi hK hg hr hd1 h1);cases hrv : p.recv with
    | true => rfl
    | false =>
     have hx:=h.phase.2.2.2.2.2.2.2.2.2;rw [if_neg (by rw [hrv]; simp)] at hx;exact absurd rfl (hx.2.2.2.2.1 [] (List.mem_of_getElem? hS))
   | slip c Wg hs hg hr h1 h3 =>
    have er : Role.work p.c p.Wg S = .work c Wg []:=(by rw [<- hrole,<- hg.role,hr]);cases er;have hrv : p.recv = true:=by
     cases hrv : p.recv with
     | true => rfl
     | false =>
      have hx:=h.phase.2.2.2.2.2.2.2.2.2;rw [if_neg (by rw [hrv]; simp)] at hx;exact absurd rfl (hx.2.2.2.2.1 [] (List.mem_of_getElem? hS))
    obtain ⟨s,hW⟩:=h.countedW hrv hlt (by rw [hK]; rfl);exact .inl (h.workStep hi hgi hK (h1 w s (hg.sat w hsat) hW) (StepOk.of_ghost hg (StepOk.idle (hg.sat w hsat))) h3 (HtLt.mk (fun _ => _) w))
  | add n =>
   rw [hK] at his';have hrv:=hrecv (by rw [hK]; rfl) (fun q => by rw [hK]; simp);exact .inl (h.slideStep (mk:=.add) hi hgi hK his' (fun _ _ _ x => x) (fun _ _ => rfl) (fun _ _ => rfl) (fun n => .inr ⟨rfl,.inr ⟨rfl,Nat.lt_succ_self _⟩⟩) (fun _ _ x => x.2.1) (fun hs => h.addStep hrv hi hgi hK hs))
  | load n =>
   rw [hK] at his';have hrv:=hrecv (by rw [hK]; rfl) (fun q => by rw [hK]; simp);exact .inl (h.slideStep (mk:=.load) hi hgi hK his' (fun _ _ _ x => x) (fun _ _ => rfl) (fun _ _ => rfl) (fun n => .inr ⟨rfl,.inr ⟨rfl,Nat.lt_succ_self _⟩⟩) (fun _ _ x => x.2.1) (fun hs => h.loadStep hrv hi hgi hK hs))
  | store n =>
   rw [hK] at his';have hrv:=hrecv (by rw [hK]; rfl) (fun q => by rw [hK]; simp);exact .inl (h.slideStep (mk:=.store) hi hgi hK his' (fun _ _ _ x => x) (fun _ _ => rfl) (fun _ _ => rfl) (fun n => .inr ⟨rfl,.inr ⟨rfl,Nat.lt_succ_self _⟩⟩) (fun _ _ x => x.2.1) (fun hs => h.storeStep hrv hi hgi hK hs))
  | sem n =>
   rw [hK] at his';have hrv:=hrecv (by rw [hK]; rfl) (fun q => by rw [hK]; simp);exact .inl (h.slideStep (mk:=.sem) hi hgi hK his' (fun _ _ _ x => x) (fun _ _ => rfl) (fun _ _ => rfl) (fun n => .inr ⟨rfl,.inr ⟨rfl,Nat.lt_succ_self _⟩⟩) (fun _ _ x => x.2.1) (fun hs => h.semStep hrv hi hgi hK hs))
  | head k n =>
   rw [hK] at his';have hrv:=hrecv (by rw [hK]; rfl) (fun q => by rw [hK]; simp);have hic : i = ic:=h.theCloser hi (by rw [hK]; rfl);exact .inl (h.slideStep (mk:=.head k) hi hgi hK his' (fun _ _ _ x => x) (fun _ _ => rfl) (fun _ _ => rfl) (fun n => .inr ⟨rfl,.inr ⟨rfl,Nat.lt_succ_self _⟩⟩) (fun _ _ x => zot x) (fun hs => by subst hic; exact h.headStep hrv hgi hK hs))
  | cas v n =>
   rw [hK] at his';have hrv:=hrecv (by rw [hK]; rfl) (fun q => by rw [hK]; simp);have hic : i = ic:=h.theCloser hi (by rw [hK]; rfl);exact .inl (h.slideStep (mk:=.cas v) hi hgi hK his' (fun _ _ _ x => x) (fun _ _ => rfl) (fun _ _ => rfl) (fun n => .inr ⟨rfl,.inr ⟨rfl,Nat.lt_succ_self _⟩⟩) (fun _ _ x => x.2.1) (fun hs => by subst hic; exact h.casStep hrv hgi hK hs))
  | said n =>
   rw [hK] at his';have hrv:=hrecv (by rw [hK]; rfl) (fun q => by rw [hK]; simp);have hic : i = ic:=h.theCloser hi (by rw [hK]; rfl);exact .inl (h.slideStepW (mk:=.said) hi hgi hK (h.acqW hrv (n:=n) (.inr (by rw [<- hic]; exact hK))) his' (fun _ _ _ x => x) (fun _ _ => rfl) (fun _ _ => rfl) (fun n => .inr ⟨rfl,.inr ⟨rfl,Nat.lt_succ_self _⟩⟩) (fun _ _ x => x.2.1) (fun hs => by subst hic; exact h.saidStep hrv hgi hK hs))
  | csem n =>
   rw [hK] at his';have hrv:=hrecv (by rw [hK]; rfl) (fun q => by rw [hK]; simp);have hic : i = ic:=h.theCloser hi (by rw [hK]; rfl);rcases his' with his' | ⟨_,g1,rfl,_⟩
   ·exact .inl (h.slideStep (mk:=.csem) hi hgi hK his' (fun _ _ _ x => .inl x) (fun _ _ => rfl) (fun _ _ => rfl) (fun n => .inr ⟨rfl,.inr ⟨rfl,Nat.lt_succ_self _⟩⟩) (fun _ _ x => x.2.1) (fun hs => by subst hic; exact h.csemStep hrv hgi hK hs))
   ·cases hrun
  | last n =>
   rw [hK] at his';have hrv:=hrecv (by rw [hK]; rfl) (fun q => by rw [hK]; simp);have hic : i = ic:=h.theCloser hi (by rw [hK]; rfl);exact .inl (h.slideStep (mk:=.last) hi hgi hK his' (fun _ _ _ x => x) (fun _ _ => rfl) (fun _ _ => rfl) (fun n => .inr ⟨rfl,.inr ⟨rfl,Nat.lt_succ_self _⟩⟩) (fun _ _ x => x.2.1) (fun hs => by subst hic; exact h.lastStep hrv hgi hK hs))
  | acq n =>
   rw [hK] at his';have hrv:=hrecv (by rw [hK]; rfl) (fun q => by rw [hK]; simp);have hic : i = ic:=h.theCloser hi (by rw [hK]; rfl);exact .inl (h.slideStepW (mk:=.acq) hi hgi hK (h.acqW hrv (n:=n) (.inl (by rw [<- hic]; exact hK))) his' (fun _ _ _ x => x) (fun _ _ => rfl) (fun _ _ => rfl) (fun n => .inr ⟨rfl,.inr ⟨rfl,Nat.lt_succ_self _⟩⟩) (fun _ _ x => x.2.1) (fun hs => by subst hic; exact h.acqStep hrv hgi hK hs))
  | look n =>
   rw [hK] at his';have hrv:=hrecv (by rw [hK]; rfl) (fun q => by rw [hK]; simp);have hic : i = ic:=h.theCloser hi (by rw [hK]; rfl);exact .inl (h.slideStep (mk:=.look) hi hgi hK his' (fun _ _ _ x => x) (fun _ _ => rfl) (fun _ _ => rfl) (fun n => .inr ⟨rfl,.inr ⟨rfl,Nat.lt_succ_self _⟩⟩) (fun _ _ x => x.2.1) (fun hs => by subst hic; exact h.lookStep hrv hgi hK hs))
  | close n =>
   rw [hK] at his';have hrv:=hrecv (by rw [hK]; rfl) (fun q => by rw [hK]; simp);have hic : i = ic:=h.theCloser hi (by rw [hK]; rfl);exact .inl (h.slideStep (mk:=.close) hi hgi hK his' (fun _ _ _ x => x) (fun _ _ => rfl) (fun _ _ => rfl) (fun n => .inr ⟨rfl,.inr ⟨rfl,Nat.lt_succ_self _⟩⟩) (fun _ _ x => x.2.1) (fun hs => by subst hic; exact h.closeStep hrv hgi hK hs))
theorem Inv.awake (h : Inv P n0 W0 V gs w t K Im ic ph st) {g : Goroutine} (hmain : MainAt gs g \/ ∃ p,ph = some p /\ p.recv = true /\ V.deaf = 0 /\ zhQ gs g p.c) : ∀ x ∈ gs,awake x:=by
 intro x hx;obtain ⟨i,hi⟩:=Array.mem_iff_getElem?.1 hx;rcases Nat.eq_zero_or_pos i with rfl | hi0
 ·rcases hmain with ⟨g0,h0,h1,_⟩ | ⟨p,_,_,_,g0,z,h0,_⟩
  ·rw [hi] at h0; cases h0;intro s; rw [h1]; simp
  ·rw [hi] at h0; cases h0;intro s; simp [parked]
 ·have his:=h.out.1 i x hi0 hi;intro s;cases ph with
  | none =>
   obtain ⟨q,_,hq⟩:=his;rcases hq.status with e | e <;> rw [e] <;> simp
  | some p =>
   rcases GS.runs (show (K i).is P p.c p.Wg Im p.Ss (Deaf t i) x from his) with e | ⟨e,_⟩ | ⟨j,h',V1,V2,g1,v,z,e⟩ | ⟨_,e,_⟩
   ·rw [e]; simp
   ·rw [e]; simp
   ·have his' : (K i).is P p.c p.Wg Im p.Ss (Deaf t i) x:=his;rw [e] at his';obtain ⟨_,_,rfl,_⟩:=his';simp [parked]
   ·rw [e]; simp
end
open Go.Conc Go.ConcN
def Ok (P : Program) (Post : Value -> World -> Prop) (m : Machine) (t : Trace) : Prop :=
 ∃ M last o w' t',runNT P (M + 1) m t = (.ended o w',t') /\ runN P M m = .next last /\ step P last = .ended o w' /\ Conc.Good P Post last o w' t'
section
variable {P : Program} {Post : Value -> World -> Prop}
theorem Ok.step {m m' : Machine} {t : Trace} {ops : Array MemOp} (hs : stepT P m = (.next m',ops)) (h : Ok P Post m' (t ++ ops)) : Ok P Post m t:=by
 obtain ⟨M,last,o,w',t',h1,h2,h3,h4⟩:=h;refine ⟨M + 1,last,o,w',t',?_,?_,h3,h4⟩
 ·rw [runNT,hs]; exact h1
 ·have : Go.step P m = .next m':=by unfold Go.step; rw [hs]
  rw [runN,this]; exact h2
theorem Ok.end {m : Machine} {t : Trace} {o : Outcome} {w' : World} {ops : Array MemOp} (hs : stepT P m = (.ended o w',ops)) (h : Conc.Good P Post m o w' (t ++ ops)) : Ok P Post m t:=by
 refine ⟨0,m,o,w',t ++ ops,?_,rfl,?_,h⟩
 ·simp [runNT,hs]
 ·unfold Go.step; rw [hs]
end
section
variable {P : Program} {n0 : Nat} {W0 : World} {V : View} {gs gs' : Array Goroutine} {w w' : World} {sl : Option (Nat × Nat)} {t : Trace} {K : Nat -> GS} {Im : Imm} {ic : Nat} {ph : Option Phase} {p : Phase} {st st' : Option Stage}
theorem Inv.draw (h : Inv P n0 W0 V gs w t K Im ic ph st) (d : Nat) : Inv P n0 W0 V gs (w.at d) t K Im ic ph st :=
 let ⟨a,b,c,e⟩:=h.out
 Inv.mk' h.pos h.k0 h.d0 a (b.draw d) c (by cases ph <;> exact e)
theorem zel {f : Nat -> Nat} : ∀ {N : Nat},0 < sumTo N f -> ∃ i,i < N /\ 0 < f i
 | 0,h => by simp [sumTo] at h
 | N + 1,h => by
  by_cases hN : 0 < f N
  ·exact ⟨N,by omega,hN⟩
  ·obtain ⟨i,hi,hf⟩:=zel (N:=N) (f:=f) (by rw [sumTo] at h; omega);exact ⟨i,by omega,hf⟩
theorem Inv.someRuns (h : Inv P n0 W0 V gs w t K Im ic (some p) st) (hrv : p.recv = true) (ho : Opn w p.c) (hcalm : Calm gs) : ∃ i gi,0 < i /\ gs[i]? = some gi /\ gi.status = .running:=by
 obtain ⟨s,hs,hic0,hicl,hm⟩:=h.mode hrv;have h0:=h.k0;have gic : gs[ic]? = some gs[ic]:=Array.getElem?_eq_getElem hicl;have hisc : (K ic).is P p.c p.Wg Im p.Ss (Deaf t ic) gs[ic]:=h.is ic _ hic0 gic;have run : ∀ i x,0 < i -> gs[i]? = some x -> (∀ q,K i ≠ .gone q) -> (∀ n,K i ≠ .csem n) -> x.status = .running:=by
  intro i x hi hx h1 h2;rcases GS.runs (show (K i).is P p.c p.Wg Im p.Ss (Deaf t i) x from h.is i x hi hx) with e | ⟨_,q,e⟩ | ⟨j,h',V1,V2,g1,v,z,e⟩ | ⟨⟨n,e⟩,_⟩
  ·exact e
  ·exact absurd e (h1 q)
  ·have hi':=h.is i x hi hx;simp only [e,GS.is] at hi';obtain ⟨_,_,hpk,_⟩:=hi';have:=hcalm i x hi hx (by rw [hpk]; rfl);rw [hpk] at this; cases this
  ·exact absurd e (h2 n)
 have icrun : (∀ q,K ic ≠ .gone q) -> (∀ n,K ic ≠ .csem n) -> ∃ i gi,0 < i /\ gs[i]? = some gi /\ gi.status = .running:=fun a b => ⟨ic,_,hic0,gic,run ic _ hic0 gic a b⟩;have other : ∀ i,i < gs.size -> (K i).cnt = 1 \/ (K i).late = 1 -> ∃ i gi,0 < i /\ gs[i]? = some gi /\ gi.status = .running:=by
  intro i hi hc;have hi0 : 0 < i:=by
   rcases Nat.eq_zero_or_pos i with rfl | x
   ·rw [h0] at hc; rcases hc with c | c <;> cases c
   ·exact x
  exact ⟨i,_,hi0,Array.getElem?_eq_getElem hi,run i _ hi0 (Array.getElem?_eq_getElem hi) (fun q e => by rw [e] at hc; rcases hc with c | c <;> cases c) (fun q e => by rw [e] at hc; rcases hc with c | c <;> cases c)⟩
 have one : ∀ i,0 < (K i).cnt -> (K i).cnt = 1:=fun i hi => by cases e : K i <;> rw [e] at hi <;> first | rfl | exact absurd hi (by simp [GS.cnt])
 have one' : ∀ i,0 < (K i).late -> (K i).late = 1:=fun i hi => by cases e : K i <;> rw [e] at hi <;> first | rfl | exact absurd hi (by simp [GS.late])
 unfold Mode at hm;rcases hm with m | m | m | m | m | m | m
 ·rcases m.2.2.2.2.2 with ⟨k,e,_⟩ | ⟨v,e,_⟩ <;> exact icrun (fun q x => by rw [x] at e; cases e) (fun q x => by rw [x] at e; cases e)
 ·obtain ⟨i,hi,hc⟩:=zel (N:=gs.size) (f:=fun i => (K i).cnt) (by have:=m.2.2.2.1; omega);exact other i hi (.inl (one i hc))
 ·obtain ⟨i,hi,hc⟩:=zel (N:=gs.size) (f:=fun i => (K i).late) (by have:=m.2.2.1; omega);exact other i hi (.inr (one' i hc))
 ·exact ⟨ic,_,hic0,gic,m.2.2.2.2.2.1 _ gic⟩
 ·rcases m.2.2.2.2.2 with e | e <;> exact icrun (fun q x => by rw [x] at e; cases e) (fun q x => by rw [x] at e; cases e)
 ·rcases m.2.2.2.2 with e | e <;> exact icrun (fun q x => by rw [x] at e; cases e) (fun q x => by rw [x] at e; cases e)
 ·obtain ⟨⟨_,n,_,_,_,hcl⟩,_⟩:=m;obtain ⟨n',ho⟩:=ho;rw [hcl] at ho; simp at ho
theorem vv0 (V' : View) (Im : Imm) (K : Nat -> GS) : VVof V' Im K = upd (VVof V Im K) 0 V':=by
 funext j;by_cases hj : j = 0
 ·subst hj; rw [zar]; simp [VVof]
 ·rw [zal _ _ hj]; simp [VVof,hj]
theorem zl8 : VVof V Im K 0 = V:=by simp [VVof]
def zmO (r : Role) (ph : Option Phase) : Prop:=match r with
 | .plain => ph = none
 | .fork c Wg Ss => ph = some ⟨c,Wg,Ss,false⟩
 | .recv c Wg Ss => ph = some ⟨c,Wg,Ss,true⟩
 | .work .. => False
theorem Inv.mainGhost (h : Inv P n0 W0 V gs w t K Im ic ph st) {V' : View} (g : Ghost V V') (hr : zmO V.role ph) : Inv P n0 W0 V' gs w t K Im ic ph st:=by
 obtain ⟨his,hc,hre,hph⟩:=h.out;refine Inv.mk' h.pos h.k0 (by rw [g.deaf]; exact h.d0) his ?_ hre ?_
 ·rw [vv0 (V:=V)]; exact hc.ghost h.pos (by rw [zl8]; exact g)
 ·cases ph with
  | none => exact hph
  | some p =>
   obtain ⟨a1,a2,a3,a4,a5,a6,a7,a8,a9,a10⟩:=hph;refine ⟨a1,a2,a3,a4,a5,a6,a7,a8,a9,?_⟩;split
   ·rename_i hrv;rw [if_pos hrv] at a10;have b : Blind p V:=⟨a10.1.1,a10.1.2.1,a10.1.2.2.1,a10.1.2.2.2⟩;have b':=b.ghost g;exact ⟨⟨b'.1,b'.2.1,b'.2.2.1,b'.2.2.2⟩,a10.2⟩
   ·rename_i hrv;rw [if_neg hrv] at a10;refine ⟨g.chan _ _ ?_ a10.1,a10.2⟩;unfold zmO at hr;split at hr
    ·cases hr
    ·cases hr; rename_i e; rw [e]; rfl
    ·cases hr; exact absurd rfl hrv
    ·exact hr.elim
theorem Inv.mainStep (h : Inv P n0 W0 V gs w t K Im ic ph st) {g0 g' : Goroutine} {es : Array Event} {V' : View} (h0 : gs[0]? = some g0) (s : StepOk V w V' w' es) (hr : zmO V.role ph) :
  Inv P n0 W0 V' ((gs.map (woken P g0 g' w')).setIfInBounds 0 g') w' (t ++ MemOp.ofEvents 0 g0.frame.fn g0.frame.place es) K Im ic ph st:=by
 obtain ⟨his,hc,hre,hph⟩:=h.out;have hsz : ((gs.map (woken P g0 g' w')).setIfInBounds 0 g').size = gs.size:=by simp
 have hso : ∀ op ∈ MemOp.ofEvents 0 g0.frame.fn g0.frame.place es,op.g = 0:=fun op hop => by obtain ⟨e,_,rfl⟩:=Conc.mem_ofEvents hop; rfl
 have hown : ∀ {u : Trace} {idx : Nat} {op : MemOp},(t ++ u)[idx]? = some op -> op.g = 0 -> Knows (t ++ u) 0 idx:=fun {u idx op} a b => by have:=knows_own a; rwa [b] at this
 have hchan : ∀ p,ph = some p -> w'.heap[p.c]? = w.heap[p.c]?:=by
  rintro p rfl
  obtain ⟨a1,a2,a3,a4,a5,a6,a7,a8,a9,a10⟩:=hph;by_cases hrv : p.recv = true
  ·rw [if_pos hrv] at a10;exact s.frame _ a4 a10.1.1
  ·rw [if_neg hrv] at a10;have hs0 : Sat V w:=(by have:=hc.sat 0 h.pos; rwa [zl8] at this);have hch : V.role.chan = some p.c:=by
    unfold zmO at hr;split at hr
    ·cases hr
    ·cases hr; rename_i e; rw [e]; rfl
    ·cases hr; exact absurd rfl hrv
    ·exact hr.elim
   rw [s.sat.own _ _ (s.chan _ _ hch a10.1),hs0.own _ _ a10.1]
 refine Inv.mk' (by rw [hsz]; exact h.pos) h.k0 (by rw [Deaf_own,s.deaf,h.d0]) (fun j x hj hx => ?_) ?_ ?_ ?_
 ·rcases getElem?_next h.pos hx with ⟨e,_⟩ | ⟨_,y,hy,rfl⟩
  ·omega
  ·rw [Deaf_other t (g:=j) (g':=0) (by omega) _ hso];have hyk:=his j y hj hy;have hjlt : j < gs.size:=(Array.getElem?_eq_some_iff.1 hy).1;cases ph with
   | none =>
    obtain ⟨q,hq,hy'⟩:=hyk;exact ⟨q,hq,by rw [woken_quitsD hy']; exact hy'⟩
   | some p =>
    refine zih ?_ hyk;rcases h.opens rfl with ⟨n,x⟩ | x
    ·exact .inl ⟨n,by rw [hchan p rfl]; exact x⟩
    ·exact .inr (x.1 j hj hjlt)
 ·rw [hsz,vv0 (V:=V)];refine hc.step h.pos (by rw [zl8]; exact s) (fun e he x hx hs => ?_) g0.frame.fn g0.frame.place;cases ph with
  | none => exact hs.elim
  | some p =>
   obtain ⟨a1,a2,a3,a4,a5,a6,a7,a8,a9,a10⟩:=hph;have hfit:=zfP (s.evs e he) hx;by_cases hrv : p.recv = true
   ·exfalso;rw [if_pos hrv] at a10;have b : Blind p V:=⟨a10.1.1,a10.1.2.1,a10.1.2.2.1,a10.1.2.2.2⟩;rcases hfit.1 with y | ⟨y,_⟩ | y
    ·exact b.not_sh y.rd hs
    ·exact b.not_sh y hs
    ·exact y (zqw a4 a5 hs)
   ·rw [if_neg hrv] at a10;have hrole : V.role.chan = some p.c /\ V.role.group = some p.Wg:=by
     unfold zmO at hr;split at hr
     ·cases hr
     ·cases hr; rename_i e; rw [e]; exact ⟨rfl,rfl⟩
     ·cases hr; exact absurd rfl hrv
     ·exact hr.elim
    have hact : zmC (some p) gs.size ic K 0:=by
     show zlP p gs.size ic K 0;unfold zlP; rw [if_neg hrv]; exact .inl rfl
    have hnp : x.kind ≠ .plain:=by
     intro hk;cases hl : x.loc with
     | cell a => rw [hl] at hs; exact hfit.2.2 _ a hrole.2 hl hs hk
     | obj r => rw [hl] at hs; exact hfit.2.1 _ hrole.1 (by rw [hl]; exact congrArg _ hs)
     | _ => rw [hl] at hs; exact hs.elim
    cases hk : x.kind with
    | plain => exact absurd hk hnp
    | atomic => exact .inl ⟨rfl,hact⟩
    | said => exact .inr ⟨rfl,a10.2.1.symm,hact⟩
 ·have hnew : ∀ idx a,t.size <= idx -> (∃ op ∈ MemOp.ofEvents 0 g0.frame.fn g0.frame.place es,(t ++ MemOp.ofEvents 0 g0.frame.fn g0.frame.place es)[idx]? = some op /\ op.act.touch? = some a) -> Knows (t ++ MemOp.ofEvents 0 g0.frame.fn g0.frame.place es) 0 idx:=fun idx a _ ⟨op,hop,hi,_⟩ => hown hi (hso op hop);cases st with
  | none =>
   intro idx a ha hm;rcases zbu ha with ha' | ⟨hi,x⟩
   ·obtain ⟨op,hop,_⟩:=touch_of ha';rcases hre idx a ha' hm with x | ⟨x,y⟩ | ⟨_,z,_⟩
    ·exact .inl (x.app _)
    ·exact .inr (.inl ⟨x,fun z => y ((heard_old (lt_size_of_getElem? hop)).1 z)⟩)
    ·cases z
   ·exact .inl (hnew idx a hi x)
  | some s' =>
   exact hre.app (fun idx a ha hx => .inr (hx.app (by obtain ⟨op,hop,_⟩:=touch_of ha; exact lt_size_of_getElem? hop) fun j _ _ hj => .inl hj)) (fun idx a hi x _ => .inl (hnew idx a hi x))
 ·cases ph with
  | none => exact hph
  | some p =>
   obtain ⟨a1,a2,a3,a4,a5,a6,a7,a8,a9,a10⟩:=hph;refine ⟨a1,a2,a3,Nat.lt_of_lt_of_le a4 s.size,Nat.lt_of_lt_of_le a5 s.size,a6,a7,fun j j' m b1 b2 b3 b4 => a8 j j' m b1 (hsz ▸ b2) b3 (hsz ▸ b4),fun j S b1 b2 => by rw [hsz]; exact a9 j S b1 b2,?_⟩;split
   ·rename_i hrv;rw [if_pos hrv] at a10;obtain ⟨c1,c2,c3,s',c4,c5⟩:=a10;have b : Blind p V:=⟨c1.1,c1.2.1,c1.2.2.1,c1.2.2.2⟩;have b':=b.step s a4 a5;refine ⟨⟨b'.1,b'.2.1,b'.2.2.1,b'.2.2.2⟩,c2,by rw [hsz]; exact c3,s',c4,?_⟩;rw [hsz];refine c5.keep (fun _ => rfl) (hchan p rfl) (s.frame _ a5 b.2.2.1) fun hrr g hg => ?_;rcases getElem?_next h.pos hg with ⟨e,_⟩ | ⟨_,y,hy,rfl⟩
    ·omega
    ·rw [woken_run (hrr y hy)]; exact hrr y hy
   ·rename_i hrv;rw [if_neg hrv] at a10;have hch : V.role.chan = some p.c:=by
     unfold zmO at hr;split at hr
     ·cases hr
     ·cases hr; rename_i e; rw [e]; rfl
     ·cases hr; exact absurd rfl hrv
     ·exact hr.elim
    exact ⟨s.chan _ _ hch a10.1,a10.2.1,a10.2.2.1,by rw [hsz]; exact a10.2.2.2.1,a10.2.2.2.2.1,by rw [hsz]; exact a10.2.2.2.2.2⟩
end
open Go.Conc Go.ConcN
theorem zhZ {x y : MemOp} {k : Nat} (hx : x.act = .go k) (hy : y.act = .start) : ∀ op ∈ (#[x,y] : Trace),op.act.touch? = none /\ zmE op.act /\ (∀ B,op.act.low B) /\ ∀ a,op.act ≠ .mark (.release a):=by
 intro op hop;simp only [List.mem_toArray,List.mem_cons,List.not_mem_nil,or_false] at hop;rcases hop with rfl | rfl
 ·rw [hx]; exact ⟨rfl,⟨by simp,by simp⟩,fun _ => trivial,by simp⟩
 ·rw [hy]; exact ⟨rfl,⟨by simp,by simp⟩,fun _ => trivial,by simp⟩
theorem zim {t : Trace} {N : Nat} (h : ∀ op ∈ t,op.g < N) : Deaf t N = 0:=by
 have key : ∀ k,k <= t.size -> t.deaf N k = 0:=by
  intro k;induction k with
  | zero => intro _; rfl
  | succ k ih =>
   intro hk;have hy : t[k]? = some t[k]:=Array.getElem?_eq_getElem (by omega);have hne : ¬ t[k].g = N:=(by have:=h t[k] (Array.getElem_mem _); omega);rw [deaf_succ hy,ih (by omega)];unfold deafStep;split <;> simp [hne]
 exact key _ (Nat.le_refl _)
section
variable {VV : Nat -> View} {N : Nat} {w : World} {t : Trace} {Sh : Loc -> Prop} {act act' : Nat -> Prop} {ic ic' n0 : Nat} {W0 : World}
theorem Core.spawn (h : Core VV N w t Sh act ic n0 W0) (h0 : 0 < N) (hd0 : Deaf t 0 = 0) {x y : MemOp} (hx : x.g = 0 /\ x.act = .go N) (hy : y.g = N /\ y.act = .start) {U : View} (hi : U.imm = (VV 0).imm) (ho : U.own = fun _ => none)
  (hact : ∀ i,act' i -> act i \/ (i = N /\ act 0)) (hic : ic' = ic \/ (ic' = N /\ ic = 0)) : Core (upd VV N U) (N + 1) w (t ++ #[x,y]) Sh act' ic' n0 W0:=by
 have hmu:=zhZ hx.2 hy.2;have hdN : Deaf t N = 0:=zim h.ti.gs;have hk : ∀ {idx},Knows t 0 idx -> Knows (t ++ #[x,y]) N idx:=fun {idx} hx' => fork_knows hx hy hd0 hdN hx';have hsU : Sat U w:=⟨fun b o v e => (h.sat 0 h0).imm b o v (by rw [<- hi]; exact e),fun b x e => by rw [ho] at e; cases e⟩;refine ⟨fun i hi' => ?_,fun a b ha hb hab => ?_,?_,h.tape,h.os,h.out,h.old,fun i hi' b hb => ?_,h.n0⟩
 ·by_cases hiN : i = N
  ·subst hiN; rw [zar]; exact hsU
  ·rw [zal _ _ hiN]; exact h.sat i (by omega)
 ·by_cases haN : a = N
  ·subst haN; rw [zar];intro q hq; rw [ho] at hq; exact absurd rfl hq
  ·rw [zal _ _ haN];by_cases hbN : b = N
   ·subst hbN; rw [zar];intro q hq;refine ⟨by rw [ho],fun o hu => ?_⟩;rw [hi] at hu;by_cases ha0 : a = 0
    ·subst ha0; exact hu
    ·exact (h.dis a 0 (by omega) h0 ha0 q hq).2 o hu
   ·rw [zal _ _ hbN]; exact h.dis a b (by omega) (by omega) hab
 ·refine h.ti.mute (fun op hop => (hmu op hop).1) (fun op hop => (hmu op hop).2.2.1 _) (fun op hop => ?_) (by omega) (fun op hop => (hmu op hop).2.2.2) (fun i hi' l hl idx a ha hal hwr => ?_) (fun i hi' l hl idx a ha hal => ?_) (fun idx a ha hsh => ⟨fun hp i hi' => ?_,fun hp => ?_⟩)
  ·simp only [List.mem_toArray,List.mem_cons,List.not_mem_nil,or_false] at hop;rcases hop with rfl | rfl
   ·omega
   ·omega
  ·obtain ⟨_,hl1,hl2⟩:=hl;by_cases hiN : i = N
   ·subst hiN;rw [zar] at hl1;have : RdV (VV 0) l:=by
     cases l with
     | cell a' => rcases hl1 with z | z; exact absurd (by rw [ho]) z; exact .inr (by rw [<- hi]; exact z)
     | obj r => exact absurd (by rw [ho]) hl1
     | _ => exact hl1.elim
    exact hk (h.ti.kr 0 h0 l ⟨h0,this,hl2⟩ idx a ha hal hwr)
   ·rw [zal _ _ hiN] at hl1;exact (h.ti.kr i (by omega) l ⟨by omega,hl1,hl2⟩ idx a ha hal hwr).app _
  ·obtain ⟨_,hl1,hl2⟩:=hl;by_cases hiN : i = N
   ·subst hiN;rw [zar] at hl1;exfalso;cases l with
    | cell a' => exact hl1.1 (by rw [ho])
    | obj r => exact hl1 (by rw [ho])
    | _ => exact hl1.elim
   ·rw [zal _ _ hiN] at hl1;exact (h.ti.kw i (by omega) l ⟨by omega,hl1,hl2⟩ idx a ha hal).app _
  ·have:=h.ti.sp idx a ha hsh;rcases hact i hi' with z | ⟨rfl,z⟩
   ·exact (this.1 hp i z).app _
   ·exact hk (this.1 hp 0 z)
  ·have:=h.ti.sp idx a ha hsh;rcases hic with rfl | ⟨rfl,rfl⟩
   ·exact (this.2 hp).app _
   ·exact hk (this.2 hp)
 ·by_cases hiN : i = N
  ·subst hiN; rw [zar,ho]
  ·rw [zal _ _ hiN]; exact h.oldOwn i (by omega) b hb
end
section
variable {P : Program} {n0 : Nat} {W0 : World} {V : View} {gs gs' : Array Goroutine} {w w' : World} {sl : Option (Nat × Nat)} {t : Trace} {K : Nat -> GS} {Im : Imm} {ic : Nat} {ph : Option Phase} {p : Phase} {st st' : Option Stage}
theorem GS.view_plain {k : GS} (h : k.closer = false) (Im Im' : Imm) : k.view Im' = k.view Im:=by cases k <;> first | rfl | cases h
theorem GS.is_plain {k : GS} {c Wg d : Nat} {Im Im' : Imm} {Ss Ss' : List (List Spec)} {g : Goroutine} (h : k.closer = false) (hS : ∀ (j : Nat) S,Ss[j]? = some S -> Ss'[j]? = some S) (hk : k.is P c Wg Im Ss d g) : k.is P c Wg Im' Ss' d g:=by
 cases k with
 | work j hh V => obtain ⟨a,b,S,e,f⟩:=hk; exact ⟨a,b,S,hS _ _ e,f⟩
 | park j hh V V' g0 v z => obtain ⟨a,b,c,d,sp,S,B,e,f⟩:=hk; exact ⟨a,b,c,d,sp,S,B,hS _ _ e,f⟩
 | gone q => exact hk
 | add n => exact hk
 | load n => exact hk
 | store n => exact hk
 | sem n => exact hk
 | head k n => cases h
 | cas k n => cases h
 | said n => cases h
 | csem n => cases h
 | last n => cases h
 | acq n => cases h
 | look n => cases h
 | close n => cases h
theorem Inv.spawn (h : Inv P n0 W0 V gs w t K Im ic (some p) st) (hrv : p.recv = false) (hV0 : V.deaf = 0) {g' child : Goroutine} {x y : MemOp} (hx : x.g = 0 /\ x.act = .go gs.size) (hy : y.g = gs.size /\ y.act = .start) {V' : View} {p' : Phase} {Im' : Imm} {ic' : Nat} {k' : GS} (hc : p'.c = p.c) (hWg : p'.Wg = p.Wg)
  (hless : Less V' V) (hdeaf : V'.deaf = V.deaf) (hvi : (k'.view Im').imm = V.imm) (hvo : (k'.view Im').own = fun _ => none) (hSs : ∀ (j : Nat) S,p.Ss[j]? = some S -> p'.Ss[j]? = some S) (hchild : k'.is P p.c p.Wg Im' p'.Ss 0 child)
  (hact : ∀ i,i < gs.size -> zlP p' (gs.size + 1) ic' (upd K gs.size k') i -> zlP p gs.size ic K i) (hic : ic' = ic \/ ic' = gs.size)
  (hphase : zmM P n0 V' ((gs.setIfInBounds 0 g').push child) w (t ++ #[x,y]) (upd K gs.size k') Im' ic' (some p') (some .early)) :
  Inv P n0 W0 V' ((gs.setIfInBounds 0 g').push child) w (t ++ #[x,y]) (upd K gs.size k') Im' ic' (some p') (some .early):=by
 obtain ⟨his,hcr,hre,hph⟩:=h.out;obtain ⟨a1,a2,a3,a4,a5,a6,a7,a8,a9,a10⟩:=hph;rw [if_neg (by rw [hrv]; simp)] at a10;obtain ⟨c1,c2,c3,c4,c5,c6⟩:=a10;have hsz : ((gs.setIfInBounds 0 g').push child).size = gs.size + 1:=by simp
 have hmu:=zhZ hx.2 hy.2;have hdf : ∀ i,Deaf (t ++ #[x,y]) i = Deaf t i:=fun i => zdR fun op hop => (hmu op hop).2.1;have hpos:=h.pos;have hd0 : Deaf t 0 = 0:=by rw [h.d0,hV0]
 have hcl : ∀ i,0 < i -> (K i).closer = false:=fun i hi => by
  cases e : (K i).closer with
  | false => rfl
  | true => have:=h.theCloser hi e; omega
 have hact0 : zmC (some p) gs.size ic K 0:=by
  show zlP p gs.size ic K 0;unfold zlP; rw [if_neg (by rw [hrv]; simp)]; exact .inl rfl
 have hcore:=hcr.spawn (act':=zmC (some p') (gs.size + 1) ic' (upd K gs.size k')) (ic':=ic') hpos hd0 hx hy (U:=k'.view Im') (by rw [zl8]; exact hvi) hvo (fun i hi => by
   by_cases hiN : i < gs.size
   ·exact .inl (hact i hiN hi)
   ·refine .inr ⟨?_,hact0⟩;have hi' : zlP p' (gs.size + 1) ic' (upd K gs.size k') i:=hi;unfold zlP at hi';split at hi' <;> omega) (hic.imp id fun e => ⟨e,c2⟩)
 have hcore':=(hcore.less (i:=0) (V':=V') (by omega) (by rw [zal _ _ (by omega),zl8]; exact hless)).congr (VV':=VVof V' Im' (upd K gs.size k')) fun i hi => by
  by_cases hi0 : i = 0
  ·subst hi0; rw [zar]; simp [VVof]
  ·rw [zal _ _ hi0];by_cases hiN : i = gs.size
   ·subst hiN; rw [zar]; simp [VVof,hi0,zar]
   ·rw [zal _ _ hiN]; simp only [VVof,hi0,if_false,zal _ _ hiN];exact GS.view_plain (hcl i (by omega)) _ _
 refine Inv.mk' (by omega) (by rw [zal _ _ (by omega)]; exact h.k0) (by rw [hdf,hdeaf]; exact h.d0) (fun i z hi hz => ?_) ?_ ?_ hphase
 ·rw [hdf];show (upd K gs.size k' i).is P p'.c p'.Wg Im' p'.Ss _ z;rw [hc,hWg];by_cases hiN : i = gs.size
  ·subst hiN;rw [zar,zim hcr.ti.gs];have : z = child:=by
    rw [show gs.size = (gs.setIfInBounds 0 g').size by simp] at hz;rw [Array.getElem?_push_size] at hz;exact (Option.some.inj hz).symm
   rw [this]; exact hchild
  ·have hiN' : i < gs.size:=(by have:=(Array.getElem?_eq_some_iff.1 hz).1; omega);rw [zal _ _ hiN];rw [Array.getElem?_push,if_neg (by simp; omega),Array.getElem?_setIfInBounds_ne (by omega)] at hz;exact GS.is_plain (hcl i hi) hSs (his i z hi hz)
 ·rw [hsz];have e : shOf (some p') = shOf (some p):=by show ShP p'.c p'.Wg = ShP p.c p.Wg; rw [hc,hWg]
  rw [e]; exact hcore'
 ·have hr : Rest p.Wg t K ic st:=hre;rw [c3] at hr;show Rest p'.Wg _ _ _ _;rw [hWg];intro idx a ha hm;have ha':=zbn (fun op hop => (hmu op hop).1) ha;obtain ⟨op,hop,_⟩:=touch_of ha';have hlt:=lt_size_of_getElem? hop;rcases hr idx a ha' hm with z | ⟨z1,z2⟩ | ⟨s,hs,hx'⟩
  ·exact .inl (z.app _)
  ·exact .inr (.inl ⟨z1,fun z => z2 ((heard_old hlt).1 z)⟩)
  ·cases hs;obtain ⟨i,hg,hi,hz⟩:=hx';have hiN : i < gs.size:=by
    obtain ⟨op',ho',hog⟩:=Option.map_eq_some_iff.1 hg;rw [<- hog]; exact hcr.ti.gs op' (mem_of_getElem? ho')
   refine .inr (.inr ⟨.early,rfl,i,by rw [g?_old hlt]; exact hg,hi,?_⟩);rcases hz with hz | hz | ⟨r,hz,hle⟩
   ·exact .inl (by rw [zal _ _ (by omega)]; exact hz)
   ·omega
   ·exact .inr (.inr ⟨r,hz.app,hle⟩)
end
end Go.Gg
