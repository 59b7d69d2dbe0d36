/- A part of the proof. -/
import Derived.Test.YtfalifflpppchaaTopKeys2
import Derived.Test.YtfalifflpppchaaProg
import Derived.KernelRfl
import Derived.Conc.TokenWalk
set_option linter.all false
set_option maxRecDepth 4000
set_option maxHeartbeats 1000000
namespace Go.Gg
open Go.Conc
def Env.frame (E : Env) (f : Nat -> Option Obj) : Env:={ E with fr:=f }
theorem Den.frame {E : Env} {a : AV} {v : Value} (h : Den E a v) (f : Nat -> Option Obj) : Den (E.frame f) a v:=by
 induction h with
 | val x => exact .val x
 | agg hs _ ih => exact .agg hs ih
 | tup hs _ ih => exact .tup hs ih
 | sl b o cap g hc he h1 _ ih => exact .sl b o cap g hc (by cases he' : ‹End› <;> (subst he'; exact he)) h1 ih
 | nil he => exact .nil (by cases he' : ‹End› <;> (subst he'; exact he))
 | osl hi hcap => exact .osl (E:=E.frame f) hi hcap
 | rp b o g h1 _ ih => exact .rp b o g h1 ih
 | op hi => exact .op (E:=E.frame f) hi
 | fn hs1 hs2 _ _ ih1 ih2 => exact .fn hs1 hs2 ih1 ih2
 | ifc _ ih => exact .ifc ih
 | mp hi => exact .mp (E:=E.frame f) hi
theorem Denl.frame {E : Env} {l : List AV} {cs : Array Value} (h : Denl E l cs) (f : Nat -> Option Obj) : Denl (E.frame f) l cs:=⟨h.1,fun i a e => (h.2 i a e).frame f⟩
theorem Denp.frame {E : Env} {l : List AV} {cs : Array Value} (h : Denp E l cs) (f : Nat -> Option Obj) : Denp (E.frame f) l cs:=⟨h.1,fun i a e => (h.2 i a e).frame f⟩
theorem TOk.frame {E : Env} {T : List (Nat × AV)} {tmps : Array Value} (h : TOk E T tmps) (f : Nat -> Option Obj) : TOk (E.frame f) T tmps:=fun t a e => ⟨(h t a e).1,(h t a e).2.frame f⟩
theorem za8 (E : Env) (f : Nat -> Option Obj) (k : Nat) (x : AObj) : zfE (E.frame f) k x = zfE E k x:=by cases x <;> rfl
theorem ObjOk.frame {E : Env} {V : View} {k : Nat} {x : AObj} (h : ObjOk E V k x) (f : Nat -> Option Obj) : ObjOk (E.frame f) V k x:=by
 cases x with
 | cells l el => obtain ⟨⟨cs,h1,h2⟩,h3⟩:=h; exact ⟨⟨cs,h1,h2.frame f⟩,h3⟩
 | part p l el => obtain ⟨⟨cs,h1,h2,h4⟩,h3⟩:=h; exact ⟨⟨cs,h1,h2.frame f,h4⟩,h3⟩
 | own sz l el => obtain ⟨⟨cs,h1,h2,h4⟩,h3⟩:=h; exact ⟨⟨cs,h1,h2.frame f,h4⟩,h3⟩
 | tail n sz el => exact h
 | obj x => exact h
 | iter => exact h
 | loop => obtain ⟨⟨tmps,h1,h2,h3⟩,h4,h5⟩:=h; exact ⟨⟨tmps,h1,h2,h3.frame f⟩,h4,h5⟩
 | gone => trivial
 | main => exact h
theorem Conc.reframe {E : Env} {V V' : View} {H : List AObj} (h : Conc E V H) (f : Nat -> Option Obj) (hI : V'.imm = V.imm)
  (ho : ∀ b x k y,H[k]? = some y -> zfE E k y = some b -> V.own b = some x -> V'.own b = some x)
  (hg : ∀ g,V'.role.group = some g -> V'.own g ≠ none /\ (∀ o,V'.imm g o = none) /\ ∀ (k : Nat) x,H[k]? = some x -> zfE E k x ≠ some g)
  (hc : ∀ g,V'.role.chan = some g -> V'.own g ≠ none /\ (∀ o,V'.imm g o = none) /\ ∀ (k : Nat) x,H[k]? = some x -> zfE E k x ≠ some g)
  (ht : E.main = true -> V'.role = .plain /\ V'.deaf = 0) (hf : ∀ b y,f b = some y -> V'.own b = some y /\ (∀ o,V'.imm b o = none) /\ ∀ (k : Nat) x,H[k]? = some x -> zfE E k x ≠ some b) : Conc (E.frame f) V' H:=by
 have hlt : ∀ (k : Nat) y,H[k]? = some y -> k < E.n:=fun k y e => by rw [h.n]; exact (List.getElem?_eq_some_iff.1 e).1
 refine ⟨by rw [hI]; exact h.I,h.n,fun k x e => ObjOk.frame ((h.obj k x e).mono (Env.Le.refl E) (hlt k x e) rfl (fun b y hb hy => ho b y k x e hb hy) (fun b _ o => by rw [hI])) f,fun i j x y b h1 h2 h3 h4 => ?_,fun g e => ?_,fun g e => ?_,ht,fun b y e => ?_⟩
 ·rw [za8] at h3 h4; exact h.inj i j x y b h1 h2 h3 h4
 ·obtain ⟨a,b,c⟩:=hg g e; exact ⟨a,b,fun k x e => by rw [za8]; exact c k x e⟩
 ·obtain ⟨a,b,c⟩:=hc g e; exact ⟨a,b,fun k x e => by rw [za8]; exact c k x e⟩
 ·obtain ⟨a,b',c⟩:=hf b y e; exact ⟨a,b',fun k x e => by rw [za8]; exact c k x e⟩
theorem Conc.notFr {E : Env} {V : View} {H : List AObj} (h : Conc E V H) {b : Nat} {x : Obj} (hb : E.fr b = some x) {k : Nat} {y : AObj} (hk : H[k]? = some y) {b' : Nat} (hb' : zfE E k y = some b') : b' ≠ b:=fun e => by subst e; exact (h.fr _ x hb).2.2 k y hk hb'
theorem Conc.frUpd {E : Env} {V : View} {H : List AObj} (h : Conc E V H) {b : Nat} {x : Obj} (hb : E.fr b = some x) (y : Obj) : Conc (E.frame fun b' => if b' = b then some y else E.fr b') (V.upd b y) H:=by
 obtain ⟨p1,p2,p3⟩:=h.fr b x hb;refine h.reframe _ rfl (fun b' z k w hk hbk hz => ?_) (fun g hg => ?_) (fun g hg => ?_) h.top (fun b' z hz => ?_)
 ·have : b' ≠ b:=h.notFr hb hk hbk;simpa [View.upd,this] using hz
 ·obtain ⟨q1,q2,q3⟩:=h.group g hg;refine ⟨?_,q2,q3⟩;simp only [View.upd]; split
  ·simp
  ·exact q1
 ·obtain ⟨q1,q2,q3⟩:=h.chan g hg;refine ⟨?_,q2,q3⟩;simp only [View.upd]; split
  ·simp
  ·exact q1
 ·by_cases e : b' = b
  ·subst e;rw [if_pos rfl] at hz; cases hz;exact ⟨by simp [View.upd],p2,p3⟩
  ·rw [if_neg e] at hz;obtain ⟨q1,q2,q3⟩:=h.fr b' z hz;exact ⟨by simpa [View.upd,e] using q1,q2,q3⟩
theorem Conc.frNew {E : Env} {V : View} {H : List AObj} (h : Conc E V H) {b : Nat} (hb : V.fresh b) (y : Obj) : Conc (E.frame fun b' => if b' = b then some y else E.fr b') (V.upd b y) H:=by
 have hne : ∀ (k : Nat) x,H[k]? = some x -> zfE E k x ≠ some b:=fun k x hk e => by
  obtain ⟨z,hz⟩:=(h.obj k x hk).blk_own e;rw [hb.1] at hz; cases hz
 refine h.reframe _ rfl (fun b' z k w hk hbk hz => ?_) (fun g hg => ?_) (fun g hg => ?_) h.top (fun b' z hz => ?_)
 ·have : b' ≠ b:=fun e => by subst e; exact hne k w hk hbk
  simpa [View.upd,this] using hz
 ·obtain ⟨q1,q2,q3⟩:=h.group g hg;refine ⟨?_,q2,q3⟩;simp only [View.upd]; split
  ·simp
  ·exact q1
 ·obtain ⟨q1,q2,q3⟩:=h.chan g hg;refine ⟨?_,q2,q3⟩;simp only [View.upd]; split
  ·simp
  ·exact q1
 ·by_cases e : b' = b
  ·subst e;rw [if_pos rfl] at hz; cases hz;exact ⟨by simp [View.upd],hb.2,hne⟩
  ·rw [if_neg e] at hz;obtain ⟨q1,q2,q3⟩:=h.fr b' z hz;exact ⟨by simpa [View.upd,e] using q1,q2,q3⟩
theorem Conc.frOf {E : Env} {V : View} {H : List AObj} (h : Conc E V H) {id : Nat} {l : List AV} {el : TypeId} (hk : H[id]? = some (.cells l el)) : ∃ cs,Denl E l cs /\ V.own (E.blk id) = some (.cells cs el (0,0)) /\ (∀ o,V.imm (E.blk id) o = none) /\
  Conc (E.frame fun b' => if b' = E.blk id then some (.cells cs el (0,0)) else E.fr b') V (H.set id .gone):=by
 obtain ⟨⟨cs,h1,h2⟩,h3⟩:=h.obj id _ hk;refine ⟨cs,h2,h1,h3,?_⟩;have hg : Conc E V (H.set id .gone):=by
  refine h.turn id .gone (Env.Le.refl E) h.I (by simpa using h.n) zaF rfl (fun _ _ _ => rfl) (fun b y _ hy => ⟨hy,fun _ => rfl⟩) trivial (fun b e => by cases e)
 have hne : ∀ (k : Nat) x,(H.set id .gone)[k]? = some x -> zfE E k x ≠ some (E.blk id):=fun k x hx e => by
  rcases zaF k x hx with ⟨rfl,rfl⟩ | ⟨hne,hx⟩
  ·cases e
  ·exact hne (h.inj k id x _ _ hx hk e rfl)
 refine hg.reframe _ rfl (fun _ _ _ _ _ _ hz => hz) hg.group hg.chan h.top (fun b' z hz => ?_);by_cases e : b' = E.blk id
 ·subst e;rw [if_pos rfl] at hz; cases hz;exact ⟨h1,h3,hne⟩
 ·rw [if_neg e] at hz;exact hg.fr b' z hz
theorem Conc.pubPart {E : Env} {V : View} {H : List AObj} (h : Conc E V H) {id : Nat} {l : List AV} {el : TypeId} (hk : H[id]? = some (.cells l el)) (p : Nat) (hp : p <= l.length) : ∃ V',Ghost V V' /\ V'.own = V.own /\ V'.role = V.role /\ V'.deaf = V.deaf /\ E.Le { E with I:=V'.imm } /\ Conc { E with I:=V'.imm } V' (H.set id (.part p l el)) /\
  Den { E with I:=V'.imm } (.rp (l.take p)) (.pointer (some ⟨E.blk id,0,none⟩)):=by
 obtain ⟨⟨cs,h1,h2⟩,h3⟩:=h.obj id _ hk;let V':=V.pubp (E.blk id) cs fun o => decide (o < p);have himm : ∀ b o,b ≠ E.blk id -> V'.imm b o = V.imm b o:=fun b o hb => by simp [V',View.pubp,hb]
 have hin : ∀ o,o < p -> V'.imm (E.blk id) o = cs[o]?:=fun o ho => by simp [V',View.pubp,ho]
 have hout : ∀ o,p <= o -> V'.imm (E.blk id) o = none:=fun o ho => by simp [V',View.pubp,Nat.not_lt.2 ho,h3]
 have hle : E.Le { E with I:=V'.imm }:=⟨fun b o v e => by
  rw [h.I] at e;have hb : b ≠ E.blk id:=fun hb => by subst hb; rw [h3] at e; cases e
  show V'.imm b o = some v;rw [himm b o hb]; exact e,Nat.le_refl _,fun _ _ => rfl,fun _ _ => Nat.le_refl _,fun _ _ _ _ => rfl,rfl,rfl⟩
 refine ⟨V',zb9 h1 (fun o _ => h3 o),rfl,rfl,rfl,hle,?_,?_⟩
 ·refine h.turn (E':={ E with I:=V'.imm }) id (.part p l el) hle rfl (by simpa using h.n) zaF rfl (fun _ _ _ => rfl) (fun b y hb hy => ⟨hy,fun o => himm b o fun e => hb _ hk (by rw [e]; rfl)⟩) ⟨⟨cs,h1,(h2.mono hle).p,hin⟩,hout⟩ (fun b e => .inl ⟨_,hk,e⟩)
 ·refine .rp (E.blk id) 0 (fun i => cs.getD i undef) (fun i hi => ?_) fun i x hx => ?_
  ·have hi' : i < p:=(by simp at hi; omega);rw [Nat.zero_add];show V'.imm (E.blk id) i = _;rw [hin i hi'];have : i < cs.size:=(by have:=h2.1; omega);simp [Array.getD_eq_getD_getElem?,Array.getElem?_eq_getElem this]
  ·rw [List.getElem?_take] at hx;split at hx
   ·exact (h2.2 i x hx).mono hle
   ·cases hx
theorem Conc.learn {E : Env} {V V' : View} {H : List AObj} (h : Conc E V H) (ho : V'.own = V.own) (himm : ∀ b o v,V.imm b o = some v -> V'.imm b o = some v) (hown : ∀ b o,V.own b ≠ none -> V.imm b o = none -> V'.imm b o = none)
  (hg : V'.role.group = none) (hc : V'.role.chan = none) (ht : E.main = true -> V'.role = .plain /\ V'.deaf = 0) : E.Le { E with I:=V'.imm } /\ Conc { E with I:=V'.imm } V' H:=by
 have hle : E.Le { E with I:=V'.imm }:=⟨fun b o v e => by rw [h.I] at e; exact himm b o v e,Nat.le_refl _,fun _ _ => rfl,fun _ _ => Nat.le_refl _,fun _ _ _ _ => rfl,rfl,rfl⟩;have hlt : ∀ (k : Nat) y,H[k]? = some y -> k < E.n:=fun k y e => by rw [h.n]; exact (List.getElem?_eq_some_iff.1 e).1
 have key : ∀ b o,V.own b ≠ none -> V'.imm b o = V.imm b o:=fun b o hb => by
  cases e : V.imm b o with
  | none => exact hown b o hb e
  | some v => exact himm b o v e
 refine ⟨hle,rfl,h.n,fun k x e => (h.obj k x e).mono hle (hlt k x e) rfl (fun b y _ hy => by rw [ho]; exact hy) (fun b hb o => ?_),h.inj,fun g e => (by rw [hg] at e; cases e),fun g e => (by rw [hc] at e; cases e),ht,fun b y e => ?_⟩
 ·obtain ⟨y,hy⟩:=(h.obj k x e).blk_own hb;exact key b o (by rw [hy]; simp)
 ·obtain ⟨q1,q2,q3⟩:=h.fr b y e;exact ⟨by rw [ho]; exact q1,fun o => by rw [key b o (by rw [q1]; simp)]; exact q2 o,q3⟩
section
variable {lv : Bool} {P : Program} {nt id : Nat} {ops : Array Oper} {s : AS} {E : Env} {V : View} {a : Act} {Q : Ex -> Act -> View -> Prop} {K : AS -> Prop}
theorem zbW (n m : Nat) (hn : ops.size = n + m) (hdst : dstsOk nt ops = true) (hat : At E V s a nt) (h : AOps lv P ops (ops.toList.take n) s K (fun _ _ => False))
  (hk : ∀ E' V' a' s',Kept E E' V V' a a' -> At E' V' s' a' nt -> K s' -> zie lv P none ops Q (List.range' n m) a' V') : WP lv P none (.region id ops false) Q a V:=by
 refine zda ?_;have hr : List.range ops.size = List.range' 0 n ++ List.range' n m:=by
  have:=List.range'_append_1 (s:=0) (m:=n) (n:=m);rw [List.range_eq_range',hn,<- this]; simp
 rw [hr];refine zbj _ _ _ (zcJ (r:=none) (Φ:=fun e s' => match e with
  | .normal => K s'
  | _ => False) (fun o ho d e => (dstsOk.out hdst ho).1 d e) rfl n 0 s (by omega) (by simpa using h) E V a _ hat fun ae e E' V' a' s' hk' hat' he hΦ => ?_)
 cases ae <;> cases e <;> first
  | exact he.elim
  | exact hΦ.elim
  | exact hk E' V' a' s' hk' hat' hΦ
theorem zf2 (hm : P.follows .mixedOrders = true) (p : Nat) (hok : drawOk nt p ops = true) (hat : At E V s a nt) (h : QOps lv P ops (ops.toList.take p) s K)
  (hk : ∀ E' V' a' s',Kept E E' V V' a a' -> At E' V' s' a' nt -> K s' -> zie lv P none ops Q (List.range' p (ops.size - p)) a' V') : WP lv P none (.region id ops true) Q a V:=by
 have hok:=drawOk.out hok;obtain ⟨gs,g1,g2,s'',g3,g4⟩:=zea (lv:=lv) (r:=none) hok p [] s (by simp) ⟨rfl,by simp,by simp⟩ (by simpa using h);simp only [List.nil_append] at g1 g2 g3;refine zg3 fun t => ?_;rw [show Region.schedule (P.follows .mixedOrders) ops t = Region.linearise.go .any ops ops.size t (Array.replicate ops.size false) [] by unfold Region.schedule; rw [hm]; simp [Region.linearise]];have hs:=zeA (ops:=ops) (fun i o ho j hj => hok.low i o ho j hj) ops.size t (Array.replicate ops.size false) [] ⟨by simp,fun i hi => by simp [hi]⟩ (Nat.le_trans List.countP_le_length (by simp));refine zil (T0:=zna s ops p) (H:=s.H) hok (fun j hj d hd => ?_) (fun i o hi ho => g2 i o (by simp) hi ho) hs (by simp) (by simp) E V a Q ⟨hat.conc,fun t av e => ?_,by simp,hat.size⟩ fun E' V' a' X' hk' hat' hall => ?_
 ·rw [zbN,if_neg];simp only [List.all_eq_true];intro h;have:=h j (by simpa using hj);rw [hd] at this;simp at this
 ·rw [zbN] at e;split at e
  ·exact hat.tok t av e
  ·cases e
 ·refine hk E' V' a' s'' hk' ⟨by rw [g3.H]; exact hat'.conc,fun t av e => ?_,hat'.size⟩ g4;by_cases hex : ∃ j,j < p /\ zgH ops j = some t
  ·obtain ⟨j,hj,hjt⟩:=hex;rw [g3.new j t (by omega) hjt] at e;obtain ⟨oj,hoj,hdd⟩:=Option.bind_eq_some_iff.1 hjt;refine ⟨by rw [hat'.size]; exact hok.dst j oj t hoj hdd,?_⟩;have:=hat'.done j (hall j hj) t hjt;simpa [List.getD_eq_getElem?_getD,e] using this
  ·have hno : ∀ j,j < p -> zgH ops j ≠ some t:=fun j hj e => hex ⟨j,hj,e⟩;rw [g3.old t fun j hj => hno j (by omega)] at e;refine hat'.base t av ?_;rw [zbN,if_pos (by simp only [List.all_eq_true]; intro j hj; simpa using hno j (by simpa using hj))];exact e
theorem zdB {n : Nat} {o : Oper} (ho : ops[n]? = some o) (hg : o.guard = none) (h : SpecWP lv P o a V fun a' V' => Q .normal a' V') : zie lv P none ops Q (List.range' n 1) a V:=by
 simp only [List.range'_one,zie,ho];rw [if_pos (by unfold Region.wanted; rw [hg])];exact .inr h
end
section
variable {lv main : Bool} {P : Program} {J : View -> Goroutine -> Prop}
theorem zdV (C : Closed lv P main J) {V : View} {fr : Frame} {cs : List Frame} {g : FuncId} {ca zas : Array Value} {ds : List Deferred} (hd : fr.defers = ⟨.fn (.func g) ca,zas⟩ :: ds) (hm : (fr.mode matches .run) = false) (hg : zkT P g = true)
  (h : J V (G (Frame.enter P g (zas ++ ca) .deferred) ({ fr with defers:=ds } :: cs))) : J V (G fr cs):=by
 refine C.step _ _ rfl fun w hw => ?_;have hs : SemOk P V (invoke (.fn (.func g) ca) zas) (fun nx V' => nx = .enter g (zas ++ ca) /\ V' = V) (fun _ _ => False):=by
  unfold invoke;exact zc4 hg ⟨rfl,rfl⟩
 obtain ⟨es,w',V',k1,k2,k3⟩:=hs.runs hw;rcases k3 with ⟨nx,k3,rfl,rfl⟩ | ⟨_,_,h⟩
 ·refine ⟨G (Frame.enter P g (zas ++ ca) .deferred) ({ fr with defers:=ds } :: cs),w',seen P fr.fn es,V',?_,k1.seen P fr.fn,h⟩;have e : stepG P main (G fr cs) w = unwind P main fr cs none w:=by
   obtain ⟨fn,tmps,todo,defers,mode,kind,ro⟩:=fr;cases mode with
   | run => cases hm
   | returning => simp [G,stepG]
   | panicking ch => simp [G,stepG]
  rw [e];simp only [unwind,hd];simp [callDeferred,Sem.runT_eq,k3,k2,GStep.after,G]
 ·exact h.elim
theorem zkN (C : Closed lv P main J) {f : FuncId} {fn : Func} {c : Code} {args : Array Value} {kd : CallKind} {V : View} {cs : List Frame} {Q : Act -> View -> Prop} (hk : kd ≠ .early) (hf : P.funcs[f]? = some fn) (hb : fn.body = some c)
  (h : WP lv P none c (fun e a V => (match e with | .normal | .ret => True | _ => False) /\ Q a V) { tmps:=args ++ Array.replicate (fn.ntmps - args.size) undef,defers:=[] } V)
  (hQ : ∀ a V todo,Q a V -> J V (G { fn:=f,tmps:=a.tmps,todo,defers:=a.defers,mode:=.returning,kind:=kd,roundOf:=none } cs)) : J V (G (Frame.enter P f args kd) cs):=by
 let b : Frame:={ (default : Frame) with fn:=f,kind:=kd,roundOf:=none };have henter : Frame.enter P f args kd = on b { tmps:=args ++ Array.replicate (fn.ntmps - args.size) undef,defers:=[] } [.code c]:=by
  simp [Frame.enter,on,hf,hb,b]
 rw [henter];refine h main J C b [] cs hk rfl fun e a' V' q => ?_;cases e with
 | normal => exact C.idle rfl (fun w => zkd rfl) (hQ a' V' [] q.2)
 | ret => intro k; exact C.idle rfl (fun w => zj9 rfl) (hQ a' V' (.code .ret :: k) q.2)
 | panic ch => exact q.1.elim
 | exit id => exact q.1.elim
 | goto l => exact q.1.elim
end
def Env.setMain (E : Env) (m : Bool) : Env:={ E with main:=m }
theorem Den.setMain {E : Env} {a : AV} {v : Value} (h : Den E a v) (m : Bool) : Den (E.setMain m) a v:=by
 induction h with
 | val x => exact .val x
 | agg hs _ ih => exact .agg hs ih
 | tup hs _ ih => exact .tup hs ih
 | sl b o cap g hc he h1 _ ih => exact .sl b o cap g hc (by cases he' : ‹End› <;> (subst he'; exact he)) h1 ih
 | nil he => exact .nil (by cases he' : ‹End› <;> (subst he'; exact he))
 | osl hi hcap => exact .osl (E:=E.setMain m) hi hcap
 | rp b o g h1 _ ih => exact .rp b o g h1 ih
 | op hi => exact .op (E:=E.setMain m) hi
 | fn hs1 hs2 _ _ ih1 ih2 => exact .fn hs1 hs2 ih1 ih2
 | ifc _ ih => exact .ifc ih
 | mp hi => exact .mp (E:=E.setMain m) hi
theorem Denl.setMain {E : Env} {l : List AV} {cs : Array Value} (h : Denl E l cs) (m : Bool) : Denl (E.setMain m) l cs:=⟨h.1,fun i a e => (h.2 i a e).setMain m⟩
theorem Denp.setMain {E : Env} {l : List AV} {cs : Array Value} (h : Denp E l cs) (m : Bool) : Denp (E.setMain m) l cs:=⟨h.1,fun i a e => (h.2 i a e).setMain m⟩
theorem TOk.setMain {E : Env} {T : List (Nat × AV)} {tmps : Array Value} (h : TOk E T tmps) (m : Bool) : TOk (E.setMain m) T tmps:=fun t a e => ⟨(h t a e).1,(h t a e).2.setMain m⟩
theorem zaW (E : Env) (m : Bool) (k : Nat) (x : AObj) : zfE (E.setMain m) k x = zfE E k x:=by cases x <;> rfl
theorem ObjOk.setMain {E : Env} {V : View} {k : Nat} {x : AObj} (h : ObjOk E V k x) (m : Bool) (hm : x = .main -> m = true) : ObjOk (E.setMain m) V k x:=by
 cases x with
 | cells l el => obtain ⟨⟨cs,h1,h2⟩,h3⟩:=h; exact ⟨⟨cs,h1,h2.setMain m⟩,h3⟩
 | part p l el => obtain ⟨⟨cs,h1,h2,h4⟩,h3⟩:=h; exact ⟨⟨cs,h1,h2.setMain m,h4⟩,h3⟩
 | own sz l el => obtain ⟨⟨cs,h1,h2,h4⟩,h3⟩:=h; exact ⟨⟨cs,h1,h2.setMain m,h4⟩,h3⟩
 | tail n sz el => exact h
 | obj x => exact h
 | iter => exact h
 | loop => obtain ⟨⟨tmps,h1,h2,h3⟩,h4,h5⟩:=h; exact ⟨⟨tmps,h1,h2,h3.setMain m⟩,h4,h5⟩
 | gone => trivial
 | main => exact hm rfl
def zmv : AObj -> AObj
 | .main => .gone
 | x => x
theorem za4 (E : Env) (k : Nat) (x : AObj) : zfE E k (zmv x) = zfE E k x:=by cases x <;> rfl
theorem Conc.demain {E : Env} {V : View} {H : List AObj} (h : Conc E V H) : Conc (E.setMain false) V (H.map zmv):=by
 have get : ∀ (k : Nat) y,(H.map zmv)[k]? = some y -> ∃ x,H[k]? = some x /\ zmv x = y:=fun k y e => by
  rw [List.getElem?_map] at e;obtain ⟨x,e1,e2⟩:=Option.map_eq_some_iff.1 e;exact ⟨x,e1,e2⟩
 refine ⟨h.I,by rw [List.length_map]; exact h.n,fun k y e => ?_,fun i j x y b h1 h2 h3 h4 => ?_,fun g hg => ?_,fun g hg => ?_,(fun e => by cases e),fun b y e => ?_⟩
 ·obtain ⟨x,hx,rfl⟩:=get k y e;have hob:=h.obj k x hx;cases x <;> first
   | exact ObjOk.setMain hob false (fun e => by cases e)
   | exact True.intro
 ·obtain ⟨x',hx,rfl⟩:=get i x h1;obtain ⟨y',hy,rfl⟩:=get j y h2;rw [zaW,za4] at h3 h4;exact h.inj i j x' y' b hx hy h3 h4
 ·obtain ⟨a,b,c⟩:=h.group g hg;exact ⟨a,b,fun k y e => by obtain ⟨x,hx,rfl⟩:=get k y e; rw [zaW,za4]; exact c k x hx⟩
 ·obtain ⟨a,b,c⟩:=h.chan g hg;exact ⟨a,b,fun k y e => by obtain ⟨x,hx,rfl⟩:=get k y e; rw [zaW,za4]; exact c k x hx⟩
 ·obtain ⟨a,b',c⟩:=h.fr b y e;exact ⟨a,b',fun k y e => by obtain ⟨x,hx,rfl⟩:=get k y e; rw [zaW,za4]; exact c k x hx⟩
theorem Conc.remain {E : Env} {V : View} {H : List AObj} (h : Conc E V (H.map zmv)) (m : Bool) (f : Nat -> Option Obj) (hm : ∀ (k : Nat),H[k]? = some AObj.main -> m = true) (ht : m = true -> V.role = .plain /\ V.deaf = 0) (hf : ∀ b y,f b = some y -> E.fr b = some y) : Conc ((E.setMain m).frame f) V H:=by
 have get : ∀ (k : Nat) x,H[k]? = some x -> (H.map zmv)[k]? = some (zmv x):=fun k x e => by rw [List.getElem?_map,e]; rfl
 refine ⟨h.I,h.n.trans (by rw [List.length_map]),fun k x e => ObjOk.frame ?_ f,fun i j x y b h1 h2 h3 h4 => ?_,fun g hg => ?_,fun g hg => ?_,ht,fun b y e => ?_⟩
 ·have hob:=h.obj k _ (get k x e);cases x <;> first
   | exact ObjOk.setMain hob m (fun e => by cases e)
   | exact hm k e
 ·rw [za8,zaW] at h3 h4;exact h.inj i j _ _ b (get i x h1) (get j y h2) (by rw [za4]; exact h3) (by rw [za4]; exact h4)
 ·obtain ⟨a,b,c⟩:=h.group g hg;exact ⟨a,b,fun k x e => by rw [za8,zaW,<- za4]; exact c k _ (get k x e)⟩
 ·obtain ⟨a,b,c⟩:=h.chan g hg;exact ⟨a,b,fun k x e => by rw [za8,zaW,<- za4]; exact c k _ (get k x e)⟩
 ·obtain ⟨a,b',c⟩:=h.fr b y (hf b y e);exact ⟨a,b',fun k x e => by rw [za8,zaW,<- za4]; exact c k _ (get k x e)⟩
theorem Conc.pubRest {E : Env} {V : View} {H : List AObj} (h : Conc E V H) {id p : Nat} {l : List AV} {el : TypeId} (hk : H[id]? = some (.part p l el)) : ∃ V',Ghost V V' /\ V'.own = V.own /\ V'.role = V.role /\ V'.deaf = V.deaf /\ E.Le { E with I:=V'.imm } /\ Conc { E with I:=V'.imm } V' (H.set id .gone) /\
  Den { E with I:=V'.imm } (.rp l) (.pointer (some ⟨E.blk id,0,none⟩)):=by
 obtain ⟨⟨cs,h1,h2,h4⟩,h3⟩:=h.obj id _ hk;let V':=V.pubp (E.blk id) cs fun o => decide (p <= o);have himm : ∀ b o,b ≠ E.blk id -> V'.imm b o = V.imm b o:=fun b o hb => by simp [V',View.pubp,hb]
 have hin : ∀ o,V'.imm (E.blk id) o = cs[o]?:=fun o => by
  by_cases ho : p <= o
  ·simp [V',View.pubp,ho]
  ·simp only [V',View.pubp,ho,decide_false,Bool.false_eq_true,and_false,if_false]; exact h4 o (by omega)
 have hle : E.Le { E with I:=V'.imm }:=⟨fun b o v e => by
  rw [h.I] at e;show V'.imm b o = some v;by_cases hb : b = E.blk id
  ·subst hb;rw [hin];by_cases ho : p <= o
   ·rw [h3 o ho] at e; cases e
   ·rw [<- h4 o (by omega)]; exact e
  ·rw [himm b o hb]; exact e,Nat.le_refl _,fun _ _ => rfl,fun _ _ => Nat.le_refl _,fun _ _ _ _ => rfl,rfl,rfl⟩
 refine ⟨V',zb9 h1 (fun o ho => h3 o (by simpa using ho)),rfl,rfl,rfl,hle,?_,?_⟩
 ·refine h.turn (E':={ E with I:=V'.imm }) id .gone hle rfl (by simpa using h.n) zaF rfl (fun _ _ _ => rfl) (fun b y hb hy => ⟨hy,fun o => himm b o fun e => hb _ hk (by rw [e]; rfl)⟩) trivial (fun b e => by cases e)
 ·refine .rp (E.blk id) 0 (fun i => cs.getD i undef) (fun i hi => ?_) fun i x hx => (h2.2 i x hx).mono hle;rw [Nat.zero_add];show V'.imm (E.blk id) i = _;rw [hin i];have : i < cs.size:=by have:=h2.1; omega
  simp [Array.getD_eq_getD_getElem?,Array.getElem?_eq_getElem this]
section
variable {lv : Bool} {P : Program} {nt id : Nat} {ops : Array Oper} {s : AS} {E : Env} {V : View} {a : Act} {Q : Ex -> Act -> View -> Prop} {N : Act -> View -> Prop} {o : Oper}
theorem zcp (ho : ops[0]? = some o) (hg : o.guard = none) (h : OpX lv P none o a V (zie lv P none ops Q (List.range' 1 (ops.size - 1))) Q) : WP lv P none (.region id ops false) Q a V:=by
 refine zda ?_;have hsz : 0 < ops.size:=(Array.getElem?_eq_some_iff.1 ho).1;have hrange : List.range ops.size = 0 :: List.range' 1 (ops.size - 1):=by
  rw [List.range_eq_range'];obtain ⟨n,hn⟩ : ∃ n,ops.size = n + 1:=⟨ops.size - 1,by omega⟩;rw [hn,List.range'_succ]; rfl
 rw [hrange];simp only [zie,ho];rw [if_pos (by unfold Region.wanted; rw [hg])];exact h
theorem zg1 {k n : Nat} (ho : ops[k]? = some o) (hg : o.guard = none) (h : OpX lv P none o a V (zie lv P none ops Q (List.range' (k + 1) n)) Q) : zie lv P none ops Q (List.range' k (n + 1)) a V:=by
 rw [List.range'_succ];simp only [zie,ho];rw [if_pos (by unfold Region.wanted; rw [hg])];exact h
theorem zjL {k : Nat} (h : Q .normal a V) : zie lv P none ops Q (List.range' k 0) a V:=h
theorem zfl {k n : Nat} (s3 : AS) (hk : k + n = ops.size) (hdst : dstsOk nt ops = true) (hat : At E V s a nt) (h : AOps lv P ops (ops.toList.drop k) s (fun s' => s'.Sub s3) (fun _ _ => False)) (hQ : ∀ E' V' a',Kept E E' V V' a a' -> At E' V' s3 a' nt -> Q .normal a' V') : zie lv P none ops Q (List.range' k n) a V:=by
 refine zb3 (r:=none) (Φ:=fun e s' => match e with
  | .normal => s'.Sub s3
  | _ => False) (fun o ho d e => (dstsOk.out hdst ho).1 d e) (fun _ _ => .inl rfl) n k s hk h E V a Q hat fun ae e E' V' a' s' hk' hat' he hΦ => ?_
 cases ae <;> cases e <;> first
  | exact he.elim
  | exact hΦ.elim
  | exact hQ E' V' a' hk' (hat'.sub hΦ)
theorem zpp {c : Call} {f : FuncId} (hop : o.op = .call c) (hcl : c.callee = .value (.func f)) (hf : zkT P f = true) (h : Body lv P f (c.args.map a.eval) .normal V (fun
  | .ret v,V' => N (a.put o.dst v) V'
  | .panic _,_ => False)) : OpX lv P none o a V N Q:=by
 refine .inl ⟨.inl rfl,?_⟩;unfold execOp; rw [hop];dsimp only;unfold resolve;rw [hcl];dsimp only;have e : a.eval (.func f) = .func (.func f) #[] #[]:=rfl;rw [e];unfold Deferred.ofValue;refine zac (zbq ?_);unfold invoke;dsimp only;refine zc4 hf ?_;have e2 : #[] ++ c.args.map a.eval ++ #[] = c.args.map a.eval:=by simp
 rw [e2];exact h.mono fun o V' hx => by
  cases o with
  | ret v => exact hx
  | panic ch => exact hx.elim
theorem zgs {t el : TypeId} {d : ChanDir} {i : TypeInfo} (hop : o.op = .makeChan t (.const (.int .i64 0))) (h1 : P.underlying t = some (.chan d el)) (h2 : P.info? el = some i) (h : ∀ c,V.fresh c -> N (a.put o.dst (.chan (some c))) (V.upd c (.chan 0 #[] false 0 0 false))) : OpX lv P none o a V N Q:=by
 refine .inl ⟨.inl rfl,?_⟩;unfold execOp; rw [hop];dsimp only;have e : a.eval (.const (.int .i64 0)) = .int .i64 0:=rfl;rw [e];unfold Instr.makeChan;refine zac (zac ?_);unfold asInt;refine zbq ?_;refine zaj h1 ?_;dsimp only;refine zaY h2 ?_;rw [if_neg (by simp [IntKind.max,IntKind.bits,IntKind.signed])];refine zac ?_;unfold newObj;exact za7 fun c hf => zan (zbq (zbq (h c hf)))
end
theorem zoP {lv : Bool} {P : Program} {r : Option Nat} {code : Code} {Q : Ex -> Act -> View -> Prop} {a : Act} {V : View} {c Wg : Nat} (hlv : lv = true) (hr : V.role = .plain) (hne : c ≠ Wg) (hc : V.own c = some (.chan 0 #[] false 0 0 false)) (hW : V.own Wg ≠ none) (hWi : ∀ o,V.imm Wg o = none)
  (h : WP lv P r code Q a { V with role:=.fork c Wg [] }) : WP lv P r code Q a V:=fun main J C b k cs hb hro hL =>
 (C.more hlv).start _ _ c Wg hr hne hc hW hWi (h main J C b k cs hb hro hL)
structure Env.Lo (E E' : Env) : Prop where
 I : ∀ b o v,E.I b o = some v -> E'.I b o = some v
 n : E.n <= E'.n
 blk : ∀ k,k < E.n -> E'.blk k = E.blk k
 ver : ∀ k,k < E.n -> E.ver k <= E'.ver k
 room : ∀ k v,k < E.n -> v <= E.ver k -> E'.room k v = E.room k v
theorem Env.Le.lo {E E' : Env} (h : E.Le E') : E.Lo E':=⟨h.I,h.n,h.blk,h.ver,h.room⟩
theorem Env.Lo.refl (E : Env) : E.Lo E:=(Env.Le.refl E).lo
theorem Env.Lo.trans {E E' E'' : Env} (h : E.Lo E') (k : E'.Lo E'') : E.Lo E'' :=
 ⟨fun b o v e => k.I b o v (h.I b o v e),Nat.le_trans h.n k.n,fun i hi => (k.blk i (Nat.lt_of_lt_of_le hi h.n)).trans (h.blk i hi),fun i hi => Nat.le_trans (h.ver i hi) (k.ver i (Nat.lt_of_lt_of_le hi h.n)),
  fun i v hi hv => (k.room i v (Nat.lt_of_lt_of_le hi h.n) (Nat.le_trans hv (h.ver i hi))).trans (h.room i v hi hv)⟩
theorem Env.Lo.le {E E' : Env} (h : E.Lo E') : E.Le ((E'.setMain E.main).frame E.fr):=⟨h.I,h.n,h.blk,h.ver,h.room,rfl,rfl⟩
theorem Den.lo {E E' : Env} (h : E.Lo E') {a : AV} {v : Value} (d : Den E a v) : Den E' a v:=by
 have:=((d.mono h.le).setMain E'.main).frame E'.fr;exact this
theorem zo4 {P : Program} {rs : List ResultVar} {fn : Func} {nt : Nat} {k kp : AV -> List AObj -> Prop} {E E' : Env} {V V' : View} {H G : List AObj} {T : List (Nat × AV)} {a' : Act} {av : AV} (hr : fn.results = rs.toArray) (hat : At E' V' ⟨T,H.map zmv ++ G⟩ a' nt) (hlo : E.Lo E') (hc : Conc E V H) (hro : V'.role = V.role) (hde : V'.deaf = V.deaf) (hf : ∀ b y,E.fr b = some y -> E'.fr b = some y)
  (hres : resAll P ⟨T,H.map zmv ++ G⟩ rs = some [av]) (hlt : Lt H.length av) (hk : k av H) : ∃ v,SemOk P V' (results fn a'.tmps) (fun x V'' => x = v /\ V'' = V') (fun _ _ => False) /\ RetC E V k kp (.ret v) V':=by
 obtain ⟨vs,hl,hvs,hone⟩:=zcf hat rs [av] hres;obtain ⟨v,rfl⟩ : ∃ v,vs = [v]:=List.length_eq_one_iff.1 hl;have hden : Den E' av v:=hvs 0 av rfl;have hsem : SemOk P V' (results fn a'.tmps) (fun x V'' => x = v /\ V'' = V') (fun _ _ => False):=by
  unfold results;rw [hr,List.mapM_toArray];refine zac ?_;refine zac (hone ?_);refine zbq (zbq ⟨?_,rfl⟩);simp
 have hcut:=hat.conc.trim (H:=H.map zmv) (G:=G) (fun x hx => by
  obtain ⟨y,hy,rfl⟩:=List.mem_map.1 hx;have:=hc.hok y hy;cases y <;> first
   | exact trivial
   | simpa [zmv] using this)
 simp only [List.length_map] at hcut;refine ⟨v,hsem,av,((({ E' with n:=H.length } : Env).setMain E.main).frame E.fr),H,?_,hro,hde,?_,hcut.remain E.main E.fr (fun k e => hc.obj k _ e) (fun e => by rw [hro,hde]; exact hc.top e) hf,hk⟩
 ·refine Env.Lo.le (E':={ E' with n:=H.length }) ⟨hlo.I,?_,hlo.blk,hlo.ver,hlo.room⟩;show E.n <= H.length;rw [hc.n]; exact Nat.le_refl _
 ·exact ((hden.trim hlt).setMain E.main).frame E.fr
theorem Env.lo_frame (E : Env) (f : Nat -> Option Obj) : E.Lo (E.frame f):=⟨fun _ _ _ h => h,Nat.le_refl _,fun _ _ => rfl,fun _ _ => Nat.le_refl _,fun _ _ _ _ => rfl⟩
theorem Env.lo_main (E : Env) (m : Bool) : E.Lo (E.setMain m):=⟨fun _ _ _ h => h,Nat.le_refl _,fun _ _ => rfl,fun _ _ => Nat.le_refl _,fun _ _ _ _ => rfl⟩
theorem Env.Lo.cut {E E' : Env} (h : E.Lo E') {n : Nat} (hn : E.n <= n) : E.Lo { E' with n:=n }:=⟨h.I,hn,h.blk,h.ver,h.room⟩
def Env.bare (E : Env) : Env:=((({ E with n:=0 } : Env).setMain false).frame fun _ => none)
theorem Den.bare {E : Env} {a : AV} {v : Value} (h : Den E a v) (hl : Lt 0 a) : Den E.bare a v:=((h.trim hl).setMain false).frame _
theorem zk6 {E : Env} {I : Imm} {ro : Role} (hI : E.I = I) (hg : ro.group = none) (hc : ro.chan = none) : Conc E.bare { imm:=I,own:=fun _ => none,deaf:=0,role:=ro } [] :=
 ⟨hI,rfl,fun k x e => (by cases e),fun i j x y b h1 => (by cases h1),fun g e => (by rw [hg] at e; cases e),fun g e => (by rw [hc] at e; cases e),fun e => (by cases e),fun b y e => (by cases e)⟩
theorem At.val_of_op {E : Env} {V : View} {s : AS} {a : Act} {nt t id off : Nat} (h : At E V s a nt) (hl : look s.T t = some (.op id off)) : a.eval (.tmp t) = .pointer (some ⟨E.blk id,off,none⟩):=by
 have hd:=(h.tok t _ hl).2;show a.tmps.getD t undef = _;generalize a.tmps.getD t undef = v at hd;cases hd; rfl
section
variable {lv : Bool} {P : Program} {s : AS} {ms : List Nat} {nt : Nat}
def AEx.blockM (id : Nat) (Φ : AEx -> AS -> List Nat -> Prop) : AEx -> AS -> List Nat -> Prop
 | .exit i,s,ms => if i = id then Φ .normal s ms else Φ (.exit i) s ms
 | e,s,ms => Φ e s ms
theorem zjz {id : Nat} {c : Code} {Φ : AEx -> AS -> List Nat -> Prop} (h : AWPm lv P nt c s ms (AEx.blockM id Φ)) : AWPm lv P nt (.block id c) s ms Φ:=by
 intro E V a Q hat hd hQ;refine zbS (h E V a _ hat hd fun ae e E' V' a' s' ms' hk hat' hd' he hΦ => ?_);cases ae <;> cases e <;> first
  | exact he.elim
  | skip
 ·exact hQ .normal .normal E' V' a' s' ms' hk hat' hd' trivial hΦ
 ·rename_i i j;have e : i = j:=he;subst e;by_cases hid : i = id
  ·simp only [Ex.inBlock,hid,if_true]; simp only [AEx.blockM,hid,if_true] at hΦ; exact hQ .normal _ E' V' a' s' ms' hk hat' hd' trivial hΦ
  ·simp only [Ex.inBlock,hid,if_false]; simp only [AEx.blockM,hid,if_false] at hΦ; exact hQ (.exit i) _ E' V' a' s' ms' hk hat' hd' rfl hΦ
 ·exact hQ _ _ E' V' a' s' ms' hk hat' hd' he hΦ
 ·exact hQ _ _ E' V' a' s' ms' hk hat' hd' he hΦ
 ·exact hQ _ _ E' V' a' s' ms' hk hat' hd' he hΦ
def AEx.stayM (Φ : AEx -> AS -> List Nat -> Prop) : AEx -> AS -> List Nat -> Prop
 | .goto _,_,_ => False
 | e,s,ms => Φ e s ms
theorem zhS {c : Code} {Φ : AEx -> AS -> List Nat -> Prop} (h : AWPm lv P nt c s ms (AEx.stayM Φ)) : AWPm lv P nt (.scope c) s ms Φ:=by
 intro E V a Q hat hd hQ;refine zhV (fun _ _ _ _ => False) ⟨0,h E V a _ hat hd fun ae e E' V' a' s' ms' hk hat' hd' he hΦ => ?_⟩ fun _ _ _ _ _ _ hf => hf.elim;cases ae <;> cases e <;> first
  | exact he.elim
  | exact hΦ.elim
  | exact hQ _ _ E' V' a' s' ms' hk hat' hd' he hΦ
theorem zfV (id : Nat) (Φ : AEx -> AS -> List Nat -> Prop) (s : AS) (ms : List Nat) : AEx.blockM id Φ .normal s ms = Φ .normal s ms:=by rw [AEx.blockM]; simp
theorem zgh (Φ : AEx -> AS -> List Nat -> Prop) (s : AS) (ms : List Nat) : AEx.stayM Φ .normal s ms = Φ .normal s ms:=by rw [AEx.stayM]; simp
theorem zj4 (Φ : AEx -> AS -> List Nat -> Prop) (s : AS) (ms : List Nat) : AEx.stayM Φ .ret s ms = Φ .ret s ms:=by rw [AEx.stayM]; simp
theorem zf6 (K : AS -> List Nat -> Prop) (Φ : AEx -> AS -> List Nat -> Prop) (s : AS) (ms : List Nat) : AEx.thenM K Φ .normal s ms = K s ms:=by rw [AEx.thenM]
theorem zjW (K : AS -> List Nat -> Prop) (Φ : AEx -> AS -> List Nat -> Prop) (s : AS) (ms : List Nat) : AEx.thenM K Φ .ret s ms = Φ .ret s ms:=by rw [AEx.thenM]; simp
@[congr] theorem awpm_congr {c : Code} {s s' : AS} {ms ms' : List Nat} {Φ : AEx -> AS -> List Nat -> Prop} (h : s = s') (hd : ms = ms') : AWPm lv P nt c s ms Φ = AWPm lv P nt c s' ms' Φ:=by rw [h,hd]
@[congr] theorem thenM_congr {K : AS -> List Nat -> Prop} {Φ : AEx -> AS -> List Nat -> Prop} {e e' : AEx} {s s' : AS} {ms ms' : List Nat} (he : e = e') (h : s = s') (hd : ms = ms') : AEx.thenM K Φ e s ms = AEx.thenM K Φ e' s' ms':=by rw [he,h,hd]
@[congr] theorem stayM_congr {Φ : AEx -> AS -> List Nat -> Prop} {e e' : AEx} {s s' : AS} {ms ms' : List Nat} (he : e = e') (h : s = s') (hd : ms = ms') : AEx.stayM Φ e s ms = AEx.stayM Φ e' s' ms':=by rw [he,h,hd]
@[congr] theorem fnEndM_congr {rs : List ResultVar} {n : Nat} {k kp : AV -> List AObj -> Prop} {e e' : AEx} {s s' : AS} {ms ms' : List Nat} (he : e = e') (h : s = s') (hd : ms = ms') : zno P rs n k kp e s ms = zno P rs n k kp e' s' ms':=by rw [he,h,hd]
theorem zji (rs : List ResultVar) (n : Nat) (k kp : AV -> List AObj -> Prop) (s : AS) (ms : List Nat) : zno P rs n k kp .ret s ms = one1 (zmW ms s.H) fun H' => one1 (resAll P ⟨s.T,H'⟩ rs) fun l => zly n H' (resTup l) k:=by rw [zno]
theorem zgF (H : List AObj) : zmW [] H = some H:=by rw [zmW]
theorem zjg {i : Nat} {ms : List Nat} {H : List AObj} (h : H[i]? = some (.obj (.deferred (some [])))) : zmW (i :: ms) H = zmW ms (H.set i .gone):=by rw [zmW]; rw [h]
attribute [seval] zfV zgh zj4 zf6 zjW zji zgF
end
section
variable {lv : Bool} {P : Program} {r : Option Nat} {s : AS}
theorem zkU {E : Env} {I : Imm} (hI : ∀ b o v,E.I b o = some v -> I b o = some v) {n : Nat} {l : List AV} {v : Value} (h : Den E (.sl n l .exact) v) : ∃ a,Den (E.tok I (a,n) n) (.sl n l (.opn E.n)) v:=by
 cases h with
 | sl b o cap f hcap he q1 q2 =>
  have hcap' : cap = n:=he;subst hcap';refine ⟨some ⟨b,o,none⟩,?_⟩;have hle:=E.le_tok (I:=I) hI (some ⟨b,o,none⟩,cap) cap;exact .sl b o cap f hcap ⟨by simp [Env.tok],by simp [Env.tok],by simp [Env.tok]⟩ (fun i hi => hle.I _ _ _ (q1 i hi)) (fun i x hx => (q2 i x hx).mono hle)
 | nil he => exact ⟨_,.nil ⟨by simp [Env.tok],by simp [Env.tok],by simp [Env.tok]; rfl⟩⟩
theorem zbV {nt t n sz : Nat} {c : Code} {l : List AV} {el : TypeId} {Φ : AEx -> AS -> Prop} (ht : look s.T t = some (.sl n l .exact)) (h : AWP lv P r nt c ⟨(t,.sl n l (.opn s.H.length)) :: s.T,s.H ++ [.tail n sz el]⟩ Φ) : AWP lv P r nt c s Φ:=fun E V a Q hat hQ => by
 obtain ⟨hlt,hd⟩:=hat.tok t _ ht;obtain ⟨ad,hd'⟩:=zkU (I:=V.imm) (fun b o v h => by rw [<- hat.conc.I]; exact h) hd;obtain ⟨hc,hle⟩:=hat.conc.tok0 (n:=n) sz el ad;refine h _ V a Q ⟨hc,fun t' x hx => ?_,hat.size⟩ fun ae e E' V' a' s' hk => hQ ae e E' V' a' s' ((⟨hle,rfl,rfl,rfl,rfl⟩ : Kept E _ V V a a).trans hk);simp only [look] at hx;split at hx
 ·rename_i e;subst e; cases hx;rw [<- hat.conc.n];exact ⟨hlt,hd'⟩
 ·exact ⟨(hat.tok t' x hx).1,(hat.tok t' x hx).2.mono hle⟩
def znc (l : Nat) (S : Nat -> AS) (ok : Nat -> Prop) (m : Nat) (Φ : AEx -> AS -> Prop) : AEx -> AS -> Prop
 | .goto l',s => l' = l /\ ∃ m',m' < m /\ ok m' /\ s.Sub (S m')
 | e,s => Φ e s
theorem zkA (l : Nat) (S : Nat -> AS) (ok : Nat -> Prop) (m : Nat) (Φ : AEx -> AS -> Prop) (s : AS) : znc l S ok m Φ .normal s = Φ .normal s:=by rw [znc]; simp
theorem lj_ret (l : Nat) (S : Nat -> AS) (ok : Nat -> Prop) (m : Nat) (Φ : AEx -> AS -> Prop) (s : AS) : znc l S ok m Φ .ret s = Φ .ret s:=by rw [znc]; simp
theorem zrp (l : Nat) (S : Nat -> AS) (ok : Nat -> Prop) (m : Nat) (Φ : AEx -> AS -> Prop) (i : Nat) (s : AS) : znc l S ok m Φ (.exit i) s = Φ (.exit i) s:=by rw [znc]; simp
theorem zpy (l : Nat) (S : Nat -> AS) (ok : Nat -> Prop) (m : Nat) (Φ : AEx -> AS -> Prop) (a : AV) (s : AS) : znc l S ok m Φ (.panic a) s = Φ (.panic a) s:=by rw [znc]; simp
@[congr] theorem lj_congr {l m : Nat} {S : Nat -> AS} {ok : Nat -> Prop} {s s' : AS} {Φ : AEx -> AS -> Prop} {e e' : AEx} (he : e = e') (h : s = s') : znc l S ok m Φ e s = znc l S ok m Φ e' s':=by rw [he,h]
attribute [seval] zkA lj_ret zrp zpy
theorem zn0 {E : Env} {l : List AV} {cs : Array Value} {j : Nat} {a b : AV} (h : Denl E l cs) (hj : l[j]? = some a) (hb : ∀ v,Den E a v -> Den E b v) : Denl E (l.set j b) cs:=by
 refine ⟨by rw [List.length_set]; exact h.1,fun i x hx => ?_⟩;by_cases e : i = j
 ·subst e;rw [List.getElem?_set_self (List.getElem?_eq_some_iff.1 hj).1] at hx;cases hx;exact hb _ (h.2 i a hj)
 ·rw [List.getElem?_set_ne (Ne.symm e)] at hx;exact h.2 i x hx
theorem zdw {nt id j n sz : Nat} {c : Code} {l l' : List AV} {el el' : TypeId} {Φ : AEx -> AS -> Prop} (hid : s.H[id]? = some (.cells l el)) (hj : l[j]? = some (.sl n l' .exact)) (h : AWP lv P r nt c ⟨s.T,s.H.set id (.cells (l.set j (.sl n l' (.opn s.H.length))) el) ++ [AObj.tail n sz el']⟩ Φ) : AWP lv P r nt c s Φ:=fun E V a Q hat hQ => by
 have hc:=hat.conc;obtain ⟨⟨cs,hown,hd⟩,himm⟩:=hc.obj id _ hid;obtain ⟨ad,hd'⟩:=zkU (I:=V.imm) (fun b o v h => by rw [<- hc.I]; exact h) (hd.2 j _ hj);obtain ⟨hc',hle⟩:=hc.tok0 (n:=n) sz el' ad;have hlt:=(List.getElem?_eq_some_iff.1 hid).1;have hn : (E.tok V.imm (ad,n) n).n = s.H.length + 1:=by simp [Env.tok,hc.n]
 have e : s.H.set id (.cells (l.set j (.sl n l' (.opn s.H.length))) el) ++ [AObj.tail n sz el'] = (s.H ++ [AObj.tail n sz el']).set id (.cells (l.set j (.sl n l' (.opn s.H.length))) el):=(List.set_append_left _ _ hlt).symm;rw [e] at h;have hdl : Denl (E.tok V.imm (ad,n) n) (l.set j (.sl n l' (.opn s.H.length))) cs:=by
  have h0:=hd.mono hle;refine ⟨by rw [List.length_set]; exact h0.1,fun i x hx => ?_⟩;by_cases ei : i = j
  ·subst ei;rw [List.getElem?_set_self (List.getElem?_eq_some_iff.1 hj).1] at hx;cases hx;rw [<- hc.n]; exact hd'
  ·rw [List.getElem?_set_ne (Ne.symm ei)] at hx;exact h0.2 i x hx
 have hb : (E.tok V.imm (ad,n) n).blk id = E.blk id:=hle.blk id (by rw [hc.n]; exact hlt);have hc2 : Conc (E.tok V.imm (ad,n) n) V ((s.H ++ [AObj.tail n sz el']).set id (.cells (l.set j (.sl n l' (.opn s.H.length))) el)):=by
  have hidx : (s.H ++ [AObj.tail n sz el'])[id]? = some (.cells l el):=by rw [List.getElem?_append_left hlt]; exact hid
  refine hc'.turn id _ (Env.Le.refl _) hc'.I (by rw [hc'.n,List.length_set]) zaF rfl (fun _ _ _ => rfl) (fun b y _ hy => ⟨hy,fun _ => rfl⟩) ⟨⟨cs,by rw [hb]; exact hown,hdl⟩,fun o => by rw [hb]; exact himm o⟩ (fun b hb' => .inl ⟨_,hidx,hb'⟩)
 refine h _ V a Q ⟨hc2,hat.tok.mono hle,hat.size⟩ fun ae e E' V' a' s' hk => hQ ae e E' V' a' s' ((⟨hle,rfl,rfl,rfl,rfl⟩ : Kept E _ V V a a).trans hk)
theorem zm0 {nt id j : Nat} {c : Code} {l : List AV} {x y : AV} {el : TypeId} {Φ : AEx -> AS -> Prop} (hid : s.H[id]? = some (.cells l el)) (hj : l[j]? = some x) (hw : Wk x y) (h : AWP lv P r nt c ⟨s.T,s.H.set id (.cells (l.set j y) el)⟩ Φ) : AWP lv P r nt c s Φ:=fun E V a Q hat hQ => by
 have hc:=hat.conc;obtain ⟨⟨cs,hown,hd⟩,himm⟩:=hc.obj id _ hid;have hc2 : Conc E V (s.H.set id (.cells (l.set j y) el)) :=
  hc.turn id _ (Env.Le.refl _) hc.I (by rw [hc.n,List.length_set]) zaF rfl (fun _ _ _ => rfl) (fun b y _ hy => ⟨hy,fun _ => rfl⟩) ⟨⟨cs,hown,zn0 hd hj (hw E)⟩,himm⟩ (fun b hb' => .inl ⟨_,hid,hb'⟩)
 exact h E V a Q ⟨hc2,hat.tok,hat.size⟩ hQ
end
open Go.Proofs
theorem F.ZeroOf_124 : zh2 Try.prog 124 = (Option.some (Go.Value.agg #[(Go.Value.int Go.IntKind.i64 (0)),(Go.Value.int Go.IntKind.i64 (0)),(Go.Value.int Go.IntKind.u8 (0))])):=by kernel_rfl
theorem F.isIfc_65 : znC Try.prog 65 = (Option.some Bool.false):=by kernel_rfl
theorem F.isIfc_91 : znC Try.prog 91 = (Option.some Bool.false):=by kernel_rfl
theorem F.isIfc_92 : znC Try.prog 92 = (Option.some Bool.false):=by kernel_rfl
theorem F.f28 : Try.prog.funcs[28]? = some Try.f28:=by kernel_rfl
theorem F.f29 : Try.prog.funcs[29]? = some Try.f29:=by kernel_rfl
theorem F.f38 : Try.prog.funcs[38]? = some Try.f38:=by kernel_rfl
theorem F.f40 : Try.prog.funcs[40]? = some Try.f40:=by kernel_rfl
theorem F.f46 : Try.prog.funcs[46]? = some Try.f46:=by kernel_rfl
theorem F.mixed : Try.prog.follows .mixedOrders = true:=by kernel_rfl
inductive HdC (lv : Bool) (P : Program) (r : Option Nat) (nt : Nat) : Code -> (AEx -> AS -> Prop) -> Code -> (AEx -> AS -> Prop) -> Prop
 | base {c : Code} {Φ : AEx -> AS -> Prop} : HdC lv P r nt c Φ c Φ
 | seq {x y h : Code} {Φ Ψ : AEx -> AS -> Prop} (i : HdC lv P r nt x (AEx.then (fun s => AWP lv P r nt y s Φ) Φ) h Ψ) : HdC lv P r nt (.seq x y) Φ h Ψ
 | block {id : Nat} {x h : Code} {Φ Ψ : AEx -> AS -> Prop} (i : HdC lv P r nt x (AEx.inBlock id Φ) h Ψ) : HdC lv P r nt (.block id x) Φ h Ψ
section
variable {lv : Bool} {P : Program} {r : Option Nat} {s : AS} {nt id : Nat} {ops : Array Oper} {c h : Code} {Φ Ψ : AEx -> AS -> Prop}
theorem zcC {f : FuncId} {H : List AObj} {args : List AV} {k kp : AV -> List AObj -> Prop} {rs : List ResultVar} (fn : Func)
  (h : HOk H -> (∀ a ∈ args,Lt H.length a) -> AWP lv P none nt c ⟨zf5 0 args,H⟩ (znL P rs H.length k kp)) (hf : P.funcs[f]? = some fn:=by kernel_rfl) (hb : fn.body = some c:=by rfl) (hr : fn.results = rs.toArray:=by rfl) (hn : fn.ntmps = nt:=by rfl) (hargs : args.length <= nt:=by simp) : FnC lv P f H args k kp:=zak hf hb hr hn hargs h
theorem HdC.go (i : HdC lv P r nt c Φ h Ψ) : ∀ {s : AS},AWP lv P r nt h s Ψ -> AWP lv P r nt c s Φ:=by
 induction i with
 | base => exact fun h => h
 | seq _ ih => exact fun k => zaa (ih k)
 | block _ ih => exact fun k => zag (ih k)
theorem zl5 (h : AOps lv P ops ops.toList s (Ψ .normal) (fun pv s => Ψ (.panic pv) s)) (i : HdC lv P r nt c Φ (.region id ops false) Ψ:=by repeat first | exact .base | apply HdC.seq | apply HdC.block) (hd : dstsOk nt ops = true:=by kernel_rfl) : AWP lv P r nt c s Φ:=i.go (zab hd h)
theorem awp_condK {o : Operand} {x y : Code} (h : one1 (s.ev o) fun a => a.asBool fun b => (b = true -> AWP lv P r nt x s Ψ) /\ (b = false -> AWP lv P r nt y s Ψ)) (i : HdC lv P r nt c Φ (.cond o x y) Ψ:=by repeat first | exact .base | apply HdC.seq | apply HdC.block) : AWP lv P r nt c s Φ:=i.go (zae h)
theorem zox (h : Ψ .normal s) (i : HdC lv P r nt c Φ .skip Ψ:=by repeat first | exact .base | apply HdC.seq | apply HdC.block) : AWP lv P r nt c s Φ:=i.go (zah h)
theorem zmH (h : Ψ .ret s) (i : HdC lv P r nt c Φ .ret Ψ:=by repeat first | exact .base | apply HdC.seq | apply HdC.block) : AWP lv P r nt c s Φ:=i.go (zai h)
theorem awp_exitK (h : Ψ (.exit id) s) (i : HdC lv P r nt c Φ (.exit id) Ψ:=by repeat first | exact .base | apply HdC.seq | apply HdC.block) : AWP lv P r nt c s Φ:=i.go (zaq h)
theorem zdp {x : Code} (h : AWP lv P r nt x s (AEx.inBlock id Ψ)) (i : HdC lv P r nt c Φ (.block id x) Ψ:=by repeat first | exact .base | apply HdC.seq | apply HdC.block) : AWP lv P r nt c s Φ:=i.go (zag h)
theorem zbA {p : Prop} (h : p) (i : HdC lv P r nt c Φ (.region id ops false) Ψ:=by repeat first | exact .base | apply HdC.seq | apply HdC.block) (e : AOps lv P ops ops.toList s (Ψ .normal) (fun pv s => Ψ (.panic pv) s) = p:=by conv => lhs; simp only [seval]) (hd : dstsOk nt ops = true:=by kernel_rfl) : AWP lv P r nt c s Φ:=i.go (zab hd (e.mpr h))
theorem zb4 {p : Prop} {o : Operand} {x y : Code} (h : p) (i : HdC lv P r nt c Φ (.cond o x y) Ψ:=by repeat first | exact .base | apply HdC.seq | apply HdC.block) (e : (one1 (s.ev o) fun a => a.asBool fun b => (b = true -> AWP lv P r nt x s Ψ) /\ (b = false -> AWP lv P r nt y s Ψ)) = p:=by conv => lhs; simp only [seval]) : AWP lv P r nt c s Φ:=i.go (zae (e.mpr h))
theorem zca {p : Prop} (h : p) (i : HdC lv P r nt c Φ .skip Ψ:=by repeat first | exact .base | apply HdC.seq | apply HdC.block) (e : Ψ .normal s = p:=by conv => lhs; simp only [seval]) : AWP lv P r nt c s Φ:=i.go (zah (e.mpr h))
theorem zcw {p : Prop} (h : p) (i : HdC lv P r nt c Φ .ret Ψ:=by repeat first | exact .base | apply HdC.seq | apply HdC.block) (e : Ψ .ret s = p:=by conv => lhs; simp only [seval]) : AWP lv P r nt c s Φ:=i.go (zai (e.mpr h))
theorem zdu {p : Prop} (h : p) (i : HdC lv P r nt c Φ (.exit id) Ψ:=by repeat first | exact .base | apply HdC.seq | apply HdC.block) (e : Ψ (.exit id) s = p:=by conv => lhs; simp only [seval]) : AWP lv P r nt c s Φ:=i.go (zaq (e.mpr h))
theorem zjl {Φ Ψ : AEx -> AS -> Prop} {c : Code} (p : Nat) (h : QOps lv P ops (ops.toList.take p) s (fun s' => AOps lv P ops (ops.toList.drop p) s' (Ψ .normal) (fun pv s => Ψ (.panic pv) s))) (i : HdC lv P r nt c Φ (.region id ops true) Ψ:=by repeat first | exact .base | apply HdC.seq | apply HdC.block) (hm : P.follows .mixedOrders = true:=by kernel_rfl) (hok : drawOk nt p ops = true:=by kernel_rfl) : AWP lv P r nt c s Φ:=i.go (zaT hm p hok h)
theorem znm {Φ Ψ : AEx -> AS -> Prop} {c : Code} (es ord : List Nat) (pl : List PEntry) (Hf : List Nat -> List AObj) (h : BOps lv P Hf ops pl s (Ψ .normal) ⟨0⟩) (i : HdC lv P r nt c Φ (.region id ops true) Ψ:=by repeat first | exact .base | apply HdC.seq | apply HdC.block) (hm : P.follows .mixedOrders = true:=by kernel_rfl) (hok : drawBOk nt ops es ord = true:=by kernel_rfl) (hpl : zpg ops es ord = pl:=by kernel_rfl) (h0 : s.H = Hf []:=by first | rfl | simp only [seval]) : AWP lv P r nt c s Φ:=i.go (zbE es ord pl Hf hm hok hpl h0 h)
theorem zkO (n : Nat) (V : Nat -> List (Nat × AV)) (Hf : Nat -> List AObj) (ok : Nat -> Prop) (hm : ok 0)
  (h : HOk s.H -> (∀ t a,look s.T t = some a -> Lt s.H.length a) -> ∀ m,m <= n -> ok m -> ∀ R : AS -> Prop,(∀ s',(m < n /\ ok (m + 1) /\ zlQ s.T (V m) (V (m + 1)) (Hf (m + 1)) s') -> R s') -> AWP lv P r nt c ⟨V m ++ s.T,Hf m⟩ (AEx.then R Φ)) (hkeys : ∀ m m',(V m).map (·.1) = (V m').map (·.1):=by exact fun _ _ => rfl) (hV0 : ∀ p ∈ V 0,∃ b,look s.T p.1 = some b /\ Wk b p.2:=by (simp only [seval]; simp [zaf,Wk.refl])) (hH0 : Hf 0 = s.H:=by rfl) (hl : ∀ m,m <= n -> ok m -> (Hf m).length = s.H.length:=by exact fun _ _ _ => rfl) : AWP lv P r nt (.loop c) s Φ:=zaB n V Hf ok hkeys hV0 hH0 hl hm h
theorem zfi {base Vi Vn T : List (Nat × AV)} {H : List AObj} (hk : Keeps T (Vi ++ base) Vn:=by exact zam rfl rfl) (hv : ∀ p ∈ Vn,∃ b,look T p.1 = some b /\ Wk b p.2:=by (simp only [seval]; simp [zaf,Wk.refl])) : zlQ base Vi Vn H ⟨T,H⟩:=zax hk hv
theorem zh9 {base Vi Vn T : List (Nat × AV)} {H H' : List AObj} (hok : HOk H) (hg : ∃ G,H ++ G = H':=by first | exact ⟨_,rfl⟩ | exact ⟨_,List.append_assoc ..⟩) (hk : Keeps T (Vi ++ base) Vn:=by exact zam rfl rfl) (hv : ∀ p ∈ Vn,∃ b,look T p.1 = some b /\ Wk b p.2:=by (simp only [seval]; simp [zaf,Wk.refl])) (hlt : ∀ p ∈ Vn,Lt H.length p.2:=by simp [zap]) : zlQ base Vi Vn H ⟨T,H'⟩:=by
 obtain ⟨G,rfl⟩:=hg;exact zaS hk hv hok hlt
theorem zme {H : List AObj} {args : List AV} {k kp : AV -> List AObj -> Prop} {g : FuncId} {first caps : List AV} (hf : FnC lv P g H (first ++ args ++ caps) k kp) (hg : zkT P g = true:=by kernel_rfl) : CallC lv P (.fn (.func g) first caps) H args k kp:=zad hg hf
end
theorem zl6 {lv : Bool} {P : Program} {H : List AObj} {args : List AV} {k kp : AV -> List AObj -> Prop} {g : FuncId} {first caps : List AV} {t : KeptK k kp} (hf : FnC lv P g H (first ++ args ++ caps) k kp) (hg : zkT P g = true:=by kernel_rfl) : zr6 lv P (.fn (.func g) first caps) H args k kp t:=zrJ (zad hg hf)
theorem F.q0 : AppOf Try.prog 22 22 = (Option.some (3,(1,(Go.Value.int Go.IntKind.i64 (0))))) /\ AppOf Try.prog 26 26 = (Option.some (35,(3,(Go.Value.agg #[(Go.Value.slice Option.none 0 0),(Go.Value.int Go.IntKind.i64 (0)),(Go.Value.int Go.IntKind.i64 (0))])))) /\ AppOf Try.prog 27 27 = (Option.some (37,(1,(Go.Value.slice Option.none 0 0)))) /\ AppOf Try.prog 37 37 = (Option.some (32,(2,(Go.Value.agg #[(Go.Value.int Go.IntKind.i64 (0)),(Go.Value.int Go.IntKind.i64 (0))])))) /\ AppOf Try.prog 38 38 = (Option.some (22,(1,(Go.Value.slice Option.none 0 0)))) /\ AppOf Try.prog 41 41 = (Option.some (44,(2,(Go.Value.agg #[(Go.Value.int Go.IntKind.i64 (0)),(Go.Value.bool Bool.false)])))) /\ zlx Try.prog 119 = (Option.some ((Go.Gg.Places.elems 1),(Go.Value.agg #[(Go.Value.int Go.IntKind.i64 (0)),(Go.Value.int Go.IntKind.i64 (0)),(Go.Value.int Go.IntKind.i64 (0)),(Go.Value.int Go.IntKind.i64 (0))]))) /\ zlx Try.prog 124 = (Option.some ((Go.Gg.Places.fields [(0,1),(1,1),(2,1)]),(Go.Value.agg #[(Go.Value.int Go.IntKind.i64 (0)),(Go.Value.int Go.IntKind.i64 (0)),(Go.Value.int Go.IntKind.u8 (0))]))) /\ zlx Try.prog 30 = (Option.some ((Go.Gg.Places.fields [(0,1),(1,1),(2,1),(3,1)]),(Go.Value.agg #[(Go.Value.int Go.IntKind.i64 (0)),(Go.Value.slice Option.none 0 0),(Go.Value.slice Option.none 0 0),(Go.Value.slice Option.none 0 0)]))) /\ zlx Try.prog 32 = (Option.some ((Go.Gg.Places.fields [(0,1),(1,1)]),(Go.Value.agg #[(Go.Value.int Go.IntKind.i64 (0)),(Go.Value.int Go.IntKind.i64 (0))]))) /\ zlx Try.prog 35 = (Option.some ((Go.Gg.Places.fields [(0,1),(1,2)]),(Go.Value.agg #[(Go.Value.slice Option.none 0 0),(Go.Value.int Go.IntKind.i64 (0)),(Go.Value.int Go.IntKind.i64 (0))]))) /\ zlx Try.prog 40 = (Option.some ((Go.Gg.Places.fields [(0,1),(1,1),(2,1),(3,1)]),(Go.Value.agg #[(Go.Value.int Go.IntKind.i64 (0)),(Go.Value.int Go.IntKind.i64 (0)),(Go.Value.slice Option.none 0 0),(Go.Value.slice Option.none 0 0)]))) /\ zlx Try.prog 44 = (Option.some ((Go.Gg.Places.fields [(0,1),(1,1)]),(Go.Value.agg #[(Go.Value.int Go.IntKind.i64 (0)),(Go.Value.bool Bool.false)]))) /\ zlx Try.prog 56 = (Option.some ((Go.Gg.Places.fields [(0,1),(1,1),(2,1)]),(Go.Value.agg #[(Go.Value.slice Option.none 0 0),(Go.Value.int Go.IntKind.i64 (0)),(Go.Value.int Go.IntKind.u64 (0))]))) /\ zlx Try.prog 71 = (Option.some ((Go.Gg.Places.fields [(0,4),(4,12)]),(Go.Value.agg #[(Go.Value.int Go.IntKind.i64 (0)),(Go.Value.slice Option.none 0 0),(Go.Value.slice Option.none 0 0),(Go.Value.slice Option.none 0 0),(Go.Value.int Go.IntKind.u8 (0)),(Go.Value.int Go.IntKind.u8 (0)),(Go.Value.int Go.IntKind.u8 (0)),(Go.Value.int Go.IntKind.u8 (0)),(Go.Value.int Go.IntKind.u8 (0)),(Go.Value.int Go.IntKind.u8 (0)),(Go.Value.int Go.IntKind.u8 (0)),(Go.Value.int Go.IntKind.u8 (0)),(Go.Value.int Go.IntKind.u8 (0)),(Go.Value.int Go.IntKind.u8 (0)),(Go.Value.int Go.IntKind.u8 (0)),(Go.Value.int Go.IntKind.u8 (0))]))) /\ zlx Try.prog 73 = (Option.some ((Go.Gg.Places.elems 1),(Go.Value.agg #[(Go.Value.int Go.IntKind.i64 (0)),(Go.Value.int Go.IntKind.i64 (0)),(Go.Value.int Go.IntKind.i64 (0)),(Go.Value.int Go.IntKind.i64 (0))]))):=by and_intros <;> kernel_rfl
theorem F.q1 : zlx Try.prog 80 = (Option.some ((Go.Gg.Places.fields [(0,4)]),(Go.Value.agg #[(Go.Value.int Go.IntKind.i64 (0)),(Go.Value.int Go.IntKind.i64 (0)),(Go.Value.slice Option.none 0 0),(Go.Value.slice Option.none 0 0)]))) /\ znM Try.prog 3 54 = (Option.some (Option.some Go.IntKind.u64)) /\ znM Try.prog 54 3 = (Option.some (Option.some Go.IntKind.i64)) /\ zf9 Try.prog 104 0 = (Option.some 0) /\ zf9 Try.prog 104 1 = (Option.some 1) /\ zf9 Try.prog 104 2 = (Option.some 2) /\ zf9 Try.prog 124 0 = (Option.some 0) /\ zf9 Try.prog 124 1 = (Option.some 1) /\ zf9 Try.prog 124 2 = (Option.some 2) /\ zf9 Try.prog 30 0 = (Option.some 0) /\ zf9 Try.prog 30 1 = (Option.some 1) /\ zf9 Try.prog 30 2 = (Option.some 2) /\ zf9 Try.prog 30 3 = (Option.some 3) /\ zf9 Try.prog 32 0 = (Option.some 0) /\ zf9 Try.prog 32 1 = (Option.some 1) /\ zf9 Try.prog 35 0 = (Option.some 0):=by and_intros <;> kernel_rfl
theorem F.q2 : zf9 Try.prog 35 1 = (Option.some 1) /\ zf9 Try.prog 40 0 = (Option.some 0) /\ zf9 Try.prog 40 1 = (Option.some 1) /\ zf9 Try.prog 40 2 = (Option.some 2) /\ zf9 Try.prog 40 3 = (Option.some 3) /\ zf9 Try.prog 44 0 = (Option.some 0) /\ zf9 Try.prog 44 1 = (Option.some 1) /\ zf9 Try.prog 56 0 = (Option.some 0) /\ zf9 Try.prog 56 1 = (Option.some 1) /\ zf9 Try.prog 56 2 = (Option.some 2) /\ zf9 Try.prog 71 0 = (Option.some 0) /\ zf9 Try.prog 71 1 = (Option.some 4) /\ zf9 Try.prog 80 0 = (Option.some 0) /\ zms Try.prog 119 = (Option.some ((Option.some 4),1)) /\ zms Try.prog 22 = (Option.some (Option.none,1)) /\ zms Try.prog 26 = (Option.some (Option.none,3)):=by and_intros <;> kernel_rfl
theorem F.q3 : zms Try.prog 27 = (Option.some (Option.none,1)) /\ zms Try.prog 28 = (Option.some (Option.none,3)) /\ zms Try.prog 37 = (Option.some (Option.none,2)) /\ zms Try.prog 38 = (Option.some (Option.none,1)) /\ zms Try.prog 41 = (Option.some (Option.none,2)) /\ zms Try.prog 68 = (Option.some ((Option.some 3),1)) /\ zms Try.prog 69 = (Option.some ((Option.some 4),3)) /\ zms Try.prog 73 = (Option.some ((Option.some 4),1)) /\ zm5 Try.prog 119 = (Option.some (4,1)) /\ zgX Try.prog 119 = Option.none /\ zgX Try.prog 22 = (Option.some (3,1)) /\ zl3 Try.prog 22 = (Option.some Go.Gg.LenKind.slice) /\ zl3 Try.prog 26 = (Option.some Go.Gg.LenKind.slice) /\ zl3 Try.prog 27 = (Option.some Go.Gg.LenKind.slice) /\ zl3 Try.prog 28 = (Option.some Go.Gg.LenKind.slice) /\ zl3 Try.prog 37 = (Option.some Go.Gg.LenKind.slice):=by and_intros <;> kernel_rfl
theorem F.q4 : zl3 Try.prog 38 = (Option.some Go.Gg.LenKind.slice) /\ zl3 Try.prog 41 = (Option.some Go.Gg.LenKind.slice) /\ zl3 Try.prog 59 = (Option.some Go.Gg.LenKind.map) /\ znK Try.prog 22 = (Option.some (3,(1,(Go.Value.int Go.IntKind.i64 (0))))) /\ znb Try.prog 59 = (Option.some (73,4)) /\ zlM Try.prog 22 = (Option.some (3,(1,(Go.Value.int Go.IntKind.i64 (0))))) /\ zlM Try.prog 26 = (Option.some (35,(3,(Go.Value.agg #[(Go.Value.slice Option.none 0 0),(Go.Value.int Go.IntKind.i64 (0)),(Go.Value.int Go.IntKind.i64 (0))])))) /\ zlM Try.prog 27 = (Option.some (37,(1,(Go.Value.slice Option.none 0 0)))) /\ zlM Try.prog 37 = (Option.some (32,(2,(Go.Value.agg #[(Go.Value.int Go.IntKind.i64 (0)),(Go.Value.int Go.IntKind.i64 (0))])))) /\ zlM Try.prog 38 = (Option.some (22,(1,(Go.Value.slice Option.none 0 0)))) /\ zlM Try.prog 41 = (Option.some (44,(2,(Go.Value.agg #[(Go.Value.int Go.IntKind.i64 (0)),(Go.Value.bool Bool.false)])))) /\ Ty Try.prog 104 = (Option.some (3,Bool.true)) /\ Ty Try.prog 108 = (Option.some (1,Bool.false)) /\ Ty Try.prog 119 = (Option.some (4,Bool.true)) /\ Ty Try.prog 124 = (Option.some (3,Bool.true)) /\ Ty Try.prog 126 = (Option.some (1,Bool.false)):=by and_intros <;> kernel_rfl
theorem F.q5 : Ty Try.prog 127 = (Option.some (1,Bool.false)) /\ Ty Try.prog 22 = (Option.some (1,Bool.false)) /\ Ty Try.prog 26 = (Option.some (1,Bool.false)) /\ Ty Try.prog 27 = (Option.some (1,Bool.false)) /\ Ty Try.prog 28 = (Option.some (1,Bool.false)) /\ Ty Try.prog 3 = (Option.some (1,Bool.false)) /\ Ty Try.prog 30 = (Option.some (4,Bool.true)) /\ Ty Try.prog 32 = (Option.some (2,Bool.true)) /\ Ty Try.prog 35 = (Option.some (3,Bool.true)) /\ Ty Try.prog 37 = (Option.some (1,Bool.false)) /\ Ty Try.prog 38 = (Option.some (1,Bool.false)) /\ Ty Try.prog 4 = (Option.some (1,Bool.false)) /\ Ty Try.prog 40 = (Option.some (4,Bool.true)) /\ Ty Try.prog 41 = (Option.some (1,Bool.false)) /\ Ty Try.prog 44 = (Option.some (2,Bool.true)) /\ Ty Try.prog 45 = (Option.some (1,Bool.false)):=by and_intros <;> kernel_rfl
theorem F.q6 : Ty Try.prog 54 = (Option.some (1,Bool.false)) /\ Ty Try.prog 58 = (Option.some (1,Bool.false)) /\ Ty Try.prog 59 = (Option.some (1,Bool.false)) /\ Ty Try.prog 67 = (Option.some (1,Bool.false)) /\ Ty Try.prog 73 = (Option.some (4,Bool.true)) /\ Ty Try.prog 80 = (Option.some (4,Bool.true)) /\ zh2 Try.prog 104 = (Option.some (Go.Value.agg #[(Go.Value.int Go.IntKind.i64 (0)),(Go.Value.int Go.IntKind.i64 (0)),(Go.Value.bool Bool.false)])) /\ zh2 Try.prog 108 = (Option.some (Go.Value.chan Option.none)) /\ zh2 Try.prog 117 = (Option.some (Go.Value.agg #[(Go.Value.int Go.IntKind.u64 (0)),(Go.Value.int Go.IntKind.u32 (0))])) /\ zh2 Try.prog 119 = (Option.some (Go.Value.agg #[(Go.Value.int Go.IntKind.i64 (0)),(Go.Value.int Go.IntKind.i64 (0)),(Go.Value.int Go.IntKind.i64 (0)),(Go.Value.int Go.IntKind.i64 (0))])) /\ zh2 Try.prog 127 = (Option.some Go.Value.nilFunc) /\ zh2 Try.prog 3 = (Option.some (Go.Value.int Go.IntKind.i64 (0))) /\ zh2 Try.prog 30 = (Option.some (Go.Value.agg #[(Go.Value.int Go.IntKind.i64 (0)),(Go.Value.slice Option.none 0 0),(Go.Value.slice Option.none 0 0),(Go.Value.slice Option.none 0 0)])) /\ zh2 Try.prog 32 = (Option.some (Go.Value.agg #[(Go.Value.int Go.IntKind.i64 (0)),(Go.Value.int Go.IntKind.i64 (0))])) /\ zh2 Try.prog 35 = (Option.some (Go.Value.agg #[(Go.Value.slice Option.none 0 0),(Go.Value.int Go.IntKind.i64 (0)),(Go.Value.int Go.IntKind.i64 (0))])) /\ zh2 Try.prog 40 = (Option.some (Go.Value.agg #[(Go.Value.int Go.IntKind.i64 (0)),(Go.Value.int Go.IntKind.i64 (0)),(Go.Value.slice Option.none 0 0),(Go.Value.slice Option.none 0 0)])):=by and_intros <;> kernel_rfl
theorem F.q7 : zh2 Try.prog 44 = (Option.some (Go.Value.agg #[(Go.Value.int Go.IntKind.i64 (0)),(Go.Value.bool Bool.false)])) /\ zh2 Try.prog 45 = (Option.some (Go.Value.int Go.IntKind.i64 (0))) /\ zh2 Try.prog 58 = (Option.some (Go.Value.pointer Option.none)) /\ zh2 Try.prog 59 = (Option.some (Go.Value.map Option.none)) /\ zh2 Try.prog 65 = (Option.some (Go.Value.int Go.IntKind.i64 (0))) /\ zh2 Try.prog 73 = (Option.some (Go.Value.agg #[(Go.Value.int Go.IntKind.i64 (0)),(Go.Value.int Go.IntKind.i64 (0)),(Go.Value.int Go.IntKind.i64 (0)),(Go.Value.int Go.IntKind.i64 (0))])) /\ zh2 Try.prog 80 = (Option.some (Go.Value.agg #[(Go.Value.int Go.IntKind.i64 (0)),(Go.Value.int Go.IntKind.i64 (0)),(Go.Value.slice Option.none 0 0),(Go.Value.slice Option.none 0 0)])) /\ zh2 Try.prog 91 = (Option.some (Go.Value.int Go.IntKind.i64 (0))) /\ zh2 Try.prog 92 = (Option.some (Go.Value.int Go.IntKind.i64 (0))):=by and_intros <;> kernel_rfl
attribute [seval] F.q0 F.q1 F.q2 F.q3 F.q4 F.q5 F.q6 F.q7 F.ZeroOf_124
structure Band where
 min : Int
 max : Int
 deriving DecidableEq
structure Key where
 cuts : List Int
 wear : Band
 deriving DecidableEq
structure Try where
 key : Int
 lock : Int
 opens : Bool
 deriving DecidableEq
structure Turn where
 key : Int
 opens : Bool
 deriving DecidableEq
structure Ring where
 cuts : Int
 keys : List Key
 locks : List (List Band)
 tries : List Try
 deriving DecidableEq
def zh7 (xs : List Int) : AV:=.sl xs.length (xs.map iv) .shut
def Band.l (b : Band) : List AV:=[iv b.min,iv b.max]
def zlw (bs : List Band) : AV:=.sl bs.length (bs.flatMap Band.l) .shut
def Key.l (k : Key) : List AV:=[zh7 k.cuts,iv k.wear.min,iv k.wear.max]
def zlD (ks : List Key) : AV:=.sl ks.length (ks.flatMap Key.l) .shut
def Try.l (t : Try) : List AV:=[iv t.key,iv t.lock,bv t.opens]
def zl1 (ts : List Try) : AV:=.sl ts.length (ts.flatMap Try.l) .shut
def Turn.l (t : Turn) : List AV:=[iv t.key,bv t.opens]
def zjx (ts : List Turn) : AV:=.sl ts.length (ts.flatMap Turn.l) .shut
def zli (ls : List (List Band)) : AV:=.sl ls.length (ls.map zlw) .shut
def zlX (ls : List (List Int)) : AV:=.sl ls.length (ls.map zh7) .shut
def Ring.l (r : Ring) : List AV:=[iv r.cuts,zlD r.keys,zli r.locks,zl1 r.tries]
def Band.av (b : Band) : AV:=.agg b.l
def Key.av (k : Key) : AV:=.agg k.l
def Try.av (t : Try) : AV:=.agg t.l
def Turn.av (t : Turn) : AV:=.agg t.l
def Ring.av (r : Ring) : AV:=.agg r.l
theorem Band.len (b : Band) : b.l.length = 2:=rfl
theorem Key.len (b : Key) : b.l.length = 3:=rfl
theorem Try.len (b : Try) : b.l.length = 3:=rfl
theorem Turn.len (b : Turn) : b.l.length = 2:=rfl
section
variable {i : Nat}
theorem za2 {xs : List Int} {x : Int} (h : xs[i]? = some x) : AV.shift i (.rp (xs.map iv)) = some (.rp (iv x :: (xs.drop (i + 1)).map iv)):=by have:=zeo (f:=iv) h; rwa [Nat.mul_one] at this
theorem zdh {xs : List Band} {x : Band} (h : xs[i]? = some x) : AV.shift (i * 2) (.rp (xs.flatMap Band.l)) = some (.rp (iv x.min :: iv x.max :: (xs.drop (i + 1)).flatMap Band.l)):=zcG Band.len h
theorem zc2 {xs : List Key} {x : Key} (h : xs[i]? = some x) : AV.shift (i * 3) (.rp (xs.flatMap Key.l)) = some (.rp (zh7 x.cuts :: iv x.wear.min :: iv x.wear.max :: (xs.drop (i + 1)).flatMap Key.l)):=zcG Key.len h
theorem zh6 {xs : List Try} {x : Try} (h : xs[i]? = some x) : AV.shift (i * 3) (.rp (xs.flatMap Try.l)) = some (.rp (iv x.key :: iv x.lock :: bv x.opens :: (xs.drop (i + 1)).flatMap Try.l)):=zcG Try.len h
theorem zh5 {xs : List Turn} {x : Turn} (h : xs[i]? = some x) : AV.shift (i * 2) (.rp (xs.flatMap Turn.l)) = some (.rp (iv x.key :: bv x.opens :: (xs.drop (i + 1)).flatMap Turn.l)):=zcG Turn.len h
theorem zfu {xs : List (List Band)} {x : List Band} (h : xs[i]? = some x) : AV.shift i (.rp (xs.map zlw)) = some (.rp (zlw x :: (xs.drop (i + 1)).map zlw)):=by have:=zeo (f:=zlw) h; rwa [Nat.mul_one] at this
theorem zlB {xs : List (List Int)} {x : List Int} (h : xs[i]? = some x) : AV.shift i (.rp (xs.map zh7)) = some (.rp (zh7 x :: (xs.drop (i + 1)).map zh7)):=by have:=zeo (f:=zh7) h; rwa [Nat.mul_one] at this
end
theorem zbi (n : Nat) (xs : List Int) : Lt n (zh7 xs) = True:=by simp [zh7,za3,zap]
theorem zfD (n : Nat) (xs : List Band) : Lt n (zlw xs) = True:=by
 simp only [zlw,za3,List.mem_flatMap,eq_iff_iff,iff_true]
 rintro a ⟨b,_,h⟩
 simp only [Band.l,List.mem_cons,List.not_mem_nil,or_false] at h;rcases h with rfl | rfl <;> exact .val _
theorem zc5 (n : Nat) (xs : List Key) : Lt n (zlD xs) = True:=by
 simp only [zlD,za3,List.mem_flatMap,eq_iff_iff,iff_true]
 rintro a ⟨b,_,h⟩
 simp only [Key.l,List.mem_cons,List.not_mem_nil,or_false] at h;rcases h with rfl | rfl | rfl
 ·rw [zbi]; trivial
 ·exact .val _
 ·exact .val _
theorem zch (n : Nat) (xs : List Try) : Lt n (zl1 xs) = True:=by
 simp only [zl1,za3,List.mem_flatMap,eq_iff_iff,iff_true]
 rintro a ⟨b,_,h⟩
 simp only [Try.l,List.mem_cons,List.not_mem_nil,or_false] at h;rcases h with rfl | rfl | rfl <;> exact .val _
theorem zci (n : Nat) (xs : List (List Band)) : Lt n (zli xs) = True:=by
 simp only [zli,za3,List.mem_map,eq_iff_iff,iff_true]
 rintro a ⟨b,_,rfl⟩
 rw [zfD]; trivial
theorem zlv (n : Nat) (xs : List (List Int)) : Lt n (zlX xs) = True:=by
 simp only [zlX,za3,List.mem_map,eq_iff_iff,iff_true]
 rintro a ⟨b,_,rfl⟩
 rw [zbi]; trivial
section
variable {lv : Bool} {H : List AObj} {k kp : AV -> List AObj -> Prop}
theorem f19_c {n lo hi : Int} (hk : k (bv (decide (lo <= n) && decide (n <= hi))) H) : FnC lv Try.prog 19 H [iv n,iv lo,iv hi] k kp:=by
 refine zcC (rs:=[.tmp 6]) (nt:=15) Try.f19 fun hH hA => ?_;simp only [zf5,Nat.reduceAdd];refine zbA ?_;refine zbA ?_;refine znD (fun h => ?_) (fun h => ?_)
 ·(try simp only [seval]);refine zcw ?_;refine zao ?_;simpa [h] using hk
 ·(try simp only [seval]);refine zcw ?_;refine zao ?_;simpa [h] using hk
def zns : List Int -> List Band -> Bool
 | [],_ => true
 | d :: ds,b :: bs => decide (b.min <= d) && decide (d <= b.max) && zns ds bs
 | _ :: _,[] => true
theorem zcK {ds : List Int} {bs : List Band} {i : Nat} {d : Int} {b : Band} (hd : ds[i]? = some d) (hb : bs[i]? = some b) : zns (ds.drop i) (bs.drop i) = (decide (b.min <= d) && decide (d <= b.max) && zns (ds.drop (i + 1)) (bs.drop (i + 1))):=by
 have h1:=get_lt hd;have h2:=get_lt hb;rw [List.drop_eq_getElem_cons h1,List.drop_eq_getElem_cons h2,zns];rw [List.getElem?_eq_getElem h1] at hd;rw [List.getElem?_eq_getElem h2] at hb;cases hd; cases hb; rfl
def zhG {α : Type} (f : α -> Int) : List α -> Int
 | [] => 0
 | x :: xs => if f x = 0 then zhG f xs else f x
theorem zaZ {α : Type} {f : α -> Int} {xs : List α} {i : Nat} {x : α} (h : xs[i]? = some x) : zhG f (xs.drop i) = if f x = 0 then zhG f (xs.drop (i + 1)) else f x:=by
 have h1:=get_lt h;rw [List.drop_eq_getElem_cons h1,zhG];rw [List.getElem?_eq_getElem h1] at h;cases h; rfl
def inM (n lo hi : Int) : Bool:=decide (lo <= n) && decide (n <= hi)
def zmf (n due : Int) : Int:=if n < due then 7 else if n > due then 6 else 0
def zmZ (b : Band) (most : Int) : Int:=if inM b.min 0 most && inM b.max 0 most then (if b.min > b.max then 5 else 0) else 1
def cutM (n : Int) : Int:=if inM n 0 3 then 0 else 1
def keyM (c : Int) (k : Key) : Int:=if zmf k.cuts.length c = 0 then (if zhG cutM k.cuts = 0 then zmZ k.wear 2 else 1) else zmf k.cuts.length c
def zmw (c : Int) (l : List Band) : Int:=if zmf l.length c = 0 then zhG (zmZ · 3) l else zmf l.length c
def tryM (r : Ring) (t : Try) : Int:=if inM t.key 0 (r.keys.length - 1) && inM t.lock 0 (r.locks.length - 1) then 0 else 3
def zlI (r : Ring) : Int :=
 if inM r.cuts 1 4 = false then 1 else if r.keys.length > 4 then 6 else if zhG (keyM r.cuts) r.keys ≠ 0 then zhG (keyM r.cuts) r.keys
 else if r.locks.length > 4 then 6 else if zhG (zmw r.cuts) r.locks ≠ 0 then zhG (zmw r.cuts) r.locks
 else if r.tries.length > 6 then 6 else zhG (tryM r) r.tries
theorem f55_c {n due : Int} (hk : k (iv (zmf n due)) H) : FnC lv Try.prog 55 H [iv n,iv due] k kp:=by
 refine zcC (rs:=[.tmp 4]) (nt:=13) Try.f55 fun hH hA => ?_;simp only [zf5,Nat.reduceAdd];refine zbA ?_;refine zbA ?_;refine zb4 ?_;refine ⟨fun h => ?_,fun h => ?_⟩
 ·
  refine zbA ?_;refine zcw ?_;refine zao ?_;simpa [zmf,h] using hk
 ·
  refine zbA ?_;refine zb4 ?_;refine ⟨fun h2 => ?_,fun h2 => ?_⟩
  ·
   refine zbA ?_;refine zcw ?_;refine zao ?_;simpa [zmf,h,h2] using hk
  ·
   refine zca ?_;refine zbA ?_;refine zcw ?_;refine zao ?_;simpa [zmf,h,h2] using hk
theorem f56_c {b : Band} {most : Int} (hk : k (iv (zmZ b most)) H) : FnC lv Try.prog 56 H [b.av,iv most] k kp:=by
 refine zcC (rs:=[.tmp 4]) (nt:=22) Try.f56 fun hH hA => ?_;simp only [zf5,Nat.reduceAdd,Band.av,Band.l];refine zbA ?_;refine zbA ?_;refine zl6 ((f19_c ?_));(try simp only [seval]);refine znD (fun h => ?_) (fun h => ?_)
 ·simp only [Bool.not_eq_false',Bool.not_eq_true',Bool.not_true,Bool.not_false] at h;(try simp only [seval]);refine zl6 ((f19_c ?_));(try simp only [seval]);refine zb4 ?_;refine ⟨fun h2 => ?_,fun h2 => ?_⟩
  ·
   refine zbA ?_;refine zcw ?_;refine endV hH ?_;simpa [zmZ,inM,h,h2] using hk
  ·
   refine zca ?_;refine zbA ?_;refine zb4 ?_;refine ⟨fun h3 => ?_,fun h3 => ?_⟩
   ·
    refine zbA ?_;refine zcw ?_;refine endV hH ?_;simpa [zmZ,inM,h,h2,h3] using hk
   ·
    refine zca ?_;refine zbA ?_;refine zcw ?_;refine endV hH ?_;simpa [zmZ,inM,h,h2,h3] using hk
 ·simp only [Bool.not_eq_false',Bool.not_eq_true',Bool.not_true,Bool.not_false] at h;(try simp only [seval]);refine zb4 ?_;refine zbA ?_;refine zcw ?_;refine endV hH ?_;simpa [zmZ,inM,h] using hk
theorem f43_c {x : Key} {c : Int} (hsz : x.cuts.length < 2 ^ 62) (hk : k (iv (keyM c x)) H) : FnC lv Try.prog 43 H [x.av,iv c] k kp:=by
 refine zcC (rs:=[.tmp 4]) (nt:=30) Try.f43 fun hH hA => ?_;simp only [zf5,Nat.reduceAdd,Key.av,Key.l,zh7];refine zbA ?_;refine zbA ?_;refine zl6 ((f55_c ?_));(try simp only [seval]);refine zbA ?_;refine zb4 ?_;refine ⟨fun h => ?_,fun h => ?_⟩
 ·
  refine zbA ?_;refine zcw ?_;refine endV hH ?_;rw [keyM,if_neg h] at hk; exact hk
 ·
  refine zca ?_;refine zbA ?_;refine zdp ?_;refine zkO x.cuts.length (fun i : Nat => [(19,iv i)]) (fun _ => _) (fun i => zhG cutM x.cuts = zhG cutM (x.cuts.drop i)) rfl (fun hHs hLt i hin hi R hR => ?_);refine zbA ?_;refine zb4 ?_;refine ⟨fun h2 => ?_,fun h2 => ?_⟩
  ·
   have hlt : i < x.cuts.length:=(by omega);obtain ⟨d,hd⟩:=zaE hlt;refine zca ?_;refine zl5 ?_;simp only [seval,za2 hd,zaz hlt];refine zbA ?_;refine zl6 ((f19_c ?_));(try simp only [seval]);refine zb4 ?_;refine ⟨fun h3 => ?_,fun h3 => ?_⟩
   ·
    refine zbA ?_;refine zcw ?_;refine endV hH ?_;rw [keyM,if_pos h,if_neg ?_] at hk
    ·exact hk
    ·rw [hi,zaZ hd]; simp [cutM,inM,h3]
   ·
    refine zca ?_;refine zbA ?_;refine hR _ ⟨hlt,?_,?_⟩
    ·rw [hi,zaZ hd]; simp [cutM,inM,h3]
    ·rw [zau _ (by omega)];exact zfi
  ·
   refine zdu ?_;refine zbA ?_;refine zl6 ((f56_c (b:=x.wear) ?_));(try simp only [seval]);refine zcw ?_;refine endV hH ?_;rw [keyM,if_pos h,if_pos ?_] at hk
   ·exact hk
   ·have : i = x.cuts.length:=(by omega);rw [hi,this]; simp [zhG]
structure Ring.Small (r : Ring) : Prop where
 keys : r.keys.length < 2 ^ 30
 locks : r.locks.length < 2 ^ 30
 tries : r.tries.length < 2 ^ 30
 cuts : ∀ x ∈ r.keys,x.cuts.length < 2 ^ 30
 bands : ∀ x ∈ r.locks,x.length < 2 ^ 30
theorem zas {α : Type} {l : List α} {i : Nat} {x : α} (h : l[i]? = some x) : x ∈ l:=List.mem_iff_getElem?.2 ⟨i,h⟩
theorem f44_c {l : List Band} {c : Int} (hsz : l.length < 2 ^ 30) (hk : k (iv (zmw c l)) H) : FnC lv Try.prog 44 H [zlw l,iv c] k kp:=by
 refine zcC (rs:=[.tmp 4]) (nt:=28) Try.f44 fun hH hA => ?_;simp only [zf5,Nat.reduceAdd,zlw];refine zbA ?_;refine zbA ?_;refine zl6 ((f55_c ?_));(try simp only [seval]);refine zbA ?_;refine zb4 ?_;refine ⟨fun h => ?_,fun h => ?_⟩
 ·
  refine zbA ?_;refine zcw ?_;refine zao ?_;rw [zmw,if_neg h] at hk; exact hk
 ·
  refine zca ?_;refine zbA ?_;refine zdp ?_;refine zkO l.length (fun i : Nat => [(18,iv i)]) (fun _ => _) (fun i => zhG (zmZ · 3) l = zhG (zmZ · 3) (l.drop i)) rfl (fun hHs hLt i hin hi R hR => ?_);refine zbA ?_;refine zb4 ?_;refine ⟨fun h2 => ?_,fun h2 => ?_⟩
  ·
   have hlt : i < l.length:=(by omega);obtain ⟨b,hb⟩:=zaE hlt;refine zca ?_;refine zl5 ?_;simp only [seval,zdh hb,zaz hlt,two_le];refine zbA ?_;refine zl6 ((f56_c (b:=b) ?_));(try simp only [seval]);refine zbA ?_;refine zb4 ?_;refine ⟨fun h3 => ?_,fun h3 => ?_⟩
   ·
    refine zbA ?_;refine zcw ?_;refine endV hH ?_;rw [zmw,if_pos h,hi,zaZ hb,if_neg h3] at hk; exact hk
   ·
    refine zca ?_;refine zbA ?_;refine hR _ ⟨hlt,?_,?_⟩
    ·rw [hi,zaZ hb,if_pos h3]
    ·rw [zau _ (by omega)];exact (zh9 hHs)
  ·
   refine zdu ?_;refine zbA ?_;refine zcw ?_;refine zao ?_;have : i = l.length:=(by omega);rw [zmw,if_pos h,hi,this] at hk;simpa [zhG] using hk
theorem f37_c {x : Ring} (hs : x.Small) (hk : k (iv (zlI x)) H) : FnC lv Try.prog 37 H [x.av] k kp:=by
 refine zcC (rs:=[.tmp 2]) (nt:=83) Try.f37 fun hH hA => ?_;simp only [zf5,Nat.reduceAdd,Ring.av,Ring.l,zlD,zli,zl1];have hks:=hs.keys;have hls:=hs.locks;have hts:=hs.tries;refine zbA ?_;refine zbA ?_;refine zl6 ((f19_c ?_));(try simp only [seval]);refine zb4 ?_;refine ⟨fun h => ?_,fun h => ?_⟩
 ·
  refine zbA ?_;refine zcw ?_;refine endV hH ?_;rw [zlI,if_pos (by simpa [inM] using h)] at hk; exact hk
 ·
  rw [zlI,if_neg (by simpa [inM] using h)] at hk;refine zca ?_;refine zbA ?_;refine zb4 ?_;refine ⟨fun h => ?_,fun h => ?_⟩
  ·
   refine zbA ?_;refine zcw ?_;refine endV hH ?_;rw [if_pos (by omega)] at hk; exact hk
  ·
   rw [if_neg (by omega)] at hk;refine zca ?_;refine zbA ?_;refine zdp ?_;refine zkO x.keys.length (fun i : Nat => [(22,iv i)]) (fun _ => _) (fun i => zhG (keyM x.cuts) x.keys = zhG (keyM x.cuts) (x.keys.drop i)) rfl (fun hHs hLt i hin hi R hR => ?_);refine zbA ?_;refine zb4 ?_;refine ⟨fun h2 => ?_,fun h2 => ?_⟩
   ·
    have hlt : i < x.keys.length:=(by omega);obtain ⟨y,hy⟩:=zaE hlt;refine zca ?_;refine zl5 ?_;simp only [seval,zc2 hy,zaz hlt,zh0,zh7];refine zbA ?_;refine zl6 ((f43_c (x:=y) (Nat.lt_trans (hs.cuts y (zas hy)) (by decide)) ?_));(try simp only [seval]);refine zbA ?_;refine zb4 ?_;refine ⟨fun h3 => ?_,fun h3 => ?_⟩
    ·
     refine zbA ?_;refine zcw ?_;refine endV hH ?_;have e : zhG (keyM x.cuts) x.keys = keyM x.cuts y:=(by rw [hi,zaZ hy,if_neg h3]);rw [if_pos (by rw [e]; exact h3),e] at hk; exact hk
    ·
     refine zca ?_;refine zbA ?_;refine hR _ ⟨hlt,?_,?_⟩
     ·rw [hi,zaZ hy,if_pos h3]
     ·rw [zau _ (by omega)];exact (zh9 hHs)
   ·
    have hz : zhG (keyM x.cuts) x.keys = 0:=by
     have : i = x.keys.length:=(by omega);rw [hi,this]; simp [zhG]
    rw [if_neg (by rw [hz]; simp)] at hk;refine zdu ?_;refine zbA ?_;refine zb4 ?_;refine ⟨fun h => ?_,fun h => ?_⟩
    ·
     refine zbA ?_;refine zcw ?_;refine endV hH ?_;rw [if_pos (by omega)] at hk; exact hk
    ·
     rw [if_neg (by omega)] at hk;refine zca ?_;refine zbA ?_;refine zdp ?_;refine zkO x.locks.length (fun i : Nat => [(41,iv i)]) (fun _ => _) (fun i => zhG (zmw x.cuts) x.locks = zhG (zmw x.cuts) (x.locks.drop i)) rfl (fun hHs hLt i hin hi R hR => ?_);refine zbA ?_;refine zb4 ?_;refine ⟨fun h2 => ?_,fun h2 => ?_⟩
     ·
      have hlt : i < x.locks.length:=(by omega);obtain ⟨y,hy⟩:=zaE hlt;refine zca ?_;refine zl5 ?_;simp only [seval,zfu hy,zaz hlt];refine zbA ?_;refine zl6 ((f44_c (l:=y) (hs.bands y (zas hy)) ?_));(try simp only [seval]);refine zbA ?_;refine zb4 ?_;refine ⟨fun h3 => ?_,fun h3 => ?_⟩
      ·
       refine zbA ?_;refine zcw ?_;refine endV hH ?_;have e : zhG (zmw x.cuts) x.locks = zmw x.cuts y:=(by rw [hi,zaZ hy,if_neg h3]);rw [if_pos (by rw [e]; exact h3),e] at hk; exact hk
      ·
       refine zca ?_;refine zbA ?_;refine hR _ ⟨hlt,?_,?_⟩
       ·rw [hi,zaZ hy,if_pos h3]
       ·rw [zau _ (by omega)];exact zfi
     ·
      have hz : zhG (zmw x.cuts) x.locks = 0:=by
       have : i = x.locks.length:=(by omega);rw [hi,this]; simp [zhG]
      rw [if_neg (by rw [hz]; simp)] at hk;refine zdu ?_;refine zbA ?_;refine zb4 ?_;refine ⟨fun h => ?_,fun h => ?_⟩
      ·
       refine zbA ?_;refine zcw ?_;refine endV hH ?_;rw [if_pos (by omega)] at hk; exact hk
      ·
       rw [if_neg (by omega)] at hk;refine zca ?_;refine zbA ?_;refine zdp ?_;refine zkO x.tries.length (fun i : Nat => [(60,iv i)]) (fun _ => _) (fun i => zhG (tryM x) x.tries = zhG (tryM x) (x.tries.drop i)) rfl (fun hHs hLt i hin hi R hR => ?_);refine zbA ?_;refine zb4 ?_;refine ⟨fun h2 => ?_,fun h2 => ?_⟩
       ·
        have hlt : i < x.tries.length:=(by omega);obtain ⟨y,hy⟩:=zaE hlt;have w1 : IntKind.i64.wrap ((x.keys.length : Int) - 1) = x.keys.length - 1:=zau _ (by omega);have w2 : IntKind.i64.wrap ((x.locks.length : Int) - 1) = x.locks.length - 1:=zau _ (by omega);refine zca ?_;refine zl5 ?_;simp only [seval,zh6 hy,zaz hlt,zh0];refine zl5 ?_;simp only [seval,w1,w2];refine zl6 ((f19_c ?_));(try simp only [seval]);have bad : ∀ {K : Prop},tryM x y = 3 -> (k (iv 3) H -> K) -> K:=fun e hK => hK (by
         rw [hi,zaZ hy,e,if_neg (by decide)] at hk; exact hk)
        refine znD (fun h3 => ?_) (fun h3 => ?_)
        ·simp only [Bool.not_eq_false',Bool.not_eq_true',Bool.not_true,Bool.not_false] at h3;(try simp only [seval,w1,w2]);refine zl6 ((f19_c ?_));(try simp only [seval]);refine zb4 ?_;refine ⟨fun h4 => ?_,fun h4 => ?_⟩
         ·
          refine zbA ?_;refine zcw ?_;refine endV hH (bad ?_ id);simp [tryM,inM,h3,h4]
         ·
          refine zca ?_;refine zbA ?_;refine hR _ ⟨hlt,?_,?_⟩
          ·rw [hi,zaZ hy,if_pos (by simp [tryM,inM,h3,h4])]
          ·rw [zau _ (by omega)];exact (zh9 hHs)
        ·simp only [Bool.not_eq_false',Bool.not_eq_true',Bool.not_true,Bool.not_false] at h3;(try simp only [seval]);refine zb4 ?_;refine zbA ?_;refine zcw ?_;refine endV hH (bad ?_ id);simp [tryM,inM,h3]
       ·
        refine zdu ?_;refine zbA ?_;refine zcw ?_;refine endV hH ?_;have : i = x.tries.length:=(by omega);rw [hi,this] at hk;simpa [zhG] using hk
theorem f31_c {m n : Nat} (hm : m < 256) (hk : k (bv (m.testBit n)) H) : FnC lv Try.prog 31 H [uv m,iv n] k kp:=by
 refine zcC (rs:=[.tmp 4]) (nt:=10) Try.f31 fun hH hA => ?_;simp only [zf5,Nat.reduceAdd];refine zbA ?_;refine zl5 ?_;simp only [seval,zdz,zn2];refine zcw ?_;refine zao ?_;rw [zqC hm]; exact hk
theorem f70_c {m n : Nat} (hm : m < 256) (hn : n < 8) (hk : k (uv (m ||| 2 ^ n)) H) : FnC lv Try.prog 70 H [uv m,iv n] k kp:=by
 refine zcC (rs:=[.tmp 4]) (nt:=9) Try.f70 fun hH hA => ?_;simp only [zf5,Nat.reduceAdd];refine zbA ?_;refine zl5 ?_;simp only [seval,ziv,zlp];refine zcw ?_;refine zao ?_;rw [zoj hm hn]; exact hk
theorem f23_c {n : Int} {b : Bool} (hk : k (.ifc (if b then 91 else 92) (iv n)) H) : FnC lv Try.prog 23 H [iv n,bv b] k kp:=by
 refine zcC (rs:=[.tmp 4]) (nt:=10) Try.f23 fun hH hA => ?_;simp only [zf5,Nat.reduceAdd];refine zbA ?_;refine zbA ?_;refine zb4 ?_;refine ⟨fun h => ?_,fun h => ?_⟩
 ·
  refine zl5 ?_;simp only [seval,F.isIfc_91];refine zcw ?_;refine zao ?_;rw [h] at hk; exact hk
 ·
  refine zca ?_;refine zl5 ?_;simp only [seval,F.isIfc_92];refine zcw ?_;refine zao ?_;rw [h] at hk; exact hk
theorem f24_c {n : Int} {b : Bool} (hk : k (iv n) H) : FnC lv Try.prog 24 H [.ifc (if b then 91 else 92) (iv n)] k kp:=by
 refine zcC (rs:=[.tmp 2]) (nt:=14) Try.f24 fun hH hA => ?_;simp only [zf5,Nat.reduceAdd];refine zbA ?_;refine zbA ?_;refine zdp ?_;cases b with
 | true =>
  refine zl5 ?_;simp only [seval,F.isIfc_91];refine zb4 ?_;refine zbA ?_;refine zbA ?_;refine zcw ?_;exact zao hk
 | false =>
  refine zl5 ?_;simp only [seval,F.isIfc_91];refine zb4 ?_;refine zl5 ?_;simp only [seval,F.isIfc_92];refine zb4 ?_;refine zbA ?_;refine zbA ?_;refine zcw ?_;exact zao hk
def zmX (f : Int) : Int:=if f = 0 \/ f = 1 then 3 else if f = 2 then 4 else if f = 3 then 6 else 1
theorem f39_c {f : Int} (hk : k (iv (zmX f)) H) : FnC lv Try.prog 39 H [iv f] k kp:=by
 refine zcC (rs:=[.tmp 2]) (nt:=12) Try.f39 fun hH hA => ?_;simp only [zf5,Nat.reduceAdd];refine zbA ?_;refine zbA ?_;refine zdp ?_;refine zdp ?_;refine zdp ?_;refine zdp ?_;refine zbA ?_;refine zb4 ?_;refine ⟨fun h => ?_,fun h => ?_⟩
 ·
  refine zdu ?_;refine zbA ?_;refine zcw ?_;exact zao (by simpa [zmX,h] using hk)
 ·
  refine zca ?_;refine zbA ?_;refine zb4 ?_;refine ⟨fun h2 => ?_,fun h2 => ?_⟩
  ·
   refine zdu ?_;refine zbA ?_;refine zcw ?_;exact zao (by simpa [zmX,h,h2] using hk)
  ·
   refine zca ?_;refine zbA ?_;refine zb4 ?_;refine ⟨fun h3 => ?_,fun h3 => ?_⟩
   ·
    refine zdu ?_;refine zbA ?_;refine zcw ?_;exact zao (by simpa [zmX,h,h2,h3] using hk)
   ·
    refine zca ?_;refine zbA ?_;refine zb4 ?_;refine ⟨fun h4 => ?_,fun h4 => ?_⟩
    ·
     refine zdu ?_;refine zbA ?_;refine zcw ?_;exact zao (by simpa [zmX,h,h2,h3,h4] using hk)
    ·
     refine zca ?_;refine zdu ?_;refine zbA ?_;refine zcw ?_;rw [show zmX f = 1 by unfold zmX; rw [if_neg,if_neg,if_neg] <;> simp_all] at hk;exact zao hk
theorem f18_c {b : Bool} {f : Int} (hk : b = true -> k (.tup []) H) (hp : b = false -> kp (.ifc 65 (iv f)) H) : FnC lv Try.prog 18 H [bv b,iv f] k kp:=by
 refine zcC (rs:=[]) (nt:=8) Try.f18 fun hH hA => ?_;simp only [zf5,Nat.reduceAdd];refine zbA ?_;refine zb4 ?_;refine ⟨fun h => ?_,fun h => ?_⟩
 ·
  refine zl5 ?_;simp only [seval,F.isIfc_65];refine zao ?_;exact hp (by simpa using h)
 ·
  refine zca ?_;refine zao ?_;exact hk (by simpa using h)
theorem F.eq108 {xs ys : List Int} (hx : xs.length = 4) (hy : ys.length = 4) (k : AV -> Prop) : ABin Try.prog .eql 119 (.agg (xs.map iv)) (.agg (ys.map iv)) k = k (bv (xs == ys)) :=
 zlq (e:=3) (k0:=.i64) (n:=4) (by kernel_rfl) (by kernel_rfl) (by kernel_rfl) (by kernel_rfl) hx hy k
theorem F.IsSliceOf_37 : zgX Try.prog 37 = (some (32,2)):=by kernel_rfl
def zfK (l : List Int) : List Int:=l.take 4 ++ List.replicate (4 - l.length) 0
def zl7 (n : Int) (d : List Int) : List Int:=d.map fun x => max 0 (x - n)
theorem zcm (l : List Int) : (zfK l).length = 4:=by simp [zfK]; omega
def zlR (n : Int) (d : List Int) (i : Nat) : List Int:=zl7 n (d.take i) ++ d.drop i
theorem ze4 (n : Int) (d : List Int) (i : Nat) : (zlR n d i).length = d.length:=by simp [zlR,zl7]; omega
theorem ziA {n : Int} {d : List Int} {i : Nat} {x : Int} (h : d[i]? = some x) : (zlR n d i)[i]? = some x:=by
 have:=get_lt h;unfold zlR zl7;rw [List.getElem?_append_right (by simp; omega),List.length_map,List.length_take,Nat.min_eq_left (by omega),Nat.sub_self];simp [h]
theorem ziz {n : Int} {d : List Int} {i : Nat} {x : Int} (h : d[i]? = some x) : (zlR n d i).set i (max 0 (x - n)) = zlR n d (i + 1):=by
 have hl:=get_lt h;apply List.ext_getElem?;intro j;rw [List.getElem?_set];by_cases hj : i = j
 ·subst hj;rw [if_pos rfl,if_pos (by rw [ze4]; exact hl)];unfold zlR zl7;rw [List.getElem?_append_left (by simp; omega)];simp [h]
 ·rw [if_neg hj];unfold zlR zl7;by_cases hji : j < i
  ·rw [List.getElem?_append_left (by simp; omega),List.getElem?_append_left (by simp; omega)];simp [List.getElem?_take,hji,show j < i + 1 by omega]
  ·rw [List.getElem?_append_right (by simp; omega),List.getElem?_append_right (by simp; omega)];simp only [List.length_map,List.length_take,List.getElem?_drop,Nat.min_eq_left (show i <= d.length by omega),Nat.min_eq_left (show i + 1 <= d.length by omega)];congr 1; omega
theorem f48_c {l : List Int} (hk : k (.agg ((zfK l).map iv)) H) : FnC lv Try.prog 48 H [zh7 l] k kp:=by
 refine zcC (rs:=[.cell 2 119]) (nt:=8) Try.f48 fun hH hA => ?_;simp only [zf5,Nat.reduceAdd,zh7];refine zbA ?_;refine zbA ?_;refine zbA ?_;refine ⟨by omega,?_⟩;have e : List.take (min l.length 4) (List.map iv l) ++ List.drop (List.take (min l.length 4) (List.map iv l)).length [AV.val (Value.int IntKind.i64 0),AV.val (Value.int IntKind.i64 0),AV.val (Value.int IntKind.i64 0),AV.val (Value.int IntKind.i64 0)] = (zfK l).map iv:=by
  have h0 : [AV.val (Value.int IntKind.i64 0),AV.val (Value.int IntKind.i64 0),AV.val (Value.int IntKind.i64 0),AV.val (Value.int IntKind.i64 0)] = (List.replicate 4 (0 : Int)).map iv:=rfl;rw [h0,<- List.map_take,<- List.map_drop,<- List.map_append];congr 1;unfold zfK;congr 1
  ·rw [List.take_eq_take_iff]; omega
  ·rw [List.drop_replicate]; congr 1; simp; omega
 rw [e];have h4 : ((zfK l).map iv).length = 4:=by simp [zcm]
 have h4' : ((zfK l).map iv).take 4 = (zfK l).map iv:=List.take_of_length_le (by omega);refine zl5 ?_;simp only [seval,h4,h4'];refine zmH ?_;simp only [seval,h4,h4'];exact endA hH (Wk.refl _) (by simp only [zdM]) hk
theorem f50_c {ds : List Int} {n : Int} (hd : ds.length = 4) (hb : ∀ x ∈ ds,0 <= x /\ x <= 3) (hn : 0 <= n /\ n <= 2) (hk : k (.agg ((zl7 n ds).map iv)) H) : FnC lv Try.prog 50 H [.agg (ds.map iv),iv n] k kp:=by
 refine zcC (rs:=[.cell 4 119]) (nt:=23) Try.f50 fun hH hA => ?_;simp only [zf5,Nat.reduceAdd];have z4 : [AV.val (Value.int IntKind.i64 0),AV.val (Value.int IntKind.i64 0),AV.val (Value.int IntKind.i64 0),AV.val (Value.int IntKind.i64 0)] = (List.replicate 4 (0 : Int)).map iv:=rfl;have eq:=F.eq108 (xs:=ds) (ys:=List.replicate 4 0) hd (by simp);rw [<- z4] at eq;have t4 : (ds.map iv).take 4 = ds.map iv:=List.take_of_length_le (by simp [hd]);refine zbA ?_;refine zl5 ?_;simp only [seval,hd,t4,eq];refine zb4 ?_;refine ⟨fun h => ?_,fun h => ?_⟩
 ·
  refine zl5 ?_;simp only [seval,hd,t4];refine zmH ?_;simp only [seval,hd,t4];have e : zl7 n ds = ds:=by
   have h1 : ds = List.replicate 4 0:=(by simpa using h);rw [h1]; unfold zl7;have : max 0 (0 - n) = 0:=(by omega);rw [List.map_replicate,this]
  rw [e] at hk;exact endA hH (Wk.refl _) (by simp only [zdM]) hk
 ·
  refine zca ?_;refine zbA ?_;refine zdp ?_;refine zaB 4 (fun i : Nat => [(10,iv i)]) (fun i => H ++ [.cells ((zlR n ds i).map iv) 119,.cells ((List.replicate 4 (0 : Int)).map iv) 119]) (fun i => True) (fun _ _ => rfl) (by simp only [seval]; simp [zaf,Wk.refl]) (by simp [zlR,zl7]) (fun _ _ _ => by simp) trivial (fun hHs hLt i hin hi R hR => ?_);refine zbA ?_;refine zb4 ?_;refine ⟨fun h => ?_,fun h => ?_⟩
  ·
   have hlt : i < ds.length:=(by omega);obtain ⟨x,hx⟩:=zaE hlt;have hxb:=hb x (List.mem_iff_getElem?.2 ⟨i,hx⟩);have hx':=ziA (n:=n) hx;have b4 : (0 <= (i : Int) /\ (i : Int) < 4) = True:=(by simp; omega);have hw : IntKind.i64.wrap (x - n) = x - n:=zau _ (by omega);have hl : (zlR n ds i).length = 4:=(by rw [ze4,hd]);refine zca ?_;refine zbA ?_;have hmax : (if 0 < x - n then x - n else 0) = max 0 (x - n):=(by omega);have hle : (i + 1 <= (zlR n ds i).length) = True:=(by simp; omega);refine zl5 ?_;simp only [seval,b4,zbf hx',hw,hmax,hle,zfv (y:=max 0 (x - n)) (show i < (zlR n ds i).length by omega),ziz hx];refine zbA ?_;refine hR _ ⟨by omega,trivial,?_⟩;rw [zau _ (by omega)];exact zfi
  ·
   refine zdu ?_;have hi4 : i = 4:=(by omega);subst hi4;have e4 : zlR n ds 4 = zl7 n ds:=(by unfold zlR; rw [List.take_of_length_le (by omega),List.drop_eq_nil_of_le (by omega),List.append_nil]);have l4 : (zl7 n ds).length = 4:=(by simp [zl7,hd]);have w4 : ((zl7 n ds).map iv).take 4 = (zl7 n ds).map iv:=List.take_of_length_le (by simp [l4]);have d4 : List.drop 4 ((List.replicate 4 (0 : Int)).map iv) = []:=rfl;refine zl5 ?_;simp only [seval,e4,l4,w4,d4,List.length_replicate];refine zmH ?_;simp only [seval,l4,w4];exact endA hH (Wk.refl _) (by simp only [zdM]) hk
def zke (cuts : Int) (ds : List Int) (ls : List (List Band)) : Nat -> Nat
 | 0 => 0
 | i + 1 => match ls[i]? with
  | some l => if zns (ds.take cuts.toNat) l then zke cuts ds ls i ||| 2 ^ i else zke cuts ds ls i
  | none => zke cuts ds ls i
theorem zb5 (cuts : Int) (ds : List Int) (ls : List (List Band)) : ∀ i,zke cuts ds ls i < 2 ^ i
 | 0 => by simp [zke]
 | i + 1 => by
  have h:=zb5 cuts ds ls i;have h2 : 2 ^ i < 2 ^ (i + 1):=Nat.pow_lt_pow_right (by omega) (by omega);unfold zke;split
  ·split
   ·exact Nat.or_lt_two_pow (Nat.lt_trans h h2) h2
   ·exact Nat.lt_trans h h2
  ·exact Nat.lt_trans h h2
theorem zoT {n i : Nat} (h : n < 2 ^ i) (hi : i <= 8) : n < 256:=Nat.lt_of_lt_of_le h (Nat.pow_le_pow_right (by omega) hi)
theorem f49_c {x : Ring} {os : List AV} {ds : List Int} (hd : ds.length = 4) (hc : 0 <= x.cuts /\ x.cuts <= 4) (hl : x.locks.length <= 4) (hb : ∀ l ∈ x.locks,x.cuts <= l.length) (hk : k (uv (zke x.cuts ds x.locks x.locks.length)) H) : FnC lv Try.prog 49 H [.rp (x.l ++ os),.agg (ds.map iv)] k kp:=by
 refine zcC (rs:=[.tmp 4]) (nt:=49) Try.f49 fun hH hA => ?_;simp only [zf5,Nat.reduceAdd,Ring.l,List.cons_append,List.nil_append,zli];refine zbA ?_;(repeat apply zaa);refine zcb ?_;refine zbA ?_;(repeat apply zaa);refine zbQ ?_;simp only [seval];refine zbA ?_;refine zdp ?_;refine zaB x.locks.length (fun i : Nat => [(5,uv (zke x.cuts ds x.locks i)),(15,iv i)]) (fun _ => _) (fun i => True) (fun _ _ => rfl) (by simp only [seval]; simp [zaf,Wk.refl]; simp only [zke]; exact Wk.refl _) rfl (fun _ _ _ => rfl) trivial (fun hHs hLt i hin hi R hR => ?_);refine zbA ?_;refine zb4 ?_;refine ⟨fun h => ?_,fun h => ?_⟩
 ·
  have hlt : i < x.locks.length:=by omega
  obtain ⟨y,hy⟩:=zaE hlt;have hyl:=hb y (zas hy);refine zca ?_;refine zl5 ?_;simp only [seval,zfu hy,zaz hlt,zlw];refine zbA ?_;refine zdp ?_;refine zkO x.cuts.toNat (fun j : Nat => [(25,iv j)]) (fun _ => _) (fun j => zns (ds.take x.cuts.toNat) y = zns ((ds.take x.cuts.toNat).drop j) (y.drop j)) rfl (fun hHs2 hLt2 j hjn hj R2 hR2 => ?_);refine zbA ?_;refine zb4 ?_;refine ⟨fun h2 => ?_,fun h2 => ?_⟩
  ·
   have hjc : j < x.cuts.toNat:=(by omega);have hj4 : (0 <= (j : Int) /\ (j : Int) < 4) = True:=(by simp; omega);have hjl : j < y.length:=(by omega);obtain ⟨d,hdj⟩:=zaE (xs:=ds) (i:=j) (by omega);obtain ⟨b,hbj⟩:=zaE hjl;have hdt : (ds.take x.cuts.toNat)[j]? = some d:=(by rw [List.getElem?_take,if_pos hjc]; exact hdj);have hstep:=zcK hdt hbj;refine zca ?_;refine zbA ?_;refine zjl 13 ?_;simp only [seval,hj4,zbf hdj,zdh hbj,zaz hjl];refine zl6 ((f19_c ?_));(try simp only [seval]);refine zb4 ?_;refine ⟨fun h3 => ?_,fun h3 => ?_⟩
   ·
    refine zdu ?_;refine zbA ?_;have e : zke x.cuts ds x.locks (i + 1) = zke x.cuts ds x.locks i:=by
     rw [zke,hy];dsimp only;rw [if_neg];rw [hj,hstep,h3]; simp
    refine hR _ ⟨hlt,trivial,?_⟩;rw [zau _ (by omega),e];exact (zh9 hHs)
   ·
    refine zca ?_;refine zbA ?_;refine hR2 _ ⟨hjc,?_,?_⟩
    ·rw [hj,hstep,h3]; rfl
    ·rw [zau _ (by omega)];exact zfi
  ·
   have hjc : x.cuts.toNat <= j:=(by omega);refine zdu ?_;refine zbA ?_;refine zl6 ((f70_c (zoT (zb5 x.cuts ds x.locks i) (by omega)) (by omega) ?_));(try simp only [seval]);refine zbA ?_;have e : zke x.cuts ds x.locks (i + 1) = zke x.cuts ds x.locks i ||| 2 ^ i:=by
    rw [zke,hy];dsimp only;rw [if_pos];rw [hj,List.drop_eq_nil_of_le (by simp; omega)];simp [zns]
   refine hR _ ⟨hlt,trivial,?_⟩;rw [zau _ (by omega),e];exact (zh9 hHs)
 ·
  refine zdu ?_;refine zbA ?_;refine zcw ?_;have : i = x.locks.length:=by omega
  subst this;exact endV hH hk
end
section
variable {lv : Bool} {H : List AObj} {kr kp : List AObj -> Prop}
theorem f38_d0 {r e : Nat} (h : kr H) : DefA lv Try.prog (.fn (.func 38) [] [.op r 0,.op e 0],[]) H none kr kp:=by
 refine zdv (nt:=12) (by kernel_rfl) F.f38 rfl rfl rfl rfl rfl rfl rfl rfl (by kernel_rfl) (by simp) ?_;simp only [zf5,Nat.reduceAdd,List.nil_append,Option.getD_none];(try simp only [seval,F.isIfc_65]);refine zbA ?_;refine zb4 ?_;refine zox ?_;exact .inl h
theorem f38_d1 {r e : Nat} {f : Int} {a b : AV} (hr : H[r]? = some (.cells [a] 58)) (he : H[e]? = some (.cells [b] 45)) (hne : r ≠ e) (h : kr ((H.set r (.cells [.val (.pointer none)] 58)).set e (.cells [iv (zmX f)] 45))) : DefA lv Try.prog (.fn (.func 38) [] [.op r 0,.op e 0],[]) H (some (.ifc 65 (iv f))) kr kp:=by
 refine zdv (nt:=12) (by kernel_rfl) F.f38 rfl rfl rfl rfl rfl rfl rfl rfl (by kernel_rfl) (by simp) ?_;simp only [zf5,Nat.reduceAdd,List.nil_append,Option.getD_some];(try simp only [seval,F.isIfc_65]);refine zbA ?_;refine zb4 ?_;refine zbA ?_;refine zl6 ((f39_c ?_));(try simp only [seval,hr,he]);rw [List.getElem?_set_ne hne,he];exact ⟨by simp,.inl (by simpa using h)⟩
def zg4 (x : Ring) (k w : Nat) : Nat:=match x.keys[k]? with
 | some y => zke x.cuts (zl7 w (zfK y.cuts)) x.locks x.locks.length
 | none => 0
def zgv (x : Ring) : List AV:=(List.range 4).flatMap fun k => (List.range 3).map fun w => uv (zg4 x k w)
theorem zfB (n : Nat) (x : Ring) : Lt n (.rp (x.l ++ zgv x)) = True:=by
 simp only [zi9,List.mem_append,eq_iff_iff,iff_true]
 rintro a (h | h)
 ·simp only [Ring.l,List.mem_cons,List.not_mem_nil,or_false] at h;rcases h with rfl | rfl | rfl | rfl
  ·exact .val _
  ·rw [zc5]; trivial
  ·rw [zci]; trivial
  ·rw [zch]; trivial
 ·obtain ⟨k,_,h⟩:=List.mem_flatMap.1 h;obtain ⟨w,_,rfl⟩:=List.mem_map.1 h;exact .val _
def zmr (lv : Bool) : Prop:=∀ (x : Ring) (H : List AObj) (k kp : AV -> List AObj -> Prop),H[0]? = some .main -> zlI x = 0 -> x.Small -> k (.rp (x.l ++ zgv x)) H -> FnC lv Try.prog 40 H [x.av] k kp
def AskT (lv : Bool) (H H' : List AObj) (ask : AV) (fl : Option Int) : Prop:=∀ (L : List AObj) (k kp : AV -> List AObj -> Prop),(fl = none -> k (.tup []) (H' ++ L)) -> (∀ f,fl = some f -> kp (.ifc 65 (iv f)) (H' ++ L)) -> CallC lv Try.prog ask (H ++ L) [] k kp
def AskC (lv : Bool) (H : List AObj) (ask : AV) (fl : Option Int) : Prop:=AskT lv H H ask fl
def flE : Option Int -> Int
 | some f => zmX f
 | none => 0
def zml (x : Ring) (fl : Option Int) : Int:=if zlI x ≠ 0 then zlI x else flE fl
theorem zpP (f : Int) : zmX f ≠ 0:=by
 unfold zmX
 repeat' split
 all_goals decide
theorem zaN {x : Ring} {fl : Option Int} : zml x fl = 0 <-> zlI x = 0 /\ fl = none:=by
 unfold zml;split
 ·simp_all
 ·cases fl <;> simp_all [zpP,flE]
theorem f28_t {H' : List AObj} {k kp : AV -> List AObj -> Prop} {x : Ring} {ask : AV} {fl : Option Int} (hnr : zmr lv) (hmain : H'[0]? = some .main) (hl : H'.length = H.length) (hok : HOk H -> HOk H') (hs : x.Small) (hask : zlI x = 0 -> AskT lv H H' ask fl) (h0 : zlI x ≠ 0 -> k (.tup [.val (.pointer none),iv (zml x fl)]) H) (h1 : zlI x = 0 -> zml x fl ≠ 0 -> k (.tup [.val (.pointer none),iv (zml x fl)]) H') (h2 : zml x fl = 0 -> k (.tup [.rp (x.l ++ zgv x),iv 0]) H') : FnC lv Try.prog 28 H [x.av,ask] k kp:=by
 have hmn : ∀ L : List AObj,(H' ++ L)[0]? = some .main:=fun L => by rw [List.getElem?_append_left (List.getElem?_eq_some_iff.1 hmain).1]; exact hmain
 refine zjk (rs:=[.cell 4 58,.cell 5 45]) (nt:=17) F.f28 rfl rfl rfl (by simp) fun hH hA => ?_;simp only [zf5,Nat.reduceAdd,Ring.av];refine zgY ?_;refine zl5 ?_;simp only [seval,Ring.l];refine zgY ?_;refine zbA ?_;refine zl6 ((f37_c (x:=x) hs ?_));(try simp only [seval]);refine zbA ?_;refine zb4 ?_;refine ⟨fun h => ?_,fun h => ?_⟩
 ·refine zbA ?_;refine zcw ?_;have hc : zlI x ≠ 0:=by simpa using h
  have he : zml x fl = zlI x:=by unfold zml; rw [if_pos hc]
  rw [he] at h0;exact endA hH (Wk.refl _) (by simp [zap,zaD]) (h0 hc)
 ·have hc : zlI x = 0:=by simpa using h
  have he : zml x fl = flE fl:=by unfold zml; rw [if_neg (by simpa using hc)]
  have hH':=hok hH;refine zca ?_;refine zit ?_;refine zeT (n:=1) rfl rfl rfl rfl rfl rfl (by kernel_rfl) ?_;(try simp only [seval,List.mapM_cons,List.mapM_nil,Option.pure_def,Option.bind_eq_bind]);refine ⟨⟨_,_,_,rfl⟩,?_⟩;refine zlf ?_;refine zbA ?_;refine zrJ (hask hc _ _ _ (fun hf => ?_) (fun f hf => ?_))
  ·rw [<- hl];(try simp only [seval]);refine zbA ?_;refine zl6 ((hnr x _ _ _ (hmn _) hc hs ?_));(try simp only [seval]);refine zmH ?_;simp only [zhE];refine f38_d0 ?_;(try simp only [seval]);exact endA hH' (Wk.refl _) (by simp [zap,zaD,zfB]) (h2 (zaN.2 ⟨hc,hf⟩))
  ·rw [<- hl];(try simp only [seval,zfL]);subst hf;refine f38_d1 (a:=.val (.pointer none)) (b:=iv 0) (by simp only [seval]) (by simp only [seval]) (by omega) ?_;(try simp only [seval]);have hz : zml x (some f) ≠ 0:=fun e => (by cases (zaN.1 e).2);have h1:=h1 hc hz;rw [he] at h1;exact endA hH' (Wk.refl _) (by simp [zap,zaD]) h1
theorem AskT.ext {H' : List AObj} {ask : AV} {fl : Option Int} (h : AskT lv H H' ask fl) (L : List AObj) : AskT lv (H ++ L) (H' ++ L) ask fl:=fun M k kp h1 h2 => by
 rw [List.append_assoc] at h1 h2 ⊢;exact h (L ++ M) k kp h1 h2
end
section
variable {lv : Bool} {H : List AObj} {k kp : AV -> List AObj -> Prop}
theorem f17_c {x : Ring} {n : Int} (hk : k (.fn (.func 30) [] [.op (H.length + 1) 0,.op H.length 0]) (H ++ [.cells x.l 30,.cells [iv n] 3])) : FnC lv Try.prog 17 H [x.av,iv n] k kp:=by
 refine zcC (rs:=[.tmp 4]) (nt:=6) Try.f17 fun hH hA => ?_;simp only [zf5,Nat.reduceAdd,Ring.av];refine zl5 ?_;simp only [seval,Ring.l];refine zl5 ?_;simp only [seval,List.mapM_cons,List.mapM_nil,Option.pure_def,Option.bind_eq_bind];refine zcw ?_;exact zao hk
theorem f30_c {r i : Nat} {x : Ring} {n : Int} (hx : x.Small) (hr : H[r]? = some (.cells x.l 30)) (hi : H[i]? = some (.cells [iv n] 3)) (hk : inM n 0 (x.keys.length - 1) = true -> k (.tup []) H) (hp : inM n 0 (x.keys.length - 1) = false -> kp (.ifc 65 (iv 0)) H) : FnC lv Try.prog 30 H [.op i 0,.op r 0] k kp:=by
 refine zcC (rs:=[]) (nt:=9) Try.f30 fun hH hA => ?_;simp only [zf5,Nat.reduceAdd];have hl:=hx.keys;have hw : IntKind.i64.wrap ((x.keys.length : Int) - 1) = x.keys.length - 1:=zau _ (by omega);rw [Ring.l] at hr;refine zl5 ?_;simp only [seval,hr,hi,hw,zlD];refine zl6 ((f19_c ?_));(try simp only [seval]);refine zl6 ((f18_c (fun h => ?_) (fun h => ?_)))
 ·refine zao ?_;exact hk (by simpa [inM] using h)
 ·refine zao ?_;exact hp (by simpa [inM] using h)
theorem zay {L : List AObj} {i : Nat} {x : AObj} (h : H[i]? = some x) : (H ++ L)[i]? = some x:=by rw [List.getElem?_append_left (get_lt h)]; exact h
theorem zdJ (x : Ring) : (zgv x).length = 12:=rfl
theorem zi5 (x : Ring) {key w : Nat} (hk : key < 4) (hw : w < 3) : (zgv x)[key * 3 + w]? = some (uv (zg4 x key w)):=by
 rcases (show key = 0 \/ key = 1 \/ key = 2 \/ key = 3 by omega) with rfl | rfl | rfl | rfl <;> rcases (show w = 0 \/ w = 1 \/ w = 2 by omega) with rfl | rfl | rfl <;> rfl
theorem zcH (x : Ring) {key : Nat} (hk : key < 4) : AV.shift (key * 3) (.rp (zgv x)) = some (.rp ((zgv x).drop (key * 3))):=zd7 _ _ (by rw [zdJ]; omega)
theorem zb0 (x : Ring) {key w : Nat} (hk : key < 4) (hw : w < 3) : AV.shift w (.rp ((zgv x).drop (key * 3))) = some (.rp (uv (zg4 x key w) :: (zgv x).drop (key * 3 + w + 1))):=by
 have hl : key * 3 + w < (zgv x).length:=by rw [zdJ]; omega
 rw [zd7 _ _ (by rw [List.length_drop,zdJ]; omega),List.drop_drop,List.drop_eq_getElem_cons hl];have:=zi5 x hk hw;rw [List.getElem?_eq_getElem hl] at this;rw [Option.some.inj this]
def setObj (ts : List (List Int × Nat)) (ck : Nat) : AObj:=.obj (.map (ts.map zez).toArray ck)
def cntM (x : Ring) (key lock : Nat) (ts : List (List Int × Nat)) : Nat:=(ts.filter fun t => (zg4 x key (t.1.getD key 0).toNat).testBit lock).length
theorem f21_c {x : Ring} {id ck key lock : Nat} {ts : List (List Int × Nat)} (hid : H[id]? = some (setObj ts ck)) (hb : ∀ y ∈ ts,y.2 < ck) (hnd : (ts.map (·.2)).Nodup) (hkey : key < 4) (hl4 : x.locks.length <= 8) (hts : ts.length < 2 ^ 30) (h4 : ∀ y ∈ ts,y.1.length = 4 /\ ∀ w ∈ y.1,0 <= w /\ w <= 2) (hk : k (iv (cntM x key lock ts)) H) : FnC lv Try.prog 21 H [.rp (x.l ++ zgv x),.mp id,iv key,iv lock] k kp:=by
 refine zcC (rs:=[.tmp 8]) (nt:=34) Try.f21 fun hH hA => ?_;simp only [zf5,Nat.reduceAdd];rw [setObj] at hid;refine zbA ?_;refine zbA ?_;refine zl5 ?_;simp only [seval,List.mapM_nil,Option.pure_def];refine zl5 ?_;simp only [seval,hid];have hid' : ∀ L : List AObj,(H ++ L)[id]? = some (AObj.obj (Obj.map (List.map zez ts).toArray ck)):=fun L => zay hid;have hall:=zcO ts ck hb;refine zdp ?_;refine za9 (measure fun vs : List (List Int × Nat) => ts.length - vs.length).wf (fun vs => [(9,iv (cntM x key lock vs))]) (fun vs => H ++ [.iter id ck (vs.map (·.2)).toArray ck]) (fun vs => (vs.map (·.2)).Nodup /\ ∀ y ∈ vs,y ∈ ts) [] (fun _ _ => rfl) (by simp only [seval]; simp [zaf,Wk.refl]; exact Wk.refl _) (by simp) (fun _ _ => by simp) ⟨by simp,by simp⟩ (fun hHs hLt vs hok R hR => ?_);refine zl5 ?_;simp only [seval,hid'];refine ⟨hall.elim .inl (fun h => .inr (.inl h)),fun e he hn => ?_,fun hs => ?_⟩
 ·obtain ⟨y,hy,rfl⟩ : ∃ y ∈ ts,zez y = e:=by simpa using he
  refine zb4 ?_;refine zca ?_;refine zdp ?_;obtain ⟨h41,h42⟩:=h4 y hy;have hborn : (zez y).born = y.2:=rfl;have hlen : (y.1.map iv).length = 4:=by simp [h41]
  have hdrop : List.drop 4 [AV.val (Value.int IntKind.i64 0),AV.val (Value.int IntKind.i64 0),AV.val (Value.int IntKind.i64 0),AV.val (Value.int IntKind.i64 0)] = []:=rfl;refine zl5 ?_;simp only [seval,hid',Array.back?_push,hborn,zcL hnd hy,zb7,h41,hlen,hdrop];have hkl : key < y.1.length:=by omega
  obtain ⟨w,hw⟩:=zaE hkl;have hwb:=h42 w (zas hw);obtain ⟨wn,rfl⟩ : ∃ n : Nat,w = n:=⟨w.toNat,by omega⟩;have b4 : (0 <= (key : Int) /\ (key : Int) < 4) = True:=by simp; omega
  have b3 : (0 <= (wn : Int) /\ (wn : Int) < 3) = True:=by simp; omega
  have hm : zg4 x key wn < 256:=by
   unfold zg4;split
   ·exact zoT (zb5 _ _ _ _) hl4
   ·decide
  have sh4 : AV.shift 4 (.rp (x.l ++ zgv x)) = some (.rp (zgv x)):=by simp [Ring.l,zdf,zdg]
  refine zjl 12 ?_;simp only [seval,b4,b3,zbf hw,sh4,zcH x hkey,zb0 x hkey (show wn < 3 by omega)];refine zl6 ((f31_c hm ?_));(try simp only [seval]);have hyn : y.2 ∉ vs.map (·.2):=by simpa [zez] using hn
  have hpush : ((vs.map (·.2)).toArray.push y.2) = ((vs ++ [y]).map (·.2)).toArray:=by simp
  have hget : y.1.getD key 0 = (wn : Int):=by rw [List.getD_eq_getElem?_getD,hw]; rfl
  have hc1 : cntM x key lock (vs ++ [y]) = cntM x key lock vs + (if (zg4 x key wn).testBit lock then 1 else 0):=by
   unfold cntM;rw [List.filter_append,List.length_append];congr 1;simp only [List.filter_cons,List.filter_nil,hget,Int.toNat_natCast];split <;> rfl
  have hok' : ((vs ++ [y]).map (·.2)).Nodup /\ ∀ z ∈ vs ++ [y],z ∈ ts:=by
   refine ⟨?_,fun z hz => ?_⟩
   ·rw [List.map_append,List.nodup_append];refine ⟨hok.1,by simp,fun a ha b hb => ?_⟩;simp at hb; subst hb;intro e; subst e; exact hyn ha
   ·rcases List.mem_append.1 hz with h | h
    ·exact hok.2 z h
    ·rw [List.mem_singleton.1 h]; exact hy
  have hlen : vs.length < ts.length:=by
   have h1 : (vs ++ [y]).Nodup:=zbo _ hok'.1;have:=h1.length_le_of_subset hok'.2;simp at this; omega
  have hrel : ts.length - (vs ++ [y]).length < ts.length - vs.length:=by simp; omega
  have hle : cntM x key lock vs <= vs.length:=List.length_filter_le _ _;have hokI : ∀ sn,HOk (H ++ [AObj.iter id ck sn ck]):=fun sn z hz => by
   have hl:=get_lt hid;rcases List.mem_append.1 hz with h | h
   ·exact (hH z h).mono (by simp)
   ·rw [List.mem_singleton.1 h]; show id < _; simp; omega
  refine zb4 ?_;refine ⟨fun h => ?_,fun h => ?_⟩
  ·refine zl5 ?_;simp only [seval,hpush];refine hR _ ⟨vs ++ [y],hrel,hok',?_⟩;rw [hc1,h,zau _ (by omega)];exact zat (zam rfl rfl) (by simp only [seval]; simp [zaf,Wk.refl]) (hokI _) (by simp [zap])
  ·refine zca ?_;rw [hpush];refine hR _ ⟨vs ++ [y],hrel,hok',?_⟩;rw [hc1,h];exact zat (zam rfl rfl) (by simp only [seval]; simp [zaf,Wk.refl]) (hokI _) (by simp [zap])
 ·have hp : vs.Perm ts:=zct hok.1 hnd hok.2 fun y hy => by
   have:=hs (zez y) (by simp; exact ⟨y.1,y.2,hy,rfl⟩) (hb y hy);simpa [zez] using this
  have hcnt : cntM x key lock vs = cntM x key lock ts:=(hp.filter _).length_eq;refine zb4 ?_;refine zdu ?_;refine zbA ?_;refine zcw ?_;rw [hcnt];exact endV hH hk
end
theorem zbb {α : Type} {f : α -> Int} : ∀ {xs : List α},zhG f xs = 0 <-> ∀ x ∈ xs,f x = 0
 | [] => by simp [zhG]
 | x :: xs => by
  rw [zhG];by_cases h : f x = 0
  ·rw [if_pos h,zbb]; simp [h]
  ·rw [if_neg h]; simp [h]
theorem zcx {n lo hi : Int} : inM n lo hi = true <-> lo <= n /\ n <= hi:=by simp [inM]
theorem zcF {n due : Int} : zmf n due = 0 <-> n = due:=by
 unfold zmf;split
 ·constructor <;> intro h <;> omega
 ·split
  ·constructor <;> intro h <;> omega
  ·constructor <;> intro h <;> omega
structure Band.Ok (b : Band) (m : Int) : Prop where
 min : 0 <= b.min
 max : b.max <= m
 le : b.min <= b.max
theorem zeR {b : Band} {m : Int} : zmZ b m = 0 <-> b.Ok m:=by
 unfold zmZ;by_cases h : (inM b.min 0 m && inM b.max 0 m) = true
 ·rw [if_pos h];simp only [Bool.and_eq_true,zcx] at h;split
  ·constructor
   ·intro h; omega
   ·intro h'; have:=h'.le; omega
  ·exact ⟨fun _ => ⟨h.1.1,h.2.2,by omega⟩,fun _ => rfl⟩
 ·rw [if_neg h];simp only [Bool.and_eq_true,zcx] at h;constructor
  ·intro h; omega
  ·intro h'; exfalso; have:=h'.min; have:=h'.max; have:=h'.le; omega
structure Ring.Ok (x : Ring) : Prop where
 cuts : 1 <= x.cuts /\ x.cuts <= 4
 keys : x.keys.length <= 4
 key : ∀ y ∈ x.keys,(y.cuts.length : Int) = x.cuts /\ (∀ n ∈ y.cuts,0 <= n /\ n <= 3) /\ y.wear.Ok 2
 locks : x.locks.length <= 4
 lock : ∀ l ∈ x.locks,(l.length : Int) = x.cuts /\ ∀ b ∈ l,b.Ok 3
 tries : x.tries.length <= 6
 tried : ∀ t ∈ x.tries,(0 <= t.key /\ t.key < x.keys.length) /\ 0 <= t.lock /\ t.lock < x.locks.length
theorem zig {c : Int} {y : Key} : keyM c y = 0 <-> (y.cuts.length : Int) = c /\ (∀ n ∈ y.cuts,0 <= n /\ n <= 3) /\ y.wear.Ok 2:=by
 unfold keyM;by_cases h : zmf y.cuts.length c = 0
 ·rw [if_pos h];rw [zcF] at h;by_cases h2 : zhG cutM y.cuts = 0
  ·rw [if_pos h2,zeR];rw [zbb] at h2;refine ⟨fun h3 => ⟨h,fun n hn => ?_,h3⟩,fun h3 => h3.2.2⟩;have:=h2 n hn;unfold cutM at this;split at this
   ·rename_i e; rwa [zcx] at e
   ·omega
  ·rw [if_neg h2];rw [zbb] at h2;constructor
   ·intro h; omega
   ·intro h3; exfalso;refine h2 fun n hn => ?_;unfold cutM;rw [if_pos];rw [zcx]; exact h3.2.1 n hn
 ·rw [if_neg h];constructor
  ·intro h'; exact absurd h' h
  ·intro h3; exfalso; exact h (zcF.2 h3.1)
theorem zgx {c : Int} {l : List Band} : zmw c l = 0 <-> (l.length : Int) = c /\ ∀ b ∈ l,b.Ok 3:=by
 unfold zmw;by_cases h : zmf l.length c = 0
 ·rw [if_pos h,zbb];rw [zcF] at h;exact ⟨fun h2 => ⟨h,fun b hb => zeR.1 (h2 b hb)⟩,fun h2 b hb => zeR.2 (h2.2 b hb)⟩
 ·rw [if_neg h];constructor
  ·intro h'; exact absurd h' h
  ·intro h3; exfalso; exact h (zcF.2 h3.1)
theorem zhY {x : Ring} {t : Try} : tryM x t = 0 <-> (0 <= t.key /\ t.key < x.keys.length) /\ 0 <= t.lock /\ t.lock < x.locks.length:=by
 unfold tryM;split
 ·rename_i h;simp only [Bool.and_eq_true,zcx] at h;exact ⟨fun _ => by omega,fun _ => rfl⟩
 ·rename_i h;simp only [Bool.and_eq_true,zcx] at h;constructor
  ·intro h; omega
  ·intro h'; exfalso; exact h (by omega)
theorem zbH {x : Ring} : zlI x = 0 <-> x.Ok:=by
 unfold zlI;by_cases h1 : inM x.cuts 1 4 = false
 ·rw [if_pos h1];constructor
  ·intro h; omega
  ·intro h; exfalso; have:=zcx.2 h.cuts; rw [h1] at this; cases this
 rw [if_neg h1];have c1 : 1 <= x.cuts /\ x.cuts <= 4:=zcx.1 (by simpa using h1);by_cases h2 : x.keys.length > 4
 ·rw [if_pos h2];constructor
  ·intro h; omega
  ·intro h; exfalso; have:=h.keys; omega
 rw [if_neg h2];by_cases h3 : zhG (keyM x.cuts) x.keys ≠ 0
 ·rw [if_pos h3];constructor
  ·intro h; exact absurd h h3
  ·intro h; exfalso; exact h3 (zbb.2 fun y hy => zig.2 (h.key y hy))
 rw [if_neg h3];have c3 : ∀ y ∈ x.keys,keyM x.cuts y = 0:=zbb.1 (by omega);by_cases h4 : x.locks.length > 4
 ·rw [if_pos h4];constructor
  ·intro h; omega
  ·intro h; exfalso; have:=h.locks; omega
 rw [if_neg h4];by_cases h5 : zhG (zmw x.cuts) x.locks ≠ 0
 ·rw [if_pos h5];constructor
  ·intro h; exact absurd h h5
  ·intro h; exfalso; exact h5 (zbb.2 fun y hy => zgx.2 (h.lock y hy))
 rw [if_neg h5];have c5 : ∀ y ∈ x.locks,zmw x.cuts y = 0:=zbb.1 (by omega);by_cases h6 : x.tries.length > 6
 ·rw [if_pos h6];constructor
  ·intro h; omega
  ·intro h; exfalso; have:=h.tries; omega
 rw [if_neg h6,zbb];exact ⟨fun h => ⟨c1,by omega,fun y hy => zig.1 (c3 y hy),by omega,fun l hl => zgx.1 (c5 l hl),by omega,fun t ht => zhY.1 (h t ht)⟩,fun h t ht => zhY.2 (h.tried t ht)⟩
section
variable (Wg : Nat) (cs : List Frame) (main : Bool)
set_option maxRecDepth 100000
theorem yG2 : nxt Try.prog main (a135 Wg cs main (2 * 4294967296)) = G (nxt Try.prog main (a135 Wg cs main (2 * 4294967296))).frame cs:=by kernel_rfl
theorem yG3 : nxt Try.prog main (a135 Wg cs main (3 * 4294967296)) = G (nxt Try.prog main (a135 Wg cs main (3 * 4294967296))).frame cs:=by kernel_rfl
theorem yG4 : nxt Try.prog main (a135 Wg cs main (4 * 4294967296)) = G (nxt Try.prog main (a135 Wg cs main (4 * 4294967296))).frame cs:=by kernel_rfl
theorem yG1 : nxt Try.prog main (a141 Wg cs main) = G (nxt Try.prog main (a141 Wg cs main)).frame cs:=by kernel_rfl
end
theorem prj4 {α β γ δ : Type} {a a' : α} {b b' : β} {c c' : γ} {d d' : δ} (h : (a,b,c,d) = (a',b',c',d')) : a = a' /\ b = b' /\ c = c' /\ d = d':=by
 simpa [Prod.mk.injEq] using h
section
variable {lv main : Bool} {J : View -> Goroutine -> Prop} {V : View} {cs : List Frame}
theorem zef (C : Closed lv Try.prog main J) {g : Goroutine} {U : View} (hrun : isRun g = true) (h : ∀ w,(Go.Gg.lv1 main w g) = (stepG Try.prog main g w,.returning,45,.normal,[],true)) (hG : nxt Try.prog main g = G (nxt Try.prog main g).frame cs)
  (hU : U = { V with deaf:=deafBehind V.deaf #[⟨.mark .enable,false,true⟩] }) (hJ : ∀ fr,zm4 Try.prog fr 45 .normal (.ret (.tuple #[])) U -> J U (G fr cs)) : J V g:=by
 refine C.mute (.inr rfl) (isRun.out hrun) (fun w => ?_) (g':=nxt Try.prog main g) ?_
 ·have:=h w;simp only [Go.Gg.lv1,Prod.mk.injEq] at this;exact this.1.symm
 ·have:=h default;simp only [Go.Gg.lv1,Prod.mk.injEq] at this;obtain ⟨_,h1,h2,h3,h4,_⟩:=this;rw [hG,<- hU];refine hJ _ ⟨h2,h4,h3,?_⟩;obtain ⟨fn,hf,hr⟩:=f162r;exact ⟨fn,hf,h1,zd0 hr⟩
theorem zqe {n Wg : Nat} {sm : TypeId} (hn : n < 4) (hW : V.own Wg = some (.cells #[.int .u64 ((n : Int) * KK),.int .u32 0] sm (0,0))) (hi : ∀ o,V.imm Wg o = none) (hc : V.role.chan ≠ some Wg) (hd : V.deaf = 0) :
  Body lv Try.prog 45 #[pW Wg 0,.int .i64 1] .normal V (fun o V' => o = .ret (.tuple #[]) /\ V' = V.upd Wg (.cells #[.int .u64 (((n + 1 : Nat) : Int) * KK),.int .u32 0] sm (0,0))):=by
 intro main J C cs hJ;have hA:=prj4 (y0 Wg cs main default);show J V (a0 Wg cs);refine zbX C 12 _ (fun w => (prj4 (y0 Wg cs main w)).1) hA.2.1 ?_;refine C.mute (g:=a12 Wg cs main) (g':=a13 Wg cs main) (.inl rfl) (isRun.out hA.2.2.1) (fun w => zd6 (fun _ h => by cases h) hA.2.2.2 e170) ?_;have hB:=prj4 (y13 Wg cs main default);refine zbX C 11 _ (fun w => (prj4 (y13 Wg cs main w)).1) hB.2.1 ?_;refine C.idle (g:=a24 Wg cs main) (g':=a25 Wg cs main) (isRun.out hB.2.2.1) (fun w => zj6 hB.2.2.2 e172) ?_;have hC:=prj4 (y25 Wg cs main default);refine zbX C 22 _ (fun w => (prj4 (y25 Wg cs main w)).1) hC.2.1 ?_;let V1 : View:={ V with deaf:=deafBehind V.deaf #[⟨.mark .disable,false,true⟩] };let V2 : View:=V1.upd Wg (.cells #[.int .u64 (((n + 1 : Nat) : Int) * KK),.int .u32 0] sm (0,0));have hV2 : { V2 with deaf:=deafBehind V2.deaf #[⟨.mark .enable,false,true⟩] } = V.upd Wg (.cells #[.int .u64 (((n + 1 : Nat) : Int) * KK),.int .u32 0] sm (0,0)):=by
  obtain ⟨i,o,d,r⟩:=V;have : d = 0:=hd;subst this;rfl
 show J V1 (a47 Wg cs main);refine C.step _ _ (isRun.out hC.2.2.1) fun w hw => ?_;have hh:=hw.own Wg _ hW;have hc1 : w.cell? ⟨Wg,0,none⟩ = some (.int .u64 ((n : Int) * KK)):=by simp [World.cell?,hh]
 have hz1 : w.frozen? ⟨Wg,0,none⟩ = false:=by simp [World.frozen?,hh]
 have hs:=zj7 (P:=Try.prog) (main:=main) (w:=w) hC.2.2.2 e188 hc1 hz1;have e : IntKind.u64.wrap (((n : Int) * KK) + 4294967296) = ((n + 1 : Nat) : Int) * KK:=by
  have h1 : IntKind.u64.bits = 64:=rfl;have h2 : IntKind.u64.signed = false:=rfl;unfold IntKind.wrap KK;rw [h1,h2];simp;omega
 rw [e] at hs;refine ⟨a48 Wg cs main (((n + 1 : Nat) : Int) * KK),_,_,V2,hs,?_,?_⟩
 ·exact zj2 (V:=V1) hw hW (hi 0) hc
 have hn4 : n = 0 \/ n = 1 \/ n = 2 \/ n = 3:=by omega
 rcases hn4 with rfl | rfl | rfl | rfl
 ·have hD:=prj4 (y48_1 Wg cs main default);refine zbX C 52 _ (fun w => (prj4 (y48_1 Wg cs main w)).1) hD.2.1 ?_;obtain ⟨t,ht1,ht2⟩:=u196;have hW2 : V2.own Wg = some (.cells #[.int .u64 (((0 + 1 : Nat) : Int) * KK),.int .u32 0] sm (0,0)):=by simp [V2,View.upd]
  refine C.step _ _ (isRun.out hD.2.2.1) fun w hw => ⟨a101 Wg cs main,w,#[],V2,?_,.idle hw,?_⟩
  ·have hh:=hw.own Wg _ hW2;exact zdd hD.2.2.2 ht1 u191 ht2 (v:=.int .u32 0) (by simp [World.cell?,hh])
  refine C.said (g:=a101 Wg cs main) (g':=a102 Wg cs main) (a:=⟨Wg,1,none⟩) (isRun.out (yr1 Wg cs main)) ⟨by show V2.own Wg ≠ none; rw [hW2]; simp,hi 1⟩ (fun w => zde .read (fun _ _ h => by cases h) (y101 Wg cs main) e177) ?_;have hE:=prj4 (y102 Wg cs main default);refine zbX C 39 _ (fun w => (prj4 (y102 Wg cs main w)).1) hE.2.1 ?_;exact zef C hE.2.2.1 (fun w => (prj4 (y102 Wg cs main w)).2.2.2) (yG1 Wg cs main) hV2.symm fun fr hl => hJ _ _ fr ⟨rfl,rfl⟩ hl
 ·have hE:=prj4 (zqN Wg cs main default);refine zbX C 87 _ (fun w => (prj4 (zqN Wg cs main w)).1) hE.2.1 ?_;exact zef C hE.2.2.1 (fun w => (prj4 (zqN Wg cs main w)).2.2.2) (yG2 Wg cs main) hV2.symm fun fr hl => hJ _ _ fr ⟨rfl,rfl⟩ hl
 ·have hE:=prj4 (zqM Wg cs main default);refine zbX C 87 _ (fun w => (prj4 (zqM Wg cs main w)).1) hE.2.1 ?_;exact zef C hE.2.2.1 (fun w => (prj4 (zqM Wg cs main w)).2.2.2) (yG3 Wg cs main) hV2.symm fun fr hl => hJ _ _ fr ⟨rfl,rfl⟩ hl
 ·have hE:=prj4 (zqL Wg cs main default);refine zbX C 87 _ (fun w => (prj4 (zqL Wg cs main w)).1) hE.2.1 ?_;exact zef C hE.2.2.1 (fun w => (prj4 (zqL Wg cs main w)).2.2.2) (yG4 Wg cs main) hV2.symm fun fr hl => hJ _ _ fr ⟨rfl,rfl⟩ hl
end
section
variable {P : Program} {main : Bool} {g : Goroutine} {w : World}
def zmG (g : Goroutine) : Option (TypeId × Value):=match ready g with
 | some { op:=.load t x,.. } => some (t,g.frame.eval x)
 | _ => none
theorem zqU {t : TypeId} {d : TypeDesc} {ad : Addr} {v : Value} (h : zmG g = some (t,.pointer (some ad))) (ht : P.underlying t = some d) (hd : TypeDesc.agg d = false) (hq : (P.funcs[g.frame.fn]?).any (·.norace) = false) (hc : w.cell? ad = some v) :
  stepG P main g w = .go (fin g v) w #[⟨.cell ad,false,false⟩]:=by
 obtain ⟨o,x,h1,h2,h3⟩ : ∃ o x,ready g = some o /\ o.op = .load t x /\ g.frame.eval x = .pointer (some ad):=by
  unfold zmG at h;split at h
  ·rename_i s x _ _ _ _ ho;simp only [Option.some.injEq,Prod.mk.injEq] at h;obtain ⟨rfl,h⟩:=h;exact ⟨_,x,ho,rfl,h⟩
  ·cases h
 obtain ⟨b,a,ops,i,rest,kk,cs,e,q1,q2,q3,q4,q5,q6,_⟩:=ready.out h1;rw [<- q4] at h3;rw [<- q5];refine Eq.trans (congrArg (fun x => stepG P main x w) e) ?_;have e1 : execOp a.eval o = (do let v <- Instr.loadAt t (.pointer (some ad)); pure (.value v)):=by
  unfold execOp;simp only [h2,h3]
 have e2 : (isAgg t : Sem Bool).run P w = .ok false w /\ ∀ es,(isAgg t : Sem Bool).events P w es = es:=by
  unfold isAgg Go.underlying;cases d <;> first
   |(exact (Bool.noConfusion hd))
   |(constructor <;> simp [go_sem,ht])
 have hr : (execOp a.eval o).run P w = .ok (.value v) w:=by
  rw [e1];simp [Instr.loadAt,Instr.sureAddr,loadVar,e2.1,hc]
 have hev : (execOp a.eval o).events P w #[] = #[⟨.cell ad,false,false⟩]:=by
  rw [e1];simp [Instr.loadAt,Instr.sureAddr,loadVar,e2.1,e2.2,hc]
 rw [stepG_value q1 q2 q3 hr];unfold listed;rw [hev,seen_eq (by rw [q6]; exact hq) (by intro e he f; simp only [List.mem_toArray,List.mem_cons,List.not_mem_nil,or_false] at he; rw [he]; simp)]
def zmA (g : Goroutine) : Option Value:=match ready g with
 | some { op:=.call { callee:=.builtin .close,args,.. },.. } => match args.toList with
  | [x] => some (g.frame.eval x)
  | _ => none
 | _ => none
theorem zo1 {c cap s r : Nat} {buf : Array Value} {tm : Bool} (h : zmA g = some (.chan (some c))) (hq : (P.funcs[g.frame.fn]?).any (·.norace) = false) (hc : w.heap[c]? = some (.chan cap buf false s r tm)) :
  stepG P main g w = .go (fin g (.tuple #[])) { w with heap:=w.heap.setIfInBounds c (.chan cap buf true s r tm) } #[⟨.obj c,false,true⟩,⟨.obj c,true,true⟩]:=by
 obtain ⟨o,x,ats,h1,h2,h3⟩ : ∃ o x ats,ready g = some o /\ o.op = .call { callee:=.builtin .close,args:=#[x],argTypes:=ats } /\ g.frame.eval x = .chan (some c):=by
  unfold zmA at h;split at h
  ·rename_i dst xs ats ty pos af gd ho;split at h
   ·rename_i x hx;have : xs = #[x]:=(by apply Array.ext'; simpa using hx);subst this;exact ⟨_,x,_,ho,rfl,by simpa using h⟩
   ·cases h
  ·cases h
 obtain ⟨b,a,ops,i,rest,kk,cs,e,q1,q2,q3,q4,q5,q6,_⟩:=ready.out h1;rw [<- q4] at h3;rw [<- q5];refine Eq.trans (congrArg (fun x => stepG P main x w) e) ?_;exact stepG_close q1 q2 q3 h2 h3 hc (by rw [q6]; exact hq)
end
section
variable (Wg fc c : Nat)
noncomputable def e0 : Goroutine:=born Try.prog ⟨.fn (.func 51) #[pW Wg 0,pW fc 0],#[]⟩
noncomputable def e7 : Goroutine:=nxts Try.prog false 7 (e0 Wg fc)
noncomputable def e8 : Goroutine:=fin (e7 Wg fc) (.tuple #[])
noncomputable def e27 : Goroutine:=nxts Try.prog false 19 (e8 Wg fc)
noncomputable def f76 (h : Goroutine) (v : Int) : Goroutine:=nxts Try.prog false 48 (fin h (.int .u64 v))
noncomputable def m102 (b : Goroutine) : Goroutine:=nxts Try.prog false 25 (fin b (.bool false))
noncomputable def f96 (b : Goroutine) : Goroutine:=nxts Try.prog false 19 (fin b (.bool true))
noncomputable def f97 (b : Goroutine) : Goroutine:=fin (f96 b) (pW Wg 1)
noncomputable def f121 (b : Goroutine) : Goroutine:=nxts Try.prog false 23 (fin (f97 Wg b) (.tuple #[]))
noncomputable def f138 (b : Goroutine) : Goroutine:=nxts Try.prog false 16 (fin (f121 Wg b) (.tuple #[]))
noncomputable def f150 (b : Goroutine) : Goroutine:=nxts Try.prog false 11 (fin (f138 Wg b) (.int .u64 0))
noncomputable def f154 (b : Goroutine) : Goroutine:=nxts Try.prog false 3 (fin (f150 Wg b) (.tuple #[]))
noncomputable def f155 (b : Goroutine) : Goroutine:=fin (f154 Wg b) (pW Wg 0)
noncomputable def f168 (b : Goroutine) : Goroutine:=nxts Try.prog false 12 (fin (f155 Wg b) (.tuple #[]))
noncomputable def f169 (b : Goroutine) : Goroutine:=fin (f168 Wg b) (.chan (some c))
noncomputable def f170 (b : Goroutine) : Goroutine:=fin (f169 Wg c b) (.tuple #[])
noncomputable def z59 (h : Goroutine) : Goroutine:=nxts Try.prog false 31 (fin h (.int .u64 0))
noncomputable def z63 (h : Goroutine) : Goroutine:=nxts Try.prog false 3 (fin (z59 h) (.tuple #[]))
noncomputable def z64 (h : Goroutine) : Goroutine:=fin (z63 h) (pW Wg 0)
noncomputable def z87 (h : Goroutine) : Goroutine:=nxts Try.prog false 22 (fin (z64 Wg h) (.tuple #[]))
noncomputable def z88 (h : Goroutine) : Goroutine:=fin (z87 Wg h) (.chan (some c))
noncomputable def z89 (h : Goroutine) : Goroutine:=fin (z88 Wg c h) (.tuple #[])
noncomputable def hd : List Int -> Goroutine
 | [] => e27 Wg fc
 | v :: l => m102 (f76 (hd l) v)
noncomputable def bd (l : List Int) (v : Int) : Goroutine:=f76 (hd Wg fc l) v
noncomputable def evT (w : World) (n d : Nat) (g : Goroutine) : List GStep × Bool × Bool × Nat:=(zhR Try.prog false w n g,zlL Try.prog false n g,isRun (nxts Try.prog false n g),zlW Try.prog false n d g)
noncomputable def evR (w : World) (n d : Nat) (g : Goroutine) : List GStep × Bool × Bool × Nat:=(zkv Try.prog false w n g,true,true,d)
noncomputable def evQ (w : World) (n : Nat) (g : Goroutine) : List GStep × Bool × GoStatus × Nat:=(zhR Try.prog false w n g,zlL Try.prog false n g,(nxts Try.prog false n g).status,zlW Try.prog false n 0 g)
noncomputable def evE (w : World) (n : Nat) (g : Goroutine) : List GStep × Bool × GoStatus × Nat:=(zkv Try.prog false w n g,true,.finished,0)
noncomputable def norB (g : Goroutine) : Bool:=!(Try.prog.funcs[g.frame.fn]?).any (·.norace)
noncomputable def zT (w : World) (h : Goroutine):=(callOf h,isRun h,evT w 31 1 (fin h (.int .u64 0)),callOf (z59 h),evT w 3 0 (fin (z59 h) (.tuple #[])),zl9 (z63 h),callOf (z64 Wg h),isRun (z64 Wg h),evT w 22 0 (fin (z64 Wg h) (.tuple #[])),zmG (z87 Wg h),norB (z87 Wg h),zmA (z88 Wg c h),norB (z88 Wg c h),isRun (z88 Wg c h),mayWake Try.prog (z88 Wg c h),evQ w 4 (z89 Wg c h))
noncomputable def zR (w : World) (h : Goroutine):=(some ((78 : FuncId),#[pW Wg 0]),true,evR w 31 1 (fin h (.int .u64 0)),some ((59 : FuncId),(#[] : Array Value)),evR w 3 0 (fin (z59 h) (.tuple #[])),some ((130 : TypeId),(132 : TypeId),pW Wg 0),some ((71 : FuncId),#[pW Wg 0]),true,evR w 22 0 (fin (z64 Wg h) (.tuple #[])),some ((108 : TypeId),pW fc 0),true,some (Value.chan (some c)),true,true,true,evE w 4 (z89 Wg c h))
noncomputable def fT (w : World) (b : Goroutine):=(callOf b,isRun b,evT w 25 1 (fin b (.bool false)),evT w 19 1 (fin b (.bool true)),zl9 (f96 b),callOf (f97 Wg b),isRun (f97 Wg b),evT w 23 1 (fin (f97 Wg b) (.tuple #[])),callOf (f121 Wg b),(f121 Wg b).offers,evT w 16 1 (fin (f121 Wg b) (.tuple #[])),callOf (f138 Wg b),evT w 11 1 (fin (f138 Wg b) (.int .u64 0)),callOf (f150 Wg b),evT w 3 0 (fin (f150 Wg b) (.tuple #[])),zl9 (f154 Wg b),callOf (f155 Wg b),isRun (f155 Wg b),evT w 12 0 (fin (f155 Wg b) (.tuple #[])),zmG (f168 Wg b),norB (f168 Wg b),zmA (f169 Wg c b),norB (f169 Wg c b),isRun (f169 Wg c b),mayWake Try.prog (f169 Wg c b),evQ w 4 (f170 Wg c b))
noncomputable def fR (w : World) (b : Goroutine) (v : Int):=(some ((80 : FuncId),#[pW Wg 0,.int .u64 v,.int .u64 (v + 1)]),true,evR w 25 1 (fin b (.bool false)),evR w 19 1 (fin b (.bool true)),some ((137 : TypeId),(132 : TypeId),pW Wg 1),some ((74 : FuncId),#[pW Wg 1]),true,evR w 23 1 (fin (f97 Wg b) (.tuple #[])),some ((75 : FuncId),#[pW Wg 1,.bool false]),(none : Option (Array CommCase × CommShape)),evR w 16 1 (fin (f121 Wg b) (.tuple #[])),some ((78 : FuncId),#[pW Wg 0]),evR w 11 1 (fin (f138 Wg b) (.int .u64 0)),some ((59 : FuncId),(#[] : Array Value)),evR w 3 0 (fin (f150 Wg b) (.tuple #[])),some ((130 : TypeId),(132 : TypeId),pW Wg 0),some ((71 : FuncId),#[pW Wg 0]),true,evR w 12 0 (fin (f155 Wg b) (.tuple #[])),some ((108 : TypeId),pW fc 0),true,some (Value.chan (some c)),true,true,true,evE w 4 (f170 Wg c b))
set_option maxRecDepth 100000
theorem c0 (w : World) : (evT w 7 0 (e0 Wg fc),callOf (e7 Wg fc),evT w 19 1 (e8 Wg fc)) = (evR w 7 0 (e0 Wg fc),some ((58 : FuncId),(#[] : Array Value)),evR w 19 1 (e8 Wg fc)):=by kernel_rfl
noncomputable def pT (w : World) (l : List Int) (v : Int):=(evT w 48 1 (fin (hd Wg fc l) (.int .u64 v)),fT Wg c w (bd Wg fc l v),zT Wg c w (hd Wg fc (v :: l)))
noncomputable def pR (w : World) (l : List Int) (v : Int):=(evR w 48 1 (fin (hd Wg fc l) (.int .u64 v)),fR Wg fc c w (bd Wg fc l v) v,zR Wg fc c w (hd Wg fc (v :: l)))
theorem zz (w : World) : zT Wg c w (hd Wg fc []) = zR Wg fc c w (hd Wg fc []):=by kernel_rfl
theorem pp4 (w : World) : pT Wg fc c w [] (4 * 4294967296) = pR Wg fc c w [] (4 * 4294967296):=by kernel_rfl
theorem pp34 (w : World) : pT Wg fc c w [4 * 4294967296] (3 * 4294967296) = pR Wg fc c w [4 * 4294967296] (3 * 4294967296):=by kernel_rfl
theorem zrc (w : World) : pT Wg fc c w [3 * 4294967296,4 * 4294967296] (2 * 4294967296) = pR Wg fc c w [3 * 4294967296,4 * 4294967296] (2 * 4294967296):=by kernel_rfl
theorem zop (w : World) : pT Wg fc c w [2 * 4294967296,3 * 4294967296,4 * 4294967296] (1 * 4294967296) = pR Wg fc c w [2 * 4294967296,3 * 4294967296,4 * 4294967296] (1 * 4294967296):=by kernel_rfl
theorem zrd (w : World) : pT Wg fc c w [3 * 4294967296,4 * 4294967296] (1 * 4294967296) = pR Wg fc c w [3 * 4294967296,4 * 4294967296] (1 * 4294967296):=by kernel_rfl
theorem pp24 (w : World) : pT Wg fc c w [4 * 4294967296] (2 * 4294967296) = pR Wg fc c w [4 * 4294967296] (2 * 4294967296):=by kernel_rfl
theorem zre (w : World) : pT Wg fc c w [2 * 4294967296,4 * 4294967296] (1 * 4294967296) = pR Wg fc c w [2 * 4294967296,4 * 4294967296] (1 * 4294967296):=by kernel_rfl
theorem pp14 (w : World) : pT Wg fc c w [4 * 4294967296] (1 * 4294967296) = pR Wg fc c w [4 * 4294967296] (1 * 4294967296):=by kernel_rfl
theorem pp3 (w : World) : pT Wg fc c w [] (3 * 4294967296) = pR Wg fc c w [] (3 * 4294967296):=by kernel_rfl
theorem pp23 (w : World) : pT Wg fc c w [3 * 4294967296] (2 * 4294967296) = pR Wg fc c w [3 * 4294967296] (2 * 4294967296):=by kernel_rfl
theorem zrf (w : World) : pT Wg fc c w [2 * 4294967296,3 * 4294967296] (1 * 4294967296) = pR Wg fc c w [2 * 4294967296,3 * 4294967296] (1 * 4294967296):=by kernel_rfl
theorem pp13 (w : World) : pT Wg fc c w [3 * 4294967296] (1 * 4294967296) = pR Wg fc c w [3 * 4294967296] (1 * 4294967296):=by kernel_rfl
theorem pp2 (w : World) : pT Wg fc c w [] (2 * 4294967296) = pR Wg fc c w [] (2 * 4294967296):=by kernel_rfl
theorem pp12 (w : World) : pT Wg fc c w [2 * 4294967296] (1 * 4294967296) = pR Wg fc c w [2 * 4294967296] (1 * 4294967296):=by kernel_rfl
theorem pp1 (w : World) : pT Wg fc c w [] (1 * 4294967296) = pR Wg fc c w [] (1 * 4294967296):=by kernel_rfl
end
section
variable {P : Program} {Wg : Nat} {Stop : Nat -> Goroutine -> Prop}
theorem zqE {n d d' : Nat} {g : Goroutine} (h : ∀ w,evT w n d g = evR w n d' g) : (∀ w,zhR Try.prog false w n g = zkv Try.prog false w n g) /\ zlL Try.prog false n g = true /\ isRun (nxts Try.prog false n g) = true /\ zlW Try.prog false n d g = d' :=
 ⟨fun w => (prj (h w)).1,(prj (h default)).2.1,(prj (h default)).2.2.1,(prj (h default)).2.2.2⟩
theorem zcl {n d d' : Nat} {g : Goroutine} (h : ∀ w,evT w n d g = evR w n d' g) (hs : ∃ m,Slide Try.prog Stop m d' (nxts Try.prog false n g)) : ∃ m,Slide Try.prog Stop m d g:=by
 obtain ⟨h1,h2,_,h4⟩:=zqE h;exact zbT n d g h1 h2 (by rw [h4]; exact hs)
theorem zeH {n d d' : Nat} {g : Goroutine} (h : ∀ w,evT w n d g = evR w n d' g) (hs : ∃ m,SlideW Try.prog Wg Stop m d' (nxts Try.prog false n g)) : ∃ m,SlideW Try.prog Wg Stop m d g:=by
 obtain ⟨h1,h2,_,h4⟩:=zqE h;exact zgj n d g h1 h2 (by rw [h4]; exact hs)
theorem zpT {n : Nat} {g : Goroutine} (h : ∀ w,evQ w n g = evE w n g) : ∃ q,QuitsD Try.prog q 0 g :=
 zd9 n 0 g (fun w => (prj (h w)).1) (prj (h default)).2.1 (zer (prj (h default)).2.2.1 (prj (h default)).2.2.2)
theorem zhg {d : Nat} {g g' : Goroutine} {es : Array Event} (hr : g.status = .running) (hm : ∀ e ∈ es,Event.mute e = true) (h : ∀ w,stepG P false g w = .go g' w es) (hs : ∃ m,SlideW P Wg Stop m (deafBehind d es) g') : ∃ m,SlideW P Wg Stop m d g:=by
 obtain ⟨m,hm'⟩:=hs;exact ⟨m + 1,.inr ⟨hr,g',es,hm,fun w _ _ _ => h w,hm'⟩⟩
end
set_option maxRecDepth 100000
theorem t173 : (Try.prog.underlying 108).map TypeDesc.agg = some false:=by kernel_rfl
theorem zeq {g : Goroutine} {o : Oper} (h : ready g = some o) : isRun g = true:=by
 obtain ⟨_,_,_,_,_,_,_,_,_,_,_,_,_,_,hr⟩:=ready.out h;unfold isRun; rw [hr]
theorem zbI {g : Goroutine} {f : FuncId} {vs : Array Value} (h : callOf g = some (f,vs)) : isRun g = true:=by
 obtain ⟨_,_,_,h1,_,_⟩:=callOf.out h;exact zeq h1
theorem zff {g : Goroutine} {s d : TypeId} {v : Value} (h : zl9 g = some (s,d,v)) : isRun g = true:=by
 unfold zl9 at h;split at h
 ·rename_i ho; exact zeq ho
 ·cases h
theorem zja {g : Goroutine} {t : TypeId} {v : Value} (h : zmG g = some (t,v)) : isRun g = true:=by
 unfold zmG at h;split at h
 ·rename_i ho; exact zeq ho
 ·cases h
section
variable {Wg fc c : Nat} {Im : Imm}
theorem zqG {n : Nat} {g : Goroutine} (hi : Im fc 0 = some (.chan (some c))) (h1 : callOf g = some (71,#[pW Wg 0])) (h3 : ∀ w,evT w n 0 (fin g (.tuple #[])) = evR w n 0 (fin g (.tuple #[])))
  (h4 : zmG (nxts Try.prog false n (fin g (.tuple #[]))) = some (108,pW fc 0)) (h5 : norB (nxts Try.prog false n (fin g (.tuple #[]))) = true)
  (h6 : zmA (fin (nxts Try.prog false n (fin g (.tuple #[]))) (.chan (some c))) = some (.chan (some c))) (h7 : norB (fin (nxts Try.prog false n (fin g (.tuple #[]))) (.chan (some c))) = true) (h8 : isRun (fin (nxts Try.prog false n (fin g (.tuple #[]))) (.chan (some c))) = true)
  (h9 : mayWake Try.prog (fin (nxts Try.prog false n (fin g (.tuple #[]))) (.chan (some c))) = true) (h10 : ∀ w,evQ w 4 (fin (fin (nxts Try.prog false n (fin g (.tuple #[]))) (.chan (some c))) (.tuple #[])) = evE w 4 (fin (fin (nxts Try.prog false n (fin g (.tuple #[]))) (.chan (some c))) (.tuple #[]))) : CAcq Try.prog Im c Wg 0 g:=by
 refine ⟨rfl,isRun.out (zbI h1),_,fun w => zde .acquire (fun _ _ h => by cases h) h1 e182,?_⟩;refine zcl h3 ⟨0,rfl,isRun.out (zja h4),fc,0,_,_,hi,fun w hc => ?_,0,rfl,isRun.out h8,h9,_,fun w s hw => ?_,zpT h10⟩
 ·obtain ⟨d,hd1,hd2⟩:=Option.map_eq_some_iff.1 t173;exact zqU h4 hd1 hd2 (by simpa [norB] using h5) hc
 ·exact zo1 h6 (by simpa [norB] using h7) hw
theorem zkG {n1 n2 : Nat} {g : Goroutine} (h1 : ∀ w,evT w n1 1 g = evR w n1 1 g) (h2 : callOf (nxts Try.prog false n1 g) = some (59,#[])) (h3 : ∀ w,evT w n2 0 (fin (nxts Try.prog false n1 g) (.tuple #[])) = evR w n2 0 (fin (nxts Try.prog false n1 g) (.tuple #[])))
  (h4 : zl9 (nxts Try.prog false n2 (fin (nxts Try.prog false n1 g) (.tuple #[]))) = some (130,132,pW Wg 0)) (h5 : CAcq Try.prog Im c Wg 0 (fin (nxts Try.prog false n2 (fin (nxts Try.prog false n1 g) (.tuple #[]))) (pW Wg 0))) : ∃ n,SlideW Try.prog Wg (CAcq Try.prog Im c Wg) n 1 g:=by
 refine zeH h1 ?_;refine zhg (isRun.out (zbI h2)) (zev (.inr rfl)) (fun w => zd6 (fun _ h => by cases h) h2 e171) ?_;refine zeH (d:=deafBehind 1 #[⟨.mark .enable,false,true⟩]) h3 ?_;exact zen (isRun.out (zff h4)) (fun w x y hW => zdd h4 u189 u191 i182 hW.st.1) ⟨0,h5⟩
theorem zqK {h : Goroutine} (hi : Im fc 0 = some (.chan (some c))) (H : ∀ w,zT Wg c w h = zR Wg fc c w h) : callOf h = some (78,#[pW Wg 0]) /\ ∃ n,SlideW Try.prog Wg (CAcq Try.prog Im c Wg) n 1 (fin h (.int .u64 0)):=by
 have key : ∀ w,callOf h = some ((78 : FuncId),#[pW Wg 0]) /\ isRun h = true /\ evT w 31 1 (fin h (.int .u64 0)) = evR w 31 1 (fin h (.int .u64 0)) /\ callOf (z59 h) = some ((59 : FuncId),(#[] : Array Value)) /\ evT w 3 0 (fin (z59 h) (.tuple #[])) = evR w 3 0 (fin (z59 h) (.tuple #[])) /\ zl9 (z63 h) = some ((130 : TypeId),(132 : TypeId),pW Wg 0) /\ callOf (z64 Wg h) = some ((71 : FuncId),#[pW Wg 0]) /\ isRun (z64 Wg h) = true /\ evT w 22 0 (fin (z64 Wg h) (.tuple #[])) = evR w 22 0 (fin (z64 Wg h) (.tuple #[])) /\ zmG (z87 Wg h) = some ((108 : TypeId),pW fc 0) /\ norB (z87 Wg h) = true /\ zmA (z88 Wg c h) = some (Value.chan (some c)) /\ norB (z88 Wg c h) = true /\ isRun (z88 Wg c h) = true /\ mayWake Try.prog (z88 Wg c h) = true /\ evQ w 4 (z89 Wg c h) = evE w 4 (z89 Wg c h):=fun w => by
  have:=H w;unfold zT zR at this;simpa only [Prod.mk.injEq] using this
 obtain ⟨k1,k2,_,k4,_,k6,k7,k8,_,k10,k11,k12,k13,k14,k15,_⟩:=key default;refine ⟨k1,zkG (n1:=31) (n2:=3) (fun w => (key w).2.2.1) k4 (fun w => (key w).2.2.2.2.1) k6 ?_⟩;exact zqG (n:=22) hi k7 (fun w => (key w).2.2.2.2.2.2.2.2.1) k10 k11 k12 k13 k14 k15 (fun w => (key w).2.2.2.2.2.2.2.2.2.2.2.2.2.2.2)
theorem cas_ok {b : Goroutine} {v : Nat} (hv : 0 < v) (hi : Im fc 0 = some (.chan (some c))) (H : ∀ w,fT Wg c w b = fR Wg fc c w b ((v : Int) * 4294967296)) (hm : ∃ n,Slide Try.prog (CHead Try.prog Im c Wg v) n 1 (m102 b)) : CCas Try.prog c Wg Im v 1 b:=by
 have key : ∀ w,callOf b = some ((80 : FuncId),#[pW Wg 0,.int .u64 ((v : Int) * 4294967296),.int .u64 ((v : Int) * 4294967296 + 1)]) /\ isRun b = true /\ evT w 25 1 (fin b (.bool false)) = evR w 25 1 (fin b (.bool false)) /\ evT w 19 1 (fin b (.bool true)) = evR w 19 1 (fin b (.bool true)) /\ zl9 (f96 b) = some ((137 : TypeId),(132 : TypeId),pW Wg 1) /\ callOf (f97 Wg b) = some ((74 : FuncId),#[pW Wg 1]) /\ isRun (f97 Wg b) = true /\ evT w 23 1 (fin (f97 Wg b) (.tuple #[])) = evR w 23 1 (fin (f97 Wg b) (.tuple #[])) /\ callOf (f121 Wg b) = some ((75 : FuncId),#[pW Wg 1,.bool false]) /\ (f121 Wg b).offers = none /\ evT w 16 1 (fin (f121 Wg b) (.tuple #[])) = evR w 16 1 (fin (f121 Wg b) (.tuple #[])) /\ callOf (f138 Wg b) = some ((78 : FuncId),#[pW Wg 0]) /\ evT w 11 1 (fin (f138 Wg b) (.int .u64 0)) = evR w 11 1 (fin (f138 Wg b) (.int .u64 0)) /\ callOf (f150 Wg b) = some ((59 : FuncId),(#[] : Array Value)) /\ evT w 3 0 (fin (f150 Wg b) (.tuple #[])) = evR w 3 0 (fin (f150 Wg b) (.tuple #[])) /\ zl9 (f154 Wg b) = some ((130 : TypeId),(132 : TypeId),pW Wg 0) /\ callOf (f155 Wg b) = some ((71 : FuncId),#[pW Wg 0]) /\ isRun (f155 Wg b) = true /\ evT w 12 0 (fin (f155 Wg b) (.tuple #[])) = evR w 12 0 (fin (f155 Wg b) (.tuple #[])) /\ zmG (f168 Wg b) = some ((108 : TypeId),pW fc 0) /\ norB (f168 Wg b) = true /\ zmA (f169 Wg c b) = some (Value.chan (some c)) /\ norB (f169 Wg c b) = true /\ isRun (f169 Wg c b) = true /\ mayWake Try.prog (f169 Wg c b) = true /\ evQ w 4 (f170 Wg c b) = evE w 4 (f170 Wg c b):=fun w => by
  have:=H w;unfold fT fR at this;simpa only [Prod.mk.injEq] using this
 obtain ⟨k1,k2,_,_,k5,k6,k7,_,k9,k10,_,k12,_,k14,_,k16,k17,k18,_,k20,k21,k22,k23,k24,k25,_⟩:=key default;refine ⟨rfl,isRun.out k2,⟨_,fun w hW => ziK k1 e191 hW.st.1 hW.st.2.2.1,?_⟩,fun u hu => ⟨_,fun w hW => zhc k1 e191 hW.st.1 hW.st.2.2.1 (fun e => ?_),?_⟩⟩
 ·refine zeH (fun w => (key w).2.2.2.1) ?_;have hs : Try.prog.underlying 137 = some (.pointer (u196.choose)) /\ (Try.prog.info? u196.choose).map (fun i => decide (i.size = 0)) = some false:=u196.choose_spec;refine zen (isRun.out (zff k5)) (fun w x y hW => zdd k5 hs.1 u191 hs.2 hW.st.2.1) ⟨0,rfl,isRun.out k7,_,fun w => zde .write (fun _ _ h => by cases h) k6 e185,?_⟩;refine zcl (fun w => (key w).2.2.2.2.2.2.2.1) ⟨0,rfl,isRun.out (zbI k9),k10,fun w st hW => ?_,fin (f121 Wg b) (.tuple #[]),fun w hW => ?_,?_⟩
  ·exact ziJ k9 e186 hW.st.2.1
  ·exact zfr (n:=1) k9 e186 hW.st.2.1 (by decide) hW.st.2.2.2
  ·refine zcl (fun w => (key w).2.2.2.2.2.2.2.2.2.2.1) ⟨0,rfl,isRun.out (zbI k12),_,fun w hW => zfs k12 e189 hW.st.1,?_⟩;refine zkG (n1:=11) (n2:=3) (fun w => (key w).2.2.2.2.2.2.2.2.2.2.2.2.1) k14 (fun w => (key w).2.2.2.2.2.2.2.2.2.2.2.2.2.2.1) k16 ?_;exact zqG (n:=12) hi k17 (fun w => (key w).2.2.2.2.2.2.2.2.2.2.2.2.2.2.2.2.2.2.1) k20 k21 k22 k23 k24 k25 (fun w => (key w).2.2.2.2.2.2.2.2.2.2.2.2.2.2.2.2.2.2.2.2.2.2.2.2.2)
 ·unfold KK at e; omega
 ·exact zcl (fun w => (key w).2.2.1) hm
theorem zbd (hi : Im fc 0 = some (.chan (some c))) {h : Goroutine} {k : Nat} (hz : ∀ w,zT Wg c w h = zR Wg fc c w h)
  (hv : ∀ v,0 < v -> v <= k -> v <= 4 -> (∀ w,evT w 48 1 (fin h (.int .u64 ((v : Int) * 4294967296))) = evR w 48 1 (fin h (.int .u64 ((v : Int) * 4294967296)))) /\ (∀ w,fT Wg c w (f76 h ((v : Int) * 4294967296)) = fR Wg fc c w (f76 h ((v : Int) * 4294967296)) ((v : Int) * 4294967296)) /\ CHead Try.prog Im c Wg v 1 (m102 (f76 h ((v : Int) * 4294967296)))) : CHead Try.prog Im c Wg (k + 1) 1 h:=by
 obtain ⟨z1,z2⟩:=zqK hi hz;rw [CHead];refine ⟨rfl,isRun.out (zbI z1),fun v h1 h2 => ?_⟩;refine ⟨_,fun w hW => zfs z1 e189 hW.st.1,fun e => ?_,fun e => ?_⟩
 ·subst e; exact z2
 ·obtain ⟨q1,q2,q3⟩:=hv v (by omega) h1 h2;exact zcl q1 ⟨0,cas_ok (by omega) hi q2 ⟨0,q3⟩⟩
theorem zaC {l : List Int} {v : Int} (h : ∀ w,pT Wg fc c w l v = pR Wg fc c w l v) : (∀ w,evT w 48 1 (fin (hd Wg fc l) (.int .u64 v)) = evR w 48 1 (fin (hd Wg fc l) (.int .u64 v))) /\ (∀ w,fT Wg c w (bd Wg fc l v) = fR Wg fc c w (bd Wg fc l v) v) /\ (∀ w,zT Wg c w (hd Wg fc (v :: l)) = zR Wg fc c w (hd Wg fc (v :: l))):=by
 refine ⟨fun w => (Prod.mk.inj (h w)).1,fun w => (Prod.mk.inj (Prod.mk.inj (h w)).2).1,fun w => (Prod.mk.inj (Prod.mk.inj (h w)).2).2⟩
end
section
variable (Wg fc c : Nat) {Im : Imm}
theorem hq_1 (hi : Im fc 0 = some (.chan (some c))) : CHead Try.prog Im c Wg 1 1 (hd Wg fc [1 * 4294967296]):=by
 refine zbd (k:=0) hi (zaC (pp1 Wg fc c)).2.2 fun v h1 h2 h3 => ?_;omega
theorem hq_12 (hi : Im fc 0 = some (.chan (some c))) : CHead Try.prog Im c Wg 1 1 (hd Wg fc [1 * 4294967296,2 * 4294967296]):=by
 refine zbd (k:=0) hi (zaC (pp12 Wg fc c)).2.2 fun v h1 h2 h3 => ?_;omega
theorem hq_2 (hi : Im fc 0 = some (.chan (some c))) : CHead Try.prog Im c Wg 2 1 (hd Wg fc [2 * 4294967296]):=by
 refine zbd (k:=1) hi (zaC (pp2 Wg fc c)).2.2 fun v h1 h2 h3 => ?_;rcases (show v = 1 by omega) with rfl
 ·exact ⟨(zaC (pp12 Wg fc c)).1,(zaC (pp12 Wg fc c)).2.1,hq_12 Wg fc c hi⟩
theorem hq_13 (hi : Im fc 0 = some (.chan (some c))) : CHead Try.prog Im c Wg 1 1 (hd Wg fc [1 * 4294967296,3 * 4294967296]):=by
 refine zbd (k:=0) hi (zaC (pp13 Wg fc c)).2.2 fun v h1 h2 h3 => ?_;omega
theorem hq_123 (hi : Im fc 0 = some (.chan (some c))) : CHead Try.prog Im c Wg 1 1 (hd Wg fc [1 * 4294967296,2 * 4294967296,3 * 4294967296]):=by
 refine zbd (k:=0) hi (zaC (zrf Wg fc c)).2.2 fun v h1 h2 h3 => ?_;omega
theorem hq_23 (hi : Im fc 0 = some (.chan (some c))) : CHead Try.prog Im c Wg 2 1 (hd Wg fc [2 * 4294967296,3 * 4294967296]):=by
 refine zbd (k:=1) hi (zaC (pp23 Wg fc c)).2.2 fun v h1 h2 h3 => ?_;rcases (show v = 1 by omega) with rfl
 ·exact ⟨(zaC (zrf Wg fc c)).1,(zaC (zrf Wg fc c)).2.1,hq_123 Wg fc c hi⟩
theorem hq_3 (hi : Im fc 0 = some (.chan (some c))) : CHead Try.prog Im c Wg 3 1 (hd Wg fc [3 * 4294967296]):=by
 refine zbd (k:=2) hi (zaC (pp3 Wg fc c)).2.2 fun v h1 h2 h3 => ?_;rcases (show v = 1 \/ v = 2 by omega) with rfl | rfl
 ·exact ⟨(zaC (pp13 Wg fc c)).1,(zaC (pp13 Wg fc c)).2.1,hq_13 Wg fc c hi⟩
 ·exact ⟨(zaC (pp23 Wg fc c)).1,(zaC (pp23 Wg fc c)).2.1,hq_23 Wg fc c hi⟩
theorem hq_14 (hi : Im fc 0 = some (.chan (some c))) : CHead Try.prog Im c Wg 1 1 (hd Wg fc [1 * 4294967296,4 * 4294967296]):=by
 refine zbd (k:=0) hi (zaC (pp14 Wg fc c)).2.2 fun v h1 h2 h3 => ?_;omega
theorem hq_124 (hi : Im fc 0 = some (.chan (some c))) : CHead Try.prog Im c Wg 1 1 (hd Wg fc [1 * 4294967296,2 * 4294967296,4 * 4294967296]):=by
 refine zbd (k:=0) hi (zaC (zre Wg fc c)).2.2 fun v h1 h2 h3 => ?_;omega
theorem hq_24 (hi : Im fc 0 = some (.chan (some c))) : CHead Try.prog Im c Wg 2 1 (hd Wg fc [2 * 4294967296,4 * 4294967296]):=by
 refine zbd (k:=1) hi (zaC (pp24 Wg fc c)).2.2 fun v h1 h2 h3 => ?_;rcases (show v = 1 by omega) with rfl
 ·exact ⟨(zaC (zre Wg fc c)).1,(zaC (zre Wg fc c)).2.1,hq_124 Wg fc c hi⟩
theorem hq_134 (hi : Im fc 0 = some (.chan (some c))) : CHead Try.prog Im c Wg 1 1 (hd Wg fc [1 * 4294967296,3 * 4294967296,4 * 4294967296]):=by
 refine zbd (k:=0) hi (zaC (zrd Wg fc c)).2.2 fun v h1 h2 h3 => ?_;omega
theorem zrx (hi : Im fc 0 = some (.chan (some c))) : CHead Try.prog Im c Wg 1 1 (hd Wg fc [1 * 4294967296,2 * 4294967296,3 * 4294967296,4 * 4294967296]):=by
 refine zbd (k:=0) hi (zaC (zop Wg fc c)).2.2 fun v h1 h2 h3 => ?_;omega
theorem hq_234 (hi : Im fc 0 = some (.chan (some c))) : CHead Try.prog Im c Wg 2 1 (hd Wg fc [2 * 4294967296,3 * 4294967296,4 * 4294967296]):=by
 refine zbd (k:=1) hi (zaC (zrc Wg fc c)).2.2 fun v h1 h2 h3 => ?_;rcases (show v = 1 by omega) with rfl
 ·exact ⟨(zaC (zop Wg fc c)).1,(zaC (zop Wg fc c)).2.1,zrx Wg fc c hi⟩
theorem hq_34 (hi : Im fc 0 = some (.chan (some c))) : CHead Try.prog Im c Wg 3 1 (hd Wg fc [3 * 4294967296,4 * 4294967296]):=by
 refine zbd (k:=2) hi (zaC (pp34 Wg fc c)).2.2 fun v h1 h2 h3 => ?_;rcases (show v = 1 \/ v = 2 by omega) with rfl | rfl
 ·exact ⟨(zaC (zrd Wg fc c)).1,(zaC (zrd Wg fc c)).2.1,hq_134 Wg fc c hi⟩
 ·exact ⟨(zaC (zrc Wg fc c)).1,(zaC (zrc Wg fc c)).2.1,hq_234 Wg fc c hi⟩
theorem hq_4 (hi : Im fc 0 = some (.chan (some c))) : CHead Try.prog Im c Wg 4 1 (hd Wg fc [4 * 4294967296]):=by
 refine zbd (k:=3) hi (zaC (pp4 Wg fc c)).2.2 fun v h1 h2 h3 => ?_;rcases (show v = 1 \/ v = 2 \/ v = 3 by omega) with rfl | rfl | rfl
 ·exact ⟨(zaC (pp14 Wg fc c)).1,(zaC (pp14 Wg fc c)).2.1,hq_14 Wg fc c hi⟩
 ·exact ⟨(zaC (pp24 Wg fc c)).1,(zaC (pp24 Wg fc c)).2.1,hq_24 Wg fc c hi⟩
 ·exact ⟨(zaC (pp34 Wg fc c)).1,(zaC (pp34 Wg fc c)).2.1,hq_34 Wg fc c hi⟩
theorem hq_ (hi : Im fc 0 = some (.chan (some c))) : CHead Try.prog Im c Wg 5 1 (hd Wg fc []):=by
 refine zbd (k:=4) hi (zz Wg fc c) fun v h1 h2 h3 => ?_;rcases (show v = 1 \/ v = 2 \/ v = 3 \/ v = 4 by omega) with rfl | rfl | rfl | rfl
 ·exact ⟨(zaC (pp1 Wg fc c)).1,(zaC (pp1 Wg fc c)).2.1,hq_1 Wg fc c hi⟩
 ·exact ⟨(zaC (pp2 Wg fc c)).1,(zaC (pp2 Wg fc c)).2.1,hq_2 Wg fc c hi⟩
 ·exact ⟨(zaC (pp3 Wg fc c)).1,(zaC (pp3 Wg fc c)).2.1,hq_3 Wg fc c hi⟩
 ·exact ⟨(zaC (pp4 Wg fc c)).1,(zaC (pp4 Wg fc c)).2.1,hq_4 Wg fc c hi⟩
theorem zk7 (hi : Im fc 0 = some (.chan (some c))) : zoI Try.prog Im c Wg (born Try.prog ⟨.fn (.func 51) #[pW Wg 0,pW fc 0],#[]⟩):=by
 have h0 : ∀ w,evT w 7 0 (e0 Wg fc) = evR w 7 0 (e0 Wg fc) /\ callOf (e7 Wg fc) = some ((58 : FuncId),(#[] : Array Value)) /\ evT w 19 1 (e8 Wg fc) = evR w 19 1 (e8 Wg fc):=fun w => by
  have:=c0 Wg fc w;simpa only [Prod.mk.injEq] using this
 show ∃ n,Slide Try.prog (CHead Try.prog Im c Wg 5) n 0 (e0 Wg fc);refine zcl (fun w => (h0 w).1) ?_;refine zdF (isRun.out (zbI (h0 default).2.1)) (zev (.inl rfl)) (fun w => zd6 (fun _ h => by cases h) (h0 default).2.1 e170) ?_;exact zcl (d:=deafBehind 0 #[⟨.mark .disable,false,true⟩]) (fun w => (h0 w).2.2) ⟨0,hq_ Wg fc c hi⟩
end
section
variable {lv : Bool} {P : Program} {r : Option Nat} {nt : Nat} {E : Env} {V : View} {a : Act} {s : AS} {c : Code} {Q : Ex -> Act -> View -> Prop}
theorem zcX (s3 : AS) (hat : At E V s a nt) (h : AWP lv P r nt c s (fun e s' => match e with | .normal => s'.Sub s3 | _ => False)) (hQ : ∀ E' V' a',Kept E E' V V' a a' -> At E' V' s3 a' nt -> Q .normal a' V') : WP lv P r c Q a V :=
 h E V a Q hat fun ae e E' V' a' s' hk hat' he hΦ => by
  cases ae <;> cases e <;> first
   | exact he.elim
   | exact hΦ.elim
   | exact hQ E' V' a' hk (hat'.sub hΦ)
theorem zcD {x y : Code} {t : Nat} {b : Bool} (hat : At E V s a nt) (hl : look s.T t = some (.val (.bool b))) (h : WP lv P r (if b then x else y) Q a V) : WP lv P r (.cond (.tmp t) x y) Q a V:=by
 have hd:=(hat.tok t _ hl).2;generalize hx : a.tmps.getD t undef = v at hd;cases hd;exact zjN (t:=b) hx h
end
theorem zlN {s s' : AS} (h : ∀ p ∈ s'.T,∃ b,look s.T p.1 = some b /\ Wk b p.2) (hH : s.H = s'.H) : s.Sub s':=⟨fun _ _ e => h _ (zbB e),hH⟩
theorem zc8 {E : Env} {x v : Value} (h : Den E (.val x) v) : v = x:=by cases h; rfl
theorem zed {E : Env} {cs : Array Value} (h : Denl E [] cs) : cs = #[]:=Array.size_eq_zero_iff.1 h.1
theorem zeK {E : Env} {l : List Value} {cs : Array Value} (h : Denl E (l.map .val) cs) : cs = l.toArray:=by
 have hs : cs.size = l.length:=by simpa using h.1
 refine Array.ext hs fun i h1 h2 => ?_;have hi : i < l.length:=by simpa using h2
 have:=zc8 (h.2 i (.val l[i]) (by simp [List.getElem?_eq_getElem hi]));rw [Array.getD_eq_getD_getElem?,Array.getElem?_eq_getElem h1] at this;simpa using this
theorem zgP {E : Env} {l : List Value} {v : Value} (h : Den E (.agg (l.map .val)) v) : v = .agg l.toArray:=by
 cases h with
 | agg hs h => rw [zeK ⟨hs,h⟩]
theorem Ring.Ok.depths {x : Ring} (hx : x.Ok) {y : Key} (hy : y ∈ x.keys) : ∀ n ∈ zfK y.cuts,0 <= n /\ n <= 3:=by
 intro n hn;unfold zfK at hn;rcases List.mem_append.1 hn with h | h
 ·exact (hx.key y hy).2.1 n (List.mem_of_mem_take h)
 ·have:=(List.mem_replicate.1 h).2; omega
def spOf (x : Ring) (k n : Nat) : Spec:=fun v _ Ow => v = .agg #[.int .i64 k,.int .i64 n,.int .u8 (zg4 x k n)] /\ ∀ b,Ow b = none
def zfN (x : Ring) (k i : Nat) : List Spec:=(List.range' i (3 - i)).map (spOf x k)
theorem zbC {x : Ring} {k i : Nat} (h : i < 3) : zfN x k i = spOf x k i :: zfN x k (i + 1):=by
 unfold zfN;rw [show 3 - i = (3 - (i + 1)) + 1 by omega,List.range'_succ]; rfl
theorem zhf {x : Ring} {k : Nat} : zfN x k 3 = []:=rfl
set_option maxRecDepth 100000 in
theorem zpf : Try.prog.funcs.size = 101:=by kernel_rfl
noncomputable def wkS (x : Ring) (kk Wg c : Nat) (ds : List Int) (i : Nat) : AS:=⟨[(16,iv i),(4,.op 0 0),(0,.val (pW Wg 0)),(1,.rp [.rp x.l]),(2,.rp [iv kk]),(3,.rp [.val (.chan (some c))])],[.cells (ds.map iv) 119]⟩
theorem zjO {J : View -> Goroutine -> Prop} (C : Closed0 Try.prog false J) {E : Env} {V : View} {x : Ring} {kk c Wg : Nat} {y : Key} {rv kv fv : Value} (hx : x.Ok) (hy : x.keys[kk]? = some y) (hsm : x.Small) (hcon : Conc E V [])
  (hr : Den E (.rp [.rp x.l]) rv) (hk : Den E (.rp [iv kk]) kv) (hf : Den E (.rp [.val (.chan (some c))]) fv) (hro : V.role = .work c Wg (zfN x kk 0)) (hde : V.deaf = 0) (hfr : E.fr = fun _ => none) : J V (born Try.prog ⟨.fn (.func 46) #[pW Wg 0,rv,kv,fv],#[]⟩):=by
 have C' : Closed false Try.prog false J:={ C with more:=fun h => by cases h };have hkl:=get_lt hy;have hk4 : kk < 4:=by have:=hx.keys; omega
 have hym : y ∈ x.keys:=zas hy;unfold born;rw [zpf];refine zdV C' (fr:={ (default : Frame) with fn:=101,defers:=[⟨.fn (.func 46) #[pW Wg 0,rv,kv,fv],#[]⟩],mode:=.panicking [goexitEntry] }) (ds:=[]) rfl rfl (by kernel_rfl) ?_;refine zkN (Q:=fun a' V' => a'.defers = [⟨.fn (.func 47) #[],#[pW Wg 0]⟩] /\ V'.role = .work c Wg [] /\ V'.deaf = 0) C' (by simp) F.f46 rfl ?_ ?_
 rotate_left
 ·rintro a' V' todo ⟨h1,h2,h3⟩
  refine zdV C' (ds:=[]) h1 rfl (by kernel_rfl) ?_;exact zhK Wg a'.tmps todo C h2 h3
 have hargs : Denl E [.val (pW Wg 0),.rp [.rp x.l],.rp [iv kk],.rp [.val (.chan (some c))]] (#[] ++ #[pW Wg 0,rv,kv,fv]):=by
  refine ⟨rfl,fun i a e => ?_⟩
  match i,e with
  | 0,e => cases e; exact .val _
  | 1,e => cases e; exact hr
  | 2,e => cases e; exact hk
  | 3,e => cases e; exact hf
 have hat:=zeU (nt:=29) hcon hargs (by simp);simp only [zf5,Nat.reduceAdd] at hat;refine zaV ?_;refine (zeT (nt:=29) (n:=0) (ds:=[]) (Φ:=fun e s' ds' => e = .normal /\ s' = ⟨[(0,.val (pW Wg 0)),(1,.rp [.rp x.l]),(2,.rp [iv kk]),(3,.rp [.val (.chan (some c))])],[]⟩ /\ ds' = [(.fn (.func 47) [] [],[.val (pW Wg 0)])]) rfl rfl rfl rfl rfl rfl (by kernel_rfl) ?_) E V _ _ hat trivial fun ae e E1 V1 a1 s1 ds1 hk1 hat1 hd1 he1 h1 => ?_
 ·(try simp only [seval]);exact ⟨_,_,_,rfl⟩
 obtain ⟨rfl,rfl,rfl⟩:=h1;cases e <;> first
  | exact he1.elim
  | skip
 have hdf1 : a1.defers = [⟨.fn (.func 47) #[],#[pW Wg 0]⟩]:=by
  match hdd : a1.defers,hd1 with
  | [d],hd1 =>
   obtain ⟨⟨f,first,caps,fa,ca,vs,q1,rfl,q3,q4,q5⟩,_⟩:=hd1;cases q1;rw [zed q3,zed q4,zeK (l:=[pW Wg 0]) q5];rfl
  | [],hd1 => exact hd1.elim
  | _ :: _ :: _,hd1 => exact hd1.2.elim
 refine zaV ?_;refine zcX ⟨[(4,.op 0 0),(0,.val (pW Wg 0)),(1,.rp [.rp x.l]),(2,.rp [iv kk]),(3,.rp [.val (.chan (some c))])],[.cells ((zfK y.cuts).map iv) 119]⟩ hat1 ?_ fun E2 V2 a2 hk2 hat2 => ?_
 ·refine znm [10,11] [0,1,2,3,4,5,6,7,8,9,10,11] [⟨0,false,[],[([10],[10])]⟩,⟨1,false,[],[([10],[10])]⟩,⟨2,false,[],[([10],[10])]⟩,⟨3,false,[],[([10],[10])]⟩,⟨4,false,[],[([10],[10])]⟩,⟨5,false,[],[([10],[10])]⟩,⟨6,false,[],[([10],[10])]⟩,⟨7,false,[],[([10],[10])]⟩,⟨8,false,[],[([10],[10])]⟩,⟨9,false,[],[([10],[10])]⟩,⟨10,true,[10],[]⟩,⟨11,true,[10,11],[]⟩] (fun D => bif zjC 11 D then [.cells ((zfK y.cuts).map iv) 119] else bif zjC 10 D then [.cells [iv 0,iv 0,iv 0,iv 0] 119] else []) ?_;simp only [seval,Ring.l,zlD,zc2 hy,zaz hkl];have hdl : ((zfK y.cuts).map iv).length = 4:=by simp [zcm]
  refine zod (.agg ((zfK y.cuts).map iv)) (zme (f48_c ⟨rfl,rfl⟩)) ⟨zod _ (zme (f48_c ⟨rfl,rfl⟩)) rfl,?_⟩;(try simp only [seval,hdl]);exact zlN (by simp only [seval]; simp [zaf,Wk.refl]) rfl
 refine zaV ?_;refine zcX (wkS x kk Wg c (zfK y.cuts) 0) hat2 ?_ fun E3 V3 a3 hk3 hat3 => ?_
 ·refine zbA ?_;exact zlN (by unfold wkS; simp only [seval]; simp [zaf,Wk.refl]) rfl
 have hdf3 : a3.defers = [⟨.fn (.func 47) #[],#[pW Wg 0]⟩]:=hk3.defers.trans (hk2.defers.trans hdf1);have hro3 : V3.role = .work c Wg (zfN x kk 0):=hk3.role.trans (hk2.role.trans (hk1.role.trans hro));have hde3 : V3.deaf = 0:=hk3.deaf.trans (hk2.deaf.trans (hk1.deaf.trans hde));refine zbS ?_;refine zg2 (fun m a' V' => ∃ E' i,m = 3 - i /\ i <= 3 /\ At E' V' (wkS x kk Wg c (zfK y.cuts) i) a' 29 /\ a'.defers = [⟨.fn (.func 47) #[],#[pW Wg 0]⟩] /\ V'.role = .work c Wg (zfN x kk i) /\ V'.deaf = 0) 3 ⟨E3,0,rfl,by omega,hat3,hdf3,hro3,hde3⟩ fun m a4 V4 hI => ?_;obtain ⟨E4,i,rfl,hi,hat4,hdf4,hro4,hde4⟩:=hI;refine zaV ?_;refine zcX ⟨(17,bv (decide ((i : Int) < 3))) :: (wkS x kk Wg c (zfK y.cuts) i).T,(wkS x kk Wg c (zfK y.cuts) i).H⟩ hat4 ?_ fun E5 V5 a5 hk5 hat5 => ?_
 ·unfold wkS;refine zbA ?_;exact zlN (by simp only [seval]; simp [zaf,Wk.refl]) rfl
 refine zaV (zcD hat5 rfl ?_);by_cases h3 : i < 3
 ·rw [show decide ((i : Int) < 3) = true by simp; omega];refine zfm (zaV (zbS (zaV ?_)));refine zcX ⟨(5,iv i) :: (wkS x kk Wg c (zfK y.cuts) i).T,(wkS x kk Wg c (zfK y.cuts) i).H⟩ hat5 ?_ fun E6 V6 a6 hk6 hat6 => ?_
  ·unfold wkS;refine zbA ?_;exact zlN (by simp only [seval]; simp [zaf,Wk.refl]) rfl
  have hro6 : V6.role = .work c Wg (spOf x kk i :: zfN x kk (i + 1)):=by rw [hk6.role,hk5.role,hro4,zbC h3]
  have hde6 : V6.deaf = 0:=hk6.deaf.trans (hk5.deaf.trans hde4);have hds : (zfK y.cuts).length = 4:=zcm _;refine zf2 (K:=fun s' => look s'.T 19 = some (.val (.chan (some c))) /\ look s'.T 27 = some (.agg [iv kk,iv i,uv (zg4 x kk i)]) /\ s'.Sub (wkS x kk Wg c (zfK y.cuts) i)) F.mixed 9 (by kernel_rfl) hat6 ?_ fun E7 V7 a7 s7 hk7 hat7 hK => ?_
  ·unfold wkS;(try simp only [seval]);refine ⟨by omega,?_⟩;rw [List.take_of_length_le (by simp [hds])];refine zod (.agg ((zl7 i (zfK y.cuts)).map iv)) (zme (f50_c hds (hx.depths hym) ⟨by omega,by omega⟩ ⟨rfl,rfl⟩)) ?_;have h139 : FnC false Try.prog 49 [.cells ((zfK y.cuts).map iv) 119] [.rp x.l,.agg ((zl7 i (zfK y.cuts)).map iv)] (fun b H' => b = uv (zg4 x kk i) /\ H' = [.cells ((zfK y.cuts).map iv) 119]) (fun _ _ => False):=by
    have:=f49_c (lv:=false) (H:=[.cells ((zfK y.cuts).map iv) 119]) (x:=x) (os:=[]) (ds:=zl7 i (zfK y.cuts)) (k:=fun b H' => b = uv (zg4 x kk i) /\ H' = [.cells ((zfK y.cuts).map iv) 119]) (kp:=fun _ _ => False) (by simp [zl7,hds]) ⟨by have:=hx.cuts; omega,hx.cuts.2⟩ hx.locks (fun l hl => by have:=(hx.lock l hl).1; omega) ⟨by unfold zg4; rw [hy],rfl⟩;simpa using this
   refine zod (uv (zg4 x kk i)) (zad (by kernel_rfl) h139) ?_;(try simp only [seval]);exact zlN (by simp only [seval]; simp [zaf,Wk.refl]) rfl
  ·obtain ⟨l19,l27,hsub⟩:=hK;have hat7':=hat7.sub hsub;refine zdB rfl rfl ?_;have e19 : a7.eval (.tmp 19) = .chan (some c):=zc8 (hat7.tok _ _ l19).2;have e27 : a7.eval (.tmp 27) = .agg #[.int .i64 kk,.int .i64 i,.int .u8 (zg4 x kk i)]:=zgP (l:=[.int .i64 kk,.int .i64 i,.int .u8 (zg4 x kk i)]) (hat7.tok _ _ l27).2;refine ⟨c,Wg,spOf x kk i,zfN x kk (i + 1),fun _ => false,e19,by rw [hk7.role]; exact hro6,hk7.deaf.trans hde6,⟨e27,fun _ => rfl⟩,?_⟩;have hcon8 : Conc (E7.frame E7.fr) { V7 with own:=fun b => if (false : Bool) then none else V7.own b,role:=.work c Wg (zfN x kk (i + 1)) } (wkS x kk Wg c (zfK y.cuts) i).H :=
    hat7'.conc.reframe _ rfl (fun b z k w _ _ hz => by simpa using hz) (fun g hg => by cases hg) (fun g hg => by cases hg) (fun hm => by have:=(hat7'.conc.top hm).1; rw [hk7.role,hro6] at this; cases this) (fun b z hz => by simpa using hat7'.conc.fr b z hz)
   have hat8 : At (E7.frame E7.fr) { V7 with own:=fun b => if (false : Bool) then none else V7.own b,role:=.work c Wg (zfN x kk (i + 1)) } (wkS x kk Wg c (zfK y.cuts) i) (a7.put none undef) 29:=⟨hcon8,hat7'.tok.frame _,hat7'.size⟩;refine zcX (wkS x kk Wg c (zfK y.cuts) (i + 1)) hat8 ?_ fun E9 V9 a9 hk9 hat9 => ?_
   ·unfold wkS;have hw : IntKind.i64.wrap ((i : Int) + 1) = (i : Int) + 1:=zau _ (by omega);refine zl5 ?_;simp only [seval,hw];exact zlN (by simp only [seval]; simp [zaf,Wk.refl]) rfl
   ·exact ⟨3 - (i + 1),by omega,E9,i + 1,rfl,by omega,hat9,by rw [hk9.defers]; exact hk7.defers.trans (hk6.defers.trans (hk5.defers.trans hdf4)),hk9.role,by rw [hk9.deaf]; exact hk7.deaf.trans hde6⟩
 ·have : i = 3:=by omega
  subst this;rw [show decide (((3 : Nat) : Int) < 3) = false by decide];refine zfn ?_;exact ⟨trivial,hk5.defers.trans hdf4,hk5.role.trans hro4,hk5.deaf.trans hde4⟩
theorem zpm (r : Option Nat) : AV.parts (.val (.chan r)) = some [.val (.chan r)]:=rfl
theorem zoO (r : Option Nat) : zmj (.chan r) = [.val (.chan r)]:=rfl
theorem zrw (r : Option Nat) : AV.leaf (.val (.chan r)) = true:=rfl
theorem zbD (Hs L : List AObj) (i : Nat) : (Hs ++ L)[Hs.length + i]? = L[i]?:=by rw [List.getElem?_append_right (by omega)]; congr 1; omega
theorem zcT (Hs L : List AObj) (i : Nat) (y : AObj) : (Hs ++ L).set (Hs.length + i) y = Hs ++ L.set i y:=by rw [List.set_append_right _ _ (by omega)]; congr 2; omega
def zhI (x : Ring) (is : List Nat) : List (List Spec):=is.mapIdx fun k i => zfN x k i
def zm9 : Obj:=.chan 0 #[] false 0 0 false
def zfC (x : Ring) (m c : Nat) (os : List AV) : List AObj:=[.cells x.l 30,.part 4 (x.l ++ os) 71,.part 1 [.op (m + 1) 0] 58,.part 1 [.val (.chan (some c))] 108,.gone]
structure NrC (x : Ring) (Hs : List AObj) (E : Env) (c Wg : Nat) (rv fv : Value) (os : List AV) (T : List (Nat × AV)) (G : List AObj) (E' : Env) (V' : View) (a' : Act) : Prop where
 hat : At E' V' ⟨T,Hs ++ (zfC x Hs.length c os ++ G)⟩ a' 45
 lo : E.Lo E'
 main : E'.main = false
 defers : a'.defers = []
 deaf : V'.deaf = 0
 er : rv = .pointer (some ⟨E'.blk (Hs.length + 2),0,none⟩)
 ef : fv = .pointer (some ⟨E'.blk (Hs.length + 3),0,none⟩)
 dr : Den E' (.rp [.rp x.l]) rv
 df : Den E' (.rp [.val (.chan (some c))]) fv
 fr : ∀ b y,E.fr b = some y -> E'.fr b = some y /\ b ≠ c /\ b ≠ Wg
 ne : c ≠ Wg
section
variable {x : Ring} {Hs : List AObj} {E : Env} {c Wg : Nat} {rv fv : Value} {os os' : List AV} {T T' : List (Nat × AV)} {G G' : List AObj} {E1 E2 : Env} {V1 V2 : View} {a1 a2 : Act}
theorem NrC.step' (h : NrC x Hs E c Wg rv fv os T G E1 V1 a1) (le : E1.Le E2) (hdf : a2.defers = a1.defers) (hde : V2.deaf = V1.deaf) (hat : At E2 V2 ⟨T',Hs ++ (zfC x Hs.length c os' ++ G')⟩ a2 45) : NrC x Hs E c Wg rv fv os' T' G' E2 V2 a2:=by
 have hl : ∀ i,i < 5 -> Hs.length + i < E1.n:=fun i hi => by rw [h.hat.conc.n]; simp [zfC]; omega
 exact ⟨hat,h.lo.trans le.lo,le.main.trans h.main,hdf.trans h.defers,hde.trans h.deaf,by rw [le.blk _ (hl 2 (by omega))]; exact h.er,by rw [le.blk _ (hl 3 (by omega))]; exact h.ef,h.dr.mono le,h.df.mono le,fun b y e => by rw [le.fr]; exact h.fr b y e,h.ne⟩
theorem NrC.step (h : NrC x Hs E c Wg rv fv os T G E1 V1 a1) (hk : Kept E1 E2 V1 V2 a1 a2) (hat : At E2 V2 ⟨T',Hs ++ (zfC x Hs.length c os' ++ G')⟩ a2 45) : NrC x Hs E c Wg rv fv os' T' G' E2 V2 a2:=by
 have hl : ∀ i,i < 5 -> Hs.length + i < E1.n:=fun i hi => by rw [h.hat.conc.n]; simp [zfC]; omega
 exact ⟨hat,h.lo.trans hk.le.lo,hk.le.main.trans h.main,hk.defers.trans h.defers,hk.deaf.trans h.deaf,by rw [hk.le.blk _ (hl 2 (by omega))]; exact h.er,by rw [hk.le.blk _ (hl 3 (by omega))]; exact h.ef,h.dr.mono hk.le,h.df.mono hk.le,fun b y e => by rw [hk.le.fr]; exact h.fr b y e,h.ne⟩
theorem NrC.to (T' : List (Nat × AV)) (os' : List AV) (G' : List AObj) (h : NrC x Hs E c Wg rv fv os T G E1 V1 a1) {cd : Code} {Q : Ex -> Act -> View -> Prop} (hw : AWP true Try.prog none 45 cd ⟨T,Hs ++ (zfC x Hs.length c os ++ G)⟩ (fun e s' => match e with | .normal => s'.Sub ⟨T',Hs ++ (zfC x Hs.length c os' ++ G')⟩ | _ => False))
  (hQ : ∀ E2 V2 a2,Kept E1 E2 V1 V2 a1 a2 -> NrC x Hs E c Wg rv fv os' T' G' E2 V2 a2 -> Q .normal a2 V2) : WP true Try.prog none cd Q a1 V1 :=
 zcX ⟨T',Hs ++ (zfC x Hs.length c os' ++ G')⟩ h.hat hw fun E2 V2 a2 hk hat => hQ E2 V2 a2 hk (h.step hk hat)
theorem NrC.cut (h : NrC x Hs E c Wg rv fv os T G E1 V1 a1) (hE : E.n <= Hs.length) (hT : ∀ p ∈ T',∃ b,look T p.1 = some b /\ Wk b p.2 /\ Lt (Hs.length + 5) p.2) (hok : HOk (Hs ++ zfC x Hs.length c os)) : NrC x Hs E c Wg rv fv os T' [] { E1 with n:=Hs.length + 5 } V1 a1:=by
 have hlen : (Hs ++ zfC x Hs.length c os).length = Hs.length + 5:=by simp [zfC]
 have hc:=h.hat.cut (s':=⟨T',Hs ++ zfC x Hs.length c os⟩) ⟨fun t a e => by
  obtain ⟨b,h1,h2,h3⟩:=hT _ (zbB e);exact ⟨b,h1,h2,by rw [hlen]; exact h3⟩,⟨G,by simp⟩,hok⟩
 simp only [hlen] at hc;have l0 : Lt (Hs.length + 5) (.rp [.rp x.l]) = True:=by
  simp only [zi9,List.mem_singleton,forall_eq,eq_iff_iff,iff_true,Ring.l,List.mem_cons,List.not_mem_nil,or_false]
  rintro a (rfl | rfl | rfl | rfl)
  ·exact .val _
  ·rw [zc5]; trivial
  ·rw [zci]; trivial
  ·rw [zch]; trivial
 exact ⟨by simpa using hc,h.lo.cut (by omega),h.main,h.defers,h.deaf,h.er,h.ef,h.dr.trim (by rw [l0]; trivial),h.df.trim (by simp [zi9,zap]),h.fr,h.ne⟩
theorem zqz (hH : HOk Hs) (hos : ∀ a ∈ os,∀ n,Lt n a) : HOk (Hs ++ zfC x Hs.length c os):=by
 intro y hy;have hlen : (Hs ++ zfC x Hs.length c os).length = Hs.length + 5:=by simp [zfC]
 rw [hlen];have hl : ∀ a ∈ x.l,∀ n,Lt n a:=by
  intro a ha n;simp only [Ring.l,List.mem_cons,List.not_mem_nil,or_false] at ha;rcases ha with rfl | rfl | rfl | rfl
  ·exact .val _
  ·rw [zc5]; trivial
  ·rw [zci]; trivial
  ·rw [zch]; trivial
 rcases List.mem_append.1 hy with h | h
 ·exact (hH y h).mono (by omega)
 ·simp only [zfC,List.mem_cons,List.not_mem_nil,or_false] at h;rcases h with rfl | rfl | rfl | rfl | rfl
  ·exact fun a ha => hl a ha _
  ·exact fun a ha => (List.mem_append.1 ha).elim (fun h => hl a h _) (fun h => hos a h _)
  ·intro a ha; simp at ha; subst ha; exact .op (by omega)
  ·intro a ha; simp at ha; subst ha; exact .val _
  ·trivial
end
def cs : Code -> Code
 | .seq _ c => c
 | _ => .skip
def cf : Code -> Code
 | .seq c _ => c
 | _ => .skip
def ci : Code -> Code
 | .block _ c | .loop c | .scope c => c
 | _ => .skip
noncomputable def zmg : Code:=Try.f40.body.getD .skip
noncomputable def zlz : Code:=cs (cs (cs (cs zmg)))
def zhH : List AV:=List.replicate 12 (uv 0)
noncomputable def zlT (x : Ring) (Hs : List AObj) (Wg i : Nat) : List (Nat × AV):=[(19,iv i),(18,iv x.keys.length),(5,.val (pW Wg 0)),(4,.op (Hs.length + 3) 0),(3,.op (Hs.length + 2) 0)]
structure NrF (x : Ring) (Hs : List AObj) (E : Env) (c Wg : Nat) (rv fv : Value) (i : Nat) (T : List (Nat × AV)) (G : List AObj) (E' : Env) (V' : View) (a' : Act) : Prop where
 ok : NrC x Hs E c Wg rv fv zhH T G E' V' a'
 role : V'.role = .fork c Wg (zhI x (List.replicate i 0))
 frc : E'.fr c = some zm9
 frw : E'.fr Wg = some (zjD Try.prog ((i : Int) * 4294967296) 0)
theorem zgi (x : Ring) (i : Nat) : zhI x (List.replicate (i + 1) 0) = zhI x (List.replicate i 0) ++ [zfN x i 0]:=by
 unfold zhI;rw [List.replicate_succ',List.mapIdx_append];simp
theorem zc1 (x : Ring) (is : List Nat) : (zhI x is).length = is.length:=by simp [zhI]
set_option maxRecDepth 100000 in
theorem wgT : zok Try.prog = 117:=by kernel_rfl
theorem zqF {E : Env} {f : Fn} {first caps : List AV} {v : Value} (h : Den E (.fn f first caps) v) : ∃ fa ca,v = .func f fa ca /\ Denl E first fa /\ Denl E caps ca:=by
 cases h with
 | fn hs1 hs2 h1 h2 => exact ⟨_,_,rfl,⟨hs1,h1⟩,⟨hs2,h2⟩⟩
theorem zgO {E : Env} {i o : Nat} {v : Value} (h : Den E (.op i o) v) : v = .pointer (some ⟨E.blk i,o,none⟩):=by cases h; rfl
theorem zpw (x : Ring) : Lt 0 (.rp [.rp x.l]):=by
 simp only [zi9,List.mem_singleton,forall_eq,Ring.l,List.mem_cons,List.not_mem_nil,or_false]
 rintro a (rfl | rfl | rfl | rfl)
 ·exact .val _
 ·rw [zc5]; trivial
 ·rw [zci]; trivial
 ·rw [zch]; trivial
section
variable {x : Ring} {Hs : List AObj} {E : Env} {c Wg i : Nat} {rv fv : Value} {T T' : List (Nat × AV)} {G G' : List AObj} {E1 E2 : Env} {V1 V2 : View} {a1 a2 : Act}
theorem NrF.step (h : NrF x Hs E c Wg rv fv i T G E1 V1 a1) (hk : Kept E1 E2 V1 V2 a1 a2) (hc : NrC x Hs E c Wg rv fv zhH T' G' E2 V2 a2) : NrF x Hs E c Wg rv fv i T' G' E2 V2 a2 :=
 ⟨hc,hk.role.trans h.role,by rw [hk.le.fr]; exact h.frc,by rw [hk.le.fr]; exact h.frw⟩
theorem zkr (hx : x.Ok) (hsm : x.Small) (hEn : E.n <= Hs.length) (hok : HOk (Hs ++ zfC x Hs.length c zhH)) (h : NrF x Hs E c Wg rv fv i (zlT x Hs Wg i) [] E1 V1 a1) (hi : i < x.keys.length) {cd : Code} {Q : Ex -> Act -> View -> Prop} (hcd : cd = cs (cs (ci (ci (cs (cf zlz))))))
  (hQ : ∀ E2 V2 a2,NrF x Hs E c Wg rv fv (i + 1) (zlT x Hs Wg (i + 1)) [] E2 V2 a2 -> Q .normal a2 V2) : WP true Try.prog none cd Q a1 V1:=by
 subst hcd;have h4 : x.keys.length <= 4:=hx.keys;refine zaV (zbS (zaV ?_));refine h.ok.to ((6,.op (Hs.length + 5) 0) :: zlT x Hs Wg i) zhH [.cells [iv i] 3] ?_ fun E2 V2 a2 hk2 hc2 => ?_
 ·unfold zlT zfC;refine zbA ?_;exact zlN (by simp only [seval]; simp [zaf,Wk.refl]) rfl
 have h2:=h.step hk2 hc2;obtain ⟨V3,g3,o3,r3,d3,le3,con3,den3⟩:=hc2.hat.conc.pubPart (id:=Hs.length + 5) (by rw [zbD]; rfl) 1 (by simp);rw [zcT] at con3;have hkp3 : Kept E2 { E2 with I:=V3.imm } V2 V3 a2 a2:=⟨le3,rfl,rfl,r3,d3⟩;have hc3:=hc2.step (T':=(6,.op (Hs.length + 5) 0) :: zlT x Hs Wg i) (os':=zhH) (G':=[.part 1 [iv i] 3]) hkp3 ⟨con3,hc2.hat.tok.mono le3,hc2.hat.size⟩;have h3:=h2.step hkp3 hc3;refine WP.ghost g3 ?_;generalize { E2 with I:=V3.imm } = E3 at le3 con3 den3 hkp3 hc3 h3;have e5 : a2.eval (.tmp 5) = pW Wg 0:=zc8 (hc3.hat.tok 5 (.val (pW Wg 0)) rfl).2;obtain ⟨w1,w2,w3⟩:=hc3.hat.conc.fr Wg _ h3.frw;have hrc : V3.role.chan ≠ some Wg:=by rw [h3.role]; intro e; cases e; exact hc3.ne rfl
 refine zaV (zcp rfl rfl (zpp rfl rfl (by kernel_rfl) ?_));have hargs : (#[Operand.tmp 5,Operand.const (.int .i64 1)] : Array Operand).map a2.eval = #[pW Wg 0,.int .i64 1]:=by
  simp only [List.map_toArray,List.map_cons,List.map_nil,e5]; rfl
 rw [hargs];refine (zqe (n:=i) (sm:=zok Try.prog) (by omega) w1 w2 hrc hc3.deaf).mono fun o V4 hV => ?_;obtain ⟨rfl,rfl⟩:=hV;dsimp only;refine zjL ?_;let wg' : Obj:=zjD Try.prog (((i + 1 : Nat) : Int) * 4294967296) 0;show WP true Try.prog none _ _ (a2.put (some 22) (.tuple #[])) (V3.upd Wg wg');have con4:=hc3.hat.conc.frUpd h3.frw wg';let f4 : Nat -> Option Obj:=fun b' => if b' = Wg then some wg' else E3.fr b';have hc4 : NrC x Hs E c Wg rv fv zhH ((6,.op (Hs.length + 5) 0) :: zlT x Hs Wg i) [.part 1 [iv i] 3] (E3.frame f4) (V3.upd Wg wg') (a2.put (some 22) (.tuple #[])):=by
  refine ⟨⟨con4,fun t av e => ?_,(zaA a2 (some 22) _).trans hc3.hat.size⟩,hc3.lo.trans (Env.lo_frame E3 f4),hc3.main,(zaw a2 _ _).trans hc3.defers,hc3.deaf,hc3.er,hc3.ef,hc3.dr.frame f4,hc3.df.frame f4,fun b y e => ?_,hc3.ne⟩
  ·have hne : t ≠ 22:=by
    intro et; subst et;simp [zlT,look] at e
   have:=((hc3.hat.tok.frame f4).put (d:=22) (a:=.tup []) (v:=.tuple #[]) (by rw [hc3.hat.size]; omega) (.tup rfl (by simp))) t av (by simp only [look]; rw [if_neg (Ne.symm hne)]; exact e);exact this
  ·obtain ⟨q1,q2,q3⟩:=hc3.fr b y e;exact ⟨by show (if b = Wg then _ else _) = _; rw [if_neg q3]; exact q1,q2,q3⟩
 have dk4 : Den (E3.frame f4) (.rp [iv i]) (.pointer (some ⟨(E3.frame f4).blk (Hs.length + 5),0,none⟩)):=by
  have hl : Hs.length + 5 < E2.n:=by rw [hc2.hat.conc.n]; simp [zfC]
  have e : (E3.frame f4).blk (Hs.length + 5) = E2.blk (Hs.length + 5):=le3.blk _ hl;rw [e];exact den3.frame f4
 have ro4 : (V3.upd Wg wg').role = .fork c Wg (zhI x (List.replicate i 0)):=h3.role;have frc4 : (E3.frame f4).fr c = some zm9:=by
  show (if c = Wg then _ else _) = _;rw [if_neg hc3.ne]; exact h3.frc
 have frw4 : (E3.frame f4).fr Wg = some wg':=by
  show (if Wg = Wg then _ else _) = _;rw [if_pos rfl]
 generalize E3.frame f4 = E4 at hc4 dk4 frc4 frw4;generalize V3.upd Wg wg' = V4 at hc4 ro4;generalize a2.put (some 22) (.tuple #[]) = a4 at hc4;clear con4;refine zbW (K:=fun s' => look s'.T 23 = some (.fn (.func 46) [] [.val (pW Wg 0),.op (Hs.length + 2) 0,.op (Hs.length + 5) 0,.op (Hs.length + 3) 0]) /\ s'.Sub ⟨zlT x Hs Wg i,Hs ++ (zfC x Hs.length c zhH ++ [.part 1 [iv i] 3])⟩) 1 1 rfl (by kernel_rfl) hc4.hat ?_ fun E5 V5 a5 s5 hk5 hat5 hK => ?_
 ·unfold zlT zfC;(try simp only [seval,List.mapM_cons,List.mapM_nil,Option.pure_def,Option.bind_eq_bind]);exact zlN (by simp only [seval]; simp [zaf,Wk.refl]) rfl
 obtain ⟨l23,hsub⟩:=hK;have hat5':=hat5.sub hsub;have hc5:=hc4.step hk5 hat5';have ro5 : V5.role = .fork c Wg (zhI x (List.replicate i 0)):=hk5.role.trans ro4;have frc5 : E5.fr c = some zm9:=by rw [hk5.le.fr]; exact frc4
 have frw5 : E5.fr Wg = some wg':=by rw [hk5.le.fr]; exact frw4
 have dk5:=dk4.mono hk5.le;have hl4 : Hs.length + 5 < E4.n:=by rw [hc4.hat.conc.n]; simp [zfC]
 refine zdB rfl rfl ?_;obtain ⟨c1,c2,c3⟩:=hc5.hat.conc.fr c _ frc5;obtain ⟨v1,v2,v3⟩:=hc5.hat.conc.fr Wg _ frw5;have e23 : a5.eval (.tmp 23) = .func (.func 46) #[] #[pW Wg 0,rv,.pointer (some ⟨E5.blk (Hs.length + 5),0,none⟩),fv]:=by
  obtain ⟨fa,ca,q1,q2,q3⟩:=zqF (hat5.tok 23 _ l23).2;rw [zed q2] at q1;refine q1.trans ?_;have hs4 : ca.size = 4:=q3.1;have k0:=zc8 (q3.2 0 _ rfl);have k1:=zgO (q3.2 1 _ rfl);have k2:=zgO (q3.2 2 _ rfl);have k3:=zgO (q3.2 3 _ rfl);rw [<- hc5.er] at k1;rw [<- hc5.ef] at k3;congr 1;refine Array.ext hs4 fun j h1 h2 => ?_;have hj : j = 0 \/ j = 1 \/ j = 2 \/ j = 3:=by omega
  rw [Array.getD_eq_getD_getElem?,Array.getElem?_eq_getElem (by omega)] at k0 k1 k2 k3;rcases hj with rfl | rfl | rfl | rfl
  ·exact k0
  ·exact k1
  ·exact k2
  ·exact k3
 refine ⟨rfl,.tmp 23,46,#[],_,rfl,e23,hc5.deaf,.inl ⟨c,Wg,zhI x (List.replicate i 0),spOf x i 0,zfN x i 1,ro5,c1,?_,?_,v2,fun J0 C => ?_,?_⟩⟩
 ·rw [v1,zc1,List.length_replicate]
 ·rw [zc1,List.length_replicate]; omega
 ·have hb : E5.blk (Hs.length + 5) = E4.blk (Hs.length + 5):=hk5.le.blk _ hl4;rw [hb];obtain ⟨y,hy⟩:=zaE hi;have:=zjO (J:=J0) (V:={ imm:=V5.imm,own:=fun _ => none,deaf:=0,role:=.work c Wg (zfN x i 0) }) C hx hy hsm (zk6 hc5.hat.conc.I rfl rfl) (hc5.dr.bare (zpw x)) (dk5.bare (by simp [zi9,zap])) (hc5.df.bare (by simp [zi9,zap])) rfl rfl rfl;rw [zbC (by omega)] at this;simpa using this
 let V6 : View:={ V5 with role:=.fork c Wg (zhI x (List.replicate i 0) ++ [spOf x i 0 :: zfN x i 1]) };have con6 : Conc (E5.frame E5.fr) V6 (Hs ++ (zfC x Hs.length c zhH ++ [.part 1 [iv i] 3])):=by
  refine hc5.hat.conc.reframe (V':=V6) _ rfl (fun _ _ _ _ _ _ h => h) (fun g hg => ?_) (fun g hg => ?_) (fun hm => by rw [hc5.main] at hm; cases hm) hc5.hat.conc.fr
  ·cases hg;exact ⟨by show V5.own Wg ≠ none; rw [v1]; simp,v2,v3⟩
  ·cases hg;exact ⟨by show V5.own c ≠ none; rw [c1]; simp,c2,c3⟩
 have hc6 : NrC x Hs E c Wg rv fv zhH (zlT x Hs Wg i) [.part 1 [iv i] 3] E5 V6 (a5.put none undef):=⟨⟨con6,hc5.hat.tok,hc5.hat.size⟩,hc5.lo,hc5.main,hc5.defers,hc5.deaf,hc5.er,hc5.ef,hc5.dr,hc5.df,hc5.fr,hc5.ne⟩;show WP true Try.prog none _ _ (a5.put none undef) V6;refine hc6.to (zlT x Hs Wg (i + 1)) zhH [.part 1 [iv i] 3] ?_ fun E7 V7 a7 hk7 hc7 => ?_
 ·unfold zlT zfC;have hw : IntKind.i64.wrap ((i : Int) + 1) = (i : Int) + 1:=zau _ (by omega);refine zl5 ?_;simp only [seval,hw];exact zlN (by simp only [seval]; simp [zaf,Wk.refl]) rfl
 have hcut:=hc7.cut (T':=zlT x Hs Wg (i + 1)) hEn (by
  unfold zlT;simp only [List.forall_mem_cons,List.not_mem_nil,false_imp_iff,implies_true,and_true,look,Nat.reduceEqDiff,if_false,if_true,Option.some.injEq,exists_eq_left',Wk.refl,true_and,zap,lt_op];omega) hok
 refine hQ _ V7 a7 ⟨hcut,?_,?_,?_⟩
 ·rw [hk7.role,zgi,zbC (i:=0) (by omega)]
 ·show E7.fr c = _;rw [hk7.le.fr]; exact frc5
 ·show E7.fr Wg = _;rw [hk7.le.fr]; exact frw5
end
def ziC (x : Ring) (is : List Nat) : List AV:=(List.range 4).flatMap fun k => (List.range 3).map fun w => uv (if w < is.getD k 0 then zg4 x k w else 0)
theorem zhs (x : Ring) (is : List Nat) : (ziC x is).length = 12:=rfl
theorem zi4 (x : Ring) (is : List Nat) : ∀ a ∈ ziC x is,∀ n,Lt n a:=by
 intro a ha n;obtain ⟨k,_,h⟩:=List.mem_flatMap.1 ha;obtain ⟨w,_,rfl⟩:=List.mem_map.1 h;exact .val _
theorem zgt (x : Ring) (n : Nat) : ziC x (List.replicate n 0) = zhH:=by
 have h : ∀ k,(List.replicate n 0).getD k 0 = 0:=fun k => by
  rw [List.getD_eq_getElem?_getD,List.getElem?_replicate]; split <;> rfl
 unfold ziC;simp only [h,Nat.not_lt_zero,if_false];rfl
theorem zhr (x : Ring) (is : List Nat) {j i : Nat} (hj : j < 4) (hi : i < 3) (hji : is[j]? = some i) : putAt (x.l ++ ziC x is) (4 + j * 3 + i) [uv (zg4 x j i)] = x.l ++ ziC x (is.set j (i + 1)):=by
 have hl : x.l.length = 4:=rfl;have hget : ∀ k,(is.set j (i + 1)).getD k 0 = if k = j then i + 1 else is.getD k 0:=fun k => by
  rw [List.getD_eq_getElem?_getD,List.getElem?_set,List.getD_eq_getElem?_getD];by_cases h : j = k
  ·subst h;rw [if_pos rfl,if_pos (get_lt hji),if_pos rfl]; rfl
  ·rw [if_neg h,if_neg (fun e => h e.symm)]
 have hgj : is.getD j 0 = i:=by rw [List.getD_eq_getElem?_getD,hji]; rfl
 unfold ziC;simp only [hget];rcases (show j = 0 \/ j = 1 \/ j = 2 \/ j = 3 by omega) with rfl | rfl | rfl | rfl <;> rcases (show i = 0 \/ i = 1 \/ i = 2 by omega) with rfl | rfl | rfl <;>
  simp [putAt,Ring.l,List.range_succ,hgj,hji]
theorem zht (x : Ring) {is : List Nat} (hlen : is.length = x.keys.length) (h : ∀ i ∈ is,i = 3) : ziC x is = zgv x:=by
 unfold ziC zgv;rw [List.flatMap_def,List.flatMap_def];congr 1;refine List.map_congr_left fun k _ => List.map_congr_left fun w hw => ?_;have hw3 : w < 3:=by simpa using hw
 by_cases hk : k < is.length
 ·have : is.getD k 0 = 3:=by
   rw [List.getD_eq_getElem?_getD,List.getElem?_eq_getElem hk];exact h _ (List.getElem_mem hk)
  rw [this,if_pos hw3]
 ·have e : x.keys[k]? = none:=List.getElem?_eq_none (by omega);have : zg4 x k w = 0:=by unfold zg4; rw [e]
  rw [this]; simp
theorem zhe {x : Ring} {is : List Nat} {j : Nat} {S : List Spec} (h : (zhI x is)[j]? = some S) : ∃ i,is[j]? = some i /\ S = zfN x j i:=by
 unfold zhI at h;rw [List.getElem?_mapIdx] at h;obtain ⟨i,h1,h2⟩:=Option.map_eq_some_iff.1 h;exact ⟨i,h1,h2.symm⟩
theorem zhd (x : Ring) (is : List Nat) (j i : Nat) : (zhI x is).set j (zfN x j i) = zhI x (is.set j i):=by
 apply List.ext_getElem?;intro k;unfold zhI;rw [List.getElem?_set,List.getElem?_mapIdx,List.getElem?_mapIdx,List.getElem?_set,List.length_mapIdx];by_cases h : j = k
 ·subst h;simp only [if_true];split <;> rfl
 ·rw [if_neg h,if_neg h]
noncomputable def zlC (Hs : List AObj) : List (Nat × AV):=[(4,.op (Hs.length + 3) 0),(3,.op (Hs.length + 2) 0)]
structure NrR (x : Ring) (Hs : List AObj) (E : Env) (c Wg : Nat) (rv fv : Value) (is : List Nat) (T : List (Nat × AV)) (G : List AObj) (E' : Env) (V' : View) (a' : Act) : Prop where
 ok : NrC x Hs E c Wg rv fv (ziC x is) T G E' V' a'
 role : V'.role = .recv c Wg (zhI x is)
 len : is.length = x.keys.length
 le : ∀ i ∈ is,i <= 3
noncomputable def zor : Code:=ci (ci (cf (cs (cs zlz))))
section
variable {x : Ring} {Hs : List AObj} {E : Env} {c Wg : Nat} {is : List Nat} {rv fv : Value} {T T' : List (Nat × AV)} {G G' : List AObj} {E1 E2 : Env} {V1 V2 : View} {a1 a2 : Act}
theorem zkq (hx : x.Ok) (hEn : E.n <= Hs.length) (hHs : HOk Hs) (h : NrR x Hs E c Wg rv fv is (zlC Hs) [] E1 V1 a1) {Q : Ex -> Act -> View -> Prop}
  (hQ : ∀ j i E2 V2 a2,is[j]? = some i -> i < 3 -> NrR x Hs E c Wg rv fv (is.set j (i + 1)) (zlC Hs) [] E2 V2 a2 -> Q .normal a2 V2)
  (hQ2 : ∀ E2 V2 a2 G,NrC x Hs E c Wg rv fv (zgv x) (zlC Hs) G E2 V2 a2 -> V2.role = .plain -> Q (.exit 2) a2 V2) : WP true Try.prog none zor Q a1 V1:=by
 have h4 : x.keys.length <= 4:=hx.keys;refine zbS (id:=3) (zaV ?_);refine zbW (K:=fun s' => look s'.T 27 = some (.val (.chan (some c))) /\ s'.Sub ⟨zlC Hs,Hs ++ (zfC x Hs.length c (ziC x is) ++ [])⟩) 1 7 rfl (by kernel_rfl) h.ok.hat ?_ fun E3 V3 a3 s3 hk3 hat3 hK => ?_
 ·unfold zlC zfC;(try simp only [seval]);exact zlN (by simp only [seval]; simp [zaf,Wk.refl]) rfl
 obtain ⟨l27,hsub⟩:=hK;have hc3:=h.ok.step hk3 (hat3.sub hsub);have ro3 : V3.role = .recv c Wg (zhI x is):=hk3.role.trans h.role;have e27 : a3.eval (.tmp 27) = .chan (some c):=zc8 (hat3.tok 27 _ l27).2;obtain ⟨ti,hti,hzi⟩:=Option.bind_eq_some_iff.1 F.ZeroOf_124;refine zg1 rfl rfl (.inr ?_);refine ⟨rfl,c,Wg,zhI x is,.both,124,ti,_,e27,by kernel_rfl,hti,hzi,ro3,hc3.deaf,fun j sp S v Im Ow r1 r2 r3 r4 r5 => ?_,fun hS => ?_⟩
 ·
  obtain ⟨i,hji,hspec⟩:=zhe r1;have hi : i < 3:=by
   apply Classical.byContradiction;intro hn;have : i = 3:=(by have:=h.le i (zas hji); omega);subst this;rw [zhf] at hspec; cases hspec
  rw [zbC hi] at hspec;cases hspec;obtain ⟨hv,hOw⟩:=r2;have hj4 : j < 4:=by have:=get_lt hji; have:=h.len; omega
  let V4 : View:={ V3 with imm:=fun b o => match V3.imm b o with | some x => some x | none => Im b o,own:=fun b => match V3.own b with | some x => some x | none => Ow b,role:=.recv c Wg ((zhI x is).set j (zfN x j (i + 1))) };have hown : V4.own = V3.own:=by
   funext b;show (match V3.own b with | some x => some x | none => Ow b) = V3.own b;cases V3.own b with
   | none => exact hOw b
   | some x => rfl
  obtain ⟨le4,con4⟩:=hc3.hat.conc.learn (V':=V4) hown (fun b o v e => by show (match V3.imm b o with | some x => some x | none => Im b o) = some v; rw [e]) (fun b o hb e => by
   show (match V3.imm b o with | some x => some x | none => Im b o) = none;rw [e];apply Classical.byContradiction;intro hne;exact absurd e (r4 b o hb hne)) rfl rfl (fun hm => by rw [hc3.main] at hm; cases hm)
  have hden : Den { E3 with I:=V4.imm } (.tup [.agg [iv j,iv i,uv (zg4 x j i)],bv true]) (.tuple #[v,.bool true]):=by
   subst hv;refine .tup rfl fun q a e => ?_
   match q,e with
   | 0,e =>
    cases e;refine .agg rfl fun q a e => ?_
    match q,e with
    | 0,e => cases e; exact .val _
    | 1,e => cases e; exact .val _
    | 2,e => cases e; exact .val _
   | 1,e => cases e; exact .val _
  have hat4 : At { E3 with I:=V4.imm } V4 ⟨(28,.tup [.agg [iv j,iv i,uv (zg4 x j i)],bv true]) :: zlC Hs,Hs ++ (zfC x Hs.length c (ziC x is) ++ [])⟩ (a3.put (some 28) (.tuple #[v,.bool true])) 45:=⟨con4,(hc3.hat.tok.mono le4).put (by rw [hc3.hat.size]; omega) hden,(zaA a3 (some 28) _).trans hc3.hat.size⟩;have hc4 : NrC x Hs E c Wg rv fv (ziC x is) ((28,.tup [.agg [iv j,iv i,uv (zg4 x j i)],bv true]) :: zlC Hs) [] { E3 with I:=V4.imm } V4 (a3.put (some 28) (.tuple #[v,.bool true])) :=
   hc3.step' le4 (zaw a3 _ _) rfl hat4
  have ro4 : V4.role = .recv c Wg (zhI x (is.set j (i + 1))):=by
   show Role.recv c Wg ((zhI x is).set j (zfN x j (i + 1))) = _;rw [zhd]
  refine zfl ⟨(8,bv true) :: (7,.op (Hs.length + 5) 0) :: zlC Hs,Hs ++ (zfC x Hs.length c (ziC x is) ++ [.cells [iv j,iv i,uv (zg4 x j i)] 124])⟩ rfl (by kernel_rfl) hat4 ?_ fun E5 V5 a5 hk5 hat5 => ?_
  ·unfold zlC zfC;(try simp only [seval]);exact zlN (by simp only [seval]; simp [zaf,Wk.refl]) rfl
  have hc5:=hc4.step hk5 hat5;have ro5 : V5.role = .recv c Wg (zhI x (is.set j (i + 1))):=hk5.role.trans ro4;refine zaV (zaV ?_);refine hc5.to ((32,bv false) :: (7,.op (Hs.length + 5) 0) :: zlC Hs) (ziC x is) [.cells [iv j,iv i,uv (zg4 x j i)] 124] ?_ fun E6 V6 a6 hk6 hc6 => ?_
  ·unfold zlC zfC;refine zbA ?_;exact zlN (by simp only [seval]; simp [zaf,Wk.refl]) rfl
  refine zcD hc6.hat rfl ?_;refine zfm ?_;refine hc6.to (zlC Hs) (ziC x (is.set j (i + 1))) [.cells [iv j,iv i,uv (zg4 x j i)] 124] ?_ fun E7 V7 a7 hk7 hc7 => ?_
  ·have hput:=zhr x is hj4 hi hji;have b4 : (0 <= (j : Int) /\ (j : Int) < 4) = True:=(by simp; omega);have b3 : (0 <= (i : Int) /\ (i : Int) < 3) = True:=(by simp; omega);unfold zlC zfC;refine zjl 11 ?_;simp only [seval,b4,b3];refine ⟨by omega,by rw [List.length_append,zhs]; simp [Ring.l]; omega,zlN (by simp only [seval]; simp [zaf,Wk.refl]) ?_⟩;rw [<- hput];rfl
  have hcut:=hc7.cut (T':=zlC Hs) hEn (by
   unfold zlC;simp only [List.forall_mem_cons,List.not_mem_nil,false_imp_iff,implies_true,and_true,look,Nat.reduceEqDiff,if_false,if_true,Option.some.injEq,exists_eq_left',Wk.refl,true_and,lt_op];omega) (zqz hHs (zi4 x _))
  exact hQ j i _ V7 a7 hji hi ⟨hcut,by rw [hk7.role,hk6.role]; exact ro5,by rw [List.length_set]; exact h.len,fun q hq => by
   rcases List.mem_or_eq_of_mem_set hq with h' | h'
   ·exact h.le q h'
   ·omega⟩
 ·
  have hall : ∀ i ∈ is,i = 3:=fun i hi => by
   obtain ⟨j,hj⟩:=List.mem_iff_getElem?.1 hi;have hm : zfN x j i ∈ zhI x is:=by
    refine List.mem_iff_getElem?.2 ⟨j,?_⟩;unfold zhI;rw [List.getElem?_mapIdx,hj]; rfl
   have:=hS _ hm;have h3:=h.le i hi;apply Classical.byContradiction;intro hne;rw [zbC (by omega)] at this; cases this
  have hos:=zht x h.len hall;let V4 : View:={ V3 with role:=.plain };have con4 : Conc (E3.frame E3.fr) V4 (Hs ++ (zfC x Hs.length c (ziC x is) ++ [])) :=
   hc3.hat.conc.reframe (V':=V4) _ rfl (fun _ _ _ _ _ _ h => h) (fun g hg => by cases hg) (fun g hg => by cases hg) (fun hm => by rw [hc3.main] at hm; cases hm) hc3.hat.conc.fr
  have hden : Den E3 (.tup [.agg [iv 0,iv 0,uv 0],bv false]) (.tuple #[.agg #[.int .i64 0,.int .i64 0,.int .u8 0],.bool false]):=by
   refine .tup rfl fun q a e => ?_
   match q,e with
   | 0,e =>
    cases e;refine .agg rfl fun q a e => ?_
    match q,e with
    | 0,e => cases e; exact .val _
    | 1,e => cases e; exact .val _
    | 2,e => cases e; exact .val _
   | 1,e => cases e; exact .val _
  have hat4 : At E3 V4 ⟨(28,.tup [.agg [iv 0,iv 0,uv 0],bv false]) :: zlC Hs,Hs ++ (zfC x Hs.length c (ziC x is) ++ [])⟩ (a3.put (some 28) (.tuple #[.agg #[.int .i64 0,.int .i64 0,.int .u8 0],.bool false])) 45:=⟨con4,hc3.hat.tok.put (by rw [hc3.hat.size]; omega) hden,(zaA a3 (some 28) _).trans hc3.hat.size⟩;have hc4:=hc3.step' (V2:=V4) (Env.Le.refl E3) (zaw a3 (some 28) _) rfl hat4;refine zfl ⟨(8,bv false) :: zlC Hs,Hs ++ (zfC x Hs.length c (ziC x is) ++ [.cells [iv 0,iv 0,uv 0] 124])⟩ rfl (by kernel_rfl) hat4 ?_ fun E5 V5 a5 hk5 hat5 => ?_
  ·unfold zlC zfC;(try simp only [seval]);exact zlN (by simp only [seval]; simp [zaf,Wk.refl]) rfl
  have hc5:=hc4.step hk5 hat5;refine zaV (zaV ?_);refine hc5.to ((32,bv true) :: zlC Hs) (ziC x is) [.cells [iv 0,iv 0,uv 0] 124] ?_ fun E6 V6 a6 hk6 hc6 => ?_
  ·unfold zlC zfC;refine zbA ?_;exact zlN (by simp only [seval]; simp [zaf,Wk.refl]) rfl
  refine zcD hc6.hat rfl ?_;refine zfn ?_;rw [hos] at hc6;exact hQ2 E6 V6 a6 _ (hc6.step' (Env.Le.refl E6) rfl rfl ⟨hc6.hat.conc,fun t av e => hc6.hat.tok t av (by
   have hne : t ≠ 32:=by
    intro et; subst et;simp [zlC,look] at e
   simp only [look]; rw [if_neg (Ne.symm hne)]; exact e),hc6.hat.size⟩) (by rw [hk6.role,hk5.role])
end
def znA (is : List Nat) : Nat:=(is.map (3 - ·)).sum
theorem zfc : ∀ {is : List Nat} {j i : Nat},is[j]? = some i -> i < 3 -> znA (is.set j (i + 1)) < znA is
 | [],j,i,h,_ => by simp at h
 | a :: is,0,i,h,hi => by
  simp at h; subst h;simp [znA]; omega
 | a :: is,j + 1,i,h,hi => by
  have:=zfc (is:=is) (j:=j) (i:=i) (by simpa using h) hi;simp only [znA,List.set_cons_succ,List.map_cons,List.sum_cons] at this ⊢;omega
section
variable {x : Ring} {Hs : List AObj} {E : Env} {c Wg : Nat} {rv fv : Value} {T : List (Nat × AV)} {E1 : Env} {V1 : View} {a1 : Act}
theorem zrk (hx : x.Ok) (hsm : x.Small) (hEn : E.n <= Hs.length) (hHs : HOk Hs) (h : NrF x Hs E c Wg rv fv 0 [(5,.val (pW Wg 0)),(4,.op (Hs.length + 3) 0),(3,.op (Hs.length + 2) 0)] [] E1 V1 a1) {Q : Ex -> Act -> View -> Prop}
  (hQ : ∀ E2 V2 a2 G,At E2 V2 ⟨[(2,.rp (x.l ++ zgv x))],Hs ++ G⟩ a2 45 -> E.Lo E2 -> a2.defers = [] -> V2.deaf = 0 -> V2.role = .plain -> (∀ b y,E.fr b = some y -> E2.fr b = some y) -> Q .ret a2 V2) : WP true Try.prog none zlz Q a1 V1:=by
 have h4 : x.keys.length <= 4:=hx.keys;have hokz : HOk (Hs ++ zfC x Hs.length c zhH):=zqz hHs (fun a ha n => by
  have:=List.eq_of_mem_replicate ha;subst this; exact .val _)
 refine zaV (x:=cf zlz) (zaV (x:=cf (cf zlz)) ?_);refine h.ok.to (zlT x Hs Wg 0) zhH [] ?_ fun E2 V2 a2 hk2 hc2 => ?_
 ·show AWP true Try.prog none 45 (cf (cf zlz)) _ _;unfold zlT zfC;have hlk : x.l = [iv x.cuts,zlD x.keys,zli x.locks,zl1 x.tries]:=rfl;refine zl5 ?_;simp only [seval,hlk,zlD];exact zlN (by simp only [seval]; simp [zaf,Wk.refl]) rfl
 have h2 : NrF x Hs E c Wg rv fv 0 (zlT x Hs Wg 0) [] E2 V2 a2:=h.step hk2 hc2;refine zbS (id:=0) (c:=.loop (ci (ci (cs (cf zlz))))) ?_;refine zg2 (fun m a' V' => ∃ E' i,m = x.keys.length - i /\ i <= x.keys.length /\ NrF x Hs E c Wg rv fv i (zlT x Hs Wg i) [] E' V' a') x.keys.length ⟨E2,0,rfl,by omega,h2⟩ fun m a3 V3 hI => ?_;obtain ⟨E3,i,rfl,hi,h3⟩:=hI;refine zaV (x:=cf (ci (ci (cs (cf zlz))))) (y:=cs (ci (ci (cs (cf zlz))))) ?_;refine h3.ok.to ((20,bv (decide ((i : Int) < x.keys.length))) :: zlT x Hs Wg i) zhH [] ?_ fun E4 V4 a4 hk4 hc4 => ?_
 ·show AWP true Try.prog none 45 (cf (ci (ci (cs (cf zlz))))) _ _;unfold zlT zfC;refine zbA ?_;exact zlN (by simp only [seval]; simp [zaf,Wk.refl]) rfl
 have h4':=h3.step hk4 hc4;refine zaV (x:=.cond (.tmp 20) .skip (.exit 0)) (y:=cs (cs (ci (ci (cs (cf zlz)))))) (zcD hc4.hat rfl ?_);by_cases hik : i < x.keys.length
 ·rw [show decide ((i : Int) < x.keys.length) = true by simpa using hik];refine zfm ?_;have hc4w : NrC x Hs E c Wg rv fv zhH (zlT x Hs Wg i) [] E4 V4 a4:=hc4.step' (Env.Le.refl E4) rfl rfl (hc4.hat.sub (zlN (by unfold zlT zfC; simp only [seval]; simp [zaf,Wk.refl]) rfl));exact zkr hx hsm hEn hokz ⟨hc4w,h4'.role,h4'.frc,h4'.frw⟩ hik rfl fun E5 V5 a5 h5 => ⟨x.keys.length - (i + 1),by omega,E5,i + 1,rfl,by omega,h5⟩
 have hie : i = x.keys.length:=by omega
 subst hie;rw [show decide (((x.keys.length : Nat) : Int) < x.keys.length) = false by simp];refine zfn ?_;refine zaV (x:=cf (cs zlz)) (y:=cs (cs zlz)) ?_;refine zbW (K:=fun s' => look s'.T 25 = some (.fn (.func 51) [] [.val (pW Wg 0),.op (Hs.length + 3) 0]) /\ s'.Sub ⟨zlC Hs,Hs ++ (zfC x Hs.length c zhH ++ [])⟩) 1 1 rfl (by kernel_rfl) hc4.hat ?_ fun E5 V5 a5 s5 hk5 hat5 hK => ?_
 ·unfold zlT zfC zlC;(try simp only [seval,List.mapM_cons,List.mapM_nil,Option.pure_def,Option.bind_eq_bind]);exact zlN (by simp only [seval]; simp [zaf,Wk.refl]) rfl
 obtain ⟨l25,hsub⟩:=hK;have hc5:=hc4.step hk5 (hat5.sub hsub);have ro5 : V5.role = .fork c Wg (zhI x (List.replicate x.keys.length 0)):=hk5.role.trans h4'.role;have frc5 : E5.fr c = some zm9:=by rw [hk5.le.fr]; exact h4'.frc
 have frw5 : E5.fr Wg = some (zjD Try.prog ((x.keys.length : Int) * 4294967296) 0):=by rw [hk5.le.fr]; exact h4'.frw
 obtain ⟨c1,c2,c3⟩:=hc5.hat.conc.fr c _ frc5;obtain ⟨v1,v2,v3⟩:=hc5.hat.conc.fr Wg _ frw5;have e25 : a5.eval (.tmp 25) = .func (.func 51) #[] #[pW Wg 0,fv]:=by
  obtain ⟨fa,ca,q1,q2,q3⟩:=zqF (hat5.tok 25 _ l25).2;rw [zed q2] at q1;refine q1.trans ?_;have hs2 : ca.size = 2:=q3.1;have k0:=zc8 (q3.2 0 _ rfl);have k1:=zgO (q3.2 1 _ rfl);rw [<- hc5.ef] at k1;congr 1;refine Array.ext hs2 fun j h1 h2 => ?_;have hj : j = 0 \/ j = 1:=by omega
  rw [Array.getD_eq_getD_getElem?,Array.getElem?_eq_getElem (by omega)] at k0 k1;rcases hj with rfl | rfl
  ·exact k0
  ·exact k1
 have hfc : V5.imm (E5.blk (Hs.length + 3)) 0 = some (.chan (some c)):=by
  have hdf:=hc5.df;rw [hc5.ef] at hdf;generalize hp : (Value.pointer (some ⟨E5.blk (Hs.length + 3),0,none⟩)) = pv at hdf;cases hdf with
  | rp b o f h1 h2 =>
   cases hp;have:=h1 0 (by simp);rw [hc5.hat.conc.I] at this;rw [Nat.add_zero] at this;rw [this,zc8 (h2 0 _ rfl)]
 refine zdB rfl rfl ?_;refine ⟨rfl,.tmp 25,51,#[],_,rfl,e25,hc5.deaf,.inr ⟨c,Wg,_,ro5,hc5.ne,c1,?_,c2,v2,?_,?_⟩⟩
 ·rw [v1,zc1,List.length_replicate]
 ·have:=zk7 Wg (E5.blk (Hs.length + 3)) c (Im:=V5.imm) hfc;rw [hc5.ef];simpa [pW] using this
 let V6 : View:={ V5 with own:=fun b => if b = c \/ b = Wg then none else V5.own b,role:=.recv c Wg (zhI x (List.replicate x.keys.length 0)) };let f6 : Nat -> Option Obj:=fun b => if b = c \/ b = Wg then none else E5.fr b;have con6 : Conc (E5.frame f6) V6 (Hs ++ (zfC x Hs.length c zhH ++ [])):=by
  refine hc5.hat.conc.reframe (V':=V6) _ rfl (fun b z k w hk hbk hz => ?_) (fun g hg => by cases hg) (fun g hg => by cases hg) (fun hm => by rw [hc5.main] at hm; cases hm) (fun b y hb => ?_)
  ·have n1 : b ≠ c:=hc5.hat.conc.notFr frc5 hk hbk;have n2 : b ≠ Wg:=hc5.hat.conc.notFr frw5 hk hbk;show (if b = c \/ b = Wg then none else V5.own b) = some z;rw [if_neg (fun e => e.elim n1 n2)]; exact hz
  ·by_cases hbc : b = c \/ b = Wg
   ·simp only [f6,if_pos hbc] at hb; cases hb
   ·simp only [f6,if_neg hbc] at hb;obtain ⟨q1,q2,q3⟩:=hc5.hat.conc.fr b y hb;refine ⟨?_,q2,q3⟩;show (if b = c \/ b = Wg then none else V5.own b) = some y;rw [if_neg hbc]; exact q1
 have hc6 : NrC x Hs E c Wg rv fv zhH (zlC Hs) [] (E5.frame f6) V6 (a5.put none undef):=by
  refine ⟨⟨con6,hc5.hat.tok.frame _,hc5.hat.size⟩,hc5.lo.trans (Env.lo_frame E5 f6),hc5.main,hc5.defers,hc5.deaf,hc5.er,hc5.ef,hc5.dr.frame f6,hc5.df.frame f6,fun b y e => ?_,hc5.ne⟩;obtain ⟨q1,q2,q3⟩:=hc5.fr b y e;refine ⟨?_,q2,q3⟩;show (if b = c \/ b = Wg then none else E5.fr b) = some y;rw [if_neg (fun e => e.elim q2 q3)]; exact q1
 rw [<- zgt x x.keys.length] at hc6;show WP true Try.prog none (.seq (.block 2 (.loop zor)) (cs (cs (cs zlz)))) Q (a5.put none undef) V6;refine zaV (zbS ?_);refine zg2 (fun m a' V' => ∃ E' is,m = znA is /\ NrR x Hs E c Wg rv fv is (zlC Hs) [] E' V' a') _ ⟨_,_,rfl,⟨hc6,rfl,by simp,fun i hi => by rw [List.eq_of_mem_replicate hi]; omega⟩⟩ fun m a7 V7 hI => ?_;obtain ⟨E7,is,rfl,h7⟩:=hI;refine zkq hx hEn hHs h7 (fun j i E8 V8 a8 hji hi h8 => ⟨_,zfc hji hi,E8,_,rfl,h8⟩) fun E8 V8 a8 G hc8 ro8 => ?_;show WP true Try.prog none (cs (cs (cs zlz))) Q a8 V8;obtain ⟨V9,g9,o9,r9,d9,le9,con9,den9⟩:=hc8.hat.conc.pubRest (id:=Hs.length + 1) (p:=4) (l:=x.l ++ zgv x) (el:=71) (by rw [zbD]; rfl);rw [zcT] at con9;refine WP.ghost g9 ?_;have hat9 : At { E8 with I:=V9.imm } V9 ⟨zlC Hs,Hs ++ ((zfC x Hs.length c (zgv x) ++ G).set 1 .gone)⟩ a8 45:=⟨con9,hc8.hat.tok.mono le9,hc8.hat.size⟩;have hln : Hs.length + 1 < E8.n:=by rw [hc8.hat.conc.n]; simp [zfC]
 refine zaV (x:=cf (cs (cs (cs zlz)))) (y:=.ret) ?_;refine zcX ⟨[(2,.op (Hs.length + 1) 0)],Hs ++ ((zfC x Hs.length c (zgv x) ++ G).set 1 .gone)⟩ hat9 ?_ fun E10 V10 a10 hk10 hat10 => ?_
 ·show AWP true Try.prog none 45 (cf (cs (cs (cs zlz)))) _ _;unfold zlC zfC;refine zbA ?_;exact zlN (by simp only [seval]; simp [zaf,Wk.refl]) rfl
 refine zqt ?_;have e2:=hat10.val_of_op (t:=2) (id:=Hs.length + 1) (off:=0) rfl;have hb : E10.blk (Hs.length + 1) = E8.blk (Hs.length + 1):=hk10.le.blk _ hln;refine hQ E10 V10 a10 ((zfC x Hs.length c (zgv x) ++ G).set 1 .gone) ⟨hat10.conc,fun t av e => ?_,hat10.size⟩ ((hc8.lo.trans le9.lo).trans hk10.le.lo) (hk10.defers.trans hc8.defers) (hk10.deaf.trans (d9.trans hc8.deaf)) (hk10.role.trans (r9.trans ro8)) (fun b y e => by rw [hk10.le.fr]; exact (hc8.fr b y e).1);simp only [look] at e;split at e
 ·rename_i et;subst et;cases e;refine ⟨by rw [hat10.size]; omega,?_⟩;have : a10.tmps.getD 2 undef = .pointer (some ⟨E8.blk (Hs.length + 1),0,none⟩):=by rw [<- hb]; exact e2
  rw [this];exact den9.mono hk10.le
 ·cases e
theorem zaQ : zmr true:=by
 intro x H k kp hm hc0 hs hk E V vs hc hd;have hx : x.Ok:=zbH.1 hc0;have hEm : E.main = true:=hc.obj 0 _ hm;obtain ⟨hrole,hdeaf⟩:=hc.top hEm;have hn : E.n = H.length:=hc.n;refine zfh (by simp) F.f40 rfl ?_;have hat0 : At (E.setMain false) V ⟨[(0,x.av)],H.map zmv⟩ { tmps:=vs ++ Array.replicate (Try.f40.ntmps - vs.size) undef,defers:=[] } 45:=by
  have:=zeU (nt:=45) hc hd (by simp);exact ⟨hc.demain,this.tok.setMain false,this.size⟩
 have hlen : (H.map zmv).length = H.length:=List.length_map _;have hokS : HOk (H.map zmv):=hat0.conc.hok
 suffices hmain : ∀ Hs,H.map zmv = Hs -> WP true Try.prog none zmg (Ends Try.prog Try.f40 (RetC E V k kp)) { tmps:=vs ++ Array.replicate (Try.f40.ntmps - vs.size) undef,defers:=[] } V from hmain _ rfl
 intro Hs hHs;rw [hHs] at hat0 hlen hokS;have had0 : ({ tmps:=vs ++ Array.replicate (Try.f40.ntmps - vs.size) undef,defers:=[] } : Act).defers = []:=rfl;generalize ({ tmps:=vs ++ Array.replicate (Try.f40.ntmps - vs.size) undef,defers:=[] } : Act) = a0 at hat0 had0;refine zaV (x:=cf zmg) (y:=cs zmg) ?_;refine zcX ⟨[(1,.op Hs.length 0)],Hs ++ [.cells x.l 30]⟩ hat0 ?_ fun E1 V1 a1 hk1 hat1 => ?_
 ·show AWP true Try.prog none 45 (cf zmg) _ _;simp only [Ring.av];refine zl5 ?_;simp only [seval,Ring.l];exact zlN (by simp only [seval]; simp [zaf,Wk.refl]) rfl
 refine zaV (x:=cf (cs zmg)) (y:=cs (cs zmg)) ?_;refine zcX ⟨[(3,.op (Hs.length + 2) 0)],Hs ++ [.cells x.l 30,.cells (x.l ++ zhH) 71,.cells [.op (Hs.length + 1) 0] 58]⟩ hat1 ?_ fun E2 V2 a2 hk2 hat2 => ?_
 ·show AWP true Try.prog none 45 (cf (cs zmg)) _ _;refine zl5 ?_;simp only [seval,Ring.l];exact zlN (by simp only [seval]; simp [zaf,Wk.refl]) rfl
 obtain ⟨ti,hti⟩ : ∃ i,Try.prog.info? 124 = some i:=Option.isSome_iff_exists.1 (by kernel_rfl);refine zaV (x:=cf (cs (cs zmg))) (y:=cs (cs (cs zmg))) (zcp rfl rfl (zgs rfl (d:=.both) (el:=124) (by kernel_rfl) hti fun c hcf => ?_));let f3 : Nat -> Option Obj:=fun b => if b = c then some zm9 else E2.fr b;have hat3 : At (E2.frame f3) (V2.upd c zm9) ⟨[(12,.val (.chan (some c))),(3,.op (Hs.length + 2) 0)],Hs ++ [.cells x.l 30,.cells (x.l ++ zhH) 71,.cells [.op (Hs.length + 1) 0] 58]⟩ (a2.put (some 12) (.chan (some c))) 45 :=
  ⟨hat2.conc.frNew hcf zm9,(hat2.tok.frame _).put (by rw [hat2.size]; omega) (.val _),(zaA a2 (some 12) _).trans hat2.size⟩
 refine zfl ⟨[(4,.op (Hs.length + 3) 0),(3,.op (Hs.length + 2) 0)],Hs ++ [.cells x.l 30,.cells (x.l ++ zhH) 71,.cells [.op (Hs.length + 1) 0] 58,.cells [.val (.chan (some c))] 108]⟩ rfl (by kernel_rfl) hat3 ?_ fun E4 V4 a4 hk4 hat4 => ?_
 ·(try simp only [seval,zpm,zoO,zrw]);exact zlN (by simp only [seval]; simp [zaf,Wk.refl]) rfl
 refine zaV (x:=cf (cs (cs (cs zmg)))) (y:=zlz) ?_;refine zcX ⟨[(5,.op (Hs.length + 4) 0),(4,.op (Hs.length + 3) 0),(3,.op (Hs.length + 2) 0)],Hs ++ [.cells x.l 30,.cells (x.l ++ zhH) 71,.cells [.op (Hs.length + 1) 0] 58,.cells [.val (.chan (some c))] 108,.cells [.val (.int .u64 0),.val (.int .u32 0)] 117]⟩ hat4 ?_ fun E5 V5 a5 hk5 hat5 => ?_
 ·show AWP true Try.prog none 45 (cf (cs (cs (cs zmg)))) _ _;refine zbA ?_;exact zlN (by simp only [seval]; simp [zaf,Wk.refl]) rfl
 obtain ⟨wcs,hwd,hwo,hwi,hcon6⟩:=hat5.conc.frOf (id:=Hs.length + 4) (zbD _ _ 4);have hwcs:=zeK (l:=[.int .u64 0,.int .u32 0]) hwd;subst hwcs;rw [zcT] at hcon6;simp only [List.set_cons_succ,List.set_cons_zero] at hcon6;have e5v:=hat5.val_of_op (t:=5) (id:=Hs.length + 4) (off:=0) rfl;have fr5 : E5.fr = f3:=hk5.le.fr.trans hk4.le.fr;have frc5 : E5.fr c = some zm9:=by rw [fr5]; simp [f3]
 have hne : c ≠ E5.blk (Hs.length + 4):=fun e => hat5.conc.notFr frc5 (zbD Hs _ 4) rfl e.symm;have frE : ∀ b y,E.fr b = some y -> E5.fr b = some y /\ b ≠ c /\ b ≠ E5.blk (Hs.length + 4):=fun b y hb => by
  have h2 : E2.fr b = some y:=by rw [hk2.le.fr,hk1.le.fr]; exact hb
  have hbc : b ≠ c:=fun e => by subst e; have:=(hat2.conc.fr b y h2).1; rw [hcf.1] at this; cases this
  have h5 : E5.fr b = some y:=by rw [fr5]; simp [f3,hbc,h2]
  exact ⟨h5,hbc,fun e => hat5.conc.notFr h5 (zbD Hs _ 4) rfl e.symm⟩
 generalize hWg : E5.blk (Hs.length + 4) = Wg at hwo hwi hcon6 e5v hne frE;let f6 : Nat -> Option Obj:=fun b' => if b' = Wg then some (zjD Try.prog 0 0) else E5.fr b';have hcon6' : Conc (E5.frame f6) V5 (Hs ++ [.cells x.l 30,.cells (x.l ++ zhH) 71,.cells [.op (Hs.length + 1) 0] 58,.cells [.val (.chan (some c))] 108,.gone]):=by
  have : (fun b' => if b' = Wg then some (Obj.cells #[.int .u64 0,.int .u32 0] 117 (0,0)) else E5.fr b') = f6:=by
   funext b';simp only [f6,zjD,wgT]
  rw [<- this]; exact hcon6
 have hat6 : At (E5.frame f6) V5 ⟨[(5,.val (pW Wg 0)),(4,.op (Hs.length + 3) 0),(3,.op (Hs.length + 2) 0)],Hs ++ [.cells x.l 30,.cells (x.l ++ zhH) 71,.cells [.op (Hs.length + 1) 0] 58,.cells [.val (.chan (some c))] 108,.gone]⟩ a5 45:=by
  refine ⟨hcon6',fun t av e => ?_,hat5.size⟩;simp only [look] at e;split at e
  ·rename_i et;subst et; cases e;refine ⟨by rw [hat5.size]; omega,?_⟩;have : a5.tmps.getD 5 undef = pW Wg 0:=e5v;rw [this]; exact .val _
  ·split at e
   ·rename_i et; subst et; cases e;exact (hat5.tok.frame f6) 4 _ rfl
   ·split at e
    ·rename_i et; subst et; cases e;exact (hat5.tok.frame f6) 3 _ rfl
    ·cases e
 clear hcon6 hcon6';have lo6 : E.Lo (E5.frame f6):=(((((E.lo_main false).trans hk1.le.lo).trans hk2.le.lo).trans (Env.lo_frame E2 f3)).trans (hk4.le.lo.trans hk5.le.lo)).trans (Env.lo_frame E5 f6);have main6 : (E5.frame f6).main = false:=hk5.le.main.trans (hk4.le.main.trans (hk2.le.main.trans hk1.le.main));have def6 : a5.defers = []:=hk5.defers.trans (hk4.defers.trans ((zaw a2 _ _).trans (hk2.defers.trans (hk1.defers.trans had0))));have ro6 : V5.role = .plain:=hk5.role.trans (hk4.role.trans (hk2.role.trans (hk1.role.trans hrole)));have de6 : V5.deaf = 0:=hk5.deaf.trans (hk4.deaf.trans (hk2.deaf.trans (hk1.deaf.trans hdeaf)));have frc6 : (E5.frame f6).fr c = some zm9:=by show f6 c = _; simp only [f6,if_neg hne]; exact frc5
 have frw6 : (E5.frame f6).fr Wg = some (zjD Try.prog 0 0):=by show f6 Wg = _; simp [f6]
 have frE6 : ∀ b y,E.fr b = some y -> (E5.frame f6).fr b = some y /\ b ≠ c /\ b ≠ Wg:=fun b y hb => by
  obtain ⟨q1,q2,q3⟩:=frE b y hb;refine ⟨?_,q2,q3⟩;show f6 b = _;simp only [f6,if_neg q3]; exact q1
 generalize E5.frame f6 = E6 at hat6 lo6 main6 frc6 frw6 frE6;obtain ⟨V7,g7,o7,r7,d7,le7,con7,den7⟩:=hat6.conc.pubPart (id:=Hs.length + 1) (zbD _ _ 1) 4 (by simp [Ring.l]);rw [zcT] at con7;simp only [List.set_cons_succ,List.set_cons_zero] at con7;have tok7:=hat6.tok.mono le7;generalize hE7 : ({ E6 with I:=V7.imm } : Env) = E7 at le7 con7 den7 tok7;obtain ⟨V8,g8,o8,r8,d8,le8,con8,den8⟩:=con7.pubPart (id:=Hs.length + 2) (zbD _ _ 2) 1 (by simp);rw [zcT] at con8;simp only [List.set_cons_succ,List.set_cons_zero] at con8;have tok8:=tok7.mono le8;generalize hE8 : ({ E7 with I:=V8.imm } : Env) = E8 at le8 con8 den8 tok8;obtain ⟨V9,g9,o9,r9,d9,le9,con9,den9⟩:=con8.pubPart (id:=Hs.length + 3) (zbD _ _ 3) 1 (by simp);rw [zcT] at con9;simp only [List.set_cons_succ,List.set_cons_zero] at con9;have tok9:=tok8.mono le9;generalize hE9 : ({ E8 with I:=V9.imm } : Env) = E9 at le9 con9 den9 tok9;refine WP.ghost g7 (WP.ghost g8 (WP.ghost g9 ?_));have lo9 : E.Lo E9:=lo6.trans ((le7.trans le8).trans le9).lo;have ro9 : V9.role = .plain:=r9.trans (r8.trans (r7.trans ro6));have de9 : V9.deaf = 0:=d9.trans (d8.trans (d7.trans de6));have fr9 : E9.fr = E6.fr:=le9.fr.trans (le8.fr.trans le7.fr);have n6 : E6.n = Hs.length + 5:=by rw [hat6.conc.n]; simp
 have b7 : ∀ k,k < Hs.length + 5 -> E9.blk k = E6.blk k /\ E9.blk k = E7.blk k /\ E9.blk k = E8.blk k:=fun k hk => by
  have n7:=le7.n;have n8:=le8.n;have q7:=le7.blk k (by omega);have q8:=le8.blk k (by omega);have q9:=le9.blk k (by omega);exact ⟨by rw [q9,q8,q7],by rw [q9,q8],q9⟩
 obtain ⟨c1,c2,c3⟩:=con9.fr c zm9 (by rw [fr9]; exact frc6);obtain ⟨v1,v2,v3⟩:=con9.fr Wg _ (by rw [fr9]; exact frw6);refine zoP (c:=c) (Wg:=Wg) rfl ro9 hne c1 (by rw [v1]; simp) v2 ?_;let V10 : View:={ V9 with role:=.fork c Wg [] };have con10 : Conc (E9.frame E9.fr) V10 (Hs ++ (zfC x Hs.length c zhH ++ [])):=by
  refine con9.reframe (V':=V10) _ rfl (fun _ _ _ _ _ _ h => h) (fun g hg => ?_) (fun g hg => ?_) (fun hm => by rw [le9.main,le8.main,le7.main,main6] at hm; cases hm) con9.fr
  ·cases hg;exact ⟨by show V9.own Wg ≠ none; rw [v1]; simp,v2,v3⟩
  ·cases hg;exact ⟨by show V9.own c ≠ none; rw [c1]; simp,c2,c3⟩
 have dr9 : Den E9 (.rp [.rp x.l]) (.pointer (some ⟨E9.blk (Hs.length + 2),0,none⟩)):=by
  have h8:=den8.mono le9;rw [<- (b7 (Hs.length + 2) (by omega)).2.1] at h8;have h7:=(den7.mono le8).mono le9;rw [<- (b7 (Hs.length + 1) (by omega)).1] at h7;generalize hp : (Value.pointer (some ⟨E9.blk (Hs.length + 2),0,none⟩)) = pv at h8;cases h8 with
  | rp b o f q1 q2 =>
   refine .rp b o f q1 fun i a e => ?_
   match i,e with
   | 0,e =>
    cases e;rw [zgO (q2 0 _ rfl)];exact h7
 have df9 : Den E9 (.rp [.val (.chan (some c))]) (.pointer (some ⟨E9.blk (Hs.length + 3),0,none⟩)):=by
  rw [<- (b7 (Hs.length + 3) (by omega)).2.2] at den9;exact den9
 have hnc : NrC x Hs E c Wg (.pointer (some ⟨E9.blk (Hs.length + 2),0,none⟩)) (.pointer (some ⟨E9.blk (Hs.length + 3),0,none⟩)) zhH [(5,.val (pW Wg 0)),(4,.op (Hs.length + 3) 0),(3,.op (Hs.length + 2) 0)] [] E9 V10 a5 :=
  ⟨⟨con10,tok9,hat6.size⟩,lo9,le9.main.trans (le8.main.trans (le7.main.trans main6)),def6,de9,rfl,rfl,dr9,df9,fun b y hb => by rw [fr9]; exact frE6 b y hb,hne⟩
 refine zrk hx hs (by omega) hokS ⟨hnc,rfl,by rw [fr9]; exact frc6,by rw [fr9]; exact frw6⟩ fun E11 V11 a11 G hat11 lo11 def11 de11 ro11 fr11 => ?_;subst hHs;exact ⟨def11,zo4 (P:=Try.prog) (rs:=[.tmp 2]) (H:=H) (G:=G) (T:=[(2,.rp (x.l ++ zgv x))]) (av:=.rp (x.l ++ zgv x)) rfl hat11 lo11 hc (ro11.trans hrole.symm) (de11.trans hdeaf.symm) fr11 rfl (by rw [zfB]; trivial) hk⟩
end
def zjB (lo hi : Int) : List Int:=(List.range (hi - lo + 1).toNat).map fun i : Nat => lo + i
theorem ziT {lo hi : Int} {i : Nat} (h : (i : Int) < hi - lo + 1) : (zjB lo hi)[i]? = some (lo + i):=by
 unfold zjB;rw [List.getElem?_map,List.getElem?_range (by omega)]; rfl
theorem ze8 (lo hi : Int) : (zjB lo hi).length = (hi - lo + 1).toNat:=by simp [zjB]
def ziR : List Key -> Nat -> List Int -> List (List Int)
 | [],_,t => [t]
 | y :: ys,n,t => (zjB y.wear.min y.wear.max).flatMap fun w => ziR ys (n + 1) (t.set n w)
def zqH (lv : Bool) (yv : AV) (Gf : List (List Int) -> List AObj) (all : List (List Int)) : Prop:=∀ (σ : List (List Int)) (t : List Int) (M : List AObj) (k kp : AV -> List AObj -> Prop),t.length = 4 -> σ ++ [t] <+: all -> k (bv true) (Gf (σ ++ [t]) ++ M) -> CallC lv Try.prog yv (Gf σ ++ M) [.agg (t.map iv)] k kp
structure GrowF (lv : Bool) (x : Ring) (os : List AV) (all : List (List Int)) (ir iy ig : Nat) (yv : AV) (Gf : List (List Int) -> List AObj) (N : Nat) : Prop where
 len : ∀ σ,(Gf σ).length = N
 r : ∀ σ M,(Gf σ ++ M)[ir]? = some (.cells [.rp (x.l ++ os)] 58)
 y : ∀ σ M,(Gf σ ++ M)[iy]? = some (.cells [yv] 126)
 g : ∀ σ M,(Gf σ ++ M)[ig]? = some (.cells [.fn (.func 54) [] [.op ir 0,.op iy 0,.op ig 0]] 127)
 yield : zqH lv yv Gf all
 ok : ∀ m σ σ',(∀ z ∈ Gf σ,OLt m z) -> ∀ z ∈ Gf σ',OLt m z
theorem GrowF.more {lv : Bool} {x : Ring} {os : List AV} {all : List (List Int)} {ir iy ig N : Nat} {yv : AV} {Gf : List (List Int) -> List AObj} (h : GrowF lv x os all ir iy ig yv Gf N) (z : AObj) : GrowF lv x os all ir iy ig yv (fun σ => Gf σ ++ [z]) (N + 1) :=
 ⟨fun σ => by simp [h.len],fun σ M => by rw [List.append_assoc]; exact h.r σ _,fun σ M => by rw [List.append_assoc]; exact h.y σ _,fun σ M => by rw [List.append_assoc]; exact h.g σ _,fun σ t M k kp h1 h2 h3 => by
  rw [List.append_assoc];exact h.yield σ t _ k kp h1 h2 (by rw [<- List.append_assoc]; exact h3),fun m σ σ' h1 w hw => (List.mem_append.1 hw).elim (fun hw => h.ok m σ σ' (fun v hv => h1 v (List.mem_append_left _ hv)) w hw) (fun hw => h1 w (List.mem_append_right _ hw))⟩
theorem GrowF.hok {lv : Bool} {x : Ring} {os : List AV} {all : List (List Int)} {ir iy ig N : Nat} {yv : AV} {Gf : List (List Int) -> List AObj} (h : GrowF lv x os all ir iy ig yv Gf N) {σ : List (List Int)} (hH : HOk (Gf σ)) (σ' : List (List Int)) : HOk (Gf σ'):=fun z hz => by
 have:=h.ok N σ σ' (fun w hw => by have:=hH w hw; rwa [h.len] at this) z hz;rwa [h.len]
section
variable {lv : Bool}
theorem f54_c {x : Ring} {os : List AV} {all : List (List Int)} {ir iy ig : Nat} {yv : AV} (hx : x.Ok) (hsy : yv.sure = true) : ∀ (d n N : Nat) (Gf : List (List Int) -> List AObj) (t : List Int) (σ : List (List Int)) (k kp : AV -> List AObj -> Prop),d + n = x.keys.length -> t.length = 4 -> GrowF lv x os all ir iy ig yv Gf N -> σ ++ ziR (x.keys.drop n) n t <+: all -> k (bv true) (Gf (σ ++ ziR (x.keys.drop n) n t)) -> FnC lv Try.prog 54 (Gf σ) [.agg (t.map iv),iv n,.op ir 0,.op iy 0,.op ig 0] k kp:=by
 intro d;induction d with
 | zero =>
  intro n N Gf t σ k kp hdn ht hG hpre hk;refine zcC (rs:=[.tmp 7]) (nt:=53) Try.f54 fun hH hA => ?_;simp only [zf5,Nat.reduceAdd];have hr:=hG.r σ;have hy:=hG.y σ;have hlk : x.l = [iv x.cuts,zlD x.keys,zli x.locks,zl1 x.tries]:=rfl;have hkd : x.keys.drop n = []:=List.drop_eq_nil_of_le (by omega);rw [hkd,ziR] at hpre hk;refine zbA ?_;refine zl5 ?_;simp only [seval,hr,hlk,zlD];refine zb4 ?_;refine ⟨fun h => ?_,fun h => by simp at h; omega⟩;have h4 : (t.map iv).length = 4:=by simp [ht]
  refine zl5 ?_;simp only [seval,hy,h4];rw [List.take_of_length_le (by simp [ht])];refine zrJ (hG.yield σ t _ _ _ ht hpre ?_);(try simp only [seval]);refine zcw ?_;have hlen : (Gf σ).length = (Gf (σ ++ [t])).length:=by rw [hG.len,hG.len]
  rw [hlen];exact endV (hG.hok hH _) hk
 | succ d ih =>
  intro n N Gf t σ k kp hdn ht hG hpre hk;refine zcC (rs:=[.tmp 7]) (nt:=53) Try.f54 fun hH hA => ?_;simp only [zf5,Nat.reduceAdd];have hr:=hG.r σ;have hlk : x.l = [iv x.cuts,zlD x.keys,zli x.locks,zl1 x.tries]:=rfl;have hnl : n < x.keys.length:=by omega
  obtain ⟨y,hy⟩:=zaE hnl;have hyk:=(hx.key y (zas hy)).2.2;have hkd : x.keys.drop n = y :: x.keys.drop (n + 1):=by
   rw [List.drop_eq_getElem_cons hnl];rw [List.getElem?_eq_getElem hnl] at hy;cases hy; rfl
  rw [hkd,ziR] at hpre hk;have h4 : (t.map iv).length = 4:=by simp [ht]
  refine zbA ?_;refine zl5 ?_;simp only [seval,hr,hlk,zlD];refine zb4 ?_;refine ⟨fun h => by exfalso; omega,fun h => ?_⟩;refine zca ?_;refine zl5 ?_;simp only [seval,hr,hlk,zlD,zc2 hy,zaz hnl];refine zdp ?_;refine zaB (zjB y.wear.min y.wear.max).length (fun i : Nat => [(8,iv (y.wear.min + i))]) (fun i => Gf (σ ++ ((zjB y.wear.min y.wear.max).take i).flatMap fun w => ziR (x.keys.drop (n + 1)) (n + 1) (t.set n w)) ++ [.cells ((if i = 0 then t else t.set n (y.wear.min + (i - 1 : Nat))).map iv) 73]) (fun i => True) (fun _ _ => rfl) (by intro p hp; simp at hp; subst hp; exact ⟨_,rfl,Wk.refl _⟩) (by simp) (fun m _ _ => by simp [hG.len]) trivial (fun hHs hLt i hin hi R hR => ?_);have hrl:=ze8 y.wear.min y.wear.max;have hmm:=hyk.le;have hmin:=hyk.min;have hmax:=hyk.max;have hri:=hG.r (σ ++ ((zjB y.wear.min y.wear.max).take i).flatMap fun w => ziR (x.keys.drop (n + 1)) (n + 1) (t.set n w));have hgi:=hG.g (σ ++ ((zjB y.wear.min y.wear.max).take i).flatMap fun w => ziR (x.keys.drop (n + 1)) (n + 1) (t.set n w));have hb4 : (0 <= (n : Int) /\ (n : Int) < 4) = True:=by have:=hx.keys; simp; omega
  have hw1 : IntKind.i64.wrap ((n : Int) + 1) = ((n + 1 : Nat) : Int):=by have:=hx.keys; rw [zau _ (by omega)]; rfl
  have hlti : ((if i = 0 then t else t.set n (y.wear.min + (i - 1 : Nat))).map iv).length = 4:=by split <;> simp [ht]
  have hGl : ∀ σ',(Gf σ).length = (Gf σ').length:=fun σ' => by rw [hG.len,hG.len]
  have hbox : ∀ σ' z M,(Gf σ' ++ z :: M)[(Gf σ).length]? = some z:=fun σ' z M => by rw [hGl σ',List.getElem?_append_right (Nat.le_refl _)]; simp
  have hbset : ∀ σ' z z',(Gf σ' ++ [z]).set (Gf σ).length z' = Gf σ' ++ [z']:=fun σ' z z' => by rw [hGl σ',List.set_append_right _ _ (Nat.le_refl _)]; simp
  have hset : List.take n ((if i = 0 then t else t.set n (y.wear.min + (i - 1 : Nat))).map iv) ++ [AV.val (.int .i64 (y.wear.min + i))] ++ List.drop (n + 1) ((if i = 0 then t else t.set n (y.wear.min + (i - 1 : Nat))).map iv) = (t.set n (y.wear.min + i)).map iv:=by
   have hn4 : n < t.length:=(by have:=hx.keys; omega);have e : ∀ u : List Int,n < u.length -> List.take n (u.map iv) ++ [AV.val (.int .i64 (y.wear.min + i))] ++ List.drop (n + 1) (u.map iv) = (u.set n (y.wear.min + i)).map iv:=fun u hu => by
    rw [List.set_eq_take_append_cons_drop,if_pos hu]; simp
   split
   ·exact e t hn4
   ·rw [e _ (by simpa using hn4),List.set_set]
  refine zl5 ?_;simp only [seval,hri,hlk,zlD,zc2 hy,zaz hnl];refine zb4 ?_;refine ⟨fun h => ?_,fun h => ?_⟩
  ·
   have hil : (i : Int) < y.wear.max - y.wear.min + 1:=(by omega);have hget:=ziT hil;have hil' : i < (zjB y.wear.min y.wear.max).length:=(by omega);have hsucc : ((zjB y.wear.min y.wear.max).take (i + 1)).flatMap (fun w => ziR (x.keys.drop (n + 1)) (n + 1) (t.set n w)) = ((zjB y.wear.min y.wear.max).take i).flatMap (fun w => ziR (x.keys.drop (n + 1)) (n + 1) (t.set n w)) ++ ziR (x.keys.drop (n + 1)) (n + 1) (t.set n (y.wear.min + i)):=by
    rw [List.take_succ,hget,List.flatMap_append]; simp
   refine zca ?_;refine zl5 ?_;simp only [seval,hb4,hbox,hbset,hlti];refine ⟨by have:=hx.keys; omega,?_⟩;rw [hset];have ht' : (t.set n (y.wear.min + i)).length = 4:=(by simp [ht]);have h4' : ((t.set n (y.wear.min + i)).map iv).length = 4:=(by simp [ht]);refine zl5 ?_;simp only [seval,hgi,hbox,h4',hw1];rw [List.take_of_length_le (i:=4) (l:=(t.set n (y.wear.min + i)).map iv) (by rw [h4']; exact Nat.le_refl _)];refine zl6 ((ih (n + 1) (N + 1) (fun σ => Gf σ ++ [.cells ((t.set n (y.wear.min + i)).map iv) 73]) (t.set n (y.wear.min + i)) (σ ++ ((zjB y.wear.min y.wear.max).take i).flatMap fun w => ziR (x.keys.drop (n + 1)) (n + 1) (t.set n w)) _ _ (by omega) ht' (hG.more _) ?_ ?_))
   ·rw [List.append_assoc,<- hsucc];refine List.IsPrefix.trans ?_ hpre;obtain ⟨r,hr'⟩:=List.take_prefix (i + 1) (zjB y.wear.min y.wear.max);rw [List.prefix_append_right_inj]
    conv => rhs; rw [<- hr',List.flatMap_append]
    exact List.prefix_append _ _
   ·(try simp only [seval]);refine zb4 ?_;refine zca ?_;have hw2 : IntKind.i64.wrap (y.wear.min + (i : Int) + 1) = y.wear.min + ((i + 1 : Nat) : Int):=(by rw [zau _ (by omega)]; push_cast; omega);refine zl5 ?_;simp only [seval,hw2];refine hR _ ⟨hil',trivial,?_⟩;rw [List.append_assoc,<- hsucc];exact zfi
  ·have hil : i = (zjB y.wear.min y.wear.max).length:=(by omega);refine zdu ?_;refine zbA ?_;refine zcw ?_;subst hil;rw [List.take_length];rw [hG.len,<- hG.len (σ ++ (zjB y.wear.min y.wear.max).flatMap fun w => ziR (x.keys.drop (n + 1)) (n + 1) (t.set n w))];exact endV (hG.hok hH _) hk
theorem f41_c {H : List AObj} {k kp : AV -> List AObj -> Prop} {l : List AV} (hk : k (.fn (.func 53) [] [.op H.length 0]) (H ++ [.cells [.rp l] 58])) : FnC lv Try.prog 41 H [.rp l] k kp:=by
 refine zcC (rs:=[.tmp 2]) (nt:=4) Try.f41 fun hH hA => ?_;simp only [zf5,Nat.reduceAdd];refine zbA ?_;refine zl5 ?_;simp only [seval,List.mapM_cons,List.mapM_nil,Option.pure_def,Option.bind_eq_bind];refine zcw ?_;exact zao hk
theorem f53_c {x : Ring} {os : List AV} {ir N : Nat} {yv : AV} {Gf : List (List Int) -> List AObj} {k kp : AV -> List AObj -> Prop} (hx : x.Ok) (hsy : yv.sure = true) (hlen : ∀ σ,(Gf σ).length = N) (hr : ∀ σ M,(Gf σ ++ M)[ir]? = some (.cells [.rp (x.l ++ os)] 58)) (hy : zqH lv yv Gf (ziR x.keys 0 [0,0,0,0])) (hok : ∀ m σ σ',(∀ z ∈ Gf σ,OLt m z) -> ∀ z ∈ Gf σ',OLt m z)
  (hparts : yv.parts = some [yv]) (hleaf : yv.leaf = true) (hk : k (.tup []) (Gf (ziR x.keys 0 [0,0,0,0]))) : FnC lv Try.prog 53 (Gf []) [yv,.op ir 0] k kp:=by
 refine zcC (rs:=[]) (nt:=8) Try.f53 fun hH hA => ?_;simp only [zf5,Nat.reduceAdd];have hN:=hlen [];refine zl5 ?_;simp only [seval,hparts];refine zbA ?_;refine zl5 ?_;simp only [seval,List.mapM_cons,List.mapM_nil,Option.pure_def,Option.bind_eq_bind];refine zbA ?_;have hget : ∀ σ (L : List AObj) i,(Gf σ ++ L)[N + i]? = L[i]?:=fun σ L i => by rw [<- hlen σ,List.getElem?_append_right (by omega)]; congr 1; omega
 have hG : GrowF lv x os (ziR x.keys 0 [0,0,0,0]) ir N (N + 1) yv (fun σ => Gf σ ++ [.cells [yv] 126,.cells [.fn (.func 54) [] [.op ir 0,.op N 0,.op (N + 1) 0]] 127]) (N + 2):=by
  refine ⟨fun σ => by simp [hlen],fun σ M => by rw [List.append_assoc]; exact hr σ _,fun σ M => ?_,fun σ M => ?_,fun σ t M k kp h1 h2 h3 => ?_,fun m σ σ' h1 w hw => (List.mem_append.1 hw).elim (fun hw => hok m σ σ' (fun v hv => h1 v (List.mem_append_left _ hv)) w hw) (fun hw => h1 w (List.mem_append_right _ hw))⟩
  ·rw [List.append_assoc]; exact (hget σ _ 0).trans rfl
  ·rw [List.append_assoc]; rw [hget σ _ 1]; rfl
  ·rw [List.append_assoc];exact hy σ t _ k kp h1 h2 (by rw [<- List.append_assoc]; exact h3)
 rw [hN];refine zl6 ((f54_c hx hsy x.keys.length 0 (N + 2) _ [0,0,0,0] [] _ _ rfl rfl hG (List.prefix_refl _) ?_));(try simp only [seval]);refine zaJ (H':=Gf (ziR x.keys 0 [0,0,0,0])) (Wk.refl _) rfl (by rw [hlen]; exact Nat.le_refl _) ?_ (by simp [zaD]) hk;intro z hz;rw [hlen,<- hN];exact hok _ [] _ (fun w hw => hH w hw) z hz
end
set_option maxRecDepth 100000
theorem F.fits166 : zoF Try.prog 91 "gladstone/key.fits" 98 := fun v w es => by kernel_rfl
theorem F.fits167 : zoF Try.prog 92 "gladstone/key.fits" 99 := fun v w es => by kernel_rfl
theorem F.nil166 : znn Try.prog 91 "gladstone/key.fits" := fun v w es => by kernel_rfl
theorem F.nil167 : znn Try.prog 92 "gladstone/key.fits" := fun v w es => by kernel_rfl
section
variable {lv : Bool} {H : List AObj} {k kp : AV -> List AObj -> Prop}
theorem f98_c {m n : Nat} (hm : m < 256) (hk : k (bv (m.testBit n)) H) : FnC lv Try.prog 98 H [iv n,uv m] k kp:=by
 refine zcC (rs:=[.tmp 4]) (nt:=8) Try.f98 fun hH hA => ?_;simp only [zf5,Nat.reduceAdd];refine zbA ?_;refine zbA ?_;refine zl6 ((f31_c hm ?_));(try simp only [seval]);refine zcw ?_;exact zao hk
theorem f99_c {m n : Nat} (hm : m < 256) (hk : k (bv (!m.testBit n)) H) : FnC lv Try.prog 99 H [iv n,uv m] k kp:=by
 refine zcC (rs:=[.tmp 4]) (nt:=9) Try.f99 fun hH hA => ?_;simp only [zf5,Nat.reduceAdd];refine zbA ?_;refine zbA ?_;refine zl6 ((f31_c hm ?_));(try simp only [seval]);refine zcw ?_;exact zao hk
theorem zii {b : Bool} {m n : Nat} (hm : m < 256) (hk : k (bv (m.testBit n == b)) H) : InvC lv Try.prog (.ifc (if b then 91 else 92) (iv n)) "gladstone/key.fits" H [uv m] k kp := by
 cases b with
 | true => exact invC F.fits166 (by kernel_rfl) (f98_c hm (by simpa using hk))
 | false => exact invC F.fits167 (by kernel_rfl) (f99_c hm (by simpa using hk))
theorem zfz {b : Bool} : znn Try.prog (if b then 91 else 92) "gladstone/key.fits" := by
 cases b
 ·exact F.nil167
 ·exact F.nil166
end
def zeF (x : Ring) : List (List Int):=ziR x.keys 0 [0,0,0,0]
def znx (x : Ring) (t : List Int) (r : Try) : Bool:=(zg4 x r.key.toNat (t.getD r.key.toNat 0).toNat).testBit r.lock.toNat == r.opens
def okTo (x : Ring) (but : List Int) (t : List Int) : Nat -> Bool
 | 0 => true
 | i + 1 => okTo x but t i && (match x.tries[i]? with | some r => but.contains (i : Int) || znx x t r | none => true)
def zif (x : Ring) (but : List Int) (i : Nat) : List (List Int × Nat):=(zeF x).zipIdx.filter fun y => okTo x but y.1 i
def zdt (x : Ring) (but : List Int) : List (List Int × Nat):=zif x but x.tries.length
theorem zgC : ∀ (ys : List Key) (n : Nat) (t : List Int),∀ u ∈ ziR ys n t,u.length = t.length
 | [],_,t,u,h => by simp [ziR] at h; subst h; rfl
 | y :: ys,n,t,u,h => by
  rw [ziR] at h;obtain ⟨w,_,h⟩:=List.mem_flatMap.1 h;rw [zgC ys (n + 1) _ u h]; simp
theorem zc7 : ∀ (ys : List Key) (n : Nat) (t : List Int),∀ u ∈ ziR ys n t,∀ i,i < n -> u[i]? = t[i]?
 | [],_,t,u,h,i,_ => by simp [ziR] at h; subst h; rfl
 | y :: ys,n,t,u,h,i,hi => by
  rw [ziR] at h;obtain ⟨w,_,h⟩:=List.mem_flatMap.1 h;rw [zc7 ys (n + 1) _ u h i (by omega),List.getElem?_set_ne (by omega)]
theorem ziS {lo hi w : Int} (h : w ∈ zjB lo hi) : lo <= w /\ w <= hi:=by
 unfold zjB at h;obtain ⟨i,h1,rfl⟩:=List.mem_map.1 h;have:=List.mem_range.1 h1;omega
theorem zij : ∀ (ys : List Key) (n : Nat) (t : List Int),(∀ y ∈ ys,y.wear.Ok 2) -> (∀ w ∈ t,0 <= w /\ w <= 2) -> ∀ u ∈ ziR ys n t,∀ w ∈ u,0 <= w /\ w <= 2
 | [],_,t,_,ht,u,h => by simp [ziR] at h; subst h; exact ht
 | y :: ys,n,t,hy,ht,u,h => by
  rw [ziR] at h;obtain ⟨w,hw,h⟩:=List.mem_flatMap.1 h;refine zij ys (n + 1) _ (fun z hz => hy z (List.mem_cons_of_mem _ hz)) (fun v hv => ?_) u h;rcases List.mem_or_eq_of_mem_set hv with h' | h'
  ·exact ht v h'
  ·subst h';have:=ziS hw;have hk:=hy y (List.mem_cons_self ..);have:=hk.min; have:=hk.max; omega
theorem zgn (lo hi : Int) : (zjB lo hi).Nodup:=by
 unfold zjB;refine List.Pairwise.map _ (fun a b hab => ?_) List.nodup_range;omega
theorem zeD : ∀ (ys : List Key) (n : Nat) (t : List Int),n + ys.length <= t.length -> (ziR ys n t).Nodup
 | [],_,t,_ => by simp [ziR]
 | y :: ys,n,t,h => by
  simp only [List.length_cons] at h;rw [ziR];unfold List.Nodup;rw [List.pairwise_flatMap];refine ⟨fun w _ => zeD ys (n + 1) _ (by simp; omega),?_⟩;refine List.Pairwise.imp ?_ (zgn _ _);intro a b hab u hu1 u2 hu2 e;subst e;have e1:=zc7 ys (n + 1) _ u hu1 n (by omega);have e2:=zc7 ys (n + 1) _ u hu2 n (by omega);rw [List.getElem?_set_self (by omega)] at e1 e2;rw [e1] at e2;exact hab (Option.some.inj e2)
theorem zeE : ∀ (ys : List Key) (n : Nat) (t : List Int),(∀ y ∈ ys,y.wear.Ok 2) -> (ziR ys n t).length <= 3 ^ ys.length
 | [],_,t,_ => by simp [ziR]
 | y :: ys,n,t,hy => by
  rw [ziR,List.length_flatMap];have h1 : ∀ w,(ziR ys (n + 1) (t.set n w)).length <= 3 ^ ys.length:=fun w => zeE ys (n + 1) _ fun z hz => hy z (List.mem_cons_of_mem _ hz);have h2 : (zjB y.wear.min y.wear.max).length <= 3:=by
   rw [ze8];have hk:=hy y (List.mem_cons_self ..);have:=hk.min; have:=hk.max; omega
  have h3 : ∀ l : List Int,(l.map fun w => (ziR ys (n + 1) (t.set n w)).length).sum <= l.length * 3 ^ ys.length:=by
   intro l;induction l with
   | nil => simp
   | cons a l ih =>
    have:=h1 a;simp only [List.map_cons,List.sum_cons,List.length_cons,Nat.add_mul,Nat.one_mul];omega
  refine Nat.le_trans (h3 _) ?_;rw [List.length_cons,Nat.pow_succ,Nat.mul_comm];exact Nat.mul_le_mul_left _ h2
section
variable {x : Ring}
theorem zdD (hx : x.Ok) : ∀ t ∈ zeF x,t.length = 4:=fun t h => zgC _ _ _ t h
theorem zf4 (hx : x.Ok) : ∀ t ∈ zeF x,∀ w ∈ t,0 <= w /\ w <= 2:=zij _ _ _ (fun y hy => (hx.key y hy).2.2) (by simp)
theorem zdT (hx : x.Ok) : (zeF x).Nodup:=zeD _ _ _ (by have:=hx.keys; simp; omega)
theorem zdU (hx : x.Ok) : (zeF x).length <= 81:=Nat.le_trans (zeE _ _ _ fun y hy => (hx.key y hy).2.2) (Nat.pow_le_pow_right (n:=3) (j:=4) (by omega) hx.keys)
theorem zhU (l : List (List Int)) : ∀ y ∈ l.zipIdx,y.2 < l.length:=fun y hy => by
 have:=List.snd_lt_of_mem_zipIdx (x:=y) (l:=l) (k:=0) hy;simpa using this
theorem ze2 (l : List (List Int)) : (l.zipIdx.map (·.2)).Nodup:=by
 rw [List.zipIdx_map_snd]; exact List.nodup_range'
theorem zix {l : List (List Int)} (h : l.Nodup) : (l.zipIdx.map (·.1)).Nodup:=by
 rw [List.zipIdx_map_fst]; exact h
theorem zdA {l : List (List Int)} {y : List Int × Nat} (h : y ∈ l.zipIdx) : y.1 ∈ l:=by
 have : y.1 ∈ l.zipIdx.map (·.1):=List.mem_map.2 ⟨y,h,rfl⟩;rwa [List.zipIdx_map_fst] at this
end
theorem zcA {α β : Type} [DecidableEq β] (f : α -> β) : ∀ {l : List α} {i : Nat} {a : α},(l.map f).Nodup -> l[i]? = some a -> l.eraseIdx i = l.filter fun z => decide (f z ≠ f a)
 | [],_,_,_,h => by simp at h
 | z :: l,0,a,hn,h => by
  simp at h; subst h;simp only [List.map_cons,List.nodup_cons] at hn;rw [List.eraseIdx_cons_zero,List.filter_cons_of_neg (by simp)];symm;rw [List.filter_eq_self];intro w hw;have : f w ≠ f z:=fun e => hn.1 (List.mem_map.2 ⟨w,hw,e⟩);simpa using this
 | z :: l,i + 1,a,hn,h => by
  simp only [List.map_cons,List.nodup_cons] at hn;have h' : l[i]? = some a:=by simpa using h
  have hne : f z ≠ f a:=fun e => hn.1 (List.mem_map.2 ⟨a,List.mem_of_getElem? h',e.symm⟩);rw [List.eraseIdx_cons_succ,List.filter_cons_of_pos (by simpa using hne),zcA f hn.2 h']
theorem zgK {x : List Int} : ∀ {ts : List (List Int × Nat)} {j : Nat},(∃ y ∈ ts,y.1 = x) -> ∃ i v,zmQ x ts j = some (i,v)
 | [],_,h => by obtain ⟨y,hy,_⟩:=h; cases hy
 | y :: ts,j,h => by
  rw [zmQ];by_cases e : (x == y.1) = true
  ·rw [if_pos e]; exact ⟨_,_,rfl⟩
  ·rw [if_neg e];refine zgK ?_;obtain ⟨z,hz,hzx⟩:=h;rcases List.mem_cons.1 hz with rfl | hz
   ·exact absurd (by simpa using hzx.symm) e
   ·exact ⟨z,hz,hzx⟩
def zlH (ts : List (List Int × Nat)) (fit : List Int -> Bool) (bs : List Nat) : List (List Int × Nat):=ts.filter fun y => !bs.contains y.2 || fit y.1
section
variable {ts : List (List Int × Nat)} {fit : List Int -> Bool} {bs : List Nat}
theorem zk1 : zlH ts fit [] = ts:=by
 unfold zlH;rw [List.filter_eq_self]; simp
theorem zeN : zlH ts fit bs ⊆ ts:=fun _ h => (List.mem_filter.1 h).1
theorem zdo {α β : Type} {f : α -> β} : ∀ {l : List α},(l.map f).Nodup -> ∀ a ∈ l,∀ b ∈ l,f a = f b -> a = b
 | [],_,_,h,_,_,_ => by cases h
 | z :: l,hn,a,ha,b,hb,e => by
  simp only [List.map_cons,List.nodup_cons] at hn;rcases List.mem_cons.1 ha with h1 | h1 <;> rcases List.mem_cons.1 hb with h2 | h2
  ·rw [h1,h2]
  ·subst h1; exact (hn.1 (List.mem_map.2 ⟨b,h2,e.symm⟩)).elim
  ·subst h2; exact (hn.1 (List.mem_map.2 ⟨a,h1,e⟩)).elim
  ·exact zdo hn.2 a h1 b h2 e
theorem zk2 (hb : (ts.map (·.2)).Nodup) {y : List Int × Nat} (hy : y ∈ ts) (hf : fit y.1 = true) : zlH ts fit (bs ++ [y.2]) = zlH ts fit bs:=by
 unfold zlH;refine List.filter_congr fun z hz => ?_;by_cases e : z.2 = y.2
 ·have:=zdo hb z hz y hy e;subst this;simp [hf]
 ·simp [e]
theorem zk4 (hb : (ts.map (·.2)).Nodup) (hk : (ts.map (·.1)).Nodup) {y : List Int × Nat} (hy : y ∈ ts) (hf : fit y.1 = false) (hbs : y.2 ∉ bs) :
  ∃ i v,zmQ y.1 (zlH ts fit bs) 0 = some (i,v) /\ i < (zlH ts fit bs).length /\ (zlH ts fit bs).eraseIdx i = zlH ts fit (bs ++ [y.2]):=by
 have hym : y ∈ zlH ts fit bs:=List.mem_filter.2 ⟨hy,by simp [hbs]⟩;obtain ⟨i,v,h⟩:=zgK (x:=y.1) (ts:=zlH ts fit bs) (j:=0) ⟨y,hym,rfl⟩;obtain ⟨b,_,h2,_⟩:=zfe h;rw [Nat.sub_zero] at h2;refine ⟨i,v,h,(List.getElem?_eq_some_iff.1 h2).1,?_⟩;have hn : ((zlH ts fit bs).map (·.1)).Nodup:=List.Sublist.nodup (List.Sublist.map _ List.filter_sublist) hk;rw [zcA (·.1) hn h2];unfold zlH;rw [List.filter_filter];refine List.filter_congr fun z hz => ?_;by_cases e : z.1 = y.1
 ·have:=zdo hk z hz y hy e;subst this;simp [hf]
 ·have e2 : z.2 ≠ y.2:=fun e2 => e (by rw [zdo hb z hz y hy e2]);simp [e,e2]
theorem zk5 (h : ∀ y ∈ ts,y.2 ∈ bs) : zlH ts fit bs = ts.filter fun y => fit y.1:=by
 unfold zlH;refine List.filter_congr fun z hz => ?_;simp [h z hz]
end
theorem zfo (x : Ring) (but : List Int) : zif x but 0 = (zeF x).zipIdx:=by
 unfold zif;rw [List.filter_eq_self]; simp [okTo]
theorem zdc {x : Ring} {but : List Int} {i : Nat} {r : Try} (h : x.tries[i]? = some r) : zif x but (i + 1) = (zif x but i).filter fun y => but.contains (i : Int) || znx x y.1 r:=by
 unfold zif;rw [List.filter_filter];refine List.filter_congr fun z _ => ?_;simp only [okTo,h];rw [Bool.and_comm]
theorem zbk (x : Ring) (but : List Int) (i : Nat) : (zif x but i).Sublist (zeF x).zipIdx:=List.filter_sublist
theorem F.u132 : Try.prog.underlying 73 = some (.array 4 3):=by kernel_rfl
theorem F.u3 : Try.prog.underlying 3 = some (.int .i64):=by kernel_rfl
theorem F.i3 : ∃ i,Try.prog.info? 3 = some i /\ i.size = 1:=by
 obtain ⟨i,h1,h2⟩:=Option.map_eq_some_iff.1 (show (Try.prog.info? 3).map (·.size) = some 1 by kernel_rfl);exact ⟨i,h1,h2⟩
theorem zgJ {x : List Int} : ∀ {ts : List (List Int × Nat)} {j : Nat},(∀ y ∈ ts,y.1 ≠ x) -> zmQ x ts j = none
 | [],_,_ => rfl
 | y :: ts,j,h => by
  rw [zmQ,if_neg (by simpa using fun e => h y (List.mem_cons_self ..) e.symm)];exact zgJ fun z hz => h z (List.mem_cons_of_mem _ hz)
theorem zec {H L : List AObj} {o o' : AObj} (h : HOk (H ++ o :: L)) (ho : ∀ n,OLt n o') : HOk (H ++ o' :: L):=by
 have hl : (H ++ o' :: L).length = (H ++ o :: L).length:=by simp
 intro z hz;rw [hl];rcases List.mem_append.1 hz with h' | h'
 ·exact h z (List.mem_append_left _ h')
 ·rcases List.mem_cons.1 h' with rfl | h'
  ·exact ho _
  ·exact h z (List.mem_append_right _ (List.mem_cons_of_mem _ h'))
theorem zpr {H L : List AObj} {o o' : AObj} {m : Nat} (h : ∀ z ∈ H ++ o :: L,OLt m z) (ho : ∀ n,OLt n o') : ∀ z ∈ H ++ o' :: L,OLt m z:=by
 intro z hz;rcases List.mem_append.1 hz with h' | h'
 ·exact h z (List.mem_append_left _ h')
 ·rcases List.mem_cons.1 h' with rfl | h'
  ·exact ho _
  ·exact h z (List.mem_append_right _ (List.mem_cons_of_mem _ h'))
theorem zhv (ts : List (List Int × Nat)) (ck n : Nat) : OLt n (setObj ts ck):=trivial
theorem zaL (ts : List (List Int × Nat)) (ck : Nat) : setObj ts ck = .obj (.map (ts.map zez).toArray ck):=rfl
theorem zhi (σ : List (List Int)) (t : List Int) : setObj (σ ++ [t]).zipIdx (σ ++ [t]).length = .obj (.map ((σ.zipIdx ++ [(t,σ.length)]).map zez).toArray (σ.length + 1)):=by
 rw [List.zipIdx_append,List.length_append]; simp [setObj]
section
variable {lv : Bool} {H : List AObj} {k kp : AV -> List AObj -> Prop}
theorem f29_c {x : Ring} {but : List Int} {e : End} (hx : x.Ok) (hb : but.length < 2 ^ 30) (hk : k (.mp H.length) (H ++ [setObj (zdt x but) (zeF x).length])) : FnC lv Try.prog 29 H [.rp (x.l ++ zgv x),.sl but.length (but.map iv) e] k kp:=by
 refine zjj (rs:=[.tmp 4]) (nt:=73) F.f29 rfl rfl rfl (by simp) fun hH hA => ?_;simp only [zf5,Nat.reduceAdd];refine zeS ?_;refine zbA ?_;refine zhS ?_;refine zeS ?_;refine zbA ?_;refine zis ?_;refine zeS ?_;refine zbA ?_;refine zl6 ((f41_c ?_));(try simp only [seval]);refine zjz ?_;refine zjy (by rfl) fun l fn => ?_;(try simp only [seval]);obtain ⟨i3,hi3,hs3⟩:=F.i3;refine zme (f53_c (x:=x) (os:=zgv x) (ir:=H.length + 2) (N:=H.length + 5) (Gf:=fun σ => H ++ [setObj σ.zipIdx σ.length,.cells [.mp H.length] 59,.cells [.rp (x.l ++ zgv x)] 58,.obj (.deferred (some [])),.loop l .ready none fn _ 73 #[16] _ _ (H.length + 3)]) hx rfl (fun σ => by simp) (fun σ M => ?_) (fun σ t M k kp ht hpre hk => ?_) (fun m σ σ' h1 z hz => ?_) rfl rfl ?_)
 ·rw [List.append_assoc,zbD]; rfl
 ·
  have hget : ∀ (L : List AObj) i,(H ++ L)[H.length + i]? = L[i]?:=fun L i => zbD H L i;refine zhM (id:=H.length + 4) (by rw [List.append_assoc,zbD]; rfl) rfl (by kernel_rfl) fun hHk hAk => ?_;simp only [zipT];refine zbA ?_;refine ⟨ht,by omega,?_⟩;unfold zqJ;refine ⟨none,fn,_,73,#[16],_,_,_,by rw [zbD]; rfl,?_⟩;dsimp only;rw [zcT];simp only [List.set_cons_succ,List.set_cons_zero];have hk4 : (t.map iv).length = 4:=by simp [ht]
  have hse : setObj σ.zipIdx σ.length = .obj (.map (σ.zipIdx.map zez).toArray σ.length):=rfl;refine zl5 ?_;simp only [seval,hk4,ht,hse];rw [List.take_of_length_le (i:=4) (l:=t.map iv) (by omega)];have hnd : (σ ++ [t]).Nodup:=List.Sublist.nodup hpre.sublist (zdT hx);have hnt : ∀ y ∈ σ.zipIdx,y.1 ≠ t:=fun y hy e => by
   have hm:=zdA hy;rw [e] at hm;exact (List.nodup_append.1 hnd).2.2 t hm t (by simp) rfl
  have hσ4 : ∀ y ∈ σ.zipIdx,y.1.length = 4:=fun y hy => zdD hx _ (hpre.subset (List.mem_append_left _ (zdA hy)));have hfind:=zdW (ts:=σ.zipIdx) F.u132 F.u3 hi3 hs3 ht hσ4;rw [zgJ hnt] at hfind;refine zbs (zd8 t) (zbs rfl ⟨zcR F.u132 F.u3 hi3 hs3 ht,none,hfind,by simp,?_⟩);unfold zqI;refine ⟨_,_,_,_,_,_,_,_,_,_,by rw [zbD]; rfl,?_⟩;dsimp only;rw [zcT];simp only [List.set_cons_succ,List.set_cons_zero];rw [zgp,<- zhi];dsimp only at hk hHk;refine zaJ (G:=[.cells (t.map iv) 73]) (Wk.refl _) ?_ ?_ ?_ (.val _) hk
  ·simp
  ·simp
  ·rw [List.append_assoc] at hHk ⊢;exact zec hHk (zhv _ _)
 ·exact zpr h1 (zhv _ _) z hz
 ·
  refine ⟨.ready,none,_,_,_,_,_,_,_,by rw [Nat.add_assoc,zbD]; rfl,by simp,?_⟩;rw [Nat.add_assoc,zcT];simp only [List.set_cons_succ,List.set_cons_zero];unfold zr4;(try simp only [seval]);refine zle ?_;have hb2:=zdU hx;rw [show ziR x.keys 0 [0,0,0,0] = zeF x from rfl];have hlk : x.l ++ zgv x = iv x.cuts :: zlD x.keys :: zli x.locks :: zl1 x.tries :: zgv x:=rfl;(repeat apply zaa);refine zbQ ?_;simp only [seval];refine zl5 ?_;simp only [seval,hlk,zl1];refine zdp ?_;refine zaB x.tries.length (fun i : Nat => [(25,iv i)]) (fun i => H ++ [setObj (zif x but i) (zeF x).length,.cells [.mp H.length] 59,.cells [.rp (x.l ++ zgv x)] 58,.obj (.deferred (some [])),.gone]) (fun i => True) (fun _ _ => rfl) (by simp only [seval]; simp [zaf,Wk.refl]) (by simp only [zfo]; rfl) (fun _ _ _ => by simp) trivial (fun hHs hLt i hin hi R hR => ?_);refine zbA ?_;refine zb4 ?_;refine ⟨fun h => ?_,fun h => ?_⟩
  ·have hHf : ∀ ts,HOk (H ++ [setObj ts (zeF x).length,.cells [.mp H.length] 59,.cells [.rp (x.l ++ zgv x)] 58,.obj (.deferred (some [])),.gone]):=fun ts => zec hHs (zhv _ _);have hil : i < x.tries.length:=(by omega);obtain ⟨r,hr⟩:=zaE hil;have hrt:=hx.tried r (zas hr);obtain ⟨rk,rl,ro⟩:=r;simp only at hrt;obtain ⟨kn,rfl⟩ : ∃ n : Nat,rk = n:=⟨rk.toNat,by omega⟩;obtain ⟨ln,rfl⟩ : ∃ n : Nat,rl = n:=⟨rl.toNat,by omega⟩;have hkn : kn < 4:=(by have:=hx.keys; omega);have hln : ln < 4:=(by have:=hx.locks; omega);refine zca ?_;refine zl5 ?_;simp only [seval,zh6 hr,zaz hil];refine zbA ?_;refine zdp ?_;refine zkO but.length (fun j : Nat => [(32,iv j)]) (fun _ => _) (fun j => ∀ q,q < j -> but[q]? ≠ some (i : Int)) (fun q hq => by omega) (fun hHs2 hLt2 j hjn hj R2 hR2 => ?_);refine zbA ?_;refine zb4 ?_;refine ⟨fun h2 => ?_,fun h2 => ?_⟩
   ·
    have hjl : j < but.length:=(by omega);obtain ⟨w,hw⟩:=zaE hjl;refine zca ?_;refine zl5 ?_;simp only [seval,za2 hw,zaz hjl];refine zbA ?_;refine zb4 ?_;refine ⟨fun h3 => ?_,fun h3 => ?_⟩
    ·
     refine zdu ?_;have hi1 : IntKind.i64.wrap ((i : Int) + 1) = ((i + 1 : Nat) : Int):=(by have:=hx.tries; rw [zau _ (by omega)]; rfl);refine zl5 ?_;simp only [seval,hi1];have hwi : w = (i : Int):=(by simpa using h3);have hcon : but.contains (i : Int) = true:=(by rw [<- hwi]; simpa using zas hw);have heq : zif x but (i + 1) = zif x but i:=by
      rw [zdc hr,List.filter_eq_self];intro y _;simp only [hcon,Bool.true_or]
     refine hR _ ⟨hil,trivial,?_⟩;rw [heq];have hHs:=hHf (zif x but i);exact (zh9 hHs)
    ·refine zca ?_;have hj1 : IntKind.i64.wrap ((j : Int) + 1) = ((j + 1 : Nat) : Int):=(by rw [zau _ (by omega)]; rfl);refine zl5 ?_;simp only [seval,hj1];refine hR2 _ ⟨hjl,fun q hq => ?_,?_⟩
     ·by_cases e : q = j
      ·subst e;rw [hw];have : ¬ w = (i : Int):=(by simpa using h3);simpa using this
      ·exact hj q (by omega)
     ·exact zfi
   ·
    have hnc : but.contains (i : Int) = false:=by
     have hjn' : j = but.length:=(by omega);subst hjn';apply Bool.eq_false_iff.2;intro hc;obtain ⟨q,hq⟩:=List.mem_iff_getElem?.1 (by simpa using hc);exact hj q (get_lt hq) hq
    refine zdu ?_;refine zbA ?_;refine zl6 ((f23_c ?_));(try simp only [seval]);let ts:=zif x but i;let fit : List Int -> Bool:=fun t => znx x t ⟨kn,ln,ro⟩;have hsub:=zbk x but i;have hborn : ∀ y ∈ ts,y.2 < (zeF x).length:=fun y hy => zhU _ y (hsub.subset hy);have hnd2 : (ts.map (·.2)).Nodup:=List.Sublist.nodup (hsub.map _) (ze2 _);have hnd1 : (ts.map (·.1)).Nodup:=List.Sublist.nodup (hsub.map _) (zix (zdT hx));have h4r : ∀ y ∈ ts,y.1.length = 4 /\ ∀ w ∈ y.1,0 <= w /\ w <= 2:=fun y hy => ⟨zdD hx _ (zdA (hsub.subset hy)),zf4 hx _ (zdA (hsub.subset hy))⟩;have hokV : ∀ ts' sn,HOk (H ++ [setObj ts' (zeF x).length,.cells [.mp H.length] 59,.cells [.rp (x.l ++ zgv x)] 58,.obj (.deferred (some [])),.gone,.cells [iv kn,iv ln,bv ro] 104,.iter H.length (zeF x).length sn (zeF x).length]):=by
     intro ts' sn z hz;have hl : ∀ o1 o2 o3 o4 o5 o6 o7 : AObj,(H ++ [o1,o2,o3,o4,o5,o6,o7]).length = H.length + 7:=fun _ _ _ _ _ _ _ => (by simp);rw [hl];rcases List.mem_append.1 hz with h' | h'
     ·exact (hH z h').mono (by omega)
     ·simp only [List.mem_cons,List.not_mem_nil,or_false] at h';rcases h' with rfl | rfl | rfl | rfl | rfl | rfl | rfl
      ·trivial
      ·intro a ha; simp at ha; subst ha; exact .mp (by omega)
      ·intro a ha; simp at ha; subst ha; rw [zfB]; trivial
      ·trivial
      ·trivial
      ·intro a ha; simp at ha; rcases ha with rfl | rfl | rfl <;> exact .val _
      ·show H.length < _; omega
    refine zl5 ?_;simp only [seval,zaL];refine zdp ?_;refine za9 (measure fun vs : List (List Int × Nat) => ts.length - vs.length).wf (fun vs => []) (fun vs => H ++ [setObj (zlH ts fit (vs.map (·.2))) (zeF x).length,.cells [.mp H.length] 59,.cells [.rp (x.l ++ zgv x)] 58,.obj (.deferred (some [])),.gone,.cells [iv kn,iv ln,bv ro] 104,.iter H.length (zeF x).length (vs.map (·.2)).toArray (zeF x).length]) (fun vs => (vs.map (·.2)).Nodup /\ ∀ y ∈ vs,y ∈ ts) [] (fun _ _ => rfl) (by simp) (by simp only [List.map_nil,zk1]; rfl) (fun _ _ => by simp) ⟨by simp,by simp⟩ (fun hHs3 hLt3 vs hok R3 hR3 => ?_);have hcb : ∀ y ∈ zlH ts fit (vs.map (·.2)),y.2 < (zeF x).length:=fun y hy => hborn y (zeN hy);have hall:=zcO (zlH ts fit (vs.map (·.2))) _ hcb;refine zl5 ?_;simp only [seval,zaL];refine ⟨hall.elim .inl (fun h => .inr (.inl h)),fun e he hn => ?_,fun hs => ?_⟩
    ·obtain ⟨y,hy,rfl⟩ : ∃ y ∈ zlH ts fit (vs.map (·.2)),zez y = e:=(by simpa using he);have hyts : y ∈ ts:=zeN hy;refine zb4 ?_;refine zca ?_;refine zdp ?_;obtain ⟨h41,h42⟩:=h4r y hyts;have hlen : (y.1.map iv).length = 4:=(by simp [h41]);have hdrop : List.drop 4 [AV.val (Value.int IntKind.i64 0),AV.val (Value.int IntKind.i64 0),AV.val (Value.int IntKind.i64 0),AV.val (Value.int IntKind.i64 0)] = []:=rfl;have hbe : (zez y).born = y.2:=rfl;have hcn2 : ((zlH ts fit (vs.map (·.2))).map (·.2)).Nodup:=List.Sublist.nodup (List.filter_sublist.map _) hnd2;refine zl5 ?_;simp only [seval,zaL,Array.back?_push,hbe,zcL hcn2 hy,zb7,h41,hlen,hdrop];obtain ⟨w,hw⟩:=zaE (xs:=y.1) (i:=kn) (by omega);have hwb:=h42 w (zas hw);obtain ⟨wn,rfl⟩ : ∃ n : Nat,w = n:=⟨w.toNat,by omega⟩;have b4 : (0 <= (kn : Int) /\ (kn : Int) < 4) = True:=(by simp; omega);have b3 : (0 <= (wn : Int) /\ (wn : Int) < 3) = True:=(by simp; omega);have hm : zg4 x kn wn < 256:=by
      unfold zg4;split
      ·exact zoT (zb5 _ _ _ _) (by have:=hx.locks; omega)
      ·decide
     refine zjl 18 ?_;simp only [seval,b4,b3,zbf hw,zcH x hkn,zb0 x hkn (show wn < 3 by omega),zfz,List.mapM_cons,List.mapM_nil,Option.pure_def,Option.bind_eq_bind];refine qInv (bv ((zg4 x kn wn).testBit ln == ro)) (zii hm ⟨rfl,rfl⟩) ?_;(try simp only [seval]);have hget : y.1.getD kn 0 = (wn : Int):=(by rw [List.getD_eq_getElem?_getD,hw]; rfl);have hfit : fit y.1 = ((zg4 x kn wn).testBit ln == ro):=by
      show znx x y.1 ⟨kn,ln,ro⟩ = _;simp only [znx,Int.toNat_natCast,hget]
     have hyn : y.2 ∉ vs.map (·.2):=(by simpa [zez] using hn);have hpush : ((vs.map (·.2)).toArray.push y.2) = ((vs ++ [y]).map (·.2)).toArray:=(by simp);have hmapa : (vs ++ [y]).map (·.2) = vs.map (·.2) ++ [y.2]:=(by simp);have hok' : ((vs ++ [y]).map (·.2)).Nodup /\ ∀ z ∈ vs ++ [y],z ∈ ts:=by
      refine ⟨?_,fun z hz => ?_⟩
      ·rw [hmapa,List.nodup_append];refine ⟨hok.1,by simp,fun a ha b hb => ?_⟩;simp at hb; subst hb;intro e; subst e; exact hyn ha
      ·rcases List.mem_append.1 hz with h | h
       ·exact hok.2 z h
       ·rw [List.mem_singleton.1 h]; exact hyts
     have hvlen : vs.length < ts.length:=by
      have h1 : (vs ++ [y]).Nodup:=zbo _ hok'.1;have:=h1.length_le_of_subset hok'.2;simp at this; omega
     have hrel : ts.length - (vs ++ [y]).length < ts.length - vs.length:=(by simp; omega);refine zb4 ?_;refine ⟨fun h5 => ?_,fun h5 => ?_⟩
     ·have hf : fit y.1 = false:=(by rw [hfit]; simpa using h5);refine zl5 ?_;simp only [seval,zaL,hlen];rw [List.take_of_length_le (i:=4) (l:=y.1.map iv) (by omega)];obtain ⟨di,dv,hfd,hdl,hde⟩:=zk4 hnd2 hnd1 hyts hf hyn;have hfind:=zdW (ts:=zlH ts fit (vs.map (·.2))) F.u132 F.u3 hi3 hs3 h41 (fun z hz => (h4r z (zeN hz)).1);rw [hfd] at hfind;refine zbs (zd8 y.1) ⟨zcR F.u132 F.u3 hi3 hs3 h41,_,hfind,?_⟩;rw [zgQ hdl,hde,<- hmapa,<- zaL,hpush];refine hR3 _ ⟨vs ++ [y],hrel,hok',?_⟩;exact (by first | exact zaS (zam rfl rfl) (by simp) (hokV _ _) (by simp) | exact zat (zam rfl rfl) (by simp) (hokV _ _) (by simp))
     ·have hf : fit y.1 = true:=(by rw [hfit]; simpa using h5);refine zca ?_;rw [hpush];have hce : zlH ts fit (vs.map (·.2)) = zlH ts fit ((vs ++ [y]).map (·.2)):=(by rw [hmapa,zk2 hnd2 hyts hf]);rw [<- zaL,hce];refine hR3 _ ⟨vs ++ [y],hrel,hok',?_⟩;exact (by first | exact zaS (zam rfl rfl) (by simp) (hokV _ _) (by simp) | exact zat (zam rfl rfl) (by simp) (hokV _ _) (by simp))
    ·
     have hseen : ∀ y ∈ ts,y.2 ∈ vs.map (·.2):=fun y hy => by
      apply Classical.byContradiction;intro hn;have hm : y ∈ zlH ts fit (vs.map (·.2)):=List.mem_filter.2 ⟨hy,by simp only [List.contains_eq_mem,hn,decide_false,Bool.not_false,Bool.true_or]⟩;have:=hs (zez y) (by simpa using ⟨y.1,y.2,hm,rfl⟩) (hborn y hy);exact hn (by simpa [zez] using this)
     have hcur : zlH ts fit (vs.map (·.2)) = zif x but (i + 1):=by
      rw [zk5 hseen,zdc hr];simp only [hnc,Bool.false_or];rfl
     refine zb4 ?_;refine zdu ?_;have hi1 : IntKind.i64.wrap ((i : Int) + 1) = ((i + 1 : Nat) : Int):=(by have:=hx.tries; rw [zau _ (by omega)]; rfl);refine zl5 ?_;simp only [seval,hi1];rw [<- zaL,hcur];refine hR _ ⟨hil,trivial,?_⟩;have hHs:=hHf (zif x but (i + 1));exact (zh9 hHs)
  ·have hie : i = x.tries.length:=(by omega);subst hie;refine zdu ?_;refine zbA ?_;refine zcw ?_;rw [zjg (by rw [zbD]; rfl),zgF,zcT];refine zbs rfl ?_;simp only [List.set_cons_succ,List.set_cons_zero];refine zaJ (H':=H ++ [setObj (zdt x but) (zeF x).length]) (G:=[.cells [.mp H.length] 59,.cells [.rp (x.l ++ zgv x)] 58,.gone,.gone]) (Wk.refl _) (by simp [zdt]) (by simp) ?_ (.mp (by simp)) hk;intro z hz;rcases List.mem_append.1 hz with h' | h'
   ·exact (hH z h').mono (by simp)
   ·rw [List.mem_singleton.1 h']; trivial
def zf8 (x : Ring) (fl : Option Int) : Int:=if zml x fl ≠ 0 then zml x fl else if zdt x [] = [] then 11 else 0
theorem zaP {x : Ring} {fl : Option Int} : zf8 x fl = 0 <-> zml x fl = 0 /\ zdt x [] ≠ []:=by
 unfold zf8;split
 ·simp_all
 ·split <;> simp_all
theorem zbp {x : Ring} {fl : Option Int} (h : zml x fl = 0) : x.Ok:=zbH.1 (zaN.1 h).1
def zlE (n all : Nat) : Int:=if n = 0 then 2 else if n = all then 1 else 3
theorem zbl {x : Ring} (hx : x.Ok) (but : List Int) : (zdt x but).length <= 81:=by
 have h1:=(zbk x but x.tries.length).length_le;have h2:=zdU hx;have h3 : (zeF x).zipIdx.length = (zeF x).length:=by simp
 show (zif x but x.tries.length).length <= 81;omega
def zlu (x : Ring) (n w : Int) : Option Int:=if inM n 0 (x.keys.length - 1) then (if inM w 0 (x.locks.length - 1) then none else some 1) else some 0
theorem zry {H H' L : List AObj} (h1 : HOk H') (hl : H'.length = H.length) (h : HOk (H ++ L)) : HOk (H' ++ L):=fun z hz => by
 have e : (H' ++ L).length = (H ++ L).length:=by simp [hl]
 rw [e];rcases List.mem_append.1 hz with h' | h'
 ·exact (h1 z h').mono (by simp [hl])
 ·exact h z (List.mem_append_right _ h')
theorem zr2 (P : Program) (T : List (Nat × AV)) (H : List AObj) {t : TypeId} (id : Nat) (k : AV -> Prop) (h : zl3 P t = some .map) : ALen P ⟨T,H⟩ t (.mp id) k = (match H[id]? with
  | some (.obj (.map es _)) => k (.val (.int .i64 es.size))
  | _ => False):=by unfold ALen; rw [h]; rfl
attribute [seval] zr2
theorem zbm (x : Ring) (but : List Int) : ∀ y ∈ zdt x but,y.2 < (zeF x).length:=fun y hy => zhU _ y ((zbk x but _).subset hy)
theorem zba (x : Ring) (but : List Int) : ((zdt x but).map (·.2)).Nodup:=List.Sublist.nodup ((zbk x but _).map _) (ze2 _)
theorem zbt {x : Ring} (hx : x.Ok) (but : List Int) : ∀ y ∈ zdt x but,y.1.length = 4 /\ ∀ w ∈ y.1,0 <= w /\ w <= 2:=fun y hy => ⟨zdD hx _ (zdA ((zbk x but _).subset hy)),zf4 hx _ (zdA ((zbk x but _).subset hy))⟩
theorem zbU {a lo hi : Int} : inM a lo hi = true <-> lo <= a /\ a <= hi:=by simp [inM]
theorem zgu {x : Ring} {n w : Int} : zlu x n w = none <-> (0 <= n /\ n <= x.keys.length - 1) /\ 0 <= w /\ w <= x.locks.length - 1:=by
 unfold zlu;rw [<- zbU,<- zbU];cases inM n 0 (x.keys.length - 1) <;> cases inM w 0 (x.locks.length - 1) <;> simp
theorem f15_t {H' : List AObj} {x : Ring} {ask : AV} {fl : Option Int} (hnr : zmr lv) (hmain : H'[0]? = some .main) (hl : H'.length = H.length) (hok : HOk H -> HOk H') (hs : x.Small) (hask : AskT lv H H' ask fl) (h0 : zlI x ≠ 0 -> k (.tup [.val (.pointer none),.val (.map none),iv (zf8 x fl)]) H) (h1 : zlI x = 0 -> zf8 x fl ≠ 0 -> k (.tup [.val (.pointer none),.val (.map none),iv (zf8 x fl)]) H') (h2 : zf8 x fl = 0 -> k (.tup [.rp (x.l ++ zgv x),.mp (H.length + 1),iv 0]) (H' ++ [.cells x.l 30,setObj (zdt x []) (zeF x).length])) : FnC lv Try.prog 15 H [x.av,ask] k kp:=by
 have hlL : ∀ L : List AObj,(H' ++ L).length = (H ++ L).length:=fun L => by simp [hl]
 have hmn : ∀ L : List AObj,(H' ++ L)[0]? = some .main:=fun L => by rw [List.getElem?_append_left (List.getElem?_eq_some_iff.1 hmain).1]; exact hmain
 refine zcC (rs:=[.tmp 4,.tmp 5,.tmp 6]) (nt:=26) Try.f15 fun hH hA => ?_;simp only [zf5,Nat.reduceAdd,Ring.av];refine zl5 ?_;simp only [seval,Ring.l];refine zbA ?_;refine zl6 ((f28_t hnr (hmn _) (hlL _) (zry (hok hH) hl) hs (fun _ => hask.ext _) (fun hc => ?_) (fun hc hz => ?_) (fun hz => ?_)))
 ·(try simp only [seval]);refine zbA ?_;have hz : zml x fl ≠ 0:=fun e => hc (zaN.1 e).1;have he : zf8 x fl = zml x fl:=by unfold zf8; rw [if_pos hz]
  refine zb4 ?_;refine ⟨fun h => ?_,fun h => absurd (by simpa using h) hz⟩;refine zbA ?_;refine zcw ?_;exact endA hH (Wk.refl _) (by simp [zap,zaD]) (he ▸ h0 hc)
 ·(try simp only [seval]);refine zbA ?_;have he : zf8 x fl = zml x fl:=by unfold zf8; rw [if_pos hz]
  refine zb4 ?_;refine ⟨fun h => ?_,fun h => absurd (by simpa using h) hz⟩;refine zbA ?_;refine zcw ?_;have h1:=h1 hc (he ▸ hz);rw [he] at h1;rw [<- hl];exact endA (hok hH) (Wk.refl _) (by simp [zap,zaD]) h1
 ·rw [<- hl] at h2 ⊢;(try simp only [seval]);refine zbA ?_;have hx:=zbp hz;have hlen : (zdt x []).length <= 81:=zbl hx [];refine zb4 ?_;refine zca ?_;refine zbA ?_;refine zl6 ((f29_c (but:=[]) (e:=.exact) hx (by decide) ?_));(try simp only [seval]);refine zl5 ?_;simp only [seval,zaL];refine zb4 ?_;refine ⟨fun h => ?_,fun h => ?_⟩
  ·
   refine zbA ?_;refine zcw ?_;have he : zdt x [] = []:=(by simpa using h);have ho : zf8 x fl = 11:=(by unfold zf8; rw [if_neg (by simpa using hz),if_pos he]);refine zaJ (H':=H') (Wk.refl _) rfl (Nat.le_refl _) (hok hH) (by simp [zap,zaD]) (ho ▸ h1 (zaN.1 hz).1 (by rw [ho]; decide))
  ·
   refine zca ?_;refine zbA ?_;refine zcw ?_;have he : zdt x [] ≠ []:=(by simpa using h);refine zao ?_;exact h2 (zaP.2 ⟨hz,he⟩)
theorem f15_c {x : Ring} {ask : AV} {fl : Option Int} (hnr : zmr lv) (hmain : H[0]? = some .main) (hs : x.Small) (hask : AskC lv H ask fl) (h1 : zf8 x fl ≠ 0 -> k (.tup [.val (.pointer none),.val (.map none),iv (zf8 x fl)]) H) (h2 : zf8 x fl = 0 -> k (.tup [.rp (x.l ++ zgv x),.mp (H.length + 1),iv 0]) (H ++ [.cells x.l 30,setObj (zdt x []) (zeF x).length])) : FnC lv Try.prog 15 H [x.av,ask] k kp :=
 f15_t hnr hmain rfl id hs hask (fun hc => h1 fun e => hc (zaN.1 (zaP.1 e).1).1) (fun _ => h1) h2
theorem f20_c {n all : Nat} (hk : k (iv (zlE n all)) H) : FnC lv Try.prog 20 H [iv n,iv all] k kp:=by
 refine zcC (rs:=[.tmp 4]) (nt:=11) Try.f20 fun hH hA => ?_;simp only [zf5,Nat.reduceAdd];refine zbA ?_;refine zbA ?_;refine zbA ?_;refine zb4 ?_;refine ⟨fun h => ?_,fun h => ?_⟩
 ·refine zbA ?_;refine zcw ?_;have h : n = 0:=by simpa using h
  rw [zlE,if_pos h] at hk;exact zao hk
 ·have h : n ≠ 0:=by simpa using h
  refine zbA ?_;refine zb4 ?_;refine ⟨fun h2 => ?_,fun h2 => ?_⟩
  ·refine zbA ?_;refine zcw ?_;have h2 : n = all:=Int.ofNat_inj.1 (by simpa using h2);rw [zlE,if_neg h,if_pos h2] at hk;exact zao hk
  ·have h2 : n ≠ all:=fun e => (by subst e; simp at h2);refine zca ?_;refine zbA ?_;refine zcw ?_;rw [zlE,if_neg h,if_neg h2] at hk;exact zao hk
theorem f16_c {r i j : Nat} {x : Ring} {n w : Int} (hx : x.Small) (hr : H[r]? = some (.cells x.l 30)) (hi : H[i]? = some (.cells [iv n] 3)) (hj : H[j]? = some (.cells [iv w] 3)) (hk : zlu x n w = none -> k (.tup []) H) (hp : ∀ f,zlu x n w = some f -> kp (.ifc 65 (iv f)) H) : FnC lv Try.prog 16 H [.op r 0,.op i 0,.op j 0] k kp:=by
 refine zcC (rs:=[]) (nt:=14) Try.f16 fun hH hA => ?_;simp only [zf5,Nat.reduceAdd];have hl:=hx.locks;have hw : IntKind.i64.wrap ((x.locks.length : Int) - 1) = x.locks.length - 1:=zau _ (by omega);have hr2:=hr;rw [Ring.l] at hr2;refine zl5 ?_;simp only [seval,hr2,hi];refine zl6 ((f17_c (x:=x) ?_));(try simp only [seval]);refine zl6 ((f30_c hx (by simp only [seval] <;> rfl) (by simp only [seval] <;> rfl) (fun hin => ?_) (fun hin => ?_)))
 ·(try simp only [seval]);refine zl5 ?_;simp only [seval,zay hj,zay hr2,hw,zli];refine zl6 ((f19_c ?_));(try simp only [seval]);refine zl6 ((f18_c (fun h => ?_) (fun h => ?_)))
  ·have h : inM w 0 (x.locks.length - 1) = true:=(by simpa [inM] using h);exact zaJ (Wk.refl _) rfl (Nat.le_refl _) hH (by simp [zaD]) (hk (by rw [zlu,if_pos hin,if_pos h]))
  ·have h : inM w 0 (x.locks.length - 1) = false:=(by simpa [inM] using h);exact zaJ (Wk.refl _) rfl (Nat.le_refl _) hH (by simp [zap,zey]) (hp 1 (by rw [zlu,if_pos hin,h]; rfl))
 ·exact zaJ (Wk.refl _) rfl (Nat.le_refl _) hH (by simp [zap,zey]) (hp 0 (by rw [zlu,hin]; rfl))
theorem zlh {r i j : Nat} {x : Ring} {n w : Int} (hx : x.Small) (hr : H[r]? = some (.cells x.l 30)) (hi : H[i]? = some (.cells [iv n] 3)) (hj : H[j]? = some (.cells [iv w] 3)) : AskC lv H (.fn (.func 16) [] [.op r 0,.op i 0,.op j 0]) (zlu x n w):=fun L k kp h1 h2 =>
 zme (f16_c hx (zay hr) (zay hi) (zay hj) h1 h2)
theorem f9_c {x : Ring} {n w : Int} (hnr : zmr lv) (hmain : H[0]? = some .main) (hs : x.Small) (h1 : zf8 x (zlu x n w) ≠ 0 -> k (.tup [iv 0,iv (zf8 x (zlu x n w))]) H) (h2 : zf8 x (zlu x n w) = 0 -> k (.tup [iv (zlE (cntM x n.toNat w.toNat (zdt x [])) (zdt x []).length),iv 0]) H) : FnC lv Try.prog 9 H [x.av,iv n,iv w] k kp:=by
 have hmn : ∀ L : List AObj,(H ++ L)[0]? = some .main:=fun L => zay hmain;refine zcC (rs:=[.tmp 6,.tmp 7]) (nt:=29) Try.f9 fun hH hA => ?_;simp only [zf5,Nat.reduceAdd,Ring.av];refine zl5 ?_;simp only [seval,Ring.l];refine zl5 ?_;simp only [seval,List.mapM_cons,List.mapM_nil,Option.pure_def,Option.bind_eq_bind];have hask : AskC lv (H ++ [.cells x.l 30,.cells [iv n] 3,.cells [iv w] 3]) _ (zlu x n w):=zlh (r:=H.length) (i:=H.length + 1) (j:=H.length + 2) hs (by simp only [seval]) (by simp only [seval]) (by simp only [seval]);refine zl6 ((f15_c hnr (hmn _) hs hask (fun hz => ?_) (fun hz => ?_)))
 ·(try simp only [seval]);refine zbA ?_;refine zb4 ?_;refine ⟨fun h => ?_,fun h => absurd (by simpa using h) hz⟩;refine zbA ?_;refine zcw ?_;exact endA hH (Wk.refl _) (by simp [zap,zaD]) (h1 hz)
 ·(try simp only [seval]);refine zbA ?_;obtain ⟨ho,hne⟩:=zaP.1 hz;have hx:=zbp ho;obtain ⟨⟨hn0,hn1⟩,hw0,hw1⟩:=zgu.1 (zaN.1 ho).2;obtain ⟨kn,rfl⟩ : ∃ m : Nat,n = m:=⟨n.toNat,by omega⟩;obtain ⟨ln,rfl⟩ : ∃ m : Nat,w = m:=⟨w.toNat,by omega⟩;have hx4:=hx.keys;have hx5:=hx.locks;have hle:=zbl hx [];refine zb4 ?_;refine zca ?_;have hg4 : ∀ L : List AObj,(H ++ L)[H.length + 3 + 1]? = L[4]?:=fun L => zbD H L 4;refine zbA ?_;refine zl6 ((f21_c (x:=x) (ts:=zdt x []) (ck:=(zeF x).length) (by rw [hg4]; rfl) (zbm x []) (zba x []) (by omega) (by omega) (by omega) (zbt hx []) ?_));(try simp only [seval,zaL,hg4]);have hsz : ((List.map zez (zdt x [])).toArray.size : Int) = ((zdt x []).length : Nat):=by simp
  (try simp only [seval,hsz]);refine zl6 ((f20_c ?_));(try simp only [seval]);refine zcw ?_;exact endA hH (Wk.refl _) (by simp [zap,zaD]) (h2 hz)
theorem z1 : zfA (Value.int .i64 0) 1 = [iv 0]:=rfl
theorem zeg {n : Nat} {l l' : List AV} {e : End} (hl : l.length = l'.length) (h : ∀ (i : Nat) a b,l'[i]? = some a -> l[i]? = some b -> Wk b a) : Wk (.sl n l e) (.sl n l' e):=fun E v hd => by
 cases hd with
 | sl b o cap f hc he h1 h2 =>
  refine .sl b o cap f hc he (fun i hi => h1 i (by omega)) fun i x hx => ?_;obtain ⟨y,hy⟩:=zaE (xs:=l) (i:=i) (by have:=get_lt hx; omega);exact h i x y hx hy E _ (h2 i y hy)
 | nil he =>
  have : l' = []:=List.eq_nil_of_length_eq_zero hl.symm;subst this;exact .nil he
theorem zhW {a b c : AV} (h : Wk a b) (k : Wk b c) : Wk a c:=fun E v hd => k E v (h E v hd)
theorem zdC {a b a' b' : AV} (h : Wk a a') (k : Wk b b') : Wk (.tup [a,b]) (.tup [a',b']):=fun E v hd => by
 cases hd with
 | tup hs h1 =>
  refine .tup (by simpa using hs) fun i x hx => ?_
  match i with
  | 0 => cases hx; exact h E _ (h1 0 a rfl)
  | 1 => cases hx; exact k E _ (h1 1 b rfl)
  | i + 2 => cases hx
theorem pow24 : (1 <= 2 ^ 24) = True:=by simp
theorem zc6 {H L : List AObj} (h : HOk H) (hL : ∀ z ∈ L,∀ n,OLt n z) : HOk (H ++ L):=fun z hz => by
 rcases List.mem_append.1 hz with h' | h'
 ·exact (h z h').mono (by simp)
 ·exact hL z h' _
theorem zfj {P : Program} {t : TypeId} {op : BinOp} (hop : op = .eql \/ op = .neq) (ht : P.underlying t = some .bool) (hg : P.eqGuardType P.depth t = false) (x y : Bool) (k : AV -> Prop) : ABin P op t (.val (.bool x)) (.val (.bool y)) k = k (.val (.bool (if op == .neq then !(x == y) else (x == y)))):=by
 have hsure : Sure P (Op.equal t (.bool x) (.bool y)) (x == y):=zjZ (d:=9999) ht;have e : ABin P op t (.val (.bool x)) (.val (.bool y)) k = ((op = .eql \/ op = .neq) /\ one1 (AV.raw (.val (.bool x))) fun X => one1 (AV.raw (.val (.bool y))) fun Y => zni X Y = true /\ P.eqGuardType P.depth t = false /\ ∃ e,Sure P (Op.equal t X Y) e /\ k (.val (.bool (if op == .neq then !e else e)))):=rfl;rw [e];apply propext;constructor
 ·rintro ⟨_,_,_,b,h1,h2⟩
  rw [hsure.uniq h1]; exact h2
 ·intro h;exact ⟨hop,rfl,hg,_,hsure,h⟩
theorem F.u4 : Try.prog.underlying 4 = some .bool:=by kernel_rfl
theorem F.g4 : Try.prog.eqGuardType Try.prog.depth 4 = false:=by kernel_rfl
theorem B4.eql (x y : Bool) (k : AV -> Prop) : ABin Try.prog .eql 4 (.val (.bool x)) (.val (.bool y)) k = k (.val (.bool (x == y))):=zfj (.inl rfl) F.u4 F.g4 x y k
theorem B4.neq (x y : Bool) (k : AV -> Prop) : ABin Try.prog .neq 4 (.val (.bool x)) (.val (.bool y)) k = k (.val (.bool (x != y))):=zfj (.inr rfl) F.u4 F.g4 x y k
attribute [seval] B4.eql B4.neq
theorem zdk {ts vs : List (List Int × Nat)} {y : List Int × Nat} (h : (vs.map (·.2)).Nodup /\ ∀ z ∈ vs,z ∈ ts) (hy : y ∈ ts) (hn : y.2 ∉ vs.map (·.2)) : ((vs ++ [y]).map (·.2)).Nodup /\ ∀ z ∈ vs ++ [y],z ∈ ts:=by
 refine ⟨?_,fun z hz => ?_⟩
 ·rw [List.map_append,List.nodup_append];refine ⟨h.1,by simp,fun a ha b hb => ?_⟩;simp at hb; subst hb;intro e; subst e; exact hn ha
 ·rcases List.mem_append.1 hz with h' | h'
  ·exact h.2 z h'
  ·rw [List.mem_singleton.1 h']; exact hy
theorem zdl {ts vs : List (List Int × Nat)} {y : List Int × Nat} (h : ((vs ++ [y]).map (·.2)).Nodup /\ ∀ z ∈ vs ++ [y],z ∈ ts) : ts.length - (vs ++ [y]).length < ts.length - vs.length:=by
 have h1 : (vs ++ [y]).Nodup:=zbo _ h.1;have:=h1.length_le_of_subset h.2;simp at this ⊢; omega
theorem zdm (vs : List (List Int × Nat)) (y : List Int × Nat) : ((vs.map (·.2)).toArray.push y.2) = ((vs ++ [y]).map (·.2)).toArray:=by simp
theorem u8z (t : List Int) (k : Nat) {w : Int} (h : t[k]? = some w) : t.getD k 0 = w:=by rw [List.getD_eq_getElem?_getD,h]; rfl
def znr (x : Ring) (t : List Int) (k : Nat) : Nat:=zg4 x k (t.getD k 0).toNat
theorem zdn {x : Ring} (hl4 : x.locks.length <= 8) (k w : Nat) : zg4 x k w < 256:=by
 unfold zg4;split
 ·exact zoT (zb5 _ _ _ _) hl4
 ·decide
def zkZ (x : Ring) (us : List Turn) : Option Int:=if us.length <= 6 then (if us.all fun u => inM u.key 0 (x.keys.length - 1) then none else some 0) else some 3
theorem zf3 {x : Ring} {us : List Turn} : zkZ x us = none <-> us.length <= 6 /\ ∀ u ∈ us,0 <= u.key /\ u.key <= x.keys.length - 1:=by
 unfold zkZ;split
 ·split
  ·rename_i h1 h2;simp only [true_iff];refine ⟨h1,fun u hu => zbU.1 (List.all_eq_true.1 h2 u hu)⟩
  ·rename_i h1 h2;simp only [reduceCtorEq,false_iff];intro h;exact h2 (List.all_eq_true.2 fun u hu => zbU.2 (h.2 u hu))
 ·rename_i h1;simp only [reduceCtorEq,false_iff];intro h; exact h1 h.1
theorem f22_c {r i : Nat} {x : Ring} {us : List Turn} (hx : x.Small) (hul : us.length < 2 ^ 30) (hr : H[r]? = some (.cells [zjx us] 41)) (hi : H[i]? = some (.cells x.l 30)) (hk : zkZ x us = none -> k (.tup []) H) (hp : ∀ f,zkZ x us = some f -> kp (.ifc 65 (iv f)) H) : FnC lv Try.prog 22 H [.op r 0,.op i 0] k kp:=by
 refine zcC (rs:=[]) (nt:=20) Try.f22 fun hH hA => ?_;simp only [zf5,Nat.reduceAdd];have hi2:=hi;rw [Ring.l] at hi2;refine zl5 ?_;simp only [seval,hr,zjx];refine zl6 ((f18_c (fun h => ?_) (fun h => ?_)))
 ·have h5 : (us.length : Int) <= 6:=by simpa using h
  have h6 : us.length <= 6:=by omega
  (try simp only [seval]);refine zl5 ?_;simp only [seval,hr,zjx];refine zdp ?_;refine zkO us.length (fun i : Nat => [(10,iv i)]) (fun _ => H) (fun i => (us.take i).all (fun u => inM u.key 0 (x.keys.length - 1)) = true) (by simp) (fun hHs hLt j hjn hj R hR => ?_);refine zbA ?_;refine zb4 ?_;refine ⟨fun h2 => ?_,fun h2 => ?_⟩
  ·have hjl : j < us.length:=(by omega);obtain ⟨u,hu⟩:=zaE hjl;have hj1 : IntKind.i64.wrap ((j : Int) + 1) = ((j + 1 : Nat) : Int):=(by rw [zau _ (by omega)]; rfl);have htk : (us.take (j + 1)).all (fun u => inM u.key 0 (x.keys.length - 1)) = ((us.take j).all (fun u => inM u.key 0 (x.keys.length - 1)) && inM u.key 0 (x.keys.length - 1)):=by
    obtain ⟨hj',rfl⟩:=List.getElem?_eq_some_iff.1 hu;rw [List.take_succ_eq_append_getElem hj',List.all_append]; simp
   refine zca ?_;refine zl5 ?_;simp only [seval,zh5 hu,zaz hjl];refine zl5 ?_;simp only [seval,zay hi2];refine zl6 ((f17_c (x:=x) ?_));(try simp only [seval]);refine zl6 ((f30_c hx (by simp only [seval] <;> rfl) (by simp only [seval] <;> rfl) (fun hin => ?_) (fun hin => ?_)))
   ·(try simp only [seval]);refine zl5 ?_;simp only [seval,hj1];refine hR _ ⟨hjl,by rw [htk,hj,hin]; rfl,?_⟩;exact (zh9 hHs)
   ·(try simp only [seval]);have hw : zkZ x us = some 0:=by
     unfold zkZ;rw [if_pos h6,if_neg];intro hc;have:=List.all_eq_true.1 hc u (zas hu);rw [hin] at this; cases this
    exact zaJ (Wk.refl _) rfl (Nat.le_refl _) hH (by simp [zap,zey]) (hp 0 hw)
  ·have hjx : j = us.length:=(by omega);subst hjx;rw [List.take_length] at hj;refine zdu ?_;have hw : zkZ x us = none:=by
    unfold zkZ;rw [if_pos h6,if_pos hj]
   exact zao (hk hw)
 ·have h5 : ¬ (us.length : Int) <= 6:=by simpa using h
  have h6 : ¬ us.length <= 6:=by omega
  exact zao (hp 3 (by unfold zkZ; rw [if_neg h6]))
theorem zlg {r i : Nat} {x : Ring} {us : List Turn} (hx : x.Small) (hul : us.length < 2 ^ 30) (hr : H[r]? = some (.cells [zjx us] 41)) (hi : H[i]? = some (.cells x.l 30)) : AskC lv H (.fn (.func 22) [] [.op r 0,.op i 0]) (zkZ x us):=fun L k kp h1 h2 =>
 zme (f22_c hx hul (zay hr) (zay hi) h1 h2)
def zmK (x : Ring) (t : List Int) (n : Nat) (u : Turn) : Bool:=(znr x t u.key.toNat).testBit n == u.opens
def bagB (x : Ring) (ts : List (List Int × Nat)) (us : List Turn) (n : Nat) : Bool:=ts.any fun y => us.all (zmK x y.1 n)
def zjp (x : Ring) (us : List Turn) (n : Nat) : List Int:=((List.range n).filter (bagB x (zdt x []) us)).map fun i : Nat => (i : Int)
def znd (x : Ring) (us : List Turn) : List Int:=zjp x us x.locks.length
theorem ziB (x : Ring) (us : List Turn) (n : Nat) : (zjp x us n).length <= n:=by
 unfold zjp;rw [List.length_map];have:=List.length_filter_le (bagB x (zdt x []) us) (List.range n);simpa using this
theorem zdS (x : Ring) (us : List Turn) (n : Nat) : zjp x us (n + 1) = zjp x us n ++ (if bagB x (zdt x []) us n then [(n : Int)] else []):=by
 unfold zjp;rw [List.range_succ,List.filter_append,List.map_append];congr 1;by_cases h : bagB x (zdt x []) us n = true <;> simp [h]
theorem f10_c {x : Ring} {us : List Turn} (hnr : zmr lv) (hmain : H[0]? = some .main) (hs : x.Small) (hul : us.length < 2 ^ 30) (h1 : zf8 x (zkZ x us) ≠ 0 -> k (.tup [.sl 0 [] .exact,iv (zf8 x (zkZ x us))]) H) (h2 : zf8 x (zkZ x us) = 0 -> k (.tup [zh7 (znd x us),iv 0]) H) : FnC lv Try.prog 10 H [x.av,zjx us] k kp:=by
 have hmn : ∀ L : List AObj,(H ++ L)[0]? = some .main:=fun L => zay hmain;refine zcC (rs:=[.tmp 4,.tmp 5]) (nt:=81) Try.f10 fun hH hA => ?_;simp only [zf5,Nat.reduceAdd,Ring.av];refine zl5 ?_;simp only [seval,Ring.l,zjx];(repeat apply zaa);refine zcb ?_;refine zl5 ?_;simp only [seval,List.mapM_cons,List.mapM_nil,Option.pure_def,Option.bind_eq_bind];have hask : AskC lv (H ++ [.cells x.l 30,.cells [zjx us] 41]) _ (zkZ x us):=zlg (r:=H.length + 1) (i:=H.length) hs hul (by simp only [seval]) (by simp only [seval]);refine zl6 ((f15_c hnr (hmn _) hs hask (fun hz => ?_) (fun hz => ?_)))
 ·(try simp only [seval]);refine zbA ?_;refine zb4 ?_;refine ⟨fun h => ?_,fun h => absurd (by simpa using h) hz⟩;refine zbA ?_;refine zcw ?_;exact endA hH (Wk.refl _) (by simp [zap,zaD,zbh]) (h1 hz)
 ·(try simp only [seval]);refine zbA ?_;obtain ⟨ho,hne⟩:=zaP.1 hz;have hx:=zbp ho;have hx4:=hx.keys;have hx5:=hx.locks;have hle:=zbl hx [];have hlk : x.l ++ zgv x = iv x.cuts :: zlD x.keys :: zli x.locks :: zl1 x.tries :: zgv x:=rfl;obtain ⟨hu6,hus⟩:=zf3.1 (zaN.1 ho).2;refine zb4 ?_;refine zca ?_;refine zbA ?_
  (repeat apply zaa); refine zbV (t:=9) (sz:=1) (el:=3) (by simp only [seval] <;> rfl) ?_
  (repeat apply zaa);refine zbQ ?_;simp only [seval];refine zl5 ?_;simp only [seval,hlk,zli];refine zdp ?_;have hb:=zbm x [];have hnd:=zba x [];have h4:=zbt hx [];have hall:=zcO (zdt x []) (zeF x).length hb;have hg3 : ∀ L : List AObj,(H ++ L)[H.length + 2 + 1]? = L[3]?:=fun L => zbD H L 3;refine zaB x.locks.length (fun n : Nat => [(9,.sl (zjp x us n).length ((zjp x us n).map iv) (.opn (H.length + 4))),(31,iv n)]) (fun n => H ++ [AObj.cells x.l 30,.cells [zjx us] 41,.cells x.l 30,setObj (zdt x []) (zeF x).length,.tail (zjp x us n).length 1 3]) (fun _ => True) (fun _ _ => rfl) (by simp only [seval]; simp [zaf,Wk.refl]; first | exact Wk.refl _ | exact ⟨Wk.refl _,Wk.refl _⟩) rfl (fun _ _ _ => by simp) trivial (fun hHs hLt n hnn hno R hR => ?_);refine zbA ?_;refine zb4 ?_;refine ⟨fun h => ?_,fun h => ?_⟩
  ·
   have hnl : n < x.locks.length:=(by omega);have hn1 : IntKind.i64.wrap ((n : Int) + 1) = ((n + 1 : Nat) : Int):=(by rw [zau _ (by omega)]; rfl);have hwl:=ziB x us n;have hokB0 : HOk (H ++ [AObj.cells x.l 30,.cells [zjx us] 41,.cells x.l 30,setObj (zdt x []) (zeF x).length,.tail 0 1 3]):=hHs;have hokB : ∀ m,HOk (H ++ [AObj.cells x.l 30,.cells [zjx us] 41,.cells x.l 30,setObj (zdt x []) (zeF x).length,.tail m 1 3]):=fun m => by
    have h1:=zec (H:=H ++ [AObj.cells x.l 30,.cells [zjx us] 41,.cells x.l 30,setObj (zdt x []) (zeF x).length]) (L:=[]) (o:=.tail 0 1 3) (o':=.tail m 1 3) (by simpa using hokB0) (fun _ => trivial);simpa using h1
   have hokI : ∀ m sn,HOk (H ++ [AObj.cells x.l 30,.cells [zjx us] 41,.cells x.l 30,setObj (zdt x []) (zeF x).length,.tail m 1 3,.iter (H.length + 2 + 1) (zeF x).length sn (zeF x).length]):=fun m sn => by
    have h1 : (H ++ [AObj.cells x.l 30,.cells [zjx us] 41,.cells x.l 30,setObj (zdt x []) (zeF x).length,.tail m 1 3,.iter (H.length + 2 + 1) (zeF x).length sn (zeF x).length]) = (H ++ [AObj.cells x.l 30,.cells [zjx us] 41,.cells x.l 30,setObj (zdt x []) (zeF x).length,.tail m 1 3]) ++ [.iter (H.length + 2 + 1) (zeF x).length sn (zeF x).length]:=(by simp);rw [h1];intro z hz;rcases List.mem_append.1 hz with h | h
    ·exact (hokB m z h).mono (by simp)
    ·rw [List.mem_singleton.1 h]; show H.length + 2 + 1 < _; simp
   have hokC : ∀ m sn (t : List Int),HOk (H ++ [AObj.cells x.l 30,.cells [zjx us] 41,.cells x.l 30,setObj (zdt x []) (zeF x).length,.tail m 1 3,.iter (H.length + 2 + 1) (zeF x).length sn (zeF x).length,.cells (t.map iv) 73]):=fun m sn t => by
    have h1 : (H ++ [AObj.cells x.l 30,.cells [zjx us] 41,.cells x.l 30,setObj (zdt x []) (zeF x).length,.tail m 1 3,.iter (H.length + 2 + 1) (zeF x).length sn (zeF x).length,.cells (t.map iv) 73]) = (H ++ [AObj.cells x.l 30,.cells [zjx us] 41,.cells x.l 30,setObj (zdt x []) (zeF x).length,.tail m 1 3,.iter (H.length + 2 + 1) (zeF x).length sn (zeF x).length]) ++ [.cells (t.map iv) 73]:=(by simp);rw [h1];refine zc6 (hokI m sn) fun z hz n => ?_;rw [List.mem_singleton.1 hz];intro a ha;obtain ⟨w,_,rfl⟩:=List.mem_map.1 ha;exact .val _
   refine zca ?_;refine zbA ?_;(repeat apply zaa);refine zcb ?_;(repeat apply zaa);refine zbQ ?_;simp only [seval];refine zl5 ?_;simp only [seval,zaL,hg3];refine zdp ?_;refine za9 (measure fun vs : List (List Int × Nat) => (zdt x []).length - vs.length).wf (fun vs => []) (fun vs => H ++ [AObj.cells x.l 30,.cells [zjx us] 41,.cells x.l 30,setObj (zdt x []) (zeF x).length,.tail (zjp x us n).length 1 3,.iter (H.length + 2 + 1) (zeF x).length (vs.map (·.2)).toArray (zeF x).length]) (fun vs => ((vs.map (·.2)).Nodup /\ ∀ y ∈ vs,y ∈ zdt x []) /\ ∀ y ∈ vs,us.all (zmK x y.1 n) = false) [] (fun _ _ => rfl) (by simp) (by simp [zaL,zjx]) (fun _ _ => by simp) ⟨⟨by simp,by simp⟩,by simp⟩ (fun hHs3 hLt3 vs hok R3 hR3 => ?_);refine zl5 ?_;simp only [seval,zaL,hg3];refine ⟨hall.elim .inl (fun h => .inr (.inl h)),fun e he hn => ?_,fun hs => ?_⟩
   ·obtain ⟨y,hy,rfl⟩ : ∃ y ∈ zdt x [],zez y = e:=(by simpa using he);have hyn : y.2 ∉ vs.map (·.2):=(by simpa [zez] using hn);have hok':=zdk hok.1 hy hyn;have hrel:=zdl hok';refine zb4 ?_;refine zca ?_;refine zdp ?_;obtain ⟨h41,h42⟩:=h4 y hy;have hborn : (zez y).born = y.2:=rfl;have hlen : (y.1.map iv).length = 4:=(by simp [h41]);have hdrop : List.drop 4 [AV.val (Value.int IntKind.i64 0),AV.val (Value.int IntKind.i64 0),AV.val (Value.int IntKind.i64 0),AV.val (Value.int IntKind.i64 0)] = []:=rfl;refine zl5 ?_;simp only [seval,zaL,hg3,Array.back?_push,hborn,zcL hnd hy,zb7,h41,hlen,hdrop];refine zl5 ?_;simp only [seval,zjx];refine zdp ?_;rw [zdm];refine zkO us.length (fun j : Nat => [(42,iv j)]) (fun _ => H ++ [AObj.cells x.l 30,.cells [zjx us] 41,.cells x.l 30,setObj (zdt x []) (zeF x).length,.tail (zjp x us n).length 1 3,.iter (H.length + 2 + 1) (zeF x).length ((vs ++ [y]).map (·.2)).toArray (zeF x).length,.cells (y.1.map iv) 73]) (fun j => (us.take j).all (zmK x y.1 n) = true) (by simp) (fun hHs4 hLt4 j hjn hj R4 hR4 => ?_);refine zbA ?_;refine zb4 ?_;refine ⟨fun h2 => ?_,fun h2 => ?_⟩
    ·
     have hjl : j < us.length:=(by omega);obtain ⟨u,hu⟩:=zaE hjl;obtain ⟨hk0,hk1⟩:=hus u (zas hu);obtain ⟨uk,uo⟩:=u;simp only at hk0 hk1;obtain ⟨kn,rfl⟩ : ∃ m : Nat,uk = m:=⟨uk.toNat,by omega⟩;have hkn : kn < 4:=(by omega);have hj1 : IntKind.i64.wrap ((j : Int) + 1) = ((j + 1 : Nat) : Int):=(by rw [zau _ (by omega)]; rfl);have htk : (us.take (j + 1)).all (zmK x y.1 n) = ((us.take j).all (zmK x y.1 n) && zmK x y.1 n ⟨kn,uo⟩):=by
      obtain ⟨hj',e5⟩:=List.getElem?_eq_some_iff.1 hu;rw [List.take_succ_eq_append_getElem hj',List.all_append,e5]; simp
     obtain ⟨w,hw⟩:=zaE (xs:=y.1) (i:=kn) (by omega);have hwb:=h42 w (zas hw);obtain ⟨wn,rfl⟩ : ∃ n : Nat,w = n:=⟨w.toNat,by omega⟩;have b4 : (0 <= (kn : Int) /\ (kn : Int) < 4) = True:=(by simp; omega);have b3 : (0 <= (wn : Int) /\ (wn : Int) < 3) = True:=(by simp; omega);have hm:=zdn (x:=x) (by omega) kn wn;have hfit : zmK x y.1 n ⟨kn,uo⟩ = ((zg4 x kn wn).testBit n == uo):=by
      unfold zmK znr;rw [Int.toNat_natCast,u8z y.1 kn hw]; rfl
     have hne0 : ((n : Int) != (n : Int)) = false:=(by simp);refine zca ?_;refine zl5 ?_;simp only [seval,zh5 hu,zaz hjl];refine zbA ?_;refine zl6 ((f23_c ?_));(try simp only [seval]);refine zjl 23 ?_;simp only [seval,b4,b3,zbf hw,zcH x hkn,zb0 x hkn (show wn < 3 by omega),zfz,List.mapM_cons,List.mapM_nil,Option.pure_def,Option.bind_eq_bind];refine zod (iv n) (zme (f24_c ⟨rfl,rfl⟩)) ?_;(try simp only [seval,hne0,b4,b3,zbf hw,zcH x hkn,zb0 x hkn (show wn < 3 by omega),zfz,List.mapM_cons,List.mapM_nil,Option.pure_def,Option.bind_eq_bind]);refine qInv (bv ((zg4 x kn wn).testBit n == uo)) (zii hm ⟨rfl,rfl⟩) ?_;(try simp only [seval]);refine zb4 ?_;refine ⟨fun h3 => ?_,fun h3 => ?_⟩
     ·
      have hff : zmK x y.1 n ⟨kn,uo⟩ = false:=(by rw [hfit]; simpa using h3);have hf : us.all (zmK x y.1 n) = false:=by
       apply Bool.eq_false_iff.2;intro hc;have h5:=List.all_eq_true.1 hc _ (zas hu);rw [hff] at h5; cases h5
      refine zdu ?_;refine hR3 _ ⟨vs ++ [y],hrel,⟨hok',fun z hz => ?_⟩,?_⟩
      ·rcases List.mem_append.1 hz with h | h
       ·exact hok.2 z h
       ·rw [List.mem_singleton.1 h]; exact hf
      ·exact zat (zam rfl rfl) (by simp) (hokI _ _) (by simp)
     ·
      have hff : zmK x y.1 n ⟨kn,uo⟩ = true:=(by rw [hfit]; simpa using h3);refine zca ?_;refine zl5 ?_;simp only [seval,hj1];refine hR4 _ ⟨hjl,by rw [htk,hj,hff]; rfl,?_⟩;exact zat (zam rfl rfl) (by simp only [seval]; simp [zaf,Wk.refl]) (hokC _ _ _) (by simp [zap])
    ·
     have hjx : j = us.length:=(by omega);subst hjx;rw [List.take_length] at hj;have hbag : bagB x (zdt x []) us n = true:=List.any_eq_true.2 ⟨y,hy,hj⟩;have hsucc : zjp x us (n + 1) = zjp x us n ++ [(n : Int)]:=(by rw [zdS,if_pos hbag]);have hsl : (zjp x us n ++ [(n : Int)]).length = (zjp x us n).length + 1:=(by simp);refine zdu ?_;refine zl5 ?_;simp only [seval,z1,pow24];refine ⟨by omega,?_⟩;refine zdu ?_;refine zl5 ?_;simp only [seval,hn1];refine hR _ ⟨hnl,trivial,?_⟩;rw [hsucc,hsl,List.map_append];exact zat (zam rfl rfl) (by simp only [seval]; simp [zaf,Wk.refl]) (hokB _) (by simp [zap,zdq]; rintro a (⟨w,_,rfl⟩ | rfl) <;> exact .val _)
   ·have hp : vs.Perm (zdt x []):=zct hok.1.1 hnd hok.1.2 fun y hy => by
     have:=hs (zez y) (by simp; exact ⟨y.1,y.2,hy,rfl⟩) (hb y hy);simpa [zez] using this
    have hbag : bagB x (zdt x []) us n = false:=by
     apply Bool.eq_false_iff.2;intro hc;obtain ⟨y,hy,hf⟩:=List.any_eq_true.1 hc;rw [hok.2 y (hp.mem_iff.2 hy)] at hf; cases hf
    have hsucc : zjp x us (n + 1) = zjp x us n:=(by rw [zdS,hbag]; simp);refine zb4 ?_;refine zdu ?_;refine zl5 ?_;simp only [seval,hn1];refine hR _ ⟨hnl,trivial,?_⟩;rw [hsucc];exact zat (zam rfl rfl) (by simp only [seval]; simp [zaf,Wk.refl]) (hokB _) (by simp [zap,zdq])
  ·
   have hnx : n = x.locks.length:=(by omega);subst hnx;refine zdu ?_;refine zbA ?_;refine zcw ?_;exact endA hH (zdC (zaK _ _ _) (Wk.refl _)) (by simp [zap,zaD,za3]) (h2 hz)
end
section
variable {H : List AObj} {k kp : AV -> List AObj -> Prop}
end
structure TinS where
 nums : List Int
 g : Int
 s : Int
def tinO (τ : TinS) : AObj:=.cells [zh7 τ.nums,.val (.int .i64 τ.g),.val (.int .u64 τ.s)] 56
def xorU (a b : Int) : Int:=IntKind.u64.wrap (BitVec.ofInt IntKind.u64.bits a ^^^ BitVec.ofInt IntKind.u64.bits b).toNat
def word0 (g : Int) : Int:=IntKind.u64.wrap (IntKind.u64.wrap (IntKind.u64.wrap g * 15074714826142052245) + 11400714819323198485)
def zqO (τ : TinS) : Int:=match τ.nums[τ.g.toNat]? with
 | some x => xorU (word0 τ.g) (IntKind.u64.wrap (IntKind.u64.wrap x * 12620523164723586485))
 | none => word0 τ.g
def mix1 (s w : Int) : Int:=IntKind.u64.wrap (IntKind.u64.wrap (s + w) * 13787848793156543929)
def mix2 (s : Int) : Int:=xorU s (s.fdiv (2 ^ min 31 IntKind.u64.bits))
def out1 (s : Int) : Int:=(xorU s (s.fdiv (2 ^ min 27 IntKind.u64.bits))).fdiv (2 ^ min 9 IntKind.u64.bits)
def tick (τ : TinS) : TinS:=⟨τ.nums,τ.g + 1,mix2 (mix1 τ.s (zqO τ))⟩
def outT (τ : TinS) : Int:=out1 (IntKind.u64.wrap ((tick τ).s * 10723151780598845931))
theorem zqu (n : Int) (h0 : 0 <= n) (h : n < 2 ^ 64) : IntKind.u64.wrap n = n:=by
 have h1 : IntKind.u64.bits = 64:=rfl;have h2 : IntKind.u64.signed = false:=rfl;unfold IntKind.wrap;rw [h1,h2];simp;omega
theorem zjS (n : Int) : 0 <= IntKind.u64.wrap n /\ IntKind.u64.wrap n < 2 ^ 64:=by
 have h1 : IntKind.u64.bits = 64:=rfl;have h2 : IntKind.u64.signed = false:=rfl;unfold IntKind.wrap;rw [h1,h2];simp;omega
theorem ze9 (s : Int) : 0 <= out1 s /\ out1 s < 2 ^ 55:=by
 unfold out1 xorU;have h:=zjS (BitVec.ofInt IntKind.u64.bits s ^^^ BitVec.ofInt IntKind.u64.bits (s.fdiv (2 ^ min 27 IntKind.u64.bits))).toNat;have e : (2 : Int) ^ min 9 IntKind.u64.bits = 512:=by decide
 rw [e,Int.fdiv_eq_ediv_of_nonneg _ (show (0 : Int) <= 512 by decide)];omega
def zmD (τ : TinS) (n : Int) : Int:=if n < 1 then 0 else (outT τ).tmod (n + 1)
theorem zaX (τ : TinS) (n : Int) : 0 <= zmD τ n /\ (zmD τ n <= n \/ zmD τ n = 0):=by
 unfold zmD;split
 ·omega
 ·have h:=(ze9 (IntKind.u64.wrap ((tick τ).s * 10723151780598845931))).1;have h1:=Int.tmod_nonneg (n + 1) h;have h2:=Int.tmod_lt_of_pos (outT τ) (show 0 < n + 1 by omega);unfold outT at h2 ⊢;omega
def zma (τ : TinS) (lo hi : Int) : Int:=lo + zmD τ (hi - lo)
theorem za1 (τ : TinS) {lo hi : Int} (h : lo <= hi) : lo <= zma τ lo hi /\ zma τ lo hi <= hi:=by
 have:=zaX τ (hi - lo);unfold zma;omega
def znQ (τ : TinS) (n : Int) : Bool:=zmD τ (n - 1) == 0
def znI (τ : TinS) (lo hi : Int) : Band:=⟨zma τ lo hi,zma (tick τ) (zma τ lo hi) hi⟩
theorem zir (τ : TinS) {lo hi : Int} (h : lo <= hi) : lo <= (znI τ lo hi).min /\ (znI τ lo hi).min <= (znI τ lo hi).max /\ (znI τ lo hi).max <= hi:=by
 have h1:=za1 τ h;have h2:=za1 (tick τ) h1.2;exact ⟨h1.1,h2.1,h2.2⟩
structure TinAt (Gf : TinS -> List AObj) (t N : Nat) : Prop where
 len : ∀ τ,(Gf τ).length = N
 get : ∀ τ,(Gf τ)[t]? = some (tinO τ)
 set : ∀ τ τ',(Gf τ).set t (tinO τ') = Gf τ'
 ok : ∀ m τ τ',(∀ z ∈ Gf τ,OLt m z) -> ∀ z ∈ Gf τ',OLt m z
theorem TinAt.more {Gf : TinS -> List AObj} {t N : Nat} (h : TinAt Gf t N) (L : List AObj) : TinAt (fun τ => Gf τ ++ L) t (N + L.length) where
 len:=fun τ => by simp [h.len]
 get:=fun τ => zay (h.get τ)
 set:=fun τ τ' => by show (Gf τ ++ L).set t _ = _; rw [List.set_append_left _ _ (get_lt (h.get τ)),h.set]
 ok:=fun m τ τ' hk z hz => (List.mem_append.1 hz).elim (fun hz => h.ok m τ τ' (fun v hv => hk v (List.mem_append_left _ hv)) z hz) (fun hz => hk z (List.mem_append_right _ hz))
theorem TinAt.hok {Gf : TinS -> List AObj} {t N : Nat} (h : TinAt Gf t N) {τ : TinS} (hH : HOk (Gf τ)) (τ' : TinS) : HOk (Gf τ'):=fun z hz => by
 have:=h.ok N τ τ' (fun w hw => by have:=hH w hw; rwa [h.len] at this) z hz;rwa [h.len]
section
variable {Gf : TinS -> List AObj} {t N : Nat} (h : TinAt Gf t N)
include h
theorem TinAt.g0 (τ : TinS) (L : List AObj) : (Gf τ ++ L)[N]? = L[0]?:=by have:=zco (Gf τ) L 0; rwa [h.len] at this
theorem TinAt.g1 (τ : TinS) (L : List AObj) : (Gf τ ++ L)[N + 1]? = L[1]?:=by have:=zco (Gf τ) L 1; rwa [h.len] at this
theorem TinAt.g2 (τ : TinS) (L : List AObj) : (Gf τ ++ L)[N + 1 + 1]? = L[2]?:=by have:=zco (Gf τ) L 2; rwa [h.len] at this
theorem TinAt.g3 (τ : TinS) (L : List AObj) : (Gf τ ++ L)[N + 1 + 1 + 1]? = L[3]?:=by have:=zco (Gf τ) L 3; rwa [h.len] at this
theorem TinAt.h2 (τ : TinS) (L : List AObj) : (Gf τ ++ L)[N + 2]? = L[2]?:=h.g2 τ L
theorem TinAt.h3 (τ : TinS) (L : List AObj) : (Gf τ ++ L)[N + 3]? = L[3]?:=h.g3 τ L
theorem TinAt.s0 (τ : TinS) (L : List AObj) (x : AObj) : (Gf τ ++ L).set N x = Gf τ ++ L.set 0 x:=by have:=zbR (Gf τ) L 0 x; rwa [h.len] at this
theorem TinAt.s1 (τ : TinS) (L : List AObj) (x : AObj) : (Gf τ ++ L).set (N + 1) x = Gf τ ++ L.set 1 x:=by have:=zbR (Gf τ) L 1 x; rwa [h.len] at this
theorem TinAt.s2 (τ : TinS) (L : List AObj) (x : AObj) : (Gf τ ++ L).set (N + 1 + 1) x = Gf τ ++ L.set 2 x:=by have:=zbR (Gf τ) L 2 x; rwa [h.len] at this
theorem TinAt.s3 (τ : TinS) (L : List AObj) (x : AObj) : (Gf τ ++ L).set (N + 1 + 1 + 1) x = Gf τ ++ L.set 3 x:=by have:=zbR (Gf τ) L 3 x; rwa [h.len] at this
theorem TinAt.t2 (τ : TinS) (L : List AObj) (x : AObj) : (Gf τ ++ L).set (N + 2) x = Gf τ ++ L.set 2 x:=h.s2 τ L x
theorem TinAt.t3 (τ : TinS) (L : List AObj) (x : AObj) : (Gf τ ++ L).set (N + 3) x = Gf τ ++ L.set 3 x:=h.s3 τ L x
end
theorem TinAt.an {Gf : TinS -> List AObj} {t N : Nat} (h : TinAt Gf t N) : (type_of% h.len) /\ (type_of% h.g0) /\ (type_of% h.g1) /\ (type_of% h.g2) /\ (type_of% h.g3) /\ (type_of% h.h2) /\ (type_of% h.h3) /\ (type_of% h.s0) /\ (type_of% h.s1) /\ (type_of% h.s2) /\ (type_of% h.s3) /\ (type_of% h.t2) /\ (type_of% h.t3):=⟨h.len,h.g0,h.g1,h.g2,h.g3,h.h2,h.h3,h.s0,h.s1,h.s2,h.s3,h.t2,h.t3⟩
theorem zoq (m : Nat) (τ : TinS) : OLt m (tinO τ):=by
 intro a ha;simp only [List.mem_cons,List.not_mem_nil,or_false] at ha;rcases ha with rfl | rfl | rfl
 ·rw [zbi]; trivial
 ·exact .val _
 ·exact .val _
theorem zjT (H : List AObj) : TinAt (fun τ => H ++ [tinO τ]) H.length (H.length + 1) where
 len:=fun τ => by simp
 get:=fun τ => by simp
 set:=fun τ τ' => by simp
 ok:=fun m τ τ' hk z hz => by
  rcases List.mem_append.1 hz with hz | hz
  ·exact hk z (List.mem_append_left _ hz)
  ·rw [List.mem_singleton.1 hz]; exact zoq _ _
structure TinS.Ok (τ : TinS) (b : Int) : Prop where
 g0 : 0 <= τ.g
 g : τ.g <= b
 len : τ.nums.length <= 2 ^ 50
section
variable {lv : Bool} {H : List AObj} {k kp : AV -> List AObj -> Prop} {Gf : TinS -> List AObj} {t N : Nat} {τ : TinS} {b : Int}
theorem f4_c {nums : List Int} (hk : k (.op H.length 0) (H ++ [tinO ⟨nums,0,7640891576956012809⟩])) : FnC lv Try.prog 4 H [zh7 nums] k kp:=by
 refine zcC (rs:=[.tmp 2]) (nt:=6) Try.f4 fun hH hA => ?_;simp only [zf5,Nat.reduceAdd];refine zbA ?_;refine zbA ?_;refine zcw ?_;exact zao hk
theorem TinS.Ok.tick (h : τ.Ok b) : (tick τ).Ok (b + 1):=⟨by have:=h.g0; show 0 <= τ.g + 1; omega,by have:=h.g; show τ.g + 1 <= b + 1; omega,h.len⟩
theorem TinS.Ok.mono {b' : Int} (h : τ.Ok b) (hb : b <= b') : τ.Ok b':=⟨h.g0,by have:=h.g; omega,h.len⟩
theorem f14_c (hT : TinAt Gf t N) (hτ : τ.Ok b) (hb : b < 2 ^ 60) (hk : k (.val (.int .u64 (outT τ))) (Gf (tick τ))) : FnC lv Try.prog 14 (Gf τ) [.op t 0] k kp:=by
 obtain ⟨nums,g,s⟩:=τ;obtain ⟨hg0,hgb,hln⟩:=hτ;simp only at hg0 hgb hln;refine zcC (rs:=[.tmp 2]) (nt:=76) Try.f14 fun hH hA => ?_;simp only [zf5,Nat.reduceAdd];have hg : ∀ τ,(Gf τ)[t]? = some (.cells [.sl τ.nums.length (τ.nums.map iv) .shut,.val (.int .i64 τ.g),.val (.int .u64 τ.s)] 56):=hT.get;have hs : ∀ τ (nums' : List Int) g' s',(Gf τ).set t (.cells [.sl nums'.length (nums'.map iv) .shut,.val (.int .i64 g'),.val (.int .u64 s')] 56) = Gf ⟨nums',g',s'⟩:=fun τ nums' g' s' => hT.set τ ⟨nums',g',s'⟩;obtain ⟨n,rfl⟩ : ∃ n : Nat,g = n:=⟨g.toNat,by omega⟩;have hw : IntKind.i64.wrap ((n : Int) + 1) = n + 1:=zau _ (by omega);refine zbA ?_;refine zl5 ?_;simp only [seval,hg];refine zjl 9 ?_;simp only [seval,hg];refine zb4 ?_;refine ⟨fun h => ?_,fun h => ?_⟩
 ·have hnl : n < nums.length:=by simpa using h
  obtain ⟨x,hx⟩:=zaE hnl;refine zjl 13 ?_;simp only [seval,hg,za2 hx,zaz hnl,zdy];refine zl5 ?_;simp only [seval,hg,hw,hs];refine zl5 ?_;simp only [seval,hg,hs];refine zjl 11 ?_;simp only [seval,hg,hs,zdz,zdy];refine zl5 ?_;simp only [seval,hg];refine zl5 ?_;simp only [seval,zdz,zdy];refine zcw ?_;refine zao ?_;unfold outT tick zqO at hk;simp only [Int.toNat_natCast,hx] at hk;exact hk
 ·have hnl : ¬ n < nums.length:=by simpa using h
  have hx : nums[n]? = none:=by rw [List.getElem?_eq_none]; omega
  refine zca ?_;refine zl5 ?_;simp only [seval,hg,hw,hs];refine zl5 ?_;simp only [seval,hg,hs];refine zjl 11 ?_;simp only [seval,hg,hs,zdz,zdy];refine zl5 ?_;simp only [seval,hg];refine zl5 ?_;simp only [seval,zdz,zdy];refine zcw ?_;refine zao ?_;unfold outT tick zqO at hk;simp only [Int.toNat_natCast,hx] at hk;exact hk
theorem f7_c {n : Int} (hT : TinAt Gf t N) (hτ : τ.Ok b) (hb : b < 2 ^ 60) (hn : n < 2 ^ 60) (hk : k (iv (zmD τ n)) (Gf (tick τ))) : FnC lv Try.prog 7 (Gf τ) [.op t 0,iv n] k kp:=by
 refine zcC (rs:=[.tmp 4]) (nt:=16) Try.f7 fun hH hA => ?_;simp only [zf5,Nat.reduceAdd];refine zbA ?_;refine zbA ?_;refine zl6 ((f14_c hT hτ hb ?_));(try simp only [seval]);refine zbA ?_;refine zb4 ?_;refine ⟨fun h => ?_,fun h => ?_⟩
 ·have h : n < 1:=by simpa using h
  refine zbA ?_;refine zcw ?_;rw [zmD,if_pos h] at hk;exact zao hk
 ·have h : ¬ n < 1:=by simpa using h
  have ho:=ze9 (IntKind.u64.wrap ((tick τ).s * 10723151780598845931));have hw1 : IntKind.u64.wrap n = n:=zqu n (by omega) (by omega);have hw2 : IntKind.u64.wrap (n + 1) = n + 1:=zqu _ (by omega) (by omega);have hn0 : n + 1 ≠ 0:=by omega
  have hr:=zaX τ n;rw [zmD,if_neg h] at hk hr;have hw3 : IntKind.i64.wrap ((outT τ).tmod (n + 1)) = (outT τ).tmod (n + 1):=zau _ (by omega);refine zca ?_;refine zl5 ?_;simp only [seval,zqg,hw1,hw2,hw3,hn0];refine zcw ?_;exact zao hk
theorem f5_c {lo hi : Int} (hT : TinAt Gf t N) (hτ : τ.Ok b) (hb : b < 2 ^ 60) (hlo : 0 <= lo /\ lo < 2 ^ 20) (hhi : -1 <= hi /\ hi < 2 ^ 20) (hk : k (iv (zma τ lo hi)) (Gf (tick τ))) : FnC lv Try.prog 5 (Gf τ) [.op t 0,iv lo,iv hi] k kp:=by
 refine zcC (rs:=[.tmp 6]) (nt:=14) Try.f5 fun hH hA => ?_;simp only [zf5,Nat.reduceAdd];have hw1 : IntKind.i64.wrap (hi - lo) = hi - lo:=zau _ (by omega);have hr:=zaX τ (hi - lo);have hw2 : IntKind.i64.wrap (lo + zmD τ (hi - lo)) = lo + zmD τ (hi - lo):=zau _ (by omega);refine zbA ?_;refine zl5 ?_;simp only [seval,hw1];refine zl6 ((f7_c hT hτ hb (by omega) ?_));(try simp only [seval,hw2]);refine zcw ?_;exact zao hk
theorem f8_c {n : Int} (hT : TinAt Gf t N) (hτ : τ.Ok b) (hb : b < 2 ^ 60) (hn : 0 <= n /\ n < 2 ^ 20) (hk : k (bv (znQ τ n)) (Gf (tick τ))) : FnC lv Try.prog 8 (Gf τ) [.op t 0,iv n] k kp:=by
 refine zcC (rs:=[.tmp 4]) (nt:=10) Try.f8 fun hH hA => ?_;simp only [zf5,Nat.reduceAdd];have hw1 : IntKind.i64.wrap (n - 1) = n - 1:=zau _ (by omega);refine zbA ?_;refine zl5 ?_;simp only [seval,hw1];refine zl6 ((f7_c hT hτ hb (by omega) ?_));(try simp only [seval]);refine zcw ?_;exact zao hk
theorem f6_c {lo hi : Int} (hT : TinAt Gf t N) (hτ : τ.Ok b) (hb : b < 2 ^ 50) (hlo : 0 <= lo /\ lo <= hi) (hhi : hi < 2 ^ 20) (hk : k (znI τ lo hi).av (Gf (tick (tick τ)))) : FnC lv Try.prog 6 (Gf τ) [.op t 0,iv lo,iv hi] k kp:=by
 refine zcC (rs:=[.cell 6 32]) (nt:=18) Try.f6 fun hH hA => ?_;simp only [zf5,Nat.reduceAdd];have hr:=za1 τ hlo.2;refine zl5 ?_;simp only [seval,hT.an];refine zl5 ?_;simp only [seval,hT.an];refine zl6 ((f5_c (hT.more _) hτ (by omega) (by omega) (by omega) ?_));(try simp only [seval,hT.an]);refine zl5 ?_;simp only [seval,hT.an];refine zl6 ((f5_c (hT.more _) hτ.tick (by omega) (by omega) (by omega) ?_));(try simp only [seval,hT.an]);refine zmH ?_;simp only [seval,hT.an];rw [<- hT.len (tick (tick τ))];exact endA (b:=(znI τ lo hi).av) (hT.hok hH _) (Wk.refl _) (by simp [zap,zfa,Band.av,Band.l,iv]) hk
end
theorem zgb {xs ys : List Int} {i : Nat} {x y : Int} (hx : xs[i]? = some x) (hy : ys[i]? = some y) (h : xs.take i = ys.take i) (e : x = y) : xs.take (i + 1) = ys.take (i + 1):=by
 obtain ⟨hj,rfl⟩:=List.getElem?_eq_some_iff.1 hx;obtain ⟨hk,rfl⟩:=List.getElem?_eq_some_iff.1 hy;rw [List.take_succ_eq_append_getElem hj,List.take_succ_eq_append_getElem hk,h,e]
section
variable {lv : Bool} {H : List AObj} {k kp : AV -> List AObj -> Prop}
theorem f12_c {xs ys : List Int} {e e' : End} (hx : xs.length < 2 ^ 60) (hk : k (bv (decide (xs = ys))) H) : FnC lv Try.prog 12 H [.sl xs.length (xs.map iv) e,.sl ys.length (ys.map iv) e'] k kp:=by
 refine zcC (rs:=[.tmp 4]) (nt:=26) Try.f12 fun hH hA => ?_;simp only [zf5,Nat.reduceAdd];refine zbA ?_;refine zbA ?_;refine zb4 ?_;refine ⟨fun h => ?_,fun h => ?_⟩
 ·have h : xs ≠ ys:=fun e => by subst e; simp at h
  refine zbA ?_;refine zcw ?_;rw [decide_eq_false h] at hk;exact zao hk
 ·have h : xs.length = ys.length:=by
   have h : (xs.length : Int) = ys.length:=(by simpa using h);omega
  refine zca ?_;refine zbA ?_;refine zdp ?_;refine zkO xs.length (fun i : Nat => [(5,iv i)]) (fun _ => _) (fun i => xs.take i = ys.take i) (by simp) (fun hHs hLt i hin hi R hR => ?_);refine zbA ?_;refine zb4 ?_;refine ⟨fun h2 => ?_,fun h2 => ?_⟩
  ·have hlt : i < xs.length:=(by omega);obtain ⟨x,hx1⟩:=zaE hlt;obtain ⟨y,hy1⟩:=zaE (xs:=ys) (i:=i) (by omega);refine zca ?_;refine zdp ?_;refine zjl 8 ?_;simp only [seval,za2 hx1,za2 hy1,zaz hlt,zaz (get_lt hy1)];refine zb4 ?_;refine ⟨fun h3 => ?_,fun h3 => ?_⟩
   ·have h3 : xs ≠ ys:=fun e => (by subst e; rw [hx1] at hy1; cases hy1; simp at h3);refine zbA ?_;refine zcw ?_;rw [decide_eq_false h3] at hk;exact zao hk
   ·have h3 : x = y:=(by simpa using h3);refine zca ?_;refine zbA ?_;refine hR _ ⟨hlt,zgb hx1 hy1 hi h3,?_⟩;rw [zau _ (by omega)];exact zfi
  ·have hix : i = xs.length:=(by omega);refine zdu ?_;refine zbA ?_;refine zcw ?_;have h3 : xs = ys:=by
    rw [hix,List.take_length] at hi;rw [hi,h,List.take_length]
   rw [decide_eq_true h3] at hk;exact zao hk
end
end Go.Gg
