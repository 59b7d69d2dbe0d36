/- A part of the proof. -/
import Derived.Test.YtoaaoiipickclaaGreatKeyNumbered2
import Derived.Test.YtoaaoiipickclaaGreatProg
import Derived.KernelRfl
import Derived.Conc.TokenWalk
set_option linter.all false
set_option maxRecDepth 4000
set_option maxHeartbeats 1000000
namespace Go.Gg
open Go.Conc
section
variable {lv main : Bool} {P : Program} {J : View -> Goroutine -> Prop}
theorem zdV (C : Closed lv P main J) {V : View} {fr : Frame} {cs : List Frame} {g : FuncId} {ca zas : Array Value} {ds : List Deferred} (hd : fr.defers = ⟨.fn (.func g) ca,zas⟩ :: ds) (hm : (fr.mode matches .run) = false) (hg : zmN P g = true)
  (h : J V (G (Frame.enter P g (zas ++ ca) .deferred) ({ fr with defers:=ds } :: cs))) : J V (G fr cs):=by
 refine C.step _ _ rfl fun w hw => ?_;have hs : SemOk P V (invoke (.fn (.func g) ca) zas) (fun nx V' => nx = .enter g (zas ++ ca) /\ V' = V) (fun _ _ => False):=by
  unfold invoke;exact zc4 hg ⟨rfl,rfl⟩
 obtain ⟨es,w',V',k1,k2,k3⟩:=hs.runs hw;rcases k3 with ⟨nx,k3,rfl,rfl⟩ | ⟨_,_,h⟩
 ·refine ⟨G (Frame.enter P g (zas ++ ca) .deferred) ({ fr with defers:=ds } :: cs),w',seen P fr.fn es,V',?_,k1.seen P fr.fn,h⟩;have e : stepG P main (G fr cs) w = unwind P main fr cs none w:=by
   obtain ⟨fn,tmps,todo,defers,mode,kind,ro⟩:=fr;cases mode with
   | run => cases hm
   | returning => simp [G,stepG]
   | panicking ch => simp [G,stepG]
  rw [e];simp only [unwind,hd];simp [callDeferred,Sem.runT_eq,k3,k2,GStep.after,G]
 ·exact h.elim
theorem zkN (C : Closed lv P main J) {f : FuncId} {fn : Func} {c : Code} {args : Array Value} {kd : CallKind} {V : View} {cs : List Frame} {Q : Act -> View -> Prop} (hk : kd ≠ .early) (hf : P.funcs[f]? = some fn) (hb : fn.body = some c)
  (h : WP lv P none c (fun e a V => (match e with | .normal | .ret => True | _ => False) /\ Q a V) { tmps:=args ++ Array.replicate (fn.ntmps - args.size) undef,defers:=[] } V)
  (hQ : ∀ a V todo,Q a V -> J V (G { fn:=f,tmps:=a.tmps,todo,defers:=a.defers,mode:=.returning,kind:=kd,roundOf:=none } cs)) : J V (G (Frame.enter P f args kd) cs):=by
 let b : Frame:={ (default : Frame) with fn:=f,kind:=kd,roundOf:=none };have henter : Frame.enter P f args kd = on b { tmps:=args ++ Array.replicate (fn.ntmps - args.size) undef,defers:=[] } [.code c]:=by
  simp [Frame.enter,on,hf,hb,b]
 rw [henter];refine h main J C b [] cs hk rfl fun e a' V' q => ?_;cases e with
 | normal => exact C.idle rfl (fun w => zkd rfl) (hQ a' V' [] q.2)
 | ret => intro k; exact C.idle rfl (fun w => zj9 rfl) (hQ a' V' (.code .ret :: k) q.2)
 | panic ch => exact q.1.elim
 | exit id => exact q.1.elim
 | goto l => exact q.1.elim
end
def Env.setMain (E : Env) (m : Bool) : Env:={ E with main:=m }
theorem Den.setMain {E : Env} {a : AV} {v : Value} (h : Den E a v) (m : Bool) : Den (E.setMain m) a v:=by
 induction h with
 | val x => exact .val x
 | agg hs _ ih => exact .agg hs ih
 | tup hs _ ih => exact .tup hs ih
 | sl b o cap g hc he h1 _ ih => exact .sl b o cap g hc (by cases he' : ‹End› <;> (subst he'; exact he)) h1 ih
 | nil he => exact .nil (by cases he' : ‹End› <;> (subst he'; exact he))
 | osl hi hcap => exact .osl (E:=E.setMain m) hi hcap
 | rp b o g h1 _ ih => exact .rp b o g h1 ih
 | op hi => exact .op (E:=E.setMain m) hi
 | fn hs1 hs2 _ _ ih1 ih2 => exact .fn hs1 hs2 ih1 ih2
 | ifc _ ih => exact .ifc ih
 | mp hi => exact .mp (E:=E.setMain m) hi
theorem Denl.setMain {E : Env} {l : List AV} {cs : Array Value} (h : Denl E l cs) (m : Bool) : Denl (E.setMain m) l cs:=⟨h.1,fun i a e => (h.2 i a e).setMain m⟩
theorem Denp.setMain {E : Env} {l : List AV} {cs : Array Value} (h : Denp E l cs) (m : Bool) : Denp (E.setMain m) l cs:=⟨h.1,fun i a e => (h.2 i a e).setMain m⟩
theorem TOk.setMain {E : Env} {T : List (Nat × AV)} {tmps : Array Value} (h : TOk E T tmps) (m : Bool) : TOk (E.setMain m) T tmps:=fun t a e => ⟨(h t a e).1,(h t a e).2.setMain m⟩
theorem zaW (E : Env) (m : Bool) (k : Nat) (x : AObj) : zmc (E.setMain m) k x = zmc E k x:=by cases x <;> rfl
theorem ObjOk.setMain {E : Env} {V : View} {k : Nat} {x : AObj} (h : ObjOk E V k x) (m : Bool) (hm : x = .main -> m = true) : ObjOk (E.setMain m) V k x:=by
 cases x with
 | cells l el => obtain ⟨⟨cs,h1,h2⟩,h3⟩:=h; exact ⟨⟨cs,h1,h2.setMain m⟩,h3⟩
 | part p l el => obtain ⟨⟨cs,h1,h2,h4⟩,h3⟩:=h; exact ⟨⟨cs,h1,h2.setMain m,h4⟩,h3⟩
 | own sz l el => obtain ⟨⟨cs,h1,h2,h4⟩,h3⟩:=h; exact ⟨⟨cs,h1,h2.setMain m,h4⟩,h3⟩
 | tail n sz el => exact h
 | obj x => exact h
 | iter => exact h
 | loop => obtain ⟨⟨tmps,h1,h2,h3⟩,h4,h5⟩:=h; exact ⟨⟨tmps,h1,h2,h3.setMain m⟩,h4,h5⟩
 | gone => trivial
 | main => exact hm rfl
def zoc : AObj -> AObj
 | .main => .gone
 | x => x
theorem za4 (E : Env) (k : Nat) (x : AObj) : zmc E k (zoc x) = zmc E k x:=by cases x <;> rfl
theorem Conc.demain {E : Env} {V : View} {H : List AObj} (h : Conc E V H) : Conc (E.setMain false) V (H.map zoc):=by
 have get : ∀ (k : Nat) y,(H.map zoc)[k]? = some y -> ∃ x,H[k]? = some x /\ zoc x = y:=fun k y e => by
  rw [List.getElem?_map] at e;obtain ⟨x,e1,e2⟩:=Option.map_eq_some_iff.1 e;exact ⟨x,e1,e2⟩
 refine ⟨h.I,by rw [List.length_map]; exact h.n,fun k y e => ?_,fun i j x y b h1 h2 h3 h4 => ?_,fun g hg => ?_,fun g hg => ?_,(fun e => by cases e),fun b y e => ?_⟩
 ·obtain ⟨x,hx,rfl⟩:=get k y e;have hob:=h.obj k x hx;cases x <;> first
   | exact ObjOk.setMain hob false (fun e => by cases e)
   | exact True.intro
 ·obtain ⟨x',hx,rfl⟩:=get i x h1;obtain ⟨y',hy,rfl⟩:=get j y h2;rw [zaW,za4] at h3 h4;exact h.inj i j x' y' b hx hy h3 h4
 ·obtain ⟨a,b,c⟩:=h.group g hg;exact ⟨a,b,fun k y e => by obtain ⟨x,hx,rfl⟩:=get k y e; rw [zaW,za4]; exact c k x hx⟩
 ·obtain ⟨a,b,c⟩:=h.chan g hg;exact ⟨a,b,fun k y e => by obtain ⟨x,hx,rfl⟩:=get k y e; rw [zaW,za4]; exact c k x hx⟩
 ·obtain ⟨a,b',c⟩:=h.fr b y e;exact ⟨a,b',fun k y e => by obtain ⟨x,hx,rfl⟩:=get k y e; rw [zaW,za4]; exact c k x hx⟩
theorem Conc.remain {E : Env} {V : View} {H : List AObj} (h : Conc E V (H.map zoc)) (m : Bool) (f : Nat -> Option Obj) (hm : ∀ (k : Nat),H[k]? = some AObj.main -> m = true) (ht : m = true -> V.role = .plain /\ V.deaf = 0) (hf : ∀ b y,f b = some y -> E.fr b = some y) : Conc ((E.setMain m).frame f) V H:=by
 have get : ∀ (k : Nat) x,H[k]? = some x -> (H.map zoc)[k]? = some (zoc x):=fun k x e => by rw [List.getElem?_map,e]; rfl
 refine ⟨h.I,h.n.trans (by rw [List.length_map]),fun k x e => ObjOk.frame ?_ f,fun i j x y b h1 h2 h3 h4 => ?_,fun g hg => ?_,fun g hg => ?_,ht,fun b y e => ?_⟩
 ·have hob:=h.obj k _ (get k x e);cases x <;> first
   | exact ObjOk.setMain hob m (fun e => by cases e)
   | exact hm k e
 ·rw [za8,zaW] at h3 h4;exact h.inj i j _ _ b (get i x h1) (get j y h2) (by rw [za4]; exact h3) (by rw [za4]; exact h4)
 ·obtain ⟨a,b,c⟩:=h.group g hg;exact ⟨a,b,fun k x e => by rw [za8,zaW,<- za4]; exact c k _ (get k x e)⟩
 ·obtain ⟨a,b,c⟩:=h.chan g hg;exact ⟨a,b,fun k x e => by rw [za8,zaW,<- za4]; exact c k _ (get k x e)⟩
 ·obtain ⟨a,b',c⟩:=h.fr b y (hf b y e);exact ⟨a,b',fun k x e => by rw [za8,zaW,<- za4]; exact c k _ (get k x e)⟩
theorem Conc.pubRest {E : Env} {V : View} {H : List AObj} (h : Conc E V H) {id p : Nat} {l : List AV} {el : TypeId} (hk : H[id]? = some (.part p l el)) : ∃ V',Ghost V V' /\ V'.own = V.own /\ V'.role = V.role /\ V'.deaf = V.deaf /\ E.Le { E with I:=V'.imm } /\ Conc { E with I:=V'.imm } V' (H.set id .gone) /\
  Den { E with I:=V'.imm } (.rp l) (.pointer (some ⟨E.blk id,0,none⟩)):=by
 obtain ⟨⟨cs,h1,h2,h4⟩,h3⟩:=h.obj id _ hk;let V':=V.pubp (E.blk id) cs fun o => decide (p <= o);have himm : ∀ b o,b ≠ E.blk id -> V'.imm b o = V.imm b o:=fun b o hb => by simp [V',View.pubp,hb]
 have hin : ∀ o,V'.imm (E.blk id) o = cs[o]?:=fun o => by
  by_cases ho : p <= o
  ·simp [V',View.pubp,ho]
  ·simp only [V',View.pubp,ho,decide_false,Bool.false_eq_true,and_false,if_false]; exact h4 o (by omega)
 have hle : E.Le { E with I:=V'.imm }:=⟨fun b o v e => by
  rw [h.I] at e;show V'.imm b o = some v;by_cases hb : b = E.blk id
  ·subst hb;rw [hin];by_cases ho : p <= o
   ·rw [h3 o ho] at e; cases e
   ·rw [<- h4 o (by omega)]; exact e
  ·rw [himm b o hb]; exact e,Nat.le_refl _,fun _ _ => rfl,fun _ _ => Nat.le_refl _,fun _ _ _ _ => rfl,rfl,rfl⟩
 refine ⟨V',zb9 h1 (fun o ho => h3 o (by simpa using ho)),rfl,rfl,rfl,hle,?_,?_⟩
 ·refine h.turn (E':={ E with I:=V'.imm }) id .gone hle rfl (by simpa using h.n) zaF rfl (fun _ _ _ => rfl) (fun b y hb hy => ⟨hy,fun o => himm b o fun e => hb _ hk (by rw [e]; rfl)⟩) trivial (fun b e => by cases e)
 ·refine .rp (E.blk id) 0 (fun i => cs.getD i undef) (fun i hi => ?_) fun i x hx => (h2.2 i x hx).mono hle;rw [Nat.zero_add];show V'.imm (E.blk id) i = _;rw [hin i];have : i < cs.size:=by have:=h2.1; omega
  simp [Array.getD_eq_getD_getElem?,Array.getElem?_eq_getElem this]
section
variable {lv : Bool} {P : Program} {nt id : Nat} {ops : Array Oper} {s : AS} {E : Env} {V : View} {a : Act} {Q : Ex -> Act -> View -> Prop} {N : Act -> View -> Prop} {o : Oper}
theorem zcp (ho : ops[0]? = some o) (hg : o.guard = none) (h : OpX lv P none o a V (zmx lv P none ops Q (List.range' 1 (ops.size - 1))) Q) : WP lv P none (.region id ops false) Q a V:=by
 refine zda ?_;have hsz : 0 < ops.size:=(Array.getElem?_eq_some_iff.1 ho).1;have hrange : List.range ops.size = 0 :: List.range' 1 (ops.size - 1):=by
  rw [List.range_eq_range'];obtain ⟨n,hn⟩ : ∃ n,ops.size = n + 1:=⟨ops.size - 1,by omega⟩;rw [hn,List.range'_succ]; rfl
 rw [hrange];simp only [zmx,ho];rw [if_pos (by unfold Region.wanted; rw [hg])];exact h
theorem zg1 {k n : Nat} (ho : ops[k]? = some o) (hg : o.guard = none) (h : OpX lv P none o a V (zmx lv P none ops Q (List.range' (k + 1) n)) Q) : zmx lv P none ops Q (List.range' k (n + 1)) a V:=by
 rw [List.range'_succ];simp only [zmx,ho];rw [if_pos (by unfold Region.wanted; rw [hg])];exact h
theorem zjL {k : Nat} (h : Q .normal a V) : zmx lv P none ops Q (List.range' k 0) a V:=h
theorem zfl {k n : Nat} (s3 : AS) (hk : k + n = ops.size) (hdst : dstsOk nt ops = true) (hat : At E V s a nt) (h : AOps lv P ops (ops.toList.drop k) s (fun s' => s'.Sub s3) (fun _ _ => False)) (hQ : ∀ E' V' a',Kept E E' V V' a a' -> At E' V' s3 a' nt -> Q .normal a' V') : zmx lv P none ops Q (List.range' k n) a V:=by
 refine zb3 (r:=none) (Φ:=fun e s' => match e with
  | .normal => s'.Sub s3
  | _ => False) (fun o ho d e => (dstsOk.out hdst ho).1 d e) (fun _ _ => .inl rfl) n k s hk h E V a Q hat fun ae e E' V' a' s' hk' hat' he hΦ => ?_
 cases ae <;> cases e <;> first
  | exact he.elim
  | exact hΦ.elim
  | exact hQ E' V' a' hk' (hat'.sub hΦ)
theorem zrU {c : Call} {f : FuncId} (hop : o.op = .call c) (hcl : c.callee = .value (.func f)) (hf : zmN P f = true) (h : Body lv P f (c.args.map a.eval) .normal V (fun
  | .ret v,V' => N (a.put o.dst v) V'
  | .panic _,_ => False)) : OpX lv P none o a V N Q:=by
 refine .inl ⟨.inl rfl,?_⟩;unfold execOp; rw [hop];dsimp only;unfold resolve;rw [hcl];dsimp only;have e : a.eval (.func f) = .func (.func f) #[] #[]:=rfl;rw [e];unfold Deferred.ofValue;refine zac (zlj ?_);unfold invoke;dsimp only;refine zc4 hf ?_;have e2 : #[] ++ c.args.map a.eval ++ #[] = c.args.map a.eval:=by simp
 rw [e2];exact h.mono fun o V' hx => by
  cases o with
  | ret v => exact hx
  | panic ch => exact hx.elim
theorem zgs {t el : TypeId} {d : ChanDir} {i : TypeInfo} (hop : o.op = .makeChan t (.const (.int .i64 0))) (h1 : P.underlying t = some (.chan d el)) (h2 : P.info? el = some i) (h : ∀ c,V.fresh c -> N (a.put o.dst (.chan (some c))) (V.upd c (.chan 0 #[] false 0 0 false))) : OpX lv P none o a V N Q:=by
 refine .inl ⟨.inl rfl,?_⟩;unfold execOp; rw [hop];dsimp only;have e : a.eval (.const (.int .i64 0)) = .int .i64 0:=rfl;rw [e];unfold Instr.makeChan;refine zac (zac ?_);unfold asInt;refine zlj ?_;refine zaj h1 ?_;dsimp only;refine zaY h2 ?_;rw [if_neg (by simp [IntKind.max,IntKind.bits,IntKind.signed])];refine zac ?_;unfold newObj;exact za7 fun c hf => zan (zlj (zlj (h c hf)))
end
theorem zra {lv : Bool} {P : Program} {r : Option Nat} {code : Code} {Q : Ex -> Act -> View -> Prop} {a : Act} {V : View} {c Wg : Nat} (hlv : lv = true) (hr : V.role = .plain) (hne : c ≠ Wg) (hc : V.own c = some (.chan 0 #[] false 0 0 false)) (hW : V.own Wg ≠ none) (hWi : ∀ o,V.imm Wg o = none)
  (h : WP lv P r code Q a { V with role:=.fork c Wg [] }) : WP lv P r code Q a V:=fun main J C b k cs hb hro hL =>
 (C.more hlv).start _ _ c Wg hr hne hc hW hWi (h main J C b k cs hb hro hL)
structure Env.Lo (E E' : Env) : Prop where
 I : ∀ b o v,E.I b o = some v -> E'.I b o = some v
 n : E.n <= E'.n
 blk : ∀ k,k < E.n -> E'.blk k = E.blk k
 ver : ∀ k,k < E.n -> E.ver k <= E'.ver k
 room : ∀ k v,k < E.n -> v <= E.ver k -> E'.room k v = E.room k v
theorem Env.Le.lo {E E' : Env} (h : E.Le E') : E.Lo E':=⟨h.I,h.n,h.blk,h.ver,h.room⟩
theorem Env.Lo.refl (E : Env) : E.Lo E:=(Env.Le.refl E).lo
theorem Env.Lo.trans {E E' E'' : Env} (h : E.Lo E') (k : E'.Lo E'') : E.Lo E'' :=
 ⟨fun b o v e => k.I b o v (h.I b o v e),Nat.le_trans h.n k.n,fun i hi => (k.blk i (Nat.lt_of_lt_of_le hi h.n)).trans (h.blk i hi),fun i hi => Nat.le_trans (h.ver i hi) (k.ver i (Nat.lt_of_lt_of_le hi h.n)),
  fun i v hi hv => (k.room i v (Nat.lt_of_lt_of_le hi h.n) (Nat.le_trans hv (h.ver i hi))).trans (h.room i v hi hv)⟩
theorem Env.Lo.le {E E' : Env} (h : E.Lo E') : E.Le ((E'.setMain E.main).frame E.fr):=⟨h.I,h.n,h.blk,h.ver,h.room,rfl,rfl⟩
theorem Den.lo {E E' : Env} (h : E.Lo E') {a : AV} {v : Value} (d : Den E a v) : Den E' a v:=by
 have:=((d.mono h.le).setMain E'.main).frame E'.fr;exact this
theorem zry {P : Program} {rs : List ResultVar} {fn : Func} {nt : Nat} {k kp : AV -> List AObj -> Prop} {E E' : Env} {V V' : View} {H G : List AObj} {T : List (Nat × AV)} {a' : Act} {av : AV} (hr : fn.results = rs.toArray) (hat : At E' V' ⟨T,H.map zoc ++ G⟩ a' nt) (hlo : E.Lo E') (hc : Conc E V H) (hro : V'.role = V.role) (hde : V'.deaf = V.deaf) (hf : ∀ b y,E.fr b = some y -> E'.fr b = some y)
  (hres : resAll P ⟨T,H.map zoc ++ G⟩ rs = some [av]) (hlt : Lt H.length av) (hk : k av H) : ∃ v,SemOk P V' (results fn a'.tmps) (fun x V'' => x = v /\ V'' = V') (fun _ _ => False) /\ RetC E V k kp (.ret v) V':=by
 obtain ⟨vs,hl,hvs,hone⟩:=zcf hat rs [av] hres;obtain ⟨v,rfl⟩ : ∃ v,vs = [v]:=List.length_eq_one_iff.1 hl;have hden : Den E' av v:=hvs 0 av rfl;have hsem : SemOk P V' (results fn a'.tmps) (fun x V'' => x = v /\ V'' = V') (fun _ _ => False):=by
  unfold results;rw [hr,List.mapM_toArray];refine zac ?_;refine zac (hone ?_);refine zlj (zlj ⟨?_,rfl⟩);simp
 have hcut:=hat.conc.trim (H:=H.map zoc) (G:=G) (fun x hx => by
  obtain ⟨y,hy,rfl⟩:=List.mem_map.1 hx;have:=hc.hok y hy;cases y <;> first
   | exact trivial
   | simpa [zoc] using this)
 simp only [List.length_map] at hcut;refine ⟨v,hsem,av,((({ E' with n:=H.length } : Env).setMain E.main).frame E.fr),H,?_,hro,hde,?_,hcut.remain E.main E.fr (fun k e => hc.obj k _ e) (fun e => by rw [hro,hde]; exact hc.top e) hf,hk⟩
 ·refine Env.Lo.le (E':={ E' with n:=H.length }) ⟨hlo.I,?_,hlo.blk,hlo.ver,hlo.room⟩;show E.n <= H.length;rw [hc.n]; exact Nat.le_refl _
 ·exact ((hden.trim hlt).setMain E.main).frame E.fr
theorem Env.lo_frame (E : Env) (f : Nat -> Option Obj) : E.Lo (E.frame f):=⟨fun _ _ _ h => h,Nat.le_refl _,fun _ _ => rfl,fun _ _ => Nat.le_refl _,fun _ _ _ _ => rfl⟩
theorem Env.lo_main (E : Env) (m : Bool) : E.Lo (E.setMain m):=⟨fun _ _ _ h => h,Nat.le_refl _,fun _ _ => rfl,fun _ _ => Nat.le_refl _,fun _ _ _ _ => rfl⟩
theorem Env.Lo.cut {E E' : Env} (h : E.Lo E') {n : Nat} (hn : E.n <= n) : E.Lo { E' with n:=n }:=⟨h.I,hn,h.blk,h.ver,h.room⟩
def Env.bare (E : Env) : Env:=((({ E with n:=0 } : Env).setMain false).frame fun _ => none)
theorem Den.bare {E : Env} {a : AV} {v : Value} (h : Den E a v) (hl : Lt 0 a) : Den E.bare a v:=((h.trim hl).setMain false).frame _
theorem zk6 {E : Env} {I : Imm} {ro : Role} (hI : E.I = I) (hg : ro.group = none) (hc : ro.chan = none) : Conc E.bare { imm:=I,own:=fun _ => none,deaf:=0,role:=ro } [] :=
 ⟨hI,rfl,fun k x e => (by cases e),fun i j x y b h1 => (by cases h1),fun g e => (by rw [hg] at e; cases e),fun g e => (by rw [hc] at e; cases e),fun e => (by cases e),fun b y e => (by cases e)⟩
theorem At.val_of_op {E : Env} {V : View} {s : AS} {a : Act} {nt t id off : Nat} (h : At E V s a nt) (hl : look s.T t = some (.op id off)) : a.eval (.tmp t) = .pointer (some ⟨E.blk id,off,none⟩):=by
 have hd:=(h.tok t _ hl).2;show a.tmps.getD t undef = _;generalize a.tmps.getD t undef = v at hd;cases hd; rfl
section
variable {lv : Bool} {P : Program} {s : AS} {ms : List Nat} {nt : Nat}
def AEx.blockM (id : Nat) (Φ : AEx -> AS -> List Nat -> Prop) : AEx -> AS -> List Nat -> Prop
 | .exit i,s,ms => if i = id then Φ .normal s ms else Φ (.exit i) s ms
 | e,s,ms => Φ e s ms
theorem zjz {id : Nat} {c : Code} {Φ : AEx -> AS -> List Nat -> Prop} (h : AWPm lv P nt c s ms (AEx.blockM id Φ)) : AWPm lv P nt (.block id c) s ms Φ:=by
 intro E V a Q hat hd hQ;refine zbS (h E V a _ hat hd fun ae e E' V' a' s' ms' hk hat' hd' he hΦ => ?_);cases ae <;> cases e <;> first
  | exact he.elim
  | skip
 ·exact hQ .normal .normal E' V' a' s' ms' hk hat' hd' trivial hΦ
 ·rename_i i j;have e : i = j:=he;subst e;by_cases hid : i = id
  ·simp only [Ex.inBlock,hid,if_true]; simp only [AEx.blockM,hid,if_true] at hΦ; exact hQ .normal _ E' V' a' s' ms' hk hat' hd' trivial hΦ
  ·simp only [Ex.inBlock,hid,if_false]; simp only [AEx.blockM,hid,if_false] at hΦ; exact hQ (.exit i) _ E' V' a' s' ms' hk hat' hd' rfl hΦ
 ·exact hQ _ _ E' V' a' s' ms' hk hat' hd' he hΦ
 ·exact hQ _ _ E' V' a' s' ms' hk hat' hd' he hΦ
 ·exact hQ _ _ E' V' a' s' ms' hk hat' hd' he hΦ
def AEx.stayM (Φ : AEx -> AS -> List Nat -> Prop) : AEx -> AS -> List Nat -> Prop
 | .goto _,_,_ => False
 | e,s,ms => Φ e s ms
theorem zhS {c : Code} {Φ : AEx -> AS -> List Nat -> Prop} (h : AWPm lv P nt c s ms (AEx.stayM Φ)) : AWPm lv P nt (.scope c) s ms Φ:=by
 intro E V a Q hat hd hQ;refine zhV (fun _ _ _ _ => False) ⟨0,h E V a _ hat hd fun ae e E' V' a' s' ms' hk hat' hd' he hΦ => ?_⟩ fun _ _ _ _ _ _ hf => hf.elim;cases ae <;> cases e <;> first
  | exact he.elim
  | exact hΦ.elim
  | exact hQ _ _ E' V' a' s' ms' hk hat' hd' he hΦ
theorem zfV (id : Nat) (Φ : AEx -> AS -> List Nat -> Prop) (s : AS) (ms : List Nat) : AEx.blockM id Φ .normal s ms = Φ .normal s ms:=by rw [AEx.blockM]; simp
theorem zgh (Φ : AEx -> AS -> List Nat -> Prop) (s : AS) (ms : List Nat) : AEx.stayM Φ .normal s ms = Φ .normal s ms:=by rw [AEx.stayM]; simp
theorem zj4 (Φ : AEx -> AS -> List Nat -> Prop) (s : AS) (ms : List Nat) : AEx.stayM Φ .ret s ms = Φ .ret s ms:=by rw [AEx.stayM]; simp
theorem zf6 (K : AS -> List Nat -> Prop) (Φ : AEx -> AS -> List Nat -> Prop) (s : AS) (ms : List Nat) : AEx.thenM K Φ .normal s ms = K s ms:=by rw [AEx.thenM]
theorem zjW (K : AS -> List Nat -> Prop) (Φ : AEx -> AS -> List Nat -> Prop) (s : AS) (ms : List Nat) : AEx.thenM K Φ .ret s ms = Φ .ret s ms:=by rw [AEx.thenM]; simp
@[congr] theorem awpm_congr {c : Code} {s s' : AS} {ms ms' : List Nat} {Φ : AEx -> AS -> List Nat -> Prop} (h : s = s') (hd : ms = ms') : AWPm lv P nt c s ms Φ = AWPm lv P nt c s' ms' Φ:=by rw [h,hd]
@[congr] theorem thenM_congr {K : AS -> List Nat -> Prop} {Φ : AEx -> AS -> List Nat -> Prop} {e e' : AEx} {s s' : AS} {ms ms' : List Nat} (he : e = e') (h : s = s') (hd : ms = ms') : AEx.thenM K Φ e s ms = AEx.thenM K Φ e' s' ms':=by rw [he,h,hd]
@[congr] theorem stayM_congr {Φ : AEx -> AS -> List Nat -> Prop} {e e' : AEx} {s s' : AS} {ms ms' : List Nat} (he : e = e') (h : s = s') (hd : ms = ms') : AEx.stayM Φ e s ms = AEx.stayM Φ e' s' ms':=by rw [he,h,hd]
@[congr] theorem fnEndM_congr {rs : List ResultVar} {n : Nat} {k kp : AV -> List AObj -> Prop} {e e' : AEx} {s s' : AS} {ms ms' : List Nat} (he : e = e') (h : s = s') (hd : ms = ms') : zpn P rs n k kp e s ms = zpn P rs n k kp e' s' ms':=by rw [he,h,hd]
theorem zji (rs : List ResultVar) (n : Nat) (k kp : AV -> List AObj -> Prop) (s : AS) (ms : List Nat) : zpn P rs n k kp .ret s ms = one1 (zoT ms s.H) fun H' => one1 (resAll P ⟨s.T,H'⟩ rs) fun l => zmS n H' (resTup l) k:=by rw [zpn]
theorem zgF (H : List AObj) : zoT [] H = some H:=by rw [zoT]
theorem zjg {i : Nat} {ms : List Nat} {H : List AObj} (h : H[i]? = some (.obj (.deferred (some [])))) : zoT (i :: ms) H = zoT ms (H.set i .gone):=by rw [zoT]; rw [h]
attribute [seval] zfV zgh zj4 zf6 zjW zji zgF
end
section
variable {lv : Bool} {P : Program} {r : Option Nat} {s : AS}
theorem zkU {E : Env} {I : Imm} (hI : ∀ b o v,E.I b o = some v -> I b o = some v) {n : Nat} {l : List AV} {v : Value} (h : Den E (.sl n l .exact) v) : ∃ a,Den (E.tok I (a,n) n) (.sl n l (.opn E.n)) v:=by
 cases h with
 | sl b o cap f hcap he q1 q2 =>
  have hcap' : cap = n:=he;subst hcap';refine ⟨some ⟨b,o,none⟩,?_⟩;have hle:=E.le_tok (I:=I) hI (some ⟨b,o,none⟩,cap) cap;exact .sl b o cap f hcap ⟨by simp [Env.tok],by simp [Env.tok],by simp [Env.tok]⟩ (fun i hi => hle.I _ _ _ (q1 i hi)) (fun i x hx => (q2 i x hx).mono hle)
 | nil he => exact ⟨_,.nil ⟨by simp [Env.tok],by simp [Env.tok],by simp [Env.tok]; rfl⟩⟩
theorem zbV {nt t n sz : Nat} {c : Code} {l : List AV} {el : TypeId} {Φ : AEx -> AS -> Prop} (ht : look s.T t = some (.sl n l .exact)) (h : AWP lv P r nt c ⟨(t,.sl n l (.opn s.H.length)) :: s.T,s.H ++ [.tail n sz el]⟩ Φ) : AWP lv P r nt c s Φ:=fun E V a Q hat hQ => by
 obtain ⟨hlt,hd⟩:=hat.tok t _ ht;obtain ⟨ad,hd'⟩:=zkU (I:=V.imm) (fun b o v h => by rw [<- hat.conc.I]; exact h) hd;obtain ⟨hc,hle⟩:=hat.conc.tok0 (n:=n) sz el ad;refine h _ V a Q ⟨hc,fun t' x hx => ?_,hat.size⟩ fun ae e E' V' a' s' hk => hQ ae e E' V' a' s' ((⟨hle,rfl,rfl,rfl,rfl⟩ : Kept E _ V V a a).trans hk);simp only [look] at hx;split at hx
 ·rename_i e;subst e; cases hx;rw [<- hat.conc.n];exact ⟨hlt,hd'⟩
 ·exact ⟨(hat.tok t' x hx).1,(hat.tok t' x hx).2.mono hle⟩
def zow (l : Nat) (S : Nat -> AS) (ok : Nat -> Prop) (m : Nat) (Φ : AEx -> AS -> Prop) : AEx -> AS -> Prop
 | .goto l',s => l' = l /\ ∃ m',m' < m /\ ok m' /\ s.Sub (S m')
 | e,s => Φ e s
theorem zjB {nt l : Nat} {c X : Code} {Φ : AEx -> AS -> Prop} (S : Nat -> AS) (ok : Nat -> Prop) (hlab : findLabel c l = some (.seq .skip X)) (body : ∀ m,ok m -> AWP lv P r nt X (S m) (zow l S ok m Φ)) (start : (∀ m,ok m -> AWP lv P r nt X (S m) (zow l S ok m Φ)) -> ∃ n,AWP lv P r nt c s (zow l S ok n Φ)) : AWP lv P r nt (.scope c) s Φ:=by
 refine zgZ (fun l' m s' => l' = l /\ ok m /\ s'.Sub (S m)) ?_ ?_
 ·obtain ⟨n,hn⟩:=start body;refine ⟨n,hn.mono fun e s' h => ?_⟩;cases e <;> first
   | exact h
   |(obtain ⟨rfl,m',hm,ho,hs⟩:=h; exact ⟨_,hlab,m',hm,rfl,ho,hs⟩)
 ·rintro l' rest m s' hf ⟨rfl,ho,hs⟩
  rw [hlab] at hf; cases hf;refine zaa (zah ?_);show AWP lv P r nt X s' _;refine (ziu hs (body m ho)).mono fun e s'' h => ?_;cases e <;> first
   | exact h
   |(obtain ⟨rfl,m',hm,ho,hs⟩:=h; exact ⟨_,hlab,m',hm,rfl,ho,hs⟩)
theorem zkA (l : Nat) (S : Nat -> AS) (ok : Nat -> Prop) (m : Nat) (Φ : AEx -> AS -> Prop) (s : AS) : zow l S ok m Φ .normal s = Φ .normal s:=by rw [zow]; simp
theorem lj_ret (l : Nat) (S : Nat -> AS) (ok : Nat -> Prop) (m : Nat) (Φ : AEx -> AS -> Prop) (s : AS) : zow l S ok m Φ .ret s = Φ .ret s:=by rw [zow]; simp
theorem zuj (l : Nat) (S : Nat -> AS) (ok : Nat -> Prop) (m : Nat) (Φ : AEx -> AS -> Prop) (i : Nat) (s : AS) : zow l S ok m Φ (.exit i) s = Φ (.exit i) s:=by rw [zow]; simp
theorem zr5 (l : Nat) (S : Nat -> AS) (ok : Nat -> Prop) (m : Nat) (Φ : AEx -> AS -> Prop) (a : AV) (s : AS) : zow l S ok m Φ (.panic a) s = Φ (.panic a) s:=by rw [zow]; simp
@[congr] theorem lj_congr {l m : Nat} {S : Nat -> AS} {ok : Nat -> Prop} {s s' : AS} {Φ : AEx -> AS -> Prop} {e e' : AEx} (he : e = e') (h : s = s') : zow l S ok m Φ e s = zow l S ok m Φ e' s':=by rw [he,h]
attribute [seval] zkA lj_ret zuj zr5
theorem zpv {E : Env} {l : List AV} {cs : Array Value} {j : Nat} {a b : AV} (h : Denl E l cs) (hj : l[j]? = some a) (hb : ∀ v,Den E a v -> Den E b v) : Denl E (l.set j b) cs:=by
 refine ⟨by rw [List.length_set]; exact h.1,fun i x hx => ?_⟩;by_cases e : i = j
 ·subst e;rw [List.getElem?_set_self (List.getElem?_eq_some_iff.1 hj).1] at hx;cases hx;exact hb _ (h.2 i a hj)
 ·rw [List.getElem?_set_ne (Ne.symm e)] at hx;exact h.2 i x hx
theorem zdw {nt id j n sz : Nat} {c : Code} {l l' : List AV} {el el' : TypeId} {Φ : AEx -> AS -> Prop} (hid : s.H[id]? = some (.cells l el)) (hj : l[j]? = some (.sl n l' .exact)) (h : AWP lv P r nt c ⟨s.T,s.H.set id (.cells (l.set j (.sl n l' (.opn s.H.length))) el) ++ [AObj.tail n sz el']⟩ Φ) : AWP lv P r nt c s Φ:=fun E V a Q hat hQ => by
 have hc:=hat.conc;obtain ⟨⟨cs,hown,hd⟩,himm⟩:=hc.obj id _ hid;obtain ⟨ad,hd'⟩:=zkU (I:=V.imm) (fun b o v h => by rw [<- hc.I]; exact h) (hd.2 j _ hj);obtain ⟨hc',hle⟩:=hc.tok0 (n:=n) sz el' ad;have hlt:=(List.getElem?_eq_some_iff.1 hid).1;have hn : (E.tok V.imm (ad,n) n).n = s.H.length + 1:=by simp [Env.tok,hc.n]
 have e : s.H.set id (.cells (l.set j (.sl n l' (.opn s.H.length))) el) ++ [AObj.tail n sz el'] = (s.H ++ [AObj.tail n sz el']).set id (.cells (l.set j (.sl n l' (.opn s.H.length))) el):=(List.set_append_left _ _ hlt).symm;rw [e] at h;have hdl : Denl (E.tok V.imm (ad,n) n) (l.set j (.sl n l' (.opn s.H.length))) cs:=by
  have h0:=hd.mono hle;refine ⟨by rw [List.length_set]; exact h0.1,fun i x hx => ?_⟩;by_cases ei : i = j
  ·subst ei;rw [List.getElem?_set_self (List.getElem?_eq_some_iff.1 hj).1] at hx;cases hx;rw [<- hc.n]; exact hd'
  ·rw [List.getElem?_set_ne (Ne.symm ei)] at hx;exact h0.2 i x hx
 have hb : (E.tok V.imm (ad,n) n).blk id = E.blk id:=hle.blk id (by rw [hc.n]; exact hlt);have hc2 : Conc (E.tok V.imm (ad,n) n) V ((s.H ++ [AObj.tail n sz el']).set id (.cells (l.set j (.sl n l' (.opn s.H.length))) el)):=by
  have hidx : (s.H ++ [AObj.tail n sz el'])[id]? = some (.cells l el):=by rw [List.getElem?_append_left hlt]; exact hid
  refine hc'.turn id _ (Env.Le.refl _) hc'.I (by rw [hc'.n,List.length_set]) zaF rfl (fun _ _ _ => rfl) (fun b y _ hy => ⟨hy,fun _ => rfl⟩) ⟨⟨cs,by rw [hb]; exact hown,hdl⟩,fun o => by rw [hb]; exact himm o⟩ (fun b hb' => .inl ⟨_,hidx,hb'⟩)
 refine h _ V a Q ⟨hc2,hat.tok.mono hle,hat.size⟩ fun ae e E' V' a' s' hk => hQ ae e E' V' a' s' ((⟨hle,rfl,rfl,rfl,rfl⟩ : Kept E _ V V a a).trans hk)
theorem zuN {nt id j : Nat} {c : Code} {l : List AV} {x y : AV} {el : TypeId} {Φ : AEx -> AS -> Prop} (hid : s.H[id]? = some (.cells l el)) (hj : l[j]? = some x) (hw : Wk x y) (h : AWP lv P r nt c ⟨s.T,s.H.set id (.cells (l.set j y) el)⟩ Φ) : AWP lv P r nt c s Φ:=fun E V a Q hat hQ => by
 have hc:=hat.conc;obtain ⟨⟨cs,hown,hd⟩,himm⟩:=hc.obj id _ hid;have hc2 : Conc E V (s.H.set id (.cells (l.set j y) el)) :=
  hc.turn id _ (Env.Le.refl _) hc.I (by rw [hc.n,List.length_set]) zaF rfl (fun _ _ _ => rfl) (fun b y _ hy => ⟨hy,fun _ => rfl⟩) ⟨⟨cs,hown,zpv hd hj (hw E)⟩,himm⟩ (fun b hb' => .inl ⟨_,hid,hb'⟩)
 exact h E V a Q ⟨hc2,hat.tok,hat.size⟩ hQ
end
open Go.Proofs
theorem F.AppOf_29_29 : AppOf Tryz.prog 29 29 = (some (63,(2,(.agg #[(.int .i64 0),(.int .i64 0)])))):=by kernel_rfl
theorem F.AppOf_30_30 : AppOf Tryz.prog 30 30 = (some (3,(1,(.int .i64 0)))):=by kernel_rfl
theorem F.ZeroOf_185 : zms Tryz.prog 185 = (some (.agg #[(.int .i64 0),(.int .i64 0),(.int .u8 0)])):=by kernel_rfl
theorem F.isIfc_106 : zpI Tryz.prog 106 = (some false):=by kernel_rfl
theorem F.isIfc_166 : zpI Tryz.prog 166 = (some false):=by kernel_rfl
theorem F.isIfc_167 : zpI Tryz.prog 167 = (some false):=by kernel_rfl
theorem F.f87 : Tryz.prog.funcs[87]? = some Tryz.f87:=by kernel_rfl
theorem F.f129 : Tryz.prog.funcs[129]? = some Tryz.f129:=by kernel_rfl
theorem F.f144 : Tryz.prog.funcs[144]? = some Tryz.f144:=by kernel_rfl
theorem F.f150 : Tryz.prog.funcs[150]? = some Tryz.f150:=by kernel_rfl
theorem F.f163 : Tryz.prog.funcs[163]? = some Tryz.f163:=by kernel_rfl
theorem F.mixed : Tryz.prog.follows .mixedOrders = true:=by kernel_rfl
inductive HdC (lv : Bool) (P : Program) (r : Option Nat) (nt : Nat) : Code -> (AEx -> AS -> Prop) -> Code -> (AEx -> AS -> Prop) -> Prop
 | base {c : Code} {Φ : AEx -> AS -> Prop} : HdC lv P r nt c Φ c Φ
 | seq {x y h : Code} {Φ Ψ : AEx -> AS -> Prop} (i : HdC lv P r nt x (AEx.then (fun s => AWP lv P r nt y s Φ) Φ) h Ψ) : HdC lv P r nt (.seq x y) Φ h Ψ
 | block {id : Nat} {x h : Code} {Φ Ψ : AEx -> AS -> Prop} (i : HdC lv P r nt x (AEx.inBlock id Φ) h Ψ) : HdC lv P r nt (.block id x) Φ h Ψ
section
variable {lv : Bool} {P : Program} {r : Option Nat} {s : AS} {nt id : Nat} {ops : Array Oper} {c h : Code} {Φ Ψ : AEx -> AS -> Prop}
theorem zlA {f : FuncId} {H : List AObj} {args : List AV} {k kp : AV -> List AObj -> Prop} {rs : List ResultVar} (fn : Func)
  (h : HOk H -> (∀ a ∈ args,Lt H.length a) -> AWP lv P none nt c ⟨zlW 0 args,H⟩ (zpO P rs H.length k kp)) (hf : P.funcs[f]? = some fn:=by kernel_rfl) (hb : fn.body = some c:=by rfl) (hr : fn.results = rs.toArray:=by rfl) (hn : fn.ntmps = nt:=by rfl) (hargs : args.length <= nt:=by simp) : FnC lv P f H args k kp:=zak hf hb hr hn hargs h
theorem HdC.go (i : HdC lv P r nt c Φ h Ψ) : ∀ {s : AS},AWP lv P r nt h s Ψ -> AWP lv P r nt c s Φ:=by
 induction i with
 | base => exact fun h => h
 | seq _ ih => exact fun k => zaa (ih k)
 | block _ ih => exact fun k => zag (ih k)
theorem zl5 (h : AOps lv P ops ops.toList s (Ψ .normal) (fun pv s => Ψ (.panic pv) s)) (i : HdC lv P r nt c Φ (.region id ops false) Ψ:=by repeat first | exact .base | apply HdC.seq | apply HdC.block) (hd : dstsOk nt ops = true:=by kernel_rfl) : AWP lv P r nt c s Φ:=i.go (zab hd h)
theorem awp_condK {o : Operand} {x y : Code} (h : one1 (s.ev o) fun a => a.asBool fun b => (b = true -> AWP lv P r nt x s Ψ) /\ (b = false -> AWP lv P r nt y s Ψ)) (i : HdC lv P r nt c Φ (.cond o x y) Ψ:=by repeat first | exact .base | apply HdC.seq | apply HdC.block) : AWP lv P r nt c s Φ:=i.go (zae h)
theorem zqR (h : Ψ .normal s) (i : HdC lv P r nt c Φ .skip Ψ:=by repeat first | exact .base | apply HdC.seq | apply HdC.block) : AWP lv P r nt c s Φ:=i.go (zah h)
theorem znH (h : Ψ .ret s) (i : HdC lv P r nt c Φ .ret Ψ:=by repeat first | exact .base | apply HdC.seq | apply HdC.block) : AWP lv P r nt c s Φ:=i.go (zai h)
theorem awp_exitK (h : Ψ (.exit id) s) (i : HdC lv P r nt c Φ (.exit id) Ψ:=by repeat first | exact .base | apply HdC.seq | apply HdC.block) : AWP lv P r nt c s Φ:=i.go (zaq h)
theorem zqT (h : Ψ (.goto id) s) (i : HdC lv P r nt c Φ (.goto id) Ψ:=by repeat first | exact .base | apply HdC.seq | apply HdC.block) : AWP lv P r nt c s Φ:=i.go (zsE h)
theorem zlC {x : Code} (h : AWP lv P r nt x s (AEx.inBlock id Ψ)) (i : HdC lv P r nt c Φ (.block id x) Ψ:=by repeat first | exact .base | apply HdC.seq | apply HdC.block) : AWP lv P r nt c s Φ:=i.go (zag h)
theorem zfK {p : Prop} (h : p) (i : HdC lv P r nt c Φ (.region id ops false) Ψ:=by repeat first | exact .base | apply HdC.seq | apply HdC.block) (e : AOps lv P ops ops.toList s (Ψ .normal) (fun pv s => Ψ (.panic pv) s) = p:=by conv => lhs; simp only [seval]) (hd : dstsOk nt ops = true:=by kernel_rfl) : AWP lv P r nt c s Φ:=i.go (zab hd (e.mpr h))
theorem zlu {p : Prop} {o : Operand} {x y : Code} (h : p) (i : HdC lv P r nt c Φ (.cond o x y) Ψ:=by repeat first | exact .base | apply HdC.seq | apply HdC.block) (e : (one1 (s.ev o) fun a => a.asBool fun b => (b = true -> AWP lv P r nt x s Ψ) /\ (b = false -> AWP lv P r nt y s Ψ)) = p:=by conv => lhs; simp only [seval]) : AWP lv P r nt c s Φ:=i.go (zae (e.mpr h))
theorem zly {p : Prop} (h : p) (i : HdC lv P r nt c Φ .skip Ψ:=by repeat first | exact .base | apply HdC.seq | apply HdC.block) (e : Ψ .normal s = p:=by conv => lhs; simp only [seval]) : AWP lv P r nt c s Φ:=i.go (zah (e.mpr h))
theorem zlz {p : Prop} (h : p) (i : HdC lv P r nt c Φ .ret Ψ:=by repeat first | exact .base | apply HdC.seq | apply HdC.block) (e : Ψ .ret s = p:=by conv => lhs; simp only [seval]) : AWP lv P r nt c s Φ:=i.go (zai (e.mpr h))
theorem zlF {p : Prop} (h : p) (i : HdC lv P r nt c Φ (.exit id) Ψ:=by repeat first | exact .base | apply HdC.seq | apply HdC.block) (e : Ψ (.exit id) s = p:=by conv => lhs; simp only [seval]) : AWP lv P r nt c s Φ:=i.go (zaq (e.mpr h))
theorem zma {Φ Ψ : AEx -> AS -> Prop} {c : Code} (p : Nat) (h : QOps lv P ops (ops.toList.take p) s (fun s' => AOps lv P ops (ops.toList.drop p) s' (Ψ .normal) (fun pv s => Ψ (.panic pv) s))) (i : HdC lv P r nt c Φ (.region id ops true) Ψ:=by repeat first | exact .base | apply HdC.seq | apply HdC.block) (hm : P.follows .mixedOrders = true:=by kernel_rfl) (hok : drawOk nt p ops = true:=by kernel_rfl) : AWP lv P r nt c s Φ:=i.go (zaT hm p hok h)
theorem zmw {Φ Ψ : AEx -> AS -> Prop} {c : Code} (es ord : List Nat) (pl : List PEntry) (Hf : List Nat -> List AObj) (h : BOps lv P Hf ops pl s (Ψ .normal) ⟨0⟩) (i : HdC lv P r nt c Φ (.region id ops true) Ψ:=by repeat first | exact .base | apply HdC.seq | apply HdC.block) (hm : P.follows .mixedOrders = true:=by kernel_rfl) (hok : drawBOk nt ops es ord = true:=by kernel_rfl) (hpl : zqB ops es ord = pl:=by kernel_rfl) (h0 : s.H = Hf []:=by first | rfl | simp only [seval]) : AWP lv P r nt c s Φ:=i.go (zbE es ord pl Hf hm hok hpl h0 h)
theorem zmt (n : Nat) (V : Nat -> List (Nat × AV)) (Hf : Nat -> List AObj) (ok : Nat -> Prop) (hm : ok 0)
  (h : HOk s.H -> (∀ t a,look s.T t = some a -> Lt s.H.length a) -> ∀ m,m <= n -> ok m -> ∀ R : AS -> Prop,(∀ s',(m < n /\ ok (m + 1) /\ zmZ s.T (V m) (V (m + 1)) (Hf (m + 1)) s') -> R s') -> AWP lv P r nt c ⟨V m ++ s.T,Hf m⟩ (AEx.then R Φ)) (hkeys : ∀ m m',(V m).map (·.1) = (V m').map (·.1):=by exact fun _ _ => rfl) (hV0 : ∀ p ∈ V 0,∃ b,look s.T p.1 = some b /\ Wk b p.2:=by (simp only [seval]; simp [zaf,Wk.refl])) (hH0 : Hf 0 = s.H:=by rfl) (hl : ∀ m,m <= n -> ok m -> (Hf m).length = s.H.length:=by exact fun _ _ _ => rfl) : AWP lv P r nt (.loop c) s Φ:=zaB n V Hf ok hkeys hV0 hH0 hl hm h
theorem zlJ {base Vi Vn T : List (Nat × AV)} {H : List AObj} (hk : Keeps T (Vi ++ base) Vn:=by exact zam rfl rfl) (hv : ∀ p ∈ Vn,∃ b,look T p.1 = some b /\ Wk b p.2:=by (simp only [seval]; simp [zaf,Wk.refl])) : zmZ base Vi Vn H ⟨T,H⟩:=zax hk hv
theorem zmG {base Vi Vn T : List (Nat × AV)} {H H' : List AObj} (hok : HOk H) (hg : ∃ G,H ++ G = H':=by first | exact ⟨_,rfl⟩ | exact ⟨_,List.append_assoc ..⟩) (hk : Keeps T (Vi ++ base) Vn:=by exact zam rfl rfl) (hv : ∀ p ∈ Vn,∃ b,look T p.1 = some b /\ Wk b p.2:=by (simp only [seval]; simp [zaf,Wk.refl])) (hlt : ∀ p ∈ Vn,Lt H.length p.2:=by simp [zap]) : zmZ base Vi Vn H ⟨T,H'⟩:=by
 obtain ⟨G,rfl⟩:=hg;exact zaS hk hv hok hlt
theorem zlY {H : List AObj} {args : List AV} {k kp : AV -> List AObj -> Prop} {g : FuncId} {first caps : List AV} (hf : FnC lv P g H (first ++ args ++ caps) k kp) (hg : zmN P g = true:=by kernel_rfl) : CallC lv P (.fn (.func g) first caps) H args k kp:=zad hg hf
end
theorem zl6 {lv : Bool} {P : Program} {H : List AObj} {args : List AV} {k kp : AV -> List AObj -> Prop} {g : FuncId} {first caps : List AV} {t : KeptK k kp} (hf : FnC lv P g H (first ++ args ++ caps) k kp) (hg : zmN P g = true:=by kernel_rfl) : zu7 lv P (.fn (.func g) first caps) H args k kp t:=zqQ (zad hg hf)
theorem F.q0 : AppOf Tryz.prog 22 22 = (some (65,(3,(.agg #[(.slice none 0 0),(.int .i64 0),(.int .i64 0)])))) /\ AppOf Tryz.prog 23 23 = (some (29,(1,(.slice none 0 0)))) /\ AppOf Tryz.prog 24 24 = (some (28,(3,(.agg #[(.int .i64 0),(.int .i64 0),(.bool false)])))) /\ AppOf Tryz.prog 67 67 = (some (30,(1,(.slice none 0 0)))) /\ zmT Tryz.prog 108 = (some ((.elems 1),(.agg #[(.int .i64 0),(.int .i64 0),(.int .i64 0),(.int .i64 0)]))) /\ zmT Tryz.prog 114 = (some ((.fields [(0,4),(4,12)]),(.agg #[(.int .i64 0),(.slice none 0 0),(.slice none 0 0),(.slice none 0 0),(.int .u8 0),(.int .u8 0),(.int .u8 0),(.int .u8 0),(.int .u8 0),(.int .u8 0),(.int .u8 0),(.int .u8 0),(.int .u8 0),(.int .u8 0),(.int .u8 0),(.int .u8 0)]))) /\ zmT Tryz.prog 132 = (some ((.elems 1),(.agg #[(.int .i64 0),(.int .i64 0),(.int .i64 0),(.int .i64 0)]))) /\ zmT Tryz.prog 145 = (some ((.fields [(0,1),(1,1),(2,1)]),(.agg #[(.int .i64 0),(.int .i64 0),(.int .i64 0)]))) /\ zmT Tryz.prog 148 = (some ((.fields [(0,1),(1,3),(4,1)]),(.agg #[.nilFunc,(.int .i64 0),(.int .i64 0),(.int .i64 0),(.bool false)]))) /\ zmT Tryz.prog 185 = (some ((.fields [(0,1),(1,1),(2,1)]),(.agg #[(.int .i64 0),(.int .i64 0),(.int .u8 0)]))) /\ zmT Tryz.prog 26 = (some ((.fields [(0,1),(1,1),(2,1),(3,1)]),(.agg #[(.int .i64 0),(.slice none 0 0),(.slice none 0 0),(.slice none 0 0)]))) /\ zmT Tryz.prog 28 = (some ((.fields [(0,1),(1,1),(2,1)]),(.agg #[(.int .i64 0),(.int .i64 0),(.bool false)]))) /\ zmT Tryz.prog 52 = (some ((.fields [(0,1),(1,1)]),(.agg #[(.int .i64 0),(.bool false)]))) /\ zmT Tryz.prog 63 = (some ((.fields [(0,1),(1,1)]),(.agg #[(.int .i64 0),(.int .i64 0)]))) /\ zmT Tryz.prog 65 = (some ((.fields [(0,1),(1,2)]),(.agg #[(.slice none 0 0),(.int .i64 0),(.int .i64 0)]))) /\ zmT Tryz.prog 98 = (some ((.fields [(0,1),(1,1),(2,1)]),(.agg #[(.slice none 0 0),(.int .i64 0),(.int .u64 0)]))):=by and_intros <;> kernel_rfl
theorem F.q1 : zpP Tryz.prog 3 96 = (some (some .u64)) /\ zpP Tryz.prog 96 3 = (some (some .i64)) /\ zmg Tryz.prog 114 0 = some 0 /\ zmg Tryz.prog 114 1 = some 4 /\ zmg Tryz.prog 145 0 = some 0 /\ zmg Tryz.prog 145 1 = some 1 /\ zmg Tryz.prog 145 2 = some 2 /\ zmg Tryz.prog 148 0 = some 0 /\ zmg Tryz.prog 148 1 = some 1 /\ zmg Tryz.prog 148 2 = some 4 /\ zmg Tryz.prog 185 0 = some 0 /\ zmg Tryz.prog 185 1 = some 1 /\ zmg Tryz.prog 185 2 = some 2 /\ zmg Tryz.prog 26 0 = some 0 /\ zmg Tryz.prog 26 1 = some 1 /\ zmg Tryz.prog 26 2 = some 2:=by and_intros <;> kernel_rfl
theorem F.q2 : zmg Tryz.prog 26 3 = some 3 /\ zmg Tryz.prog 28 0 = some 0 /\ zmg Tryz.prog 28 1 = some 1 /\ zmg Tryz.prog 28 2 = some 2 /\ zmg Tryz.prog 52 0 = some 0 /\ zmg Tryz.prog 52 1 = some 1 /\ zmg Tryz.prog 63 0 = some 0 /\ zmg Tryz.prog 63 1 = some 1 /\ zmg Tryz.prog 65 0 = some 0 /\ zmg Tryz.prog 65 1 = some 1 /\ zmg Tryz.prog 98 0 = some 0 /\ zmg Tryz.prog 98 1 = some 1 /\ zmg Tryz.prog 98 2 = some 2 /\ zn4 Tryz.prog 108 = (some ((some 4),1)) /\ zn4 Tryz.prog 111 = (some ((some 3),1)) /\ zn4 Tryz.prog 112 = (some ((some 4),3)):=by and_intros <;> kernel_rfl
theorem F.q3 : zn4 Tryz.prog 132 = (some ((some 4),1)) /\ zn4 Tryz.prog 22 = (some (none,3)) /\ zn4 Tryz.prog 23 = (some (none,1)) /\ zn4 Tryz.prog 24 = (some (none,3)) /\ zn4 Tryz.prog 29 = (some (none,2)) /\ zn4 Tryz.prog 30 = (some (none,1)) /\ zn4 Tryz.prog 50 = (some (none,2)) /\ zn4 Tryz.prog 67 = (some (none,1)) /\ zoi Tryz.prog 108 = (some (4,1)) /\ zoi Tryz.prog 22 = none /\ zoi Tryz.prog 30 = none /\ zmi Tryz.prog 108 = none /\ zmi Tryz.prog 22 = (some (65,3)) /\ zmi Tryz.prog 30 = (some (3,1)) /\ znu Tryz.prog 118 = (some .map) /\ znu Tryz.prog 22 = (some .slice):=by and_intros <;> kernel_rfl
theorem F.q4 : znu Tryz.prog 23 = (some .slice) /\ znu Tryz.prog 24 = (some .slice) /\ znu Tryz.prog 29 = (some .slice) /\ znu Tryz.prog 30 = (some .slice) /\ znu Tryz.prog 50 = (some .slice) /\ znu Tryz.prog 67 = (some .slice) /\ zqe Tryz.prog 30 = (some (3,(1,(.int .i64 0)))) /\ zo8 Tryz.prog 118 = (some (132,4)) /\ znt Tryz.prog 22 = (some (65,(3,(.agg #[(.slice none 0 0),(.int .i64 0),(.int .i64 0)])))) /\ znt Tryz.prog 23 = (some (29,(1,(.slice none 0 0)))) /\ znt Tryz.prog 24 = (some (28,(3,(.agg #[(.int .i64 0),(.int .i64 0),(.bool false)])))) /\ znt Tryz.prog 29 = (some (63,(2,(.agg #[(.int .i64 0),(.int .i64 0)])))) /\ znt Tryz.prog 30 = (some (3,(1,(.int .i64 0)))) /\ znt Tryz.prog 50 = (some (52,(2,(.agg #[(.int .i64 0),(.bool false)])))) /\ znt Tryz.prog 67 = (some (30,(1,(.slice none 0 0)))) /\ Ty Tryz.prog 100 = (some (1,false)):=by and_intros <;> kernel_rfl
theorem F.q5 : Ty Tryz.prog 108 = (some (4,true)) /\ Ty Tryz.prog 110 = (some (1,false)) /\ Ty Tryz.prog 118 = (some (1,false)) /\ Ty Tryz.prog 132 = (some (4,true)) /\ Ty Tryz.prog 145 = (some (3,true)) /\ Ty Tryz.prog 146 = (some (1,false)) /\ Ty Tryz.prog 148 = (some (5,true)) /\ Ty Tryz.prog 173 = (some (1,false)) /\ Ty Tryz.prog 185 = (some (3,true)) /\ Ty Tryz.prog 187 = (some (1,false)) /\ Ty Tryz.prog 188 = (some (1,false)) /\ Ty Tryz.prog 22 = (some (1,false)) /\ Ty Tryz.prog 23 = (some (1,false)) /\ Ty Tryz.prog 24 = (some (1,false)) /\ Ty Tryz.prog 26 = (some (4,true)) /\ Ty Tryz.prog 28 = (some (3,true)):=by and_intros <;> kernel_rfl
theorem F.q6 : Ty Tryz.prog 29 = (some (1,false)) /\ Ty Tryz.prog 3 = (some (1,false)) /\ Ty Tryz.prog 30 = (some (1,false)) /\ Ty Tryz.prog 39 = (some (1,false)) /\ Ty Tryz.prog 4 = (some (1,false)) /\ Ty Tryz.prog 50 = (some (1,false)) /\ Ty Tryz.prog 52 = (some (2,true)) /\ Ty Tryz.prog 63 = (some (2,true)) /\ Ty Tryz.prog 65 = (some (3,true)) /\ Ty Tryz.prog 96 = (some (1,false)) /\ zms Tryz.prog 100 = (some (.pointer none)) /\ zms Tryz.prog 106 = (some (.int .i64 0)) /\ zms Tryz.prog 108 = (some (.agg #[(.int .i64 0),(.int .i64 0),(.int .i64 0),(.int .i64 0)])) /\ zms Tryz.prog 110 = (some (.int .u8 0)) /\ zms Tryz.prog 118 = (some (.map none)) /\ zms Tryz.prog 132 = (some (.agg #[(.int .i64 0),(.int .i64 0),(.int .i64 0),(.int .i64 0)])):=by and_intros <;> kernel_rfl
theorem F.q7 : zms Tryz.prog 148 = (some (.agg #[.nilFunc,(.int .i64 0),(.int .i64 0),(.int .i64 0),(.bool false)])) /\ zms Tryz.prog 166 = (some (.int .i64 0)) /\ zms Tryz.prog 167 = (some (.int .i64 0)) /\ zms Tryz.prog 173 = (some (.chan none)) /\ zms Tryz.prog 182 = (some (.agg #[(.int .u64 0),(.int .u32 0)])) /\ zms Tryz.prog 188 = (some .nilFunc) /\ zms Tryz.prog 26 = (some (.agg #[(.int .i64 0),(.slice none 0 0),(.slice none 0 0),(.slice none 0 0)])) /\ zms Tryz.prog 28 = (some (.agg #[(.int .i64 0),(.int .i64 0),(.bool false)])) /\ zms Tryz.prog 3 = (some (.int .i64 0)) /\ zms Tryz.prog 39 = (some (.int .i64 0)) /\ zms Tryz.prog 52 = (some (.agg #[(.int .i64 0),(.bool false)])) /\ zms Tryz.prog 63 = (some (.agg #[(.int .i64 0),(.int .i64 0)])) /\ zms Tryz.prog 65 = (some (.agg #[(.slice none 0 0),(.int .i64 0),(.int .i64 0)])):=by and_intros <;> kernel_rfl
attribute [seval] F.q0 F.q1 F.q2 F.q3 F.q4 F.q5 F.q6 F.q7 F.AppOf_29_29 F.AppOf_30_30 F.ZeroOf_185
structure Band where
 min : Int
 max : Int
 deriving DecidableEq
structure Key where
 cuts : List Int
 wear : Band
 deriving DecidableEq
structure Try where
 key : Int
 lock : Int
 opens : Bool
 deriving DecidableEq
structure Turn where
 key : Int
 opens : Bool
 deriving DecidableEq
structure Ring where
 cuts : Int
 keys : List Key
 locks : List (List Band)
 tries : List Try
 deriving DecidableEq
def aInts (xs : List Int) : AV:=.sl xs.length (xs.map iv) .shut
def Band.l (b : Band) : List AV:=[iv b.min,iv b.max]
def aBands (bs : List Band) : AV:=.sl bs.length (bs.flatMap Band.l) .shut
def Key.l (k : Key) : List AV:=[aInts k.cuts,iv k.wear.min,iv k.wear.max]
def zl8 (ks : List Key) : AV:=.sl ks.length (ks.flatMap Key.l) .shut
def Try.l (t : Try) : List AV:=[iv t.key,iv t.lock,bv t.opens]
def zl4 (ts : List Try) : AV:=.sl ts.length (ts.flatMap Try.l) .shut
def Turn.l (t : Turn) : List AV:=[iv t.key,bv t.opens]
def zmI (ts : List Turn) : AV:=.sl ts.length (ts.flatMap Turn.l) .shut
def zlL (ls : List (List Band)) : AV:=.sl ls.length (ls.map aBands) .shut
def zqX (ls : List (List Int)) : AV:=.sl ls.length (ls.map aInts) .shut
def Ring.l (r : Ring) : List AV:=[iv r.cuts,zl8 r.keys,zlL r.locks,zl4 r.tries]
def Band.av (b : Band) : AV:=.agg b.l
def Key.av (k : Key) : AV:=.agg k.l
def Try.av (t : Try) : AV:=.agg t.l
def Turn.av (t : Turn) : AV:=.agg t.l
def Ring.av (r : Ring) : AV:=.agg r.l
theorem Band.len (b : Band) : b.l.length = 2:=rfl
theorem Key.len (b : Key) : b.l.length = 3:=rfl
theorem Try.len (b : Try) : b.l.length = 3:=rfl
theorem Turn.len (b : Turn) : b.l.length = 2:=rfl
section
variable {i : Nat}
theorem za2 {xs : List Int} {x : Int} (h : xs[i]? = some x) : AV.shift i (.rp (xs.map iv)) = some (.rp (iv x :: (xs.drop (i + 1)).map iv)):=by have:=zeo (f:=iv) h; rwa [Nat.mul_one] at this
theorem zdh {xs : List Band} {x : Band} (h : xs[i]? = some x) : AV.shift (i * 2) (.rp (xs.flatMap Band.l)) = some (.rp (iv x.min :: iv x.max :: (xs.drop (i + 1)).flatMap Band.l)):=zcG Band.len h
theorem zc2 {xs : List Key} {x : Key} (h : xs[i]? = some x) : AV.shift (i * 3) (.rp (xs.flatMap Key.l)) = some (.rp (aInts x.cuts :: iv x.wear.min :: iv x.wear.max :: (xs.drop (i + 1)).flatMap Key.l)):=zcG Key.len h
theorem zh6 {xs : List Try} {x : Try} (h : xs[i]? = some x) : AV.shift (i * 3) (.rp (xs.flatMap Try.l)) = some (.rp (iv x.key :: iv x.lock :: bv x.opens :: (xs.drop (i + 1)).flatMap Try.l)):=zcG Try.len h
theorem zh5 {xs : List Turn} {x : Turn} (h : xs[i]? = some x) : AV.shift (i * 2) (.rp (xs.flatMap Turn.l)) = some (.rp (iv x.key :: bv x.opens :: (xs.drop (i + 1)).flatMap Turn.l)):=zcG Turn.len h
theorem zfu {xs : List (List Band)} {x : List Band} (h : xs[i]? = some x) : AV.shift i (.rp (xs.map aBands)) = some (.rp (aBands x :: (xs.drop (i + 1)).map aBands)):=by have:=zeo (f:=aBands) h; rwa [Nat.mul_one] at this
theorem zlB {xs : List (List Int)} {x : List Int} (h : xs[i]? = some x) : AV.shift i (.rp (xs.map aInts)) = some (.rp (aInts x :: (xs.drop (i + 1)).map aInts)):=by have:=zeo (f:=aInts) h; rwa [Nat.mul_one] at this
end
theorem zbi (n : Nat) (xs : List Int) : Lt n (aInts xs) = True:=by simp [aInts,za3,zap]
theorem zfD (n : Nat) (xs : List Band) : Lt n (aBands xs) = True:=by
 simp only [aBands,za3,List.mem_flatMap,eq_iff_iff,iff_true]
 rintro a ⟨b,_,h⟩
 simp only [Band.l,List.mem_cons,List.not_mem_nil,or_false] at h;rcases h with rfl | rfl <;> exact .val _
theorem zc5 (n : Nat) (xs : List Key) : Lt n (zl8 xs) = True:=by
 simp only [zl8,za3,List.mem_flatMap,eq_iff_iff,iff_true]
 rintro a ⟨b,_,h⟩
 simp only [Key.l,List.mem_cons,List.not_mem_nil,or_false] at h;rcases h with rfl | rfl | rfl
 ·rw [zbi]; trivial
 ·exact .val _
 ·exact .val _
theorem zch (n : Nat) (xs : List Try) : Lt n (zl4 xs) = True:=by
 simp only [zl4,za3,List.mem_flatMap,eq_iff_iff,iff_true]
 rintro a ⟨b,_,h⟩
 simp only [Try.l,List.mem_cons,List.not_mem_nil,or_false] at h;rcases h with rfl | rfl | rfl <;> exact .val _
theorem zci (n : Nat) (xs : List (List Band)) : Lt n (zlL xs) = True:=by
 simp only [zlL,za3,List.mem_map,eq_iff_iff,iff_true]
 rintro a ⟨b,_,rfl⟩
 rw [zfD]; trivial
theorem zlv (n : Nat) (xs : List (List Int)) : Lt n (zqX xs) = True:=by
 simp only [zqX,za3,List.mem_map,eq_iff_iff,iff_true]
 rintro a ⟨b,_,rfl⟩
 rw [zbi]; trivial
section
variable {lv : Bool} {H : List AObj} {k kp : AV -> List AObj -> Prop}
theorem f91_c {n lo hi : Int} (hk : k (bv (decide (lo <= n) && decide (n <= hi))) H) : FnC lv Tryz.prog 91 H [iv n,iv lo,iv hi] k kp:=by
 refine zlA (rs:=[.tmp 6]) (nt:=15) Tryz.f91 fun hH hA => ?_;simp only [zlW,Nat.reduceAdd];refine zfK ?_;refine zfK ?_;refine zpc (fun h => ?_) (fun h => ?_)
 ·(try simp only [seval]);refine zlz ?_;refine zao ?_;simpa [h] using hk
 ·(try simp only [seval]);refine zlz ?_;refine zao ?_;simpa [h] using hk
def zni : List Int -> List Band -> Bool
 | [],_ => true
 | d :: ds,b :: bs => decide (b.min <= d) && decide (d <= b.max) && zni ds bs
 | _ :: _,[] => true
theorem zcK {ds : List Int} {bs : List Band} {i : Nat} {d : Int} {b : Band} (hd : ds[i]? = some d) (hb : bs[i]? = some b) : zni (ds.drop i) (bs.drop i) = (decide (b.min <= d) && decide (d <= b.max) && zni (ds.drop (i + 1)) (bs.drop (i + 1))):=by
 have h1:=get_lt hd;have h2:=get_lt hb;rw [List.drop_eq_getElem_cons h1,List.drop_eq_getElem_cons h2,zni];rw [List.getElem?_eq_getElem h1] at hd;rw [List.getElem?_eq_getElem h2] at hb;cases hd; cases hb; rfl
def zml {α : Type} (f : α -> Int) : List α -> Int
 | [] => 0
 | x :: xs => if f x = 0 then zml f xs else f x
theorem zaZ {α : Type} {f : α -> Int} {xs : List α} {i : Nat} {x : α} (h : xs[i]? = some x) : zml f (xs.drop i) = if f x = 0 then zml f (xs.drop (i + 1)) else f x:=by
 have h1:=get_lt h;rw [List.drop_eq_getElem_cons h1,zml];rw [List.getElem?_eq_getElem h1] at h;cases h; rfl
def inM (n lo hi : Int) : Bool:=decide (lo <= n) && decide (n <= hi)
def znK (n due : Int) : Int:=if n < due then 7 else if n > due then 6 else 0
def zoZ (b : Band) (most : Int) : Int:=if inM b.min 0 most && inM b.max 0 most then (if b.min > b.max then 5 else 0) else 1
def cutM (n : Int) : Int:=if inM n 0 3 then 0 else 1
def keyM (c : Int) (k : Key) : Int:=if znK k.cuts.length c = 0 then (if zml cutM k.cuts = 0 then zoZ k.wear 2 else 1) else znK k.cuts.length c
def zod (c : Int) (l : List Band) : Int:=if znK l.length c = 0 then zml (zoZ · 3) l else znK l.length c
def tryM (r : Ring) (t : Try) : Int:=if inM t.key 0 (r.keys.length - 1) && inM t.lock 0 (r.locks.length - 1) then 0 else 3
def zm2 (r : Ring) : Int :=
 if inM r.cuts 1 4 = false then 1 else if r.keys.length > 4 then 6 else if zml (keyM r.cuts) r.keys ≠ 0 then zml (keyM r.cuts) r.keys
 else if r.locks.length > 4 then 6 else if zml (zod r.cuts) r.locks ≠ 0 then zml (zod r.cuts) r.locks
 else if r.tries.length > 6 then 6 else zml (tryM r) r.tries
theorem f153_c {n due : Int} (hk : k (iv (znK n due)) H) : FnC lv Tryz.prog 153 H [iv n,iv due] k kp:=by
 refine zlA (rs:=[.tmp 4]) (nt:=13) Tryz.f153 fun hH hA => ?_;simp only [zlW,Nat.reduceAdd];refine zfK ?_;refine zfK ?_;refine zlu ?_;refine ⟨fun h => ?_,fun h => ?_⟩
 ·
  refine zfK ?_;refine zlz ?_;refine zao ?_;simpa [znK,h] using hk
 ·
  refine zfK ?_;refine zlu ?_;refine ⟨fun h2 => ?_,fun h2 => ?_⟩
  ·
   refine zfK ?_;refine zlz ?_;refine zao ?_;simpa [znK,h,h2] using hk
  ·
   refine zly ?_;refine zfK ?_;refine zlz ?_;refine zao ?_;simpa [znK,h,h2] using hk
theorem f154_c {b : Band} {most : Int} (hk : k (iv (zoZ b most)) H) : FnC lv Tryz.prog 154 H [b.av,iv most] k kp:=by
 refine zlA (rs:=[.tmp 4]) (nt:=22) Tryz.f154 fun hH hA => ?_;simp only [zlW,Nat.reduceAdd,Band.av,Band.l];refine zfK ?_;refine zfK ?_;refine zl6 ((f91_c ?_));(try simp only [seval]);refine zpc (fun h => ?_) (fun h => ?_)
 ·simp only [Bool.not_eq_false',Bool.not_eq_true',Bool.not_true,Bool.not_false] at h;(try simp only [seval]);refine zl6 ((f91_c ?_));(try simp only [seval]);refine zlu ?_;refine ⟨fun h2 => ?_,fun h2 => ?_⟩
  ·
   refine zfK ?_;refine zlz ?_;refine endV hH ?_;simpa [zoZ,inM,h,h2] using hk
  ·
   refine zly ?_;refine zfK ?_;refine zlu ?_;refine ⟨fun h3 => ?_,fun h3 => ?_⟩
   ·
    refine zfK ?_;refine zlz ?_;refine endV hH ?_;simpa [zoZ,inM,h,h2,h3] using hk
   ·
    refine zly ?_;refine zfK ?_;refine zlz ?_;refine endV hH ?_;simpa [zoZ,inM,h,h2,h3] using hk
 ·simp only [Bool.not_eq_false',Bool.not_eq_true',Bool.not_true,Bool.not_false] at h;(try simp only [seval]);refine zlu ?_;refine zfK ?_;refine zlz ?_;refine endV hH ?_;simpa [zoZ,inM,h] using hk
theorem f107_c {x : Key} {c : Int} (hsz : x.cuts.length < 2 ^ 62) (hk : k (iv (keyM c x)) H) : FnC lv Tryz.prog 107 H [x.av,iv c] k kp:=by
 refine zlA (rs:=[.tmp 4]) (nt:=30) Tryz.f107 fun hH hA => ?_;simp only [zlW,Nat.reduceAdd,Key.av,Key.l,aInts];refine zfK ?_;refine zfK ?_;refine zl6 ((f153_c ?_));(try simp only [seval]);refine zfK ?_;refine zlu ?_;refine ⟨fun h => ?_,fun h => ?_⟩
 ·
  refine zfK ?_;refine zlz ?_;refine endV hH ?_;rw [keyM,if_neg h] at hk; exact hk
 ·
  refine zly ?_;refine zfK ?_;refine zlC ?_;refine zmt x.cuts.length (fun i : Nat => [(19,iv i)]) (fun _ => _) (fun i => zml cutM x.cuts = zml cutM (x.cuts.drop i)) rfl (fun hHs hLt i hin hi R hR => ?_);refine zfK ?_;refine zlu ?_;refine ⟨fun h2 => ?_,fun h2 => ?_⟩
  ·
   have hlt : i < x.cuts.length:=(by omega);obtain ⟨d,hd⟩:=zaE hlt;refine zly ?_;refine zl5 ?_;simp only [seval,za2 hd,zaz hlt];refine zfK ?_;refine zl6 ((f91_c ?_));(try simp only [seval]);refine zlu ?_;refine ⟨fun h3 => ?_,fun h3 => ?_⟩
   ·
    refine zfK ?_;refine zlz ?_;refine endV hH ?_;rw [keyM,if_pos h,if_neg ?_] at hk
    ·exact hk
    ·rw [hi,zaZ hd]; simp [cutM,inM,h3]
   ·
    refine zly ?_;refine zfK ?_;refine hR _ ⟨hlt,?_,?_⟩
    ·rw [hi,zaZ hd]; simp [cutM,inM,h3]
    ·rw [zau _ (by omega)];exact zlJ
  ·
   refine zlF ?_;refine zfK ?_;refine zl6 ((f154_c (b:=x.wear) ?_));(try simp only [seval]);refine zlz ?_;refine endV hH ?_;rw [keyM,if_pos h,if_pos ?_] at hk
   ·exact hk
   ·have : i = x.cuts.length:=(by omega);rw [hi,this]; simp [zml]
structure Ring.Small (r : Ring) : Prop where
 keys : r.keys.length < 2 ^ 30
 locks : r.locks.length < 2 ^ 30
 tries : r.tries.length < 2 ^ 30
 cuts : ∀ x ∈ r.keys,x.cuts.length < 2 ^ 30
 bands : ∀ x ∈ r.locks,x.length < 2 ^ 30
theorem zas {α : Type} {l : List α} {i : Nat} {x : α} (h : l[i]? = some x) : x ∈ l:=List.mem_iff_getElem?.2 ⟨i,h⟩
theorem f108_c {l : List Band} {c : Int} (hsz : l.length < 2 ^ 30) (hk : k (iv (zod c l)) H) : FnC lv Tryz.prog 108 H [aBands l,iv c] k kp:=by
 refine zlA (rs:=[.tmp 4]) (nt:=28) Tryz.f108 fun hH hA => ?_;simp only [zlW,Nat.reduceAdd,aBands];refine zfK ?_;refine zfK ?_;refine zl6 ((f153_c ?_));(try simp only [seval]);refine zfK ?_;refine zlu ?_;refine ⟨fun h => ?_,fun h => ?_⟩
 ·
  refine zfK ?_;refine zlz ?_;refine zao ?_;rw [zod,if_neg h] at hk; exact hk
 ·
  refine zly ?_;refine zfK ?_;refine zlC ?_;refine zmt l.length (fun i : Nat => [(18,iv i)]) (fun _ => _) (fun i => zml (zoZ · 3) l = zml (zoZ · 3) (l.drop i)) rfl (fun hHs hLt i hin hi R hR => ?_);refine zfK ?_;refine zlu ?_;refine ⟨fun h2 => ?_,fun h2 => ?_⟩
  ·
   have hlt : i < l.length:=(by omega);obtain ⟨b,hb⟩:=zaE hlt;refine zly ?_;refine zl5 ?_;simp only [seval,zdh hb,zaz hlt,two_le];refine zfK ?_;refine zl6 ((f154_c (b:=b) ?_));(try simp only [seval]);refine zfK ?_;refine zlu ?_;refine ⟨fun h3 => ?_,fun h3 => ?_⟩
   ·
    refine zfK ?_;refine zlz ?_;refine endV hH ?_;rw [zod,if_pos h,hi,zaZ hb,if_neg h3] at hk; exact hk
   ·
    refine zly ?_;refine zfK ?_;refine hR _ ⟨hlt,?_,?_⟩
    ·rw [hi,zaZ hb,if_pos h3]
    ·rw [zau _ (by omega)];exact (zmG hHs)
  ·
   refine zlF ?_;refine zfK ?_;refine zlz ?_;refine zao ?_;have : i = l.length:=(by omega);rw [zod,if_pos h,hi,this] at hk;simpa [zml] using hk
theorem f35_c {x : Ring} (hs : x.Small) (hk : k (iv (zm2 x)) H) : FnC lv Tryz.prog 35 H [x.av] k kp:=by
 refine zlA (rs:=[.tmp 2]) (nt:=83) Tryz.f35 fun hH hA => ?_;simp only [zlW,Nat.reduceAdd,Ring.av,Ring.l,zl8,zlL,zl4];have hks:=hs.keys;have hls:=hs.locks;have hts:=hs.tries;refine zfK ?_;refine zfK ?_;refine zl6 ((f91_c ?_));(try simp only [seval]);refine zlu ?_;refine ⟨fun h => ?_,fun h => ?_⟩
 ·
  refine zfK ?_;refine zlz ?_;refine endV hH ?_;rw [zm2,if_pos (by simpa [inM] using h)] at hk; exact hk
 ·
  rw [zm2,if_neg (by simpa [inM] using h)] at hk;refine zly ?_;refine zfK ?_;refine zlu ?_;refine ⟨fun h => ?_,fun h => ?_⟩
  ·
   refine zfK ?_;refine zlz ?_;refine endV hH ?_;rw [if_pos (by omega)] at hk; exact hk
  ·
   rw [if_neg (by omega)] at hk;refine zly ?_;refine zfK ?_;refine zlC ?_;refine zmt x.keys.length (fun i : Nat => [(22,iv i)]) (fun _ => _) (fun i => zml (keyM x.cuts) x.keys = zml (keyM x.cuts) (x.keys.drop i)) rfl (fun hHs hLt i hin hi R hR => ?_);refine zfK ?_;refine zlu ?_;refine ⟨fun h2 => ?_,fun h2 => ?_⟩
   ·
    have hlt : i < x.keys.length:=(by omega);obtain ⟨y,hy⟩:=zaE hlt;refine zly ?_;refine zl5 ?_;simp only [seval,zc2 hy,zaz hlt,zh0,aInts];refine zfK ?_;refine zl6 ((f107_c (x:=y) (Nat.lt_trans (hs.cuts y (zas hy)) (by decide)) ?_));(try simp only [seval]);refine zfK ?_;refine zlu ?_;refine ⟨fun h3 => ?_,fun h3 => ?_⟩
    ·
     refine zfK ?_;refine zlz ?_;refine endV hH ?_;have e : zml (keyM x.cuts) x.keys = keyM x.cuts y:=(by rw [hi,zaZ hy,if_neg h3]);rw [if_pos (by rw [e]; exact h3),e] at hk; exact hk
    ·
     refine zly ?_;refine zfK ?_;refine hR _ ⟨hlt,?_,?_⟩
     ·rw [hi,zaZ hy,if_pos h3]
     ·rw [zau _ (by omega)];exact (zmG hHs)
   ·
    have hz : zml (keyM x.cuts) x.keys = 0:=by
     have : i = x.keys.length:=(by omega);rw [hi,this]; simp [zml]
    rw [if_neg (by rw [hz]; simp)] at hk;refine zlF ?_;refine zfK ?_;refine zlu ?_;refine ⟨fun h => ?_,fun h => ?_⟩
    ·
     refine zfK ?_;refine zlz ?_;refine endV hH ?_;rw [if_pos (by omega)] at hk; exact hk
    ·
     rw [if_neg (by omega)] at hk;refine zly ?_;refine zfK ?_;refine zlC ?_;refine zmt x.locks.length (fun i : Nat => [(41,iv i)]) (fun _ => _) (fun i => zml (zod x.cuts) x.locks = zml (zod x.cuts) (x.locks.drop i)) rfl (fun hHs hLt i hin hi R hR => ?_);refine zfK ?_;refine zlu ?_;refine ⟨fun h2 => ?_,fun h2 => ?_⟩
     ·
      have hlt : i < x.locks.length:=(by omega);obtain ⟨y,hy⟩:=zaE hlt;refine zly ?_;refine zl5 ?_;simp only [seval,zfu hy,zaz hlt];refine zfK ?_;refine zl6 ((f108_c (l:=y) (hs.bands y (zas hy)) ?_));(try simp only [seval]);refine zfK ?_;refine zlu ?_;refine ⟨fun h3 => ?_,fun h3 => ?_⟩
      ·
       refine zfK ?_;refine zlz ?_;refine endV hH ?_;have e : zml (zod x.cuts) x.locks = zod x.cuts y:=(by rw [hi,zaZ hy,if_neg h3]);rw [if_pos (by rw [e]; exact h3),e] at hk; exact hk
      ·
       refine zly ?_;refine zfK ?_;refine hR _ ⟨hlt,?_,?_⟩
       ·rw [hi,zaZ hy,if_pos h3]
       ·rw [zau _ (by omega)];exact zlJ
     ·
      have hz : zml (zod x.cuts) x.locks = 0:=by
       have : i = x.locks.length:=(by omega);rw [hi,this]; simp [zml]
      rw [if_neg (by rw [hz]; simp)] at hk;refine zlF ?_;refine zfK ?_;refine zlu ?_;refine ⟨fun h => ?_,fun h => ?_⟩
      ·
       refine zfK ?_;refine zlz ?_;refine endV hH ?_;rw [if_pos (by omega)] at hk; exact hk
      ·
       rw [if_neg (by omega)] at hk;refine zly ?_;refine zfK ?_;refine zlC ?_;refine zmt x.tries.length (fun i : Nat => [(60,iv i)]) (fun _ => _) (fun i => zml (tryM x) x.tries = zml (tryM x) (x.tries.drop i)) rfl (fun hHs hLt i hin hi R hR => ?_);refine zfK ?_;refine zlu ?_;refine ⟨fun h2 => ?_,fun h2 => ?_⟩
       ·
        have hlt : i < x.tries.length:=(by omega);obtain ⟨y,hy⟩:=zaE hlt;have w1 : IntKind.i64.wrap ((x.keys.length : Int) - 1) = x.keys.length - 1:=zau _ (by omega);have w2 : IntKind.i64.wrap ((x.locks.length : Int) - 1) = x.locks.length - 1:=zau _ (by omega);refine zly ?_;refine zl5 ?_;simp only [seval,zh6 hy,zaz hlt,zh0];refine zl5 ?_;simp only [seval,w1,w2];refine zl6 ((f91_c ?_));(try simp only [seval]);have bad : ∀ {K : Prop},tryM x y = 3 -> (k (iv 3) H -> K) -> K:=fun e hK => hK (by
         rw [hi,zaZ hy,e,if_neg (by decide)] at hk; exact hk)
        refine zpc (fun h3 => ?_) (fun h3 => ?_)
        ·simp only [Bool.not_eq_false',Bool.not_eq_true',Bool.not_true,Bool.not_false] at h3;(try simp only [seval,w1,w2]);refine zl6 ((f91_c ?_));(try simp only [seval]);refine zlu ?_;refine ⟨fun h4 => ?_,fun h4 => ?_⟩
         ·
          refine zfK ?_;refine zlz ?_;refine endV hH (bad ?_ id);simp [tryM,inM,h3,h4]
         ·
          refine zly ?_;refine zfK ?_;refine hR _ ⟨hlt,?_,?_⟩
          ·rw [hi,zaZ hy,if_pos (by simp [tryM,inM,h3,h4])]
          ·rw [zau _ (by omega)];exact (zmG hHs)
        ·simp only [Bool.not_eq_false',Bool.not_eq_true',Bool.not_true,Bool.not_false] at h3;(try simp only [seval]);refine zlu ?_;refine zfK ?_;refine zlz ?_;refine endV hH (bad ?_ id);simp [tryM,inM,h3]
       ·
        refine zlF ?_;refine zfK ?_;refine zlz ?_;refine endV hH ?_;have : i = x.tries.length:=(by omega);rw [hi,this] at hk;simpa [zml] using hk
theorem f135_c {m n : Nat} (hm : m < 256) (hk : k (bv (m.testBit n)) H) : FnC lv Tryz.prog 135 H [uv m,iv n] k kp:=by
 refine zlA (rs:=[.tmp 4]) (nt:=10) Tryz.f135 fun hH hA => ?_;simp only [zlW,Nat.reduceAdd];refine zfK ?_;refine zl5 ?_;simp only [seval,zdz,zsZ];refine zlz ?_;refine zao ?_;rw [has_u8 hm]; exact hk
theorem f136_c {m n : Nat} (hm : m < 256) (hn : n < 8) (hk : k (uv (m ||| 2 ^ n)) H) : FnC lv Tryz.prog 136 H [uv m,iv n] k kp:=by
 refine zlA (rs:=[.tmp 4]) (nt:=9) Tryz.f136 fun hH hA => ?_;simp only [zlW,Nat.reduceAdd];refine zfK ?_;refine zl5 ?_;simp only [seval,ziv,zlp];refine zlz ?_;refine zao ?_;rw [ztB hm hn]; exact hk
theorem f122_c {n : Int} {b : Bool} (hk : k (.ifc (if b then 166 else 167) (iv n)) H) : FnC lv Tryz.prog 122 H [iv n,bv b] k kp:=by
 refine zlA (rs:=[.tmp 4]) (nt:=10) Tryz.f122 fun hH hA => ?_;simp only [zlW,Nat.reduceAdd];refine zfK ?_;refine zfK ?_;refine zlu ?_;refine ⟨fun h => ?_,fun h => ?_⟩
 ·
  refine zl5 ?_;simp only [seval,F.isIfc_166];refine zlz ?_;refine zao ?_;rw [h] at hk; exact hk
 ·
  refine zly ?_;refine zl5 ?_;simp only [seval,F.isIfc_167];refine zlz ?_;refine zao ?_;rw [h] at hk; exact hk
theorem f123_c {n : Int} {b : Bool} (hk : k (iv n) H) : FnC lv Tryz.prog 123 H [.ifc (if b then 166 else 167) (iv n)] k kp:=by
 refine zlA (rs:=[.tmp 2]) (nt:=14) Tryz.f123 fun hH hA => ?_;simp only [zlW,Nat.reduceAdd];refine zfK ?_;refine zfK ?_;refine zlC ?_;cases b with
 | true =>
  refine zl5 ?_;simp only [seval,F.isIfc_166];refine zlu ?_;refine zfK ?_;refine zfK ?_;refine zlz ?_;exact zao hk
 | false =>
  refine zl5 ?_;simp only [seval,F.isIfc_166];refine zlu ?_;refine zl5 ?_;simp only [seval,F.isIfc_167];refine zlu ?_;refine zfK ?_;refine zfK ?_;refine zlz ?_;exact zao hk
def zoU (f : Int) : Int:=if f = 0 \/ f = 1 then 3 else if f = 2 then 4 else if f = 3 then 6 else 1
theorem f151_c {f : Int} (hk : k (iv (zoU f)) H) : FnC lv Tryz.prog 151 H [iv f] k kp:=by
 refine zlA (rs:=[.tmp 2]) (nt:=12) Tryz.f151 fun hH hA => ?_;simp only [zlW,Nat.reduceAdd];refine zfK ?_;refine zfK ?_;refine zlC ?_;refine zlC ?_;refine zlC ?_;refine zlC ?_;refine zfK ?_;refine zlu ?_;refine ⟨fun h => ?_,fun h => ?_⟩
 ·
  refine zlF ?_;refine zfK ?_;refine zlz ?_;exact zao (by simpa [zoU,h] using hk)
 ·
  refine zly ?_;refine zfK ?_;refine zlu ?_;refine ⟨fun h2 => ?_,fun h2 => ?_⟩
  ·
   refine zlF ?_;refine zfK ?_;refine zlz ?_;exact zao (by simpa [zoU,h,h2] using hk)
  ·
   refine zly ?_;refine zfK ?_;refine zlu ?_;refine ⟨fun h3 => ?_,fun h3 => ?_⟩
   ·
    refine zlF ?_;refine zfK ?_;refine zlz ?_;exact zao (by simpa [zoU,h,h2,h3] using hk)
   ·
    refine zly ?_;refine zfK ?_;refine zlu ?_;refine ⟨fun h4 => ?_,fun h4 => ?_⟩
    ·
     refine zlF ?_;refine zfK ?_;refine zlz ?_;exact zao (by simpa [zoU,h,h2,h3,h4] using hk)
    ·
     refine zly ?_;refine zlF ?_;refine zfK ?_;refine zlz ?_;rw [show zoU f = 1 by unfold zoU; rw [if_neg,if_neg,if_neg] <;> simp_all] at hk;exact zao hk
theorem f90_c {b : Bool} {f : Int} (hk : b = true -> k (.tup []) H) (hp : b = false -> kp (.ifc 106 (iv f)) H) : FnC lv Tryz.prog 90 H [bv b,iv f] k kp:=by
 refine zlA (rs:=[]) (nt:=8) Tryz.f90 fun hH hA => ?_;simp only [zlW,Nat.reduceAdd];refine zfK ?_;refine zlu ?_;refine ⟨fun h => ?_,fun h => ?_⟩
 ·
  refine zl5 ?_;simp only [seval,F.isIfc_106];refine zao ?_;exact hp (by simpa using h)
 ·
  refine zly ?_;refine zao ?_;exact hk (by simpa using h)
theorem f112_c (hk : k (.tup []) H) : FnC lv Tryz.prog 112 H [] k kp:=by
 refine zlA (rs:=[]) (nt:=0) Tryz.f112 fun hH hA => ?_;simp only [zlW];refine zly ?_;exact zao hk
theorem F.eq108 {xs ys : List Int} (hx : xs.length = 4) (hy : ys.length = 4) (k : AV -> Prop) : ABin Tryz.prog .eql 108 (.agg (xs.map iv)) (.agg (ys.map iv)) k = k (bv (xs == ys)) :=
 zlq (e:=3) (k0:=.i64) (n:=4) (by kernel_rfl) (by kernel_rfl) (by kernel_rfl) (by kernel_rfl) hx hy k
theorem F.IsSliceOf_29 : zmi Tryz.prog 29 = (some (63,2)):=by kernel_rfl
def zlX (l : List Int) : List Int:=l.take 4 ++ List.replicate (4 - l.length) 0
def zme (n : Int) (d : List Int) : List Int:=d.map fun x => max 0 (x - n)
theorem zcm (l : List Int) : (zlX l).length = 4:=by simp [zlX]; omega
def znf (n : Int) (d : List Int) (i : Nat) : List Int:=zme n (d.take i) ++ d.drop i
theorem ze4 (n : Int) (d : List Int) (i : Nat) : (znf n d i).length = d.length:=by simp [znf,zme]; omega
theorem ziA {n : Int} {d : List Int} {i : Nat} {x : Int} (h : d[i]? = some x) : (znf n d i)[i]? = some x:=by
 have:=get_lt h;unfold znf zme;rw [List.getElem?_append_right (by simp; omega),List.length_map,List.length_take,Nat.min_eq_left (by omega),Nat.sub_self];simp [h]
theorem ziz {n : Int} {d : List Int} {i : Nat} {x : Int} (h : d[i]? = some x) : (znf n d i).set i (max 0 (x - n)) = znf n d (i + 1):=by
 have hl:=get_lt h;apply List.ext_getElem?;intro j;rw [List.getElem?_set];by_cases hj : i = j
 ·subst hj;rw [if_pos rfl,if_pos (by rw [ze4]; exact hl)];unfold znf zme;rw [List.getElem?_append_left (by simp; omega)];simp [h]
 ·rw [if_neg hj];unfold znf zme;by_cases hji : j < i
  ·rw [List.getElem?_append_left (by simp; omega),List.getElem?_append_left (by simp; omega)];simp [List.getElem?_take,hji,show j < i + 1 by omega]
  ·rw [List.getElem?_append_right (by simp; omega),List.getElem?_append_right (by simp; omega)];simp only [List.length_map,List.length_take,List.getElem?_drop,Nat.min_eq_left (show i <= d.length by omega),Nat.min_eq_left (show i + 1 <= d.length by omega)];congr 1; omega
theorem f92_c {l : List Int} (hk : k (.agg ((zlX l).map iv)) H) : FnC lv Tryz.prog 92 H [aInts l] k kp:=by
 refine zlA (rs:=[.cell 2 108]) (nt:=8) Tryz.f92 fun hH hA => ?_;simp only [zlW,Nat.reduceAdd,aInts];refine zfK ?_;refine zfK ?_;refine zfK ?_;refine ⟨by omega,?_⟩;have e : List.take (min l.length 4) (List.map iv l) ++ List.drop (List.take (min l.length 4) (List.map iv l)).length [AV.val (Value.int IntKind.i64 0),AV.val (Value.int IntKind.i64 0),AV.val (Value.int IntKind.i64 0),AV.val (Value.int IntKind.i64 0)] = (zlX l).map iv:=by
  have h0 : [AV.val (Value.int IntKind.i64 0),AV.val (Value.int IntKind.i64 0),AV.val (Value.int IntKind.i64 0),AV.val (Value.int IntKind.i64 0)] = (List.replicate 4 (0 : Int)).map iv:=rfl;rw [h0,<- List.map_take,<- List.map_drop,<- List.map_append];congr 1;unfold zlX;congr 1
  ·rw [List.take_eq_take_iff]; omega
  ·rw [List.drop_replicate]; congr 1; simp; omega
 rw [e];have h4 : ((zlX l).map iv).length = 4:=by simp [zcm]
 have h4' : ((zlX l).map iv).take 4 = (zlX l).map iv:=List.take_of_length_le (by omega);refine zl5 ?_;simp only [seval,h4,h4'];refine znH ?_;simp only [seval,h4,h4'];exact endA hH (Wk.refl _) (by simp only [zdM]) hk
theorem f93_c {ds : List Int} {n : Int} (hd : ds.length = 4) (hb : ∀ x ∈ ds,0 <= x /\ x <= 3) (hn : 0 <= n /\ n <= 2) (hk : k (.agg ((zme n ds).map iv)) H) : FnC lv Tryz.prog 93 H [.agg (ds.map iv),iv n] k kp:=by
 refine zlA (rs:=[.cell 4 108]) (nt:=23) Tryz.f93 fun hH hA => ?_;simp only [zlW,Nat.reduceAdd];have z4 : [AV.val (Value.int IntKind.i64 0),AV.val (Value.int IntKind.i64 0),AV.val (Value.int IntKind.i64 0),AV.val (Value.int IntKind.i64 0)] = (List.replicate 4 (0 : Int)).map iv:=rfl;have eq:=F.eq108 (xs:=ds) (ys:=List.replicate 4 0) hd (by simp);rw [<- z4] at eq;have t4 : (ds.map iv).take 4 = ds.map iv:=List.take_of_length_le (by simp [hd]);refine zfK ?_;refine zl5 ?_;simp only [seval,hd,t4,eq];refine zlu ?_;refine ⟨fun h => ?_,fun h => ?_⟩
 ·
  refine zl5 ?_;simp only [seval,hd,t4];refine znH ?_;simp only [seval,hd,t4];have e : zme n ds = ds:=by
   have h1 : ds = List.replicate 4 0:=(by simpa using h);rw [h1]; unfold zme;have : max 0 (0 - n) = 0:=(by omega);rw [List.map_replicate,this]
  rw [e] at hk;exact endA hH (Wk.refl _) (by simp only [zdM]) hk
 ·
  refine zly ?_;refine zfK ?_;refine zlC ?_;refine zaB 4 (fun i : Nat => [(10,iv i)]) (fun i => H ++ [.cells ((znf n ds i).map iv) 108,.cells ((List.replicate 4 (0 : Int)).map iv) 108]) (fun i => True) (fun _ _ => rfl) (by simp only [seval]; simp [zaf,Wk.refl]) (by simp [znf,zme]) (fun _ _ _ => by simp) trivial (fun hHs hLt i hin hi R hR => ?_);refine zfK ?_;refine zlu ?_;refine ⟨fun h => ?_,fun h => ?_⟩
  ·
   have hlt : i < ds.length:=(by omega);obtain ⟨x,hx⟩:=zaE hlt;have hxb:=hb x (List.mem_iff_getElem?.2 ⟨i,hx⟩);have hx':=ziA (n:=n) hx;have b4 : (0 <= (i : Int) /\ (i : Int) < 4) = True:=(by simp; omega);have hw : IntKind.i64.wrap (x - n) = x - n:=zau _ (by omega);have hl : (znf n ds i).length = 4:=(by rw [ze4,hd]);refine zly ?_;refine zfK ?_;have hmax : (if 0 < x - n then x - n else 0) = max 0 (x - n):=(by omega);have hle : (i + 1 <= (znf n ds i).length) = True:=(by simp; omega);refine zl5 ?_;simp only [seval,b4,zbf hx',hw,hmax,hle,zfv (y:=max 0 (x - n)) (show i < (znf n ds i).length by omega),ziz hx];refine zfK ?_;refine hR _ ⟨by omega,trivial,?_⟩;rw [zau _ (by omega)];exact zlJ
  ·
   refine zlF ?_;have hi4 : i = 4:=(by omega);subst hi4;have e4 : znf n ds 4 = zme n ds:=(by unfold znf; rw [List.take_of_length_le (by omega),List.drop_eq_nil_of_le (by omega),List.append_nil]);have l4 : (zme n ds).length = 4:=(by simp [zme,hd]);have w4 : ((zme n ds).map iv).take 4 = (zme n ds).map iv:=List.take_of_length_le (by simp [l4]);have d4 : List.drop 4 ((List.replicate 4 (0 : Int)).map iv) = []:=rfl;refine zl5 ?_;simp only [seval,e4,l4,w4,d4,List.length_replicate];refine znH ?_;simp only [seval,l4,w4];exact endA hH (Wk.refl _) (by simp only [zdM]) hk
def zmk (cuts : Int) (ds : List Int) (ls : List (List Band)) : Nat -> Nat
 | 0 => 0
 | i + 1 => match ls[i]? with
  | some l => if zni (ds.take cuts.toNat) l then zmk cuts ds ls i ||| 2 ^ i else zmk cuts ds ls i
  | none => zmk cuts ds ls i
theorem zb5 (cuts : Int) (ds : List Int) (ls : List (List Band)) : ∀ i,zmk cuts ds ls i < 2 ^ i
 | 0 => by simp [zmk]
 | i + 1 => by
  have h:=zb5 cuts ds ls i;have h2 : 2 ^ i < 2 ^ (i + 1):=Nat.pow_lt_pow_right (by omega) (by omega);unfold zmk;split
  ·split
   ·exact Nat.or_lt_two_pow (Nat.lt_trans h h2) h2
   ·exact Nat.lt_trans h h2
  ·exact Nat.lt_trans h h2
theorem zre {n i : Nat} (h : n < 2 ^ i) (hi : i <= 8) : n < 256:=Nat.lt_of_lt_of_le h (Nat.pow_le_pow_right (by omega) hi)
theorem f139_c {x : Ring} {os : List AV} {ds : List Int} (hd : ds.length = 4) (hc : 0 <= x.cuts /\ x.cuts <= 4) (hl : x.locks.length <= 4) (hb : ∀ l ∈ x.locks,x.cuts <= l.length) (hk : k (uv (zmk x.cuts ds x.locks x.locks.length)) H) : FnC lv Tryz.prog 139 H [.rp (x.l ++ os),.agg (ds.map iv)] k kp:=by
 refine zlA (rs:=[.tmp 4]) (nt:=49) Tryz.f139 fun hH hA => ?_;simp only [zlW,Nat.reduceAdd,Ring.l,List.cons_append,List.nil_append,zlL];refine zfK ?_;(repeat apply zaa);refine zcb ?_;refine zfK ?_;(repeat apply zaa);refine zbQ ?_;simp only [seval];refine zfK ?_;refine zlC ?_;refine zaB x.locks.length (fun i : Nat => [(5,uv (zmk x.cuts ds x.locks i)),(15,iv i)]) (fun _ => _) (fun i => True) (fun _ _ => rfl) (by simp only [seval]; simp [zaf,Wk.refl]; simp only [zmk]; exact Wk.refl _) rfl (fun _ _ _ => rfl) trivial (fun hHs hLt i hin hi R hR => ?_);refine zfK ?_;refine zlu ?_;refine ⟨fun h => ?_,fun h => ?_⟩
 ·
  have hlt : i < x.locks.length:=by omega
  obtain ⟨y,hy⟩:=zaE hlt;have hyl:=hb y (zas hy);refine zly ?_;refine zl5 ?_;simp only [seval,zfu hy,zaz hlt,aBands];refine zfK ?_;refine zlC ?_;refine zmt x.cuts.toNat (fun j : Nat => [(25,iv j)]) (fun _ => _) (fun j => zni (ds.take x.cuts.toNat) y = zni ((ds.take x.cuts.toNat).drop j) (y.drop j)) rfl (fun hHs2 hLt2 j hjn hj R2 hR2 => ?_);refine zfK ?_;refine zlu ?_;refine ⟨fun h2 => ?_,fun h2 => ?_⟩
  ·
   have hjc : j < x.cuts.toNat:=(by omega);have hj4 : (0 <= (j : Int) /\ (j : Int) < 4) = True:=(by simp; omega);have hjl : j < y.length:=(by omega);obtain ⟨d,hdj⟩:=zaE (xs:=ds) (i:=j) (by omega);obtain ⟨b,hbj⟩:=zaE hjl;have hdt : (ds.take x.cuts.toNat)[j]? = some d:=(by rw [List.getElem?_take,if_pos hjc]; exact hdj);have hstep:=zcK hdt hbj;refine zly ?_;refine zfK ?_;refine zma 13 ?_;simp only [seval,hj4,zbf hdj,zdh hbj,zaz hjl];refine zl6 ((f91_c ?_));(try simp only [seval]);refine zlu ?_;refine ⟨fun h3 => ?_,fun h3 => ?_⟩
   ·
    refine zlF ?_;refine zfK ?_;have e : zmk x.cuts ds x.locks (i + 1) = zmk x.cuts ds x.locks i:=by
     rw [zmk,hy];dsimp only;rw [if_neg];rw [hj,hstep,h3]; simp
    refine hR _ ⟨hlt,trivial,?_⟩;rw [zau _ (by omega),e];exact (zmG hHs)
   ·
    refine zly ?_;refine zfK ?_;refine hR2 _ ⟨hjc,?_,?_⟩
    ·rw [hj,hstep,h3]; rfl
    ·rw [zau _ (by omega)];exact zlJ
  ·
   have hjc : x.cuts.toNat <= j:=(by omega);refine zlF ?_;refine zfK ?_;refine zl6 ((f136_c (zre (zb5 x.cuts ds x.locks i) (by omega)) (by omega) ?_));(try simp only [seval]);refine zfK ?_;have e : zmk x.cuts ds x.locks (i + 1) = zmk x.cuts ds x.locks i ||| 2 ^ i:=by
    rw [zmk,hy];dsimp only;rw [if_pos];rw [hj,List.drop_eq_nil_of_le (by simp; omega)];simp [zni]
   refine hR _ ⟨hlt,trivial,?_⟩;rw [zau _ (by omega),e];exact (zmG hHs)
 ·
  refine zlF ?_;refine zfK ?_;refine zlz ?_;have : i = x.locks.length:=by omega
  subst this;exact endV hH hk
end
section
variable {lv : Bool} {H : List AObj} {kr kp : List AObj -> Prop}
theorem f150_d0 {r e : Nat} (h : kr H) : DefA lv Tryz.prog (.fn (.func 150) [] [.op r 0,.op e 0],[]) H none kr kp:=by
 refine zdv (nt:=12) (by kernel_rfl) F.f150 rfl rfl rfl rfl rfl rfl rfl rfl (by kernel_rfl) (by simp) ?_;simp only [zlW,Nat.reduceAdd,List.nil_append,Option.getD_none];(try simp only [seval,F.isIfc_106]);refine zfK ?_;refine zlu ?_;refine zqR ?_;exact .inl h
theorem f150_d1 {r e : Nat} {f : Int} {a b : AV} (hr : H[r]? = some (.cells [a] 100)) (he : H[e]? = some (.cells [b] 39)) (hne : r ≠ e) (h : kr ((H.set r (.cells [.val (.pointer none)] 100)).set e (.cells [iv (zoU f)] 39))) : DefA lv Tryz.prog (.fn (.func 150) [] [.op r 0,.op e 0],[]) H (some (.ifc 106 (iv f))) kr kp:=by
 refine zdv (nt:=12) (by kernel_rfl) F.f150 rfl rfl rfl rfl rfl rfl rfl rfl (by kernel_rfl) (by simp) ?_;simp only [zlW,Nat.reduceAdd,List.nil_append,Option.getD_some];(try simp only [seval,F.isIfc_106]);refine zfK ?_;refine zlu ?_;refine zfK ?_;refine zl6 ((f151_c ?_));(try simp only [seval,hr,he]);rw [List.getElem?_set_ne hne,he];exact ⟨by simp,.inl (by simpa using h)⟩
def zmf (x : Ring) (k w : Nat) : Nat:=match x.keys[k]? with
 | some y => zmk x.cuts (zme w (zlX y.cuts)) x.locks x.locks.length
 | none => 0
def zlV (x : Ring) : List AV:=(List.range 4).flatMap fun k => (List.range 3).map fun w => uv (zmf x k w)
theorem zfB (n : Nat) (x : Ring) : Lt n (.rp (x.l ++ zlV x)) = True:=by
 simp only [zi9,List.mem_append,eq_iff_iff,iff_true]
 rintro a (h | h)
 ·simp only [Ring.l,List.mem_cons,List.not_mem_nil,or_false] at h;rcases h with rfl | rfl | rfl | rfl
  ·exact .val _
  ·rw [zc5]; trivial
  ·rw [zci]; trivial
  ·rw [zch]; trivial
 ·obtain ⟨k,_,h⟩:=List.mem_flatMap.1 h;obtain ⟨w,_,rfl⟩:=List.mem_map.1 h;exact .val _
def zmA (lv : Bool) : Prop:=∀ (x : Ring) (H : List AObj) (k kp : AV -> List AObj -> Prop),H[0]? = some .main -> zm2 x = 0 -> x.Small -> k (.rp (x.l ++ zlV x)) H -> FnC lv Tryz.prog 144 H [x.av] k kp
def AskT (lv : Bool) (H H' : List AObj) (ask : AV) (fl : Option Int) : Prop:=∀ (L : List AObj) (k kp : AV -> List AObj -> Prop),(fl = none -> k (.tup []) (H' ++ L)) -> (∀ f,fl = some f -> kp (.ifc 106 (iv f)) (H' ++ L)) -> CallC lv Tryz.prog ask (H ++ L) [] k kp
def AskC (lv : Bool) (H : List AObj) (ask : AV) (fl : Option Int) : Prop:=AskT lv H H ask fl
def flE : Option Int -> Int
 | some f => zoU f
 | none => 0
def zmC (x : Ring) (fl : Option Int) : Int:=if zm2 x ≠ 0 then zm2 x else flE fl
theorem zsk (f : Int) : zoU f ≠ 0:=by
 unfold zoU
 repeat' split
 all_goals decide
theorem zaN {x : Ring} {fl : Option Int} : zmC x fl = 0 <-> zm2 x = 0 /\ fl = none:=by
 unfold zmC;split
 ·simp_all
 ·cases fl <;> simp_all [zsk,flE]
theorem f87_t {H' : List AObj} {k kp : AV -> List AObj -> Prop} {x : Ring} {ask : AV} {fl : Option Int} (hnr : zmA lv) (hmain : H'[0]? = some .main) (hl : H'.length = H.length) (hok : HOk H -> HOk H') (hs : x.Small) (hask : zm2 x = 0 -> AskT lv H H' ask fl) (h0 : zm2 x ≠ 0 -> k (.tup [.val (.pointer none),iv (zmC x fl)]) H) (h1 : zm2 x = 0 -> zmC x fl ≠ 0 -> k (.tup [.val (.pointer none),iv (zmC x fl)]) H') (h2 : zmC x fl = 0 -> k (.tup [.rp (x.l ++ zlV x),iv 0]) H') : FnC lv Tryz.prog 87 H [x.av,ask] k kp:=by
 have hmn : ∀ L : List AObj,(H' ++ L)[0]? = some .main:=fun L => by rw [List.getElem?_append_left (List.getElem?_eq_some_iff.1 hmain).1]; exact hmain
 refine zjk (rs:=[.cell 4 100,.cell 5 39]) (nt:=17) F.f87 rfl rfl rfl (by simp) fun hH hA => ?_;simp only [zlW,Nat.reduceAdd,Ring.av];refine zgY ?_;refine zl5 ?_;simp only [seval,Ring.l];refine zgY ?_;refine zfK ?_;refine zl6 ((f35_c (x:=x) hs ?_));(try simp only [seval]);refine zfK ?_;refine zlu ?_;refine ⟨fun h => ?_,fun h => ?_⟩
 ·refine zfK ?_;refine zlz ?_;have hc : zm2 x ≠ 0:=by simpa using h
  have he : zmC x fl = zm2 x:=by unfold zmC; rw [if_pos hc]
  rw [he] at h0;exact endA hH (Wk.refl _) (by simp [zap,zaD]) (h0 hc)
 ·have hc : zm2 x = 0:=by simpa using h
  have he : zmC x fl = flE fl:=by unfold zmC; rw [if_neg (by simpa using hc)]
  have hH':=hok hH;refine zly ?_;refine zit ?_;refine zeT (n:=1) rfl rfl rfl rfl rfl rfl (by kernel_rfl) ?_;(try simp only [seval,List.mapM_cons,List.mapM_nil,Option.pure_def,Option.bind_eq_bind]);refine ⟨⟨_,_,_,rfl⟩,?_⟩;refine zlf ?_;refine zfK ?_;refine zqQ (hask hc _ _ _ (fun hf => ?_) (fun f hf => ?_))
  ·rw [<- hl];(try simp only [seval]);refine zfK ?_;refine zl6 ((hnr x _ _ _ (hmn _) hc hs ?_));(try simp only [seval]);refine znH ?_;simp only [zhE];refine f150_d0 ?_;(try simp only [seval]);exact endA hH' (Wk.refl _) (by simp [zap,zaD,zfB]) (h2 (zaN.2 ⟨hc,hf⟩))
  ·rw [<- hl];(try simp only [seval,zfL]);subst hf;refine f150_d1 (a:=.val (.pointer none)) (b:=iv 0) (by simp only [seval]) (by simp only [seval]) (by omega) ?_;(try simp only [seval]);have hz : zmC x (some f) ≠ 0:=fun e => (by cases (zaN.1 e).2);have h1:=h1 hc hz;rw [he] at h1;exact endA hH' (Wk.refl _) (by simp [zap,zaD]) h1
theorem f87_c {k kp : AV -> List AObj -> Prop} {x : Ring} {ask : AV} {fl : Option Int} (hnr : zmA lv) (hmain : H[0]? = some .main) (hs : x.Small) (hask : AskC lv H ask fl) (h1 : zmC x fl ≠ 0 -> k (.tup [.val (.pointer none),iv (zmC x fl)]) H) (h2 : zmC x fl = 0 -> k (.tup [.rp (x.l ++ zlV x),iv 0]) H) : FnC lv Tryz.prog 87 H [x.av,ask] k kp :=
 f87_t hnr hmain rfl id hs (fun _ => hask) (fun h => h1 fun e => h (zaN.1 e).1) (fun _ => h1) h2
theorem AskT.ext {H' : List AObj} {ask : AV} {fl : Option Int} (h : AskT lv H H' ask fl) (L : List AObj) : AskT lv (H ++ L) (H' ++ L) ask fl:=fun M k kp h1 h2 => by
 rw [List.append_assoc] at h1 h2 ⊢;exact h (L ++ M) k kp h1 h2
end
section
variable {lv : Bool} {H : List AObj} {k kp : AV -> List AObj -> Prop}
theorem f89_c {x : Ring} {n : Int} (hk : k (.fn (.func 152) [] [.op (H.length + 1) 0,.op H.length 0]) (H ++ [.cells x.l 26,.cells [iv n] 3])) : FnC lv Tryz.prog 89 H [x.av,iv n] k kp:=by
 refine zlA (rs:=[.tmp 4]) (nt:=6) Tryz.f89 fun hH hA => ?_;simp only [zlW,Nat.reduceAdd,Ring.av];refine zl5 ?_;simp only [seval,Ring.l];refine zl5 ?_;simp only [seval,List.mapM_cons,List.mapM_nil,Option.pure_def,Option.bind_eq_bind];refine zlz ?_;exact zao hk
theorem f152_c {r i : Nat} {x : Ring} {n : Int} (hx : x.Small) (hr : H[r]? = some (.cells x.l 26)) (hi : H[i]? = some (.cells [iv n] 3)) (hk : inM n 0 (x.keys.length - 1) = true -> k (.tup []) H) (hp : inM n 0 (x.keys.length - 1) = false -> kp (.ifc 106 (iv 0)) H) : FnC lv Tryz.prog 152 H [.op i 0,.op r 0] k kp:=by
 refine zlA (rs:=[]) (nt:=9) Tryz.f152 fun hH hA => ?_;simp only [zlW,Nat.reduceAdd];have hl:=hx.keys;have hw : IntKind.i64.wrap ((x.keys.length : Int) - 1) = x.keys.length - 1:=zau _ (by omega);rw [Ring.l] at hr;refine zl5 ?_;simp only [seval,hr,hi,hw,zl8];refine zl6 ((f91_c ?_));(try simp only [seval]);refine zl6 ((f90_c (fun h => ?_) (fun h => ?_)))
 ·refine zao ?_;exact hk (by simpa [inM] using h)
 ·refine zao ?_;exact hp (by simpa [inM] using h)
theorem zay {L : List AObj} {i : Nat} {x : AObj} (h : H[i]? = some x) : (H ++ L)[i]? = some x:=by rw [List.getElem?_append_left (get_lt h)]; exact h
theorem zbA : AskC lv H (.fn (.func 112) [] []) none:=fun L k kp h1 h2 => zlY (f112_c (h1 rfl))
theorem zdJ (x : Ring) : (zlV x).length = 12:=rfl
theorem zi5 (x : Ring) {key w : Nat} (hk : key < 4) (hw : w < 3) : (zlV x)[key * 3 + w]? = some (uv (zmf x key w)):=by
 rcases (show key = 0 \/ key = 1 \/ key = 2 \/ key = 3 by omega) with rfl | rfl | rfl | rfl <;> rcases (show w = 0 \/ w = 1 \/ w = 2 by omega) with rfl | rfl | rfl <;> rfl
theorem zcH (x : Ring) {key : Nat} (hk : key < 4) : AV.shift (key * 3) (.rp (zlV x)) = some (.rp ((zlV x).drop (key * 3))):=zd7 _ _ (by rw [zdJ]; omega)
theorem zb0 (x : Ring) {key w : Nat} (hk : key < 4) (hw : w < 3) : AV.shift w (.rp ((zlV x).drop (key * 3))) = some (.rp (uv (zmf x key w) :: (zlV x).drop (key * 3 + w + 1))):=by
 have hl : key * 3 + w < (zlV x).length:=by rw [zdJ]; omega
 rw [zd7 _ _ (by rw [List.length_drop,zdJ]; omega),List.drop_drop,List.drop_eq_getElem_cons hl];have:=zi5 x hk hw;rw [List.getElem?_eq_getElem hl] at this;rw [Option.some.inj this]
def setObj (ts : List (List Int × Nat)) (ck : Nat) : AObj:=.obj (.map (ts.map zlH).toArray ck)
def cntM (x : Ring) (key lock : Nat) (ts : List (List Int × Nat)) : Nat:=(ts.filter fun t => (zmf x key (t.1.getD key 0).toNat).testBit lock).length
theorem f102_c {x : Ring} {id ck key lock : Nat} {ts : List (List Int × Nat)} (hid : H[id]? = some (setObj ts ck)) (hb : ∀ y ∈ ts,y.2 < ck) (hnd : (ts.map (·.2)).Nodup) (hkey : key < 4) (hl4 : x.locks.length <= 8) (hts : ts.length < 2 ^ 30) (h4 : ∀ y ∈ ts,y.1.length = 4 /\ ∀ w ∈ y.1,0 <= w /\ w <= 2) (hk : k (iv (cntM x key lock ts)) H) : FnC lv Tryz.prog 102 H [.rp (x.l ++ zlV x),.mp id,iv key,iv lock] k kp:=by
 refine zlA (rs:=[.tmp 8]) (nt:=34) Tryz.f102 fun hH hA => ?_;simp only [zlW,Nat.reduceAdd];rw [setObj] at hid;refine zfK ?_;refine zfK ?_;refine zl5 ?_;simp only [seval,List.mapM_nil,Option.pure_def];refine zl5 ?_;simp only [seval,hid];have hid' : ∀ L : List AObj,(H ++ L)[id]? = some (AObj.obj (Obj.map (List.map zlH ts).toArray ck)):=fun L => zay hid;have hall:=zcO ts ck hb;refine zlC ?_;refine za9 (measure fun vs : List (List Int × Nat) => ts.length - vs.length).wf (fun vs => [(9,iv (cntM x key lock vs))]) (fun vs => H ++ [.iter id ck (vs.map (·.2)).toArray ck]) (fun vs => (vs.map (·.2)).Nodup /\ ∀ y ∈ vs,y ∈ ts) [] (fun _ _ => rfl) (by simp only [seval]; simp [zaf,Wk.refl]; exact Wk.refl _) (by simp) (fun _ _ => by simp) ⟨by simp,by simp⟩ (fun hHs hLt vs hok R hR => ?_);refine zl5 ?_;simp only [seval,hid'];refine ⟨hall.elim .inl (fun h => .inr (.inl h)),fun e he hn => ?_,fun hs => ?_⟩
 ·obtain ⟨y,hy,rfl⟩ : ∃ y ∈ ts,zlH y = e:=by simpa using he
  refine zlu ?_;refine zly ?_;refine zlC ?_;obtain ⟨h41,h42⟩:=h4 y hy;have hborn : (zlH y).born = y.2:=rfl;have hlen : (y.1.map iv).length = 4:=by simp [h41]
  have hdrop : List.drop 4 [AV.val (Value.int IntKind.i64 0),AV.val (Value.int IntKind.i64 0),AV.val (Value.int IntKind.i64 0),AV.val (Value.int IntKind.i64 0)] = []:=rfl;refine zl5 ?_;simp only [seval,hid',Array.back?_push,hborn,zcL hnd hy,zb7,h41,hlen,hdrop];have hkl : key < y.1.length:=by omega
  obtain ⟨w,hw⟩:=zaE hkl;have hwb:=h42 w (zas hw);obtain ⟨wn,rfl⟩ : ∃ n : Nat,w = n:=⟨w.toNat,by omega⟩;have b4 : (0 <= (key : Int) /\ (key : Int) < 4) = True:=by simp; omega
  have b3 : (0 <= (wn : Int) /\ (wn : Int) < 3) = True:=by simp; omega
  have hm : zmf x key wn < 256:=by
   unfold zmf;split
   ·exact zre (zb5 _ _ _ _) hl4
   ·decide
  have sh4 : AV.shift 4 (.rp (x.l ++ zlV x)) = some (.rp (zlV x)):=by simp [Ring.l,zdf,zdg]
  refine zma 12 ?_;simp only [seval,b4,b3,zbf hw,sh4,zcH x hkey,zb0 x hkey (show wn < 3 by omega)];refine zl6 ((f135_c hm ?_));(try simp only [seval]);have hyn : y.2 ∉ vs.map (·.2):=by simpa [zlH] using hn
  have hpush : ((vs.map (·.2)).toArray.push y.2) = ((vs ++ [y]).map (·.2)).toArray:=by simp
  have hget : y.1.getD key 0 = (wn : Int):=by rw [List.getD_eq_getElem?_getD,hw]; rfl
  have hc1 : cntM x key lock (vs ++ [y]) = cntM x key lock vs + (if (zmf x key wn).testBit lock then 1 else 0):=by
   unfold cntM;rw [List.filter_append,List.length_append];congr 1;simp only [List.filter_cons,List.filter_nil,hget,Int.toNat_natCast];split <;> rfl
  have hok' : ((vs ++ [y]).map (·.2)).Nodup /\ ∀ z ∈ vs ++ [y],z ∈ ts:=by
   refine ⟨?_,fun z hz => ?_⟩
   ·rw [List.map_append,List.nodup_append];refine ⟨hok.1,by simp,fun a ha b hb => ?_⟩;simp at hb; subst hb;intro e; subst e; exact hyn ha
   ·rcases List.mem_append.1 hz with h | h
    ·exact hok.2 z h
    ·rw [List.mem_singleton.1 h]; exact hy
  have hlen : vs.length < ts.length:=by
   have h1 : (vs ++ [y]).Nodup:=zbo _ hok'.1;have:=h1.length_le_of_subset hok'.2;simp at this; omega
  have hrel : ts.length - (vs ++ [y]).length < ts.length - vs.length:=by simp; omega
  have hle : cntM x key lock vs <= vs.length:=List.length_filter_le _ _;have hokI : ∀ sn,HOk (H ++ [AObj.iter id ck sn ck]):=fun sn z hz => by
   have hl:=get_lt hid;rcases List.mem_append.1 hz with h | h
   ·exact (hH z h).mono (by simp)
   ·rw [List.mem_singleton.1 h]; show id < _; simp; omega
  refine zlu ?_;refine ⟨fun h => ?_,fun h => ?_⟩
  ·refine zl5 ?_;simp only [seval,hpush];refine hR _ ⟨vs ++ [y],hrel,hok',?_⟩;rw [hc1,h,zau _ (by omega)];exact zat (zam rfl rfl) (by simp only [seval]; simp [zaf,Wk.refl]) (hokI _) (by simp [zap])
  ·refine zly ?_;rw [hpush];refine hR _ ⟨vs ++ [y],hrel,hok',?_⟩;rw [hc1,h];exact zat (zam rfl rfl) (by simp only [seval]; simp [zaf,Wk.refl]) (hokI _) (by simp [zap])
 ·have hp : vs.Perm ts:=zct hok.1 hnd hok.2 fun y hy => by
   have:=hs (zlH y) (by simp; exact ⟨y.1,y.2,hy,rfl⟩) (hb y hy);simpa [zlH] using this
  have hcnt : cntM x key lock vs = cntM x key lock ts:=(hp.filter _).length_eq;refine zlu ?_;refine zlF ?_;refine zfK ?_;refine zlz ?_;rw [hcnt];exact endV hH hk
end
theorem zbb {α : Type} {f : α -> Int} : ∀ {xs : List α},zml f xs = 0 <-> ∀ x ∈ xs,f x = 0
 | [] => by simp [zml]
 | x :: xs => by
  rw [zml];by_cases h : f x = 0
  ·rw [if_pos h,zbb]; simp [h]
  ·rw [if_neg h]; simp [h]
theorem zcx {n lo hi : Int} : inM n lo hi = true <-> lo <= n /\ n <= hi:=by simp [inM]
theorem zcF {n due : Int} : znK n due = 0 <-> n = due:=by
 unfold znK;split
 ·constructor <;> intro h <;> omega
 ·split
  ·constructor <;> intro h <;> omega
  ·constructor <;> intro h <;> omega
structure Band.Ok (b : Band) (m : Int) : Prop where
 min : 0 <= b.min
 max : b.max <= m
 le : b.min <= b.max
theorem zeR {b : Band} {m : Int} : zoZ b m = 0 <-> b.Ok m:=by
 unfold zoZ;by_cases h : (inM b.min 0 m && inM b.max 0 m) = true
 ·rw [if_pos h];simp only [Bool.and_eq_true,zcx] at h;split
  ·constructor
   ·intro h; omega
   ·intro h'; have:=h'.le; omega
  ·exact ⟨fun _ => ⟨h.1.1,h.2.2,by omega⟩,fun _ => rfl⟩
 ·rw [if_neg h];simp only [Bool.and_eq_true,zcx] at h;constructor
  ·intro h; omega
  ·intro h'; exfalso; have:=h'.min; have:=h'.max; have:=h'.le; omega
structure Ring.Ok (x : Ring) : Prop where
 cuts : 1 <= x.cuts /\ x.cuts <= 4
 keys : x.keys.length <= 4
 key : ∀ y ∈ x.keys,(y.cuts.length : Int) = x.cuts /\ (∀ n ∈ y.cuts,0 <= n /\ n <= 3) /\ y.wear.Ok 2
 locks : x.locks.length <= 4
 lock : ∀ l ∈ x.locks,(l.length : Int) = x.cuts /\ ∀ b ∈ l,b.Ok 3
 tries : x.tries.length <= 6
 tried : ∀ t ∈ x.tries,(0 <= t.key /\ t.key < x.keys.length) /\ 0 <= t.lock /\ t.lock < x.locks.length
theorem zig {c : Int} {y : Key} : keyM c y = 0 <-> (y.cuts.length : Int) = c /\ (∀ n ∈ y.cuts,0 <= n /\ n <= 3) /\ y.wear.Ok 2:=by
 unfold keyM;by_cases h : znK y.cuts.length c = 0
 ·rw [if_pos h];rw [zcF] at h;by_cases h2 : zml cutM y.cuts = 0
  ·rw [if_pos h2,zeR];rw [zbb] at h2;refine ⟨fun h3 => ⟨h,fun n hn => ?_,h3⟩,fun h3 => h3.2.2⟩;have:=h2 n hn;unfold cutM at this;split at this
   ·rename_i e; rwa [zcx] at e
   ·omega
  ·rw [if_neg h2];rw [zbb] at h2;constructor
   ·intro h; omega
   ·intro h3; exfalso;refine h2 fun n hn => ?_;unfold cutM;rw [if_pos];rw [zcx]; exact h3.2.1 n hn
 ·rw [if_neg h];constructor
  ·intro h'; exact absurd h' h
  ·intro h3; exfalso; exact h (zcF.2 h3.1)
theorem zgx {c : Int} {l : List Band} : zod c l = 0 <-> (l.length : Int) = c /\ ∀ b ∈ l,b.Ok 3:=by
 unfold zod;by_cases h : znK l.length c = 0
 ·rw [if_pos h,zbb];rw [zcF] at h;exact ⟨fun h2 => ⟨h,fun b hb => zeR.1 (h2 b hb)⟩,fun h2 b hb => zeR.2 (h2.2 b hb)⟩
 ·rw [if_neg h];constructor
  ·intro h'; exact absurd h' h
  ·intro h3; exfalso; exact h (zcF.2 h3.1)
theorem zhY {x : Ring} {t : Try} : tryM x t = 0 <-> (0 <= t.key /\ t.key < x.keys.length) /\ 0 <= t.lock /\ t.lock < x.locks.length:=by
 unfold tryM;split
 ·rename_i h;simp only [Bool.and_eq_true,zcx] at h;exact ⟨fun _ => by omega,fun _ => rfl⟩
 ·rename_i h;simp only [Bool.and_eq_true,zcx] at h;constructor
  ·intro h; omega
  ·intro h'; exfalso; exact h (by omega)
theorem zbH {x : Ring} : zm2 x = 0 <-> x.Ok:=by
 unfold zm2;by_cases h1 : inM x.cuts 1 4 = false
 ·rw [if_pos h1];constructor
  ·intro h; omega
  ·intro h; exfalso; have:=zcx.2 h.cuts; rw [h1] at this; cases this
 rw [if_neg h1];have c1 : 1 <= x.cuts /\ x.cuts <= 4:=zcx.1 (by simpa using h1);by_cases h2 : x.keys.length > 4
 ·rw [if_pos h2];constructor
  ·intro h; omega
  ·intro h; exfalso; have:=h.keys; omega
 rw [if_neg h2];by_cases h3 : zml (keyM x.cuts) x.keys ≠ 0
 ·rw [if_pos h3];constructor
  ·intro h; exact absurd h h3
  ·intro h; exfalso; exact h3 (zbb.2 fun y hy => zig.2 (h.key y hy))
 rw [if_neg h3];have c3 : ∀ y ∈ x.keys,keyM x.cuts y = 0:=zbb.1 (by omega);by_cases h4 : x.locks.length > 4
 ·rw [if_pos h4];constructor
  ·intro h; omega
  ·intro h; exfalso; have:=h.locks; omega
 rw [if_neg h4];by_cases h5 : zml (zod x.cuts) x.locks ≠ 0
 ·rw [if_pos h5];constructor
  ·intro h; exact absurd h h5
  ·intro h; exfalso; exact h5 (zbb.2 fun y hy => zgx.2 (h.lock y hy))
 rw [if_neg h5];have c5 : ∀ y ∈ x.locks,zod x.cuts y = 0:=zbb.1 (by omega);by_cases h6 : x.tries.length > 6
 ·rw [if_pos h6];constructor
  ·intro h; omega
  ·intro h; exfalso; have:=h.tries; omega
 rw [if_neg h6,zbb];exact ⟨fun h => ⟨c1,by omega,fun y hy => zig.1 (c3 y hy),by omega,fun l hl => zgx.1 (c5 l hl),by omega,fun t ht => zhY.1 (h t ht)⟩,fun h t ht => zhY.2 (h.tried t ht)⟩
section
variable (Wg : Nat) (cs : List Frame) (main : Bool)
set_option maxRecDepth 100000
theorem yG2 : nxt Tryz.prog main (a135 Wg cs main (2 * 4294967296)) = G (nxt Tryz.prog main (a135 Wg cs main (2 * 4294967296))).frame cs:=by kernel_rfl
theorem yG3 : nxt Tryz.prog main (a135 Wg cs main (3 * 4294967296)) = G (nxt Tryz.prog main (a135 Wg cs main (3 * 4294967296))).frame cs:=by kernel_rfl
theorem yG4 : nxt Tryz.prog main (a135 Wg cs main (4 * 4294967296)) = G (nxt Tryz.prog main (a135 Wg cs main (4 * 4294967296))).frame cs:=by kernel_rfl
theorem yG1 : nxt Tryz.prog main (a141 Wg cs main) = G (nxt Tryz.prog main (a141 Wg cs main)).frame cs:=by kernel_rfl
end
theorem prj4 {α β γ δ : Type} {a a' : α} {b b' : β} {c c' : γ} {d d' : δ} (h : (a,b,c,d) = (a',b',c',d')) : a = a' /\ b = b' /\ c = c' /\ d = d':=by
 simpa [Prod.mk.injEq] using h
section
variable {lv main : Bool} {J : View -> Goroutine -> Prop} {V : View} {cs : List Frame}
theorem zef (C : Closed lv Tryz.prog main J) {g : Goroutine} {U : View} (hrun : isRun g = true) (h : ∀ w,(Go.Gg.lv1 main w g) = (stepG Tryz.prog main g w,.returning,162,.normal,[],true)) (hG : nxt Tryz.prog main g = G (nxt Tryz.prog main g).frame cs)
  (hU : U = { V with deaf:=deafBehind V.deaf #[⟨.mark .enable,false,true⟩] }) (hJ : ∀ fr,zo3 Tryz.prog fr 162 .normal (.ret (.tuple #[])) U -> J U (G fr cs)) : J V g:=by
 refine C.mute (.inr rfl) (isRun.out hrun) (fun w => ?_) (g':=nxt Tryz.prog main g) ?_
 ·have:=h w;simp only [Go.Gg.lv1,Prod.mk.injEq] at this;exact this.1.symm
 ·have:=h default;simp only [Go.Gg.lv1,Prod.mk.injEq] at this;obtain ⟨_,h1,h2,h3,h4,_⟩:=this;rw [hG,<- hU];refine hJ _ ⟨h2,h4,h3,?_⟩;obtain ⟨fn,hf,hr⟩:=f162r;exact ⟨fn,hf,h1,zd0 hr⟩
theorem zsQ {n Wg : Nat} {sm : TypeId} (hn : n < 4) (hW : V.own Wg = some (.cells #[.int .u64 ((n : Int) * KK),.int .u32 0] sm (0,0))) (hi : ∀ o,V.imm Wg o = none) (hc : V.role.chan ≠ some Wg) (hd : V.deaf = 0) :
  Body lv Tryz.prog 162 #[pW Wg 0,.int .i64 1] .normal V (fun o V' => o = .ret (.tuple #[]) /\ V' = V.upd Wg (.cells #[.int .u64 (((n + 1 : Nat) : Int) * KK),.int .u32 0] sm (0,0))):=by
 intro main J C cs hJ;have hA:=prj4 (y0 Wg cs main default);show J V (a0 Wg cs);refine zbX C 12 _ (fun w => (prj4 (y0 Wg cs main w)).1) hA.2.1 ?_;refine C.mute (g:=a12 Wg cs main) (g':=a13 Wg cs main) (.inl rfl) (isRun.out hA.2.2.1) (fun w => zd6 (fun _ h => by cases h) hA.2.2.2 e170) ?_;have hB:=prj4 (y13 Wg cs main default);refine zbX C 11 _ (fun w => (prj4 (y13 Wg cs main w)).1) hB.2.1 ?_;refine C.idle (g:=a24 Wg cs main) (g':=a25 Wg cs main) (isRun.out hB.2.2.1) (fun w => zj6 hB.2.2.2 e172) ?_;have hC:=prj4 (y25 Wg cs main default);refine zbX C 22 _ (fun w => (prj4 (y25 Wg cs main w)).1) hC.2.1 ?_;let V1 : View:={ V with deaf:=deafBehind V.deaf #[⟨.mark .disable,false,true⟩] };let V2 : View:=V1.upd Wg (.cells #[.int .u64 (((n + 1 : Nat) : Int) * KK),.int .u32 0] sm (0,0));have hV2 : { V2 with deaf:=deafBehind V2.deaf #[⟨.mark .enable,false,true⟩] } = V.upd Wg (.cells #[.int .u64 (((n + 1 : Nat) : Int) * KK),.int .u32 0] sm (0,0)):=by
  obtain ⟨i,o,d,r⟩:=V;have : d = 0:=hd;subst this;rfl
 show J V1 (a47 Wg cs main);refine C.step _ _ (isRun.out hC.2.2.1) fun w hw => ?_;have hh:=hw.own Wg _ hW;have hc1 : w.cell? ⟨Wg,0,none⟩ = some (.int .u64 ((n : Int) * KK)):=by simp [World.cell?,hh]
 have hz1 : w.frozen? ⟨Wg,0,none⟩ = false:=by simp [World.frozen?,hh]
 have hs:=zj7 (P:=Tryz.prog) (main:=main) (w:=w) hC.2.2.2 e188 hc1 hz1;have e : IntKind.u64.wrap (((n : Int) * KK) + 4294967296) = ((n + 1 : Nat) : Int) * KK:=by
  have h1 : IntKind.u64.bits = 64:=rfl;have h2 : IntKind.u64.signed = false:=rfl;unfold IntKind.wrap KK;rw [h1,h2];simp;omega
 rw [e] at hs;refine ⟨a48 Wg cs main (((n + 1 : Nat) : Int) * KK),_,_,V2,hs,?_,?_⟩
 ·exact zj2 (V:=V1) hw hW (hi 0) hc
 have hn4 : n = 0 \/ n = 1 \/ n = 2 \/ n = 3:=by omega
 rcases hn4 with rfl | rfl | rfl | rfl
 ·have hD:=prj4 (y48_1 Wg cs main default);refine zbX C 52 _ (fun w => (prj4 (y48_1 Wg cs main w)).1) hD.2.1 ?_;obtain ⟨t,ht1,ht2⟩:=u196;have hW2 : V2.own Wg = some (.cells #[.int .u64 (((0 + 1 : Nat) : Int) * KK),.int .u32 0] sm (0,0)):=by simp [V2,View.upd]
  refine C.step _ _ (isRun.out hD.2.2.1) fun w hw => ⟨a101 Wg cs main,w,#[],V2,?_,.idle hw,?_⟩
  ·have hh:=hw.own Wg _ hW2;exact zdd hD.2.2.2 ht1 u191 ht2 (v:=.int .u32 0) (by simp [World.cell?,hh])
  refine C.said (g:=a101 Wg cs main) (g':=a102 Wg cs main) (a:=⟨Wg,1,none⟩) (isRun.out (yr1 Wg cs main)) ⟨by show V2.own Wg ≠ none; rw [hW2]; simp,hi 1⟩ (fun w => zde .read (fun _ _ h => by cases h) (y101 Wg cs main) e177) ?_;have hE:=prj4 (y102 Wg cs main default);refine zbX C 39 _ (fun w => (prj4 (y102 Wg cs main w)).1) hE.2.1 ?_;exact zef C hE.2.2.1 (fun w => (prj4 (y102 Wg cs main w)).2.2.2) (yG1 Wg cs main) hV2.symm fun fr hl => hJ _ _ fr ⟨rfl,rfl⟩ hl
 ·have hE:=prj4 (ztx Wg cs main default);refine zbX C 87 _ (fun w => (prj4 (ztx Wg cs main w)).1) hE.2.1 ?_;exact zef C hE.2.2.1 (fun w => (prj4 (ztx Wg cs main w)).2.2.2) (yG2 Wg cs main) hV2.symm fun fr hl => hJ _ _ fr ⟨rfl,rfl⟩ hl
 ·have hE:=prj4 (ztw Wg cs main default);refine zbX C 87 _ (fun w => (prj4 (ztw Wg cs main w)).1) hE.2.1 ?_;exact zef C hE.2.2.1 (fun w => (prj4 (ztw Wg cs main w)).2.2.2) (yG3 Wg cs main) hV2.symm fun fr hl => hJ _ _ fr ⟨rfl,rfl⟩ hl
 ·have hE:=prj4 (ztv Wg cs main default);refine zbX C 87 _ (fun w => (prj4 (ztv Wg cs main w)).1) hE.2.1 ?_;exact zef C hE.2.2.1 (fun w => (prj4 (ztv Wg cs main w)).2.2.2) (yG4 Wg cs main) hV2.symm fun fr hl => hJ _ _ fr ⟨rfl,rfl⟩ hl
end
section
variable {P : Program} {main : Bool} {g : Goroutine} {w : World}
def zom (g : Goroutine) : Option (TypeId × Value):=match ready g with
 | some { op:=.load t x,.. } => some (t,g.frame.eval x)
 | _ => none
theorem ztH {t : TypeId} {d : TypeDesc} {ad : Addr} {v : Value} (h : zom g = some (t,.pointer (some ad))) (ht : P.underlying t = some d) (hd : TypeDesc.agg d = false) (hq : (P.funcs[g.frame.fn]?).any (·.norace) = false) (hc : w.cell? ad = some v) :
  stepG P main g w = .go (fin g v) w #[⟨.cell ad,false,false⟩]:=by
 obtain ⟨o,x,h1,h2,h3⟩ : ∃ o x,ready g = some o /\ o.op = .load t x /\ g.frame.eval x = .pointer (some ad):=by
  unfold zom at h;split at h
  ·rename_i s x _ _ _ _ ho;simp only [Option.some.injEq,Prod.mk.injEq] at h;obtain ⟨rfl,h⟩:=h;exact ⟨_,x,ho,rfl,h⟩
  ·cases h
 obtain ⟨b,a,ops,i,rest,kk,cs,e,q1,q2,q3,q4,q5,q6,_⟩:=ready.out h1;rw [<- q4] at h3;rw [<- q5];refine Eq.trans (congrArg (fun x => stepG P main x w) e) ?_;have e1 : execOp a.eval o = (do let v <- Instr.loadAt t (.pointer (some ad)); pure (.value v)):=by
  unfold execOp;simp only [h2,h3]
 have e2 : (isAgg t : Sem Bool).run P w = .ok false w /\ ∀ es,(isAgg t : Sem Bool).events P w es = es:=by
  unfold isAgg Go.underlying;cases d <;> first
   |(exact (Bool.noConfusion hd))
   |(constructor <;> simp [go_sem,ht])
 have hr : (execOp a.eval o).run P w = .ok (.value v) w:=by
  rw [e1];simp [Instr.loadAt,Instr.sureAddr,loadVar,e2.1,hc]
 have hev : (execOp a.eval o).events P w #[] = #[⟨.cell ad,false,false⟩]:=by
  rw [e1];simp [Instr.loadAt,Instr.sureAddr,loadVar,e2.1,e2.2,hc]
 rw [stepG_value q1 q2 q3 hr];unfold listed;rw [hev,seen_eq (by rw [q6]; exact hq) (by intro e he f; simp only [List.mem_toArray,List.mem_cons,List.not_mem_nil,or_false] at he; rw [he]; simp)]
def zof (g : Goroutine) : Option Value:=match ready g with
 | some { op:=.call { callee:=.builtin .close,args,.. },.. } => match args.toList with
  | [x] => some (g.frame.eval x)
  | _ => none
 | _ => none
theorem zrk {c cap s r : Nat} {buf : Array Value} {tm : Bool} (h : zof g = some (.chan (some c))) (hq : (P.funcs[g.frame.fn]?).any (·.norace) = false) (hc : w.heap[c]? = some (.chan cap buf false s r tm)) :
  stepG P main g w = .go (fin g (.tuple #[])) { w with heap:=w.heap.setIfInBounds c (.chan cap buf true s r tm) } #[⟨.obj c,false,true⟩,⟨.obj c,true,true⟩]:=by
 obtain ⟨o,x,ats,h1,h2,h3⟩ : ∃ o x ats,ready g = some o /\ o.op = .call { callee:=.builtin .close,args:=#[x],argTypes:=ats } /\ g.frame.eval x = .chan (some c):=by
  unfold zof at h;split at h
  ·rename_i dst xs ats ty pos af gd ho;split at h
   ·rename_i x hx;have : xs = #[x]:=(by apply Array.ext'; simpa using hx);subst this;exact ⟨_,x,_,ho,rfl,by simpa using h⟩
   ·cases h
  ·cases h
 obtain ⟨b,a,ops,i,rest,kk,cs,e,q1,q2,q3,q4,q5,q6,_⟩:=ready.out h1;rw [<- q4] at h3;rw [<- q5];refine Eq.trans (congrArg (fun x => stepG P main x w) e) ?_;exact stepG_close q1 q2 q3 h2 h3 hc (by rw [q6]; exact hq)
end
section
variable (Wg fc c : Nat)
noncomputable def e0 : Goroutine:=born Tryz.prog ⟨.fn (.func 165) #[pW Wg 0,pW fc 0],#[]⟩
noncomputable def e7 : Goroutine:=nxts Tryz.prog false 7 (e0 Wg fc)
noncomputable def e8 : Goroutine:=fin (e7 Wg fc) (.tuple #[])
noncomputable def e27 : Goroutine:=nxts Tryz.prog false 19 (e8 Wg fc)
noncomputable def f76 (h : Goroutine) (v : Int) : Goroutine:=nxts Tryz.prog false 48 (fin h (.int .u64 v))
noncomputable def m102 (b : Goroutine) : Goroutine:=nxts Tryz.prog false 25 (fin b (.bool false))
noncomputable def f96 (b : Goroutine) : Goroutine:=nxts Tryz.prog false 19 (fin b (.bool true))
noncomputable def f97 (b : Goroutine) : Goroutine:=fin (f96 b) (pW Wg 1)
noncomputable def f121 (b : Goroutine) : Goroutine:=nxts Tryz.prog false 23 (fin (f97 Wg b) (.tuple #[]))
noncomputable def f138 (b : Goroutine) : Goroutine:=nxts Tryz.prog false 16 (fin (f121 Wg b) (.tuple #[]))
noncomputable def f150 (b : Goroutine) : Goroutine:=nxts Tryz.prog false 11 (fin (f138 Wg b) (.int .u64 0))
noncomputable def f154 (b : Goroutine) : Goroutine:=nxts Tryz.prog false 3 (fin (f150 Wg b) (.tuple #[]))
noncomputable def f155 (b : Goroutine) : Goroutine:=fin (f154 Wg b) (pW Wg 0)
noncomputable def f168 (b : Goroutine) : Goroutine:=nxts Tryz.prog false 12 (fin (f155 Wg b) (.tuple #[]))
noncomputable def f169 (b : Goroutine) : Goroutine:=fin (f168 Wg b) (.chan (some c))
noncomputable def f170 (b : Goroutine) : Goroutine:=fin (f169 Wg c b) (.tuple #[])
noncomputable def z59 (h : Goroutine) : Goroutine:=nxts Tryz.prog false 31 (fin h (.int .u64 0))
noncomputable def z63 (h : Goroutine) : Goroutine:=nxts Tryz.prog false 3 (fin (z59 h) (.tuple #[]))
noncomputable def z64 (h : Goroutine) : Goroutine:=fin (z63 h) (pW Wg 0)
noncomputable def z87 (h : Goroutine) : Goroutine:=nxts Tryz.prog false 22 (fin (z64 Wg h) (.tuple #[]))
noncomputable def z88 (h : Goroutine) : Goroutine:=fin (z87 Wg h) (.chan (some c))
noncomputable def z89 (h : Goroutine) : Goroutine:=fin (z88 Wg c h) (.tuple #[])
noncomputable def hd : List Int -> Goroutine
 | [] => e27 Wg fc
 | v :: l => m102 (f76 (hd l) v)
noncomputable def bd (l : List Int) (v : Int) : Goroutine:=f76 (hd Wg fc l) v
noncomputable def evT (w : World) (n d : Nat) (g : Goroutine) : List GStep × Bool × Bool × Nat:=(zmr Tryz.prog false w n g,zna Tryz.prog false n g,isRun (nxts Tryz.prog false n g),znl Tryz.prog false n d g)
noncomputable def evR (w : World) (n d : Nat) (g : Goroutine) : List GStep × Bool × Bool × Nat:=(zmM Tryz.prog false w n g,true,true,d)
noncomputable def evQ (w : World) (n : Nat) (g : Goroutine) : List GStep × Bool × GoStatus × Nat:=(zmr Tryz.prog false w n g,zna Tryz.prog false n g,(nxts Tryz.prog false n g).status,znl Tryz.prog false n 0 g)
noncomputable def evE (w : World) (n : Nat) (g : Goroutine) : List GStep × Bool × GoStatus × Nat:=(zmM Tryz.prog false w n g,true,.finished,0)
noncomputable def norB (g : Goroutine) : Bool:=!(Tryz.prog.funcs[g.frame.fn]?).any (·.norace)
noncomputable def zT (w : World) (h : Goroutine):=(callOf h,isRun h,evT w 31 1 (fin h (.int .u64 0)),callOf (z59 h),evT w 3 0 (fin (z59 h) (.tuple #[])),znA (z63 h),callOf (z64 Wg h),isRun (z64 Wg h),evT w 22 0 (fin (z64 Wg h) (.tuple #[])),zom (z87 Wg h),norB (z87 Wg h),zof (z88 Wg c h),norB (z88 Wg c h),isRun (z88 Wg c h),mayWake Tryz.prog (z88 Wg c h),evQ w 4 (z89 Wg c h))
noncomputable def zR (w : World) (h : Goroutine):=(some ((189 : FuncId),#[pW Wg 0]),true,evR w 31 1 (fin h (.int .u64 0)),some ((171 : FuncId),(#[] : Array Value)),evR w 3 0 (fin (z59 h) (.tuple #[])),some ((189 : TypeId),(191 : TypeId),pW Wg 0),some ((182 : FuncId),#[pW Wg 0]),true,evR w 22 0 (fin (z64 Wg h) (.tuple #[])),some ((173 : TypeId),pW fc 0),true,some (Value.chan (some c)),true,true,true,evE w 4 (z89 Wg c h))
noncomputable def fT (w : World) (b : Goroutine):=(callOf b,isRun b,evT w 25 1 (fin b (.bool false)),evT w 19 1 (fin b (.bool true)),znA (f96 b),callOf (f97 Wg b),isRun (f97 Wg b),evT w 23 1 (fin (f97 Wg b) (.tuple #[])),callOf (f121 Wg b),(f121 Wg b).offers,evT w 16 1 (fin (f121 Wg b) (.tuple #[])),callOf (f138 Wg b),evT w 11 1 (fin (f138 Wg b) (.int .u64 0)),callOf (f150 Wg b),evT w 3 0 (fin (f150 Wg b) (.tuple #[])),znA (f154 Wg b),callOf (f155 Wg b),isRun (f155 Wg b),evT w 12 0 (fin (f155 Wg b) (.tuple #[])),zom (f168 Wg b),norB (f168 Wg b),zof (f169 Wg c b),norB (f169 Wg c b),isRun (f169 Wg c b),mayWake Tryz.prog (f169 Wg c b),evQ w 4 (f170 Wg c b))
noncomputable def fR (w : World) (b : Goroutine) (v : Int):=(some ((191 : FuncId),#[pW Wg 0,.int .u64 v,.int .u64 (v + 1)]),true,evR w 25 1 (fin b (.bool false)),evR w 19 1 (fin b (.bool true)),some ((196 : TypeId),(191 : TypeId),pW Wg 1),some ((185 : FuncId),#[pW Wg 1]),true,evR w 23 1 (fin (f97 Wg b) (.tuple #[])),some ((186 : FuncId),#[pW Wg 1,.bool false]),(none : Option (Array CommCase × CommShape)),evR w 16 1 (fin (f121 Wg b) (.tuple #[])),some ((189 : FuncId),#[pW Wg 0]),evR w 11 1 (fin (f138 Wg b) (.int .u64 0)),some ((171 : FuncId),(#[] : Array Value)),evR w 3 0 (fin (f150 Wg b) (.tuple #[])),some ((189 : TypeId),(191 : TypeId),pW Wg 0),some ((182 : FuncId),#[pW Wg 0]),true,evR w 12 0 (fin (f155 Wg b) (.tuple #[])),some ((173 : TypeId),pW fc 0),true,some (Value.chan (some c)),true,true,true,evE w 4 (f170 Wg c b))
set_option maxRecDepth 100000
theorem c0 (w : World) : (evT w 7 0 (e0 Wg fc),callOf (e7 Wg fc),evT w 19 1 (e8 Wg fc)) = (evR w 7 0 (e0 Wg fc),some ((170 : FuncId),(#[] : Array Value)),evR w 19 1 (e8 Wg fc)):=by kernel_rfl
noncomputable def pT (w : World) (l : List Int) (v : Int):=(evT w 48 1 (fin (hd Wg fc l) (.int .u64 v)),fT Wg c w (bd Wg fc l v),zT Wg c w (hd Wg fc (v :: l)))
noncomputable def pR (w : World) (l : List Int) (v : Int):=(evR w 48 1 (fin (hd Wg fc l) (.int .u64 v)),fR Wg fc c w (bd Wg fc l v) v,zR Wg fc c w (hd Wg fc (v :: l)))
theorem zz (w : World) : zT Wg c w (hd Wg fc []) = zR Wg fc c w (hd Wg fc []):=by kernel_rfl
theorem pp4 (w : World) : pT Wg fc c w [] (4 * 4294967296) = pR Wg fc c w [] (4 * 4294967296):=by kernel_rfl
theorem pp34 (w : World) : pT Wg fc c w [4 * 4294967296] (3 * 4294967296) = pR Wg fc c w [4 * 4294967296] (3 * 4294967296):=by kernel_rfl
theorem zt0 (w : World) : pT Wg fc c w [3 * 4294967296,4 * 4294967296] (2 * 4294967296) = pR Wg fc c w [3 * 4294967296,4 * 4294967296] (2 * 4294967296):=by kernel_rfl
theorem zqz (w : World) : pT Wg fc c w [2 * 4294967296,3 * 4294967296,4 * 4294967296] (1 * 4294967296) = pR Wg fc c w [2 * 4294967296,3 * 4294967296,4 * 4294967296] (1 * 4294967296):=by kernel_rfl
theorem zt1 (w : World) : pT Wg fc c w [3 * 4294967296,4 * 4294967296] (1 * 4294967296) = pR Wg fc c w [3 * 4294967296,4 * 4294967296] (1 * 4294967296):=by kernel_rfl
theorem pp24 (w : World) : pT Wg fc c w [4 * 4294967296] (2 * 4294967296) = pR Wg fc c w [4 * 4294967296] (2 * 4294967296):=by kernel_rfl
theorem zt2 (w : World) : pT Wg fc c w [2 * 4294967296,4 * 4294967296] (1 * 4294967296) = pR Wg fc c w [2 * 4294967296,4 * 4294967296] (1 * 4294967296):=by kernel_rfl
theorem pp14 (w : World) : pT Wg fc c w [4 * 4294967296] (1 * 4294967296) = pR Wg fc c w [4 * 4294967296] (1 * 4294967296):=by kernel_rfl
theorem pp3 (w : World) : pT Wg fc c w [] (3 * 4294967296) = pR Wg fc c w [] (3 * 4294967296):=by kernel_rfl
theorem pp23 (w : World) : pT Wg fc c w [3 * 4294967296] (2 * 4294967296) = pR Wg fc c w [3 * 4294967296] (2 * 4294967296):=by kernel_rfl
theorem zt4 (w : World) : pT Wg fc c w [2 * 4294967296,3 * 4294967296] (1 * 4294967296) = pR Wg fc c w [2 * 4294967296,3 * 4294967296] (1 * 4294967296):=by kernel_rfl
theorem pp13 (w : World) : pT Wg fc c w [3 * 4294967296] (1 * 4294967296) = pR Wg fc c w [3 * 4294967296] (1 * 4294967296):=by kernel_rfl
theorem pp2 (w : World) : pT Wg fc c w [] (2 * 4294967296) = pR Wg fc c w [] (2 * 4294967296):=by kernel_rfl
theorem pp12 (w : World) : pT Wg fc c w [2 * 4294967296] (1 * 4294967296) = pR Wg fc c w [2 * 4294967296] (1 * 4294967296):=by kernel_rfl
theorem pp1 (w : World) : pT Wg fc c w [] (1 * 4294967296) = pR Wg fc c w [] (1 * 4294967296):=by kernel_rfl
end
section
variable {P : Program} {Wg : Nat} {Stop : Nat -> Goroutine -> Prop}
theorem zto {n d d' : Nat} {g : Goroutine} (h : ∀ w,evT w n d g = evR w n d' g) : (∀ w,zmr Tryz.prog false w n g = zmM Tryz.prog false w n g) /\ zna Tryz.prog false n g = true /\ isRun (nxts Tryz.prog false n g) = true /\ znl Tryz.prog false n d g = d' :=
 ⟨fun w => (prj (h w)).1,(prj (h default)).2.1,(prj (h default)).2.2.1,(prj (h default)).2.2.2⟩
theorem zcl {n d d' : Nat} {g : Goroutine} (h : ∀ w,evT w n d g = evR w n d' g) (hs : ∃ m,Slide Tryz.prog Stop m d' (nxts Tryz.prog false n g)) : ∃ m,Slide Tryz.prog Stop m d g:=by
 obtain ⟨h1,h2,_,h4⟩:=zto h;exact zbT n d g h1 h2 (by rw [h4]; exact hs)
theorem zeH {n d d' : Nat} {g : Goroutine} (h : ∀ w,evT w n d g = evR w n d' g) (hs : ∃ m,SlideW Tryz.prog Wg Stop m d' (nxts Tryz.prog false n g)) : ∃ m,SlideW Tryz.prog Wg Stop m d g:=by
 obtain ⟨h1,h2,_,h4⟩:=zto h;exact zgj n d g h1 h2 (by rw [h4]; exact hs)
theorem zst {n : Nat} {g : Goroutine} (h : ∀ w,evQ w n g = evE w n g) : ∃ q,QuitsD Tryz.prog q 0 g :=
 zd9 n 0 g (fun w => (prj (h w)).1) (prj (h default)).2.1 (zer (prj (h default)).2.2.1 (prj (h default)).2.2.2)
theorem zhg {d : Nat} {g g' : Goroutine} {es : Array Event} (hr : g.status = .running) (hm : ∀ e ∈ es,Event.mute e = true) (h : ∀ w,stepG P false g w = .go g' w es) (hs : ∃ m,SlideW P Wg Stop m (deafBehind d es) g') : ∃ m,SlideW P Wg Stop m d g:=by
 obtain ⟨m,hm'⟩:=hs;exact ⟨m + 1,.inr ⟨hr,g',es,hm,fun w _ _ _ => h w,hm'⟩⟩
end
set_option maxRecDepth 100000
theorem t173 : (Tryz.prog.underlying 173).map TypeDesc.agg = some false:=by kernel_rfl
theorem zeq {g : Goroutine} {o : Oper} (h : ready g = some o) : isRun g = true:=by
 obtain ⟨_,_,_,_,_,_,_,_,_,_,_,_,_,_,hr⟩:=ready.out h;unfold isRun; rw [hr]
theorem zbI {g : Goroutine} {f : FuncId} {vs : Array Value} (h : callOf g = some (f,vs)) : isRun g = true:=by
 obtain ⟨_,_,_,h1,_,_⟩:=callOf.out h;exact zeq h1
theorem zff {g : Goroutine} {s d : TypeId} {v : Value} (h : znA g = some (s,d,v)) : isRun g = true:=by
 unfold znA at h;split at h
 ·rename_i ho; exact zeq ho
 ·cases h
theorem zja {g : Goroutine} {t : TypeId} {v : Value} (h : zom g = some (t,v)) : isRun g = true:=by
 unfold zom at h;split at h
 ·rename_i ho; exact zeq ho
 ·cases h
section
variable {Wg fc c : Nat} {Im : Imm}
theorem ztq {n : Nat} {g : Goroutine} (hi : Im fc 0 = some (.chan (some c))) (h1 : callOf g = some (182,#[pW Wg 0])) (h3 : ∀ w,evT w n 0 (fin g (.tuple #[])) = evR w n 0 (fin g (.tuple #[])))
  (h4 : zom (nxts Tryz.prog false n (fin g (.tuple #[]))) = some (173,pW fc 0)) (h5 : norB (nxts Tryz.prog false n (fin g (.tuple #[]))) = true)
  (h6 : zof (fin (nxts Tryz.prog false n (fin g (.tuple #[]))) (.chan (some c))) = some (.chan (some c))) (h7 : norB (fin (nxts Tryz.prog false n (fin g (.tuple #[]))) (.chan (some c))) = true) (h8 : isRun (fin (nxts Tryz.prog false n (fin g (.tuple #[]))) (.chan (some c))) = true)
  (h9 : mayWake Tryz.prog (fin (nxts Tryz.prog false n (fin g (.tuple #[]))) (.chan (some c))) = true) (h10 : ∀ w,evQ w 4 (fin (fin (nxts Tryz.prog false n (fin g (.tuple #[]))) (.chan (some c))) (.tuple #[])) = evE w 4 (fin (fin (nxts Tryz.prog false n (fin g (.tuple #[]))) (.chan (some c))) (.tuple #[]))) : CAcq Tryz.prog Im c Wg 0 g:=by
 refine ⟨rfl,isRun.out (zbI h1),_,fun w => zde .acquire (fun _ _ h => by cases h) h1 e182,?_⟩;refine zcl h3 ⟨0,rfl,isRun.out (zja h4),fc,0,_,_,hi,fun w hc => ?_,0,rfl,isRun.out h8,h9,_,fun w s hw => ?_,zst h10⟩
 ·obtain ⟨d,hd1,hd2⟩:=Option.map_eq_some_iff.1 t173;exact ztH h4 hd1 hd2 (by simpa [norB] using h5) hc
 ·exact zrk h6 (by simpa [norB] using h7) hw
theorem zkG {n1 n2 : Nat} {g : Goroutine} (h1 : ∀ w,evT w n1 1 g = evR w n1 1 g) (h2 : callOf (nxts Tryz.prog false n1 g) = some (171,#[])) (h3 : ∀ w,evT w n2 0 (fin (nxts Tryz.prog false n1 g) (.tuple #[])) = evR w n2 0 (fin (nxts Tryz.prog false n1 g) (.tuple #[])))
  (h4 : znA (nxts Tryz.prog false n2 (fin (nxts Tryz.prog false n1 g) (.tuple #[]))) = some (189,191,pW Wg 0)) (h5 : CAcq Tryz.prog Im c Wg 0 (fin (nxts Tryz.prog false n2 (fin (nxts Tryz.prog false n1 g) (.tuple #[]))) (pW Wg 0))) : ∃ n,SlideW Tryz.prog Wg (CAcq Tryz.prog Im c Wg) n 1 g:=by
 refine zeH h1 ?_;refine zhg (isRun.out (zbI h2)) (zev (.inr rfl)) (fun w => zd6 (fun _ h => by cases h) h2 e171) ?_;refine zeH (d:=deafBehind 1 #[⟨.mark .enable,false,true⟩]) h3 ?_;exact zen (isRun.out (zff h4)) (fun w x y hW => zdd h4 u189 u191 i182 hW.st.1) ⟨0,h5⟩
theorem ztu {h : Goroutine} (hi : Im fc 0 = some (.chan (some c))) (H : ∀ w,zT Wg c w h = zR Wg fc c w h) : callOf h = some (189,#[pW Wg 0]) /\ ∃ n,SlideW Tryz.prog Wg (CAcq Tryz.prog Im c Wg) n 1 (fin h (.int .u64 0)):=by
 have key : ∀ w,callOf h = some ((189 : FuncId),#[pW Wg 0]) /\ isRun h = true /\ evT w 31 1 (fin h (.int .u64 0)) = evR w 31 1 (fin h (.int .u64 0)) /\ callOf (z59 h) = some ((171 : FuncId),(#[] : Array Value)) /\ evT w 3 0 (fin (z59 h) (.tuple #[])) = evR w 3 0 (fin (z59 h) (.tuple #[])) /\ znA (z63 h) = some ((189 : TypeId),(191 : TypeId),pW Wg 0) /\ callOf (z64 Wg h) = some ((182 : FuncId),#[pW Wg 0]) /\ isRun (z64 Wg h) = true /\ evT w 22 0 (fin (z64 Wg h) (.tuple #[])) = evR w 22 0 (fin (z64 Wg h) (.tuple #[])) /\ zom (z87 Wg h) = some ((173 : TypeId),pW fc 0) /\ norB (z87 Wg h) = true /\ zof (z88 Wg c h) = some (Value.chan (some c)) /\ norB (z88 Wg c h) = true /\ isRun (z88 Wg c h) = true /\ mayWake Tryz.prog (z88 Wg c h) = true /\ evQ w 4 (z89 Wg c h) = evE w 4 (z89 Wg c h):=fun w => by
  have:=H w;unfold zT zR at this;simpa only [Prod.mk.injEq] using this
 obtain ⟨k1,k2,_,k4,_,k6,k7,k8,_,k10,k11,k12,k13,k14,k15,_⟩:=key default;refine ⟨k1,zkG (n1:=31) (n2:=3) (fun w => (key w).2.2.1) k4 (fun w => (key w).2.2.2.2.1) k6 ?_⟩;exact ztq (n:=22) hi k7 (fun w => (key w).2.2.2.2.2.2.2.2.1) k10 k11 k12 k13 k14 k15 (fun w => (key w).2.2.2.2.2.2.2.2.2.2.2.2.2.2.2)
theorem cas_ok {b : Goroutine} {v : Nat} (hv : 0 < v) (hi : Im fc 0 = some (.chan (some c))) (H : ∀ w,fT Wg c w b = fR Wg fc c w b ((v : Int) * 4294967296)) (hm : ∃ n,Slide Tryz.prog (CHead Tryz.prog Im c Wg v) n 1 (m102 b)) : CCas Tryz.prog c Wg Im v 1 b:=by
 have key : ∀ w,callOf b = some ((191 : FuncId),#[pW Wg 0,.int .u64 ((v : Int) * 4294967296),.int .u64 ((v : Int) * 4294967296 + 1)]) /\ isRun b = true /\ evT w 25 1 (fin b (.bool false)) = evR w 25 1 (fin b (.bool false)) /\ evT w 19 1 (fin b (.bool true)) = evR w 19 1 (fin b (.bool true)) /\ znA (f96 b) = some ((196 : TypeId),(191 : TypeId),pW Wg 1) /\ callOf (f97 Wg b) = some ((185 : FuncId),#[pW Wg 1]) /\ isRun (f97 Wg b) = true /\ evT w 23 1 (fin (f97 Wg b) (.tuple #[])) = evR w 23 1 (fin (f97 Wg b) (.tuple #[])) /\ callOf (f121 Wg b) = some ((186 : FuncId),#[pW Wg 1,.bool false]) /\ (f121 Wg b).offers = none /\ evT w 16 1 (fin (f121 Wg b) (.tuple #[])) = evR w 16 1 (fin (f121 Wg b) (.tuple #[])) /\ callOf (f138 Wg b) = some ((189 : FuncId),#[pW Wg 0]) /\ evT w 11 1 (fin (f138 Wg b) (.int .u64 0)) = evR w 11 1 (fin (f138 Wg b) (.int .u64 0)) /\ callOf (f150 Wg b) = some ((171 : FuncId),(#[] : Array Value)) /\ evT w 3 0 (fin (f150 Wg b) (.tuple #[])) = evR w 3 0 (fin (f150 Wg b) (.tuple #[])) /\ znA (f154 Wg b) = some ((189 : TypeId),(191 : TypeId),pW Wg 0) /\ callOf (f155 Wg b) = some ((182 : FuncId),#[pW Wg 0]) /\ isRun (f155 Wg b) = true /\ evT w 12 0 (fin (f155 Wg b) (.tuple #[])) = evR w 12 0 (fin (f155 Wg b) (.tuple #[])) /\ zom (f168 Wg b) = some ((173 : TypeId),pW fc 0) /\ norB (f168 Wg b) = true /\ zof (f169 Wg c b) = some (Value.chan (some c)) /\ norB (f169 Wg c b) = true /\ isRun (f169 Wg c b) = true /\ mayWake Tryz.prog (f169 Wg c b) = true /\ evQ w 4 (f170 Wg c b) = evE w 4 (f170 Wg c b):=fun w => by
  have:=H w;unfold fT fR at this;simpa only [Prod.mk.injEq] using this
 obtain ⟨k1,k2,_,_,k5,k6,k7,_,k9,k10,_,k12,_,k14,_,k16,k17,k18,_,k20,k21,k22,k23,k24,k25,_⟩:=key default;refine ⟨rfl,isRun.out k2,⟨_,fun w hW => ziK k1 e191 hW.st.1 hW.st.2.2.1,?_⟩,fun u hu => ⟨_,fun w hW => zhc k1 e191 hW.st.1 hW.st.2.2.1 (fun e => ?_),?_⟩⟩
 ·refine zeH (fun w => (key w).2.2.2.1) ?_;have hs : Tryz.prog.underlying 196 = some (.pointer (u196.choose)) /\ (Tryz.prog.info? u196.choose).map (fun i => decide (i.size = 0)) = some false:=u196.choose_spec;refine zen (isRun.out (zff k5)) (fun w x y hW => zdd k5 hs.1 u191 hs.2 hW.st.2.1) ⟨0,rfl,isRun.out k7,_,fun w => zde .write (fun _ _ h => by cases h) k6 e185,?_⟩;refine zcl (fun w => (key w).2.2.2.2.2.2.2.1) ⟨0,rfl,isRun.out (zbI k9),k10,fun w st hW => ?_,fin (f121 Wg b) (.tuple #[]),fun w hW => ?_,?_⟩
  ·exact ziJ k9 e186 hW.st.2.1
  ·exact zfr (n:=1) k9 e186 hW.st.2.1 (by decide) hW.st.2.2.2
  ·refine zcl (fun w => (key w).2.2.2.2.2.2.2.2.2.2.1) ⟨0,rfl,isRun.out (zbI k12),_,fun w hW => zfs k12 e189 hW.st.1,?_⟩;refine zkG (n1:=11) (n2:=3) (fun w => (key w).2.2.2.2.2.2.2.2.2.2.2.2.1) k14 (fun w => (key w).2.2.2.2.2.2.2.2.2.2.2.2.2.2.1) k16 ?_;exact ztq (n:=12) hi k17 (fun w => (key w).2.2.2.2.2.2.2.2.2.2.2.2.2.2.2.2.2.2.1) k20 k21 k22 k23 k24 k25 (fun w => (key w).2.2.2.2.2.2.2.2.2.2.2.2.2.2.2.2.2.2.2.2.2.2.2.2.2)
 ·unfold KK at e; omega
 ·exact zcl (fun w => (key w).2.2.1) hm
theorem zbd (hi : Im fc 0 = some (.chan (some c))) {h : Goroutine} {k : Nat} (hz : ∀ w,zT Wg c w h = zR Wg fc c w h)
  (hv : ∀ v,0 < v -> v <= k -> v <= 4 -> (∀ w,evT w 48 1 (fin h (.int .u64 ((v : Int) * 4294967296))) = evR w 48 1 (fin h (.int .u64 ((v : Int) * 4294967296)))) /\ (∀ w,fT Wg c w (f76 h ((v : Int) * 4294967296)) = fR Wg fc c w (f76 h ((v : Int) * 4294967296)) ((v : Int) * 4294967296)) /\ CHead Tryz.prog Im c Wg v 1 (m102 (f76 h ((v : Int) * 4294967296)))) : CHead Tryz.prog Im c Wg (k + 1) 1 h:=by
 obtain ⟨z1,z2⟩:=ztu hi hz;rw [CHead];refine ⟨rfl,isRun.out (zbI z1),fun v h1 h2 => ?_⟩;refine ⟨_,fun w hW => zfs z1 e189 hW.st.1,fun e => ?_,fun e => ?_⟩
 ·subst e; exact z2
 ·obtain ⟨q1,q2,q3⟩:=hv v (by omega) h1 h2;exact zcl q1 ⟨0,cas_ok (by omega) hi q2 ⟨0,q3⟩⟩
theorem zaC {l : List Int} {v : Int} (h : ∀ w,pT Wg fc c w l v = pR Wg fc c w l v) : (∀ w,evT w 48 1 (fin (hd Wg fc l) (.int .u64 v)) = evR w 48 1 (fin (hd Wg fc l) (.int .u64 v))) /\ (∀ w,fT Wg c w (bd Wg fc l v) = fR Wg fc c w (bd Wg fc l v) v) /\ (∀ w,zT Wg c w (hd Wg fc (v :: l)) = zR Wg fc c w (hd Wg fc (v :: l))):=by
 refine ⟨fun w => (Prod.mk.inj (h w)).1,fun w => (Prod.mk.inj (Prod.mk.inj (h w)).2).1,fun w => (Prod.mk.inj (Prod.mk.inj (h w)).2).2⟩
end
section
variable (Wg fc c : Nat) {Im : Imm}
theorem hq_1 (hi : Im fc 0 = some (.chan (some c))) : CHead Tryz.prog Im c Wg 1 1 (hd Wg fc [1 * 4294967296]):=by
 refine zbd (k:=0) hi (zaC (pp1 Wg fc c)).2.2 fun v h1 h2 h3 => ?_;omega
theorem hq_12 (hi : Im fc 0 = some (.chan (some c))) : CHead Tryz.prog Im c Wg 1 1 (hd Wg fc [1 * 4294967296,2 * 4294967296]):=by
 refine zbd (k:=0) hi (zaC (pp12 Wg fc c)).2.2 fun v h1 h2 h3 => ?_;omega
theorem hq_2 (hi : Im fc 0 = some (.chan (some c))) : CHead Tryz.prog Im c Wg 2 1 (hd Wg fc [2 * 4294967296]):=by
 refine zbd (k:=1) hi (zaC (pp2 Wg fc c)).2.2 fun v h1 h2 h3 => ?_;rcases (show v = 1 by omega) with rfl
 ·exact ⟨(zaC (pp12 Wg fc c)).1,(zaC (pp12 Wg fc c)).2.1,hq_12 Wg fc c hi⟩
theorem hq_13 (hi : Im fc 0 = some (.chan (some c))) : CHead Tryz.prog Im c Wg 1 1 (hd Wg fc [1 * 4294967296,3 * 4294967296]):=by
 refine zbd (k:=0) hi (zaC (pp13 Wg fc c)).2.2 fun v h1 h2 h3 => ?_;omega
theorem hq_123 (hi : Im fc 0 = some (.chan (some c))) : CHead Tryz.prog Im c Wg 1 1 (hd Wg fc [1 * 4294967296,2 * 4294967296,3 * 4294967296]):=by
 refine zbd (k:=0) hi (zaC (zt4 Wg fc c)).2.2 fun v h1 h2 h3 => ?_;omega
theorem hq_23 (hi : Im fc 0 = some (.chan (some c))) : CHead Tryz.prog Im c Wg 2 1 (hd Wg fc [2 * 4294967296,3 * 4294967296]):=by
 refine zbd (k:=1) hi (zaC (pp23 Wg fc c)).2.2 fun v h1 h2 h3 => ?_;rcases (show v = 1 by omega) with rfl
 ·exact ⟨(zaC (zt4 Wg fc c)).1,(zaC (zt4 Wg fc c)).2.1,hq_123 Wg fc c hi⟩
theorem hq_3 (hi : Im fc 0 = some (.chan (some c))) : CHead Tryz.prog Im c Wg 3 1 (hd Wg fc [3 * 4294967296]):=by
 refine zbd (k:=2) hi (zaC (pp3 Wg fc c)).2.2 fun v h1 h2 h3 => ?_;rcases (show v = 1 \/ v = 2 by omega) with rfl | rfl
 ·exact ⟨(zaC (pp13 Wg fc c)).1,(zaC (pp13 Wg fc c)).2.1,hq_13 Wg fc c hi⟩
 ·exact ⟨(zaC (pp23 Wg fc c)).1,(zaC (pp23 Wg fc c)).2.1,hq_23 Wg fc c hi⟩
theorem hq_14 (hi : Im fc 0 = some (.chan (some c))) : CHead Tryz.prog Im c Wg 1 1 (hd Wg fc [1 * 4294967296,4 * 4294967296]):=by
 refine zbd (k:=0) hi (zaC (pp14 Wg fc c)).2.2 fun v h1 h2 h3 => ?_;omega
theorem hq_124 (hi : Im fc 0 = some (.chan (some c))) : CHead Tryz.prog Im c Wg 1 1 (hd Wg fc [1 * 4294967296,2 * 4294967296,4 * 4294967296]):=by
 refine zbd (k:=0) hi (zaC (zt2 Wg fc c)).2.2 fun v h1 h2 h3 => ?_;omega
theorem hq_24 (hi : Im fc 0 = some (.chan (some c))) : CHead Tryz.prog Im c Wg 2 1 (hd Wg fc [2 * 4294967296,4 * 4294967296]):=by
 refine zbd (k:=1) hi (zaC (pp24 Wg fc c)).2.2 fun v h1 h2 h3 => ?_;rcases (show v = 1 by omega) with rfl
 ·exact ⟨(zaC (zt2 Wg fc c)).1,(zaC (zt2 Wg fc c)).2.1,hq_124 Wg fc c hi⟩
theorem hq_134 (hi : Im fc 0 = some (.chan (some c))) : CHead Tryz.prog Im c Wg 1 1 (hd Wg fc [1 * 4294967296,3 * 4294967296,4 * 4294967296]):=by
 refine zbd (k:=0) hi (zaC (zt1 Wg fc c)).2.2 fun v h1 h2 h3 => ?_;omega
theorem zuu (hi : Im fc 0 = some (.chan (some c))) : CHead Tryz.prog Im c Wg 1 1 (hd Wg fc [1 * 4294967296,2 * 4294967296,3 * 4294967296,4 * 4294967296]):=by
 refine zbd (k:=0) hi (zaC (zqz Wg fc c)).2.2 fun v h1 h2 h3 => ?_;omega
theorem hq_234 (hi : Im fc 0 = some (.chan (some c))) : CHead Tryz.prog Im c Wg 2 1 (hd Wg fc [2 * 4294967296,3 * 4294967296,4 * 4294967296]):=by
 refine zbd (k:=1) hi (zaC (zt0 Wg fc c)).2.2 fun v h1 h2 h3 => ?_;rcases (show v = 1 by omega) with rfl
 ·exact ⟨(zaC (zqz Wg fc c)).1,(zaC (zqz Wg fc c)).2.1,zuu Wg fc c hi⟩
theorem hq_34 (hi : Im fc 0 = some (.chan (some c))) : CHead Tryz.prog Im c Wg 3 1 (hd Wg fc [3 * 4294967296,4 * 4294967296]):=by
 refine zbd (k:=2) hi (zaC (pp34 Wg fc c)).2.2 fun v h1 h2 h3 => ?_;rcases (show v = 1 \/ v = 2 by omega) with rfl | rfl
 ·exact ⟨(zaC (zt1 Wg fc c)).1,(zaC (zt1 Wg fc c)).2.1,hq_134 Wg fc c hi⟩
 ·exact ⟨(zaC (zt0 Wg fc c)).1,(zaC (zt0 Wg fc c)).2.1,hq_234 Wg fc c hi⟩
theorem hq_4 (hi : Im fc 0 = some (.chan (some c))) : CHead Tryz.prog Im c Wg 4 1 (hd Wg fc [4 * 4294967296]):=by
 refine zbd (k:=3) hi (zaC (pp4 Wg fc c)).2.2 fun v h1 h2 h3 => ?_;rcases (show v = 1 \/ v = 2 \/ v = 3 by omega) with rfl | rfl | rfl
 ·exact ⟨(zaC (pp14 Wg fc c)).1,(zaC (pp14 Wg fc c)).2.1,hq_14 Wg fc c hi⟩
 ·exact ⟨(zaC (pp24 Wg fc c)).1,(zaC (pp24 Wg fc c)).2.1,hq_24 Wg fc c hi⟩
 ·exact ⟨(zaC (pp34 Wg fc c)).1,(zaC (pp34 Wg fc c)).2.1,hq_34 Wg fc c hi⟩
theorem hq_ (hi : Im fc 0 = some (.chan (some c))) : CHead Tryz.prog Im c Wg 5 1 (hd Wg fc []):=by
 refine zbd (k:=4) hi (zz Wg fc c) fun v h1 h2 h3 => ?_;rcases (show v = 1 \/ v = 2 \/ v = 3 \/ v = 4 by omega) with rfl | rfl | rfl | rfl
 ·exact ⟨(zaC (pp1 Wg fc c)).1,(zaC (pp1 Wg fc c)).2.1,hq_1 Wg fc c hi⟩
 ·exact ⟨(zaC (pp2 Wg fc c)).1,(zaC (pp2 Wg fc c)).2.1,hq_2 Wg fc c hi⟩
 ·exact ⟨(zaC (pp3 Wg fc c)).1,(zaC (pp3 Wg fc c)).2.1,hq_3 Wg fc c hi⟩
 ·exact ⟨(zaC (pp4 Wg fc c)).1,(zaC (pp4 Wg fc c)).2.1,hq_4 Wg fc c hi⟩
theorem zk7 (hi : Im fc 0 = some (.chan (some c))) : zq4 Tryz.prog Im c Wg (born Tryz.prog ⟨.fn (.func 165) #[pW Wg 0,pW fc 0],#[]⟩):=by
 have h0 : ∀ w,evT w 7 0 (e0 Wg fc) = evR w 7 0 (e0 Wg fc) /\ callOf (e7 Wg fc) = some ((170 : FuncId),(#[] : Array Value)) /\ evT w 19 1 (e8 Wg fc) = evR w 19 1 (e8 Wg fc):=fun w => by
  have:=c0 Wg fc w;simpa only [Prod.mk.injEq] using this
 show ∃ n,Slide Tryz.prog (CHead Tryz.prog Im c Wg 5) n 0 (e0 Wg fc);refine zcl (fun w => (h0 w).1) ?_;refine zdF (isRun.out (zbI (h0 default).2.1)) (zev (.inl rfl)) (fun w => zd6 (fun _ h => by cases h) (h0 default).2.1 e170) ?_;exact zcl (d:=deafBehind 0 #[⟨.mark .disable,false,true⟩]) (fun w => (h0 w).2.2) ⟨0,hq_ Wg fc c hi⟩
end
section
variable {lv : Bool} {P : Program} {r : Option Nat} {nt : Nat} {E : Env} {V : View} {a : Act} {s : AS} {c : Code} {Q : Ex -> Act -> View -> Prop}
theorem zcX (s3 : AS) (hat : At E V s a nt) (h : AWP lv P r nt c s (fun e s' => match e with | .normal => s'.Sub s3 | _ => False)) (hQ : ∀ E' V' a',Kept E E' V V' a a' -> At E' V' s3 a' nt -> Q .normal a' V') : WP lv P r c Q a V :=
 h E V a Q hat fun ae e E' V' a' s' hk hat' he hΦ => by
  cases ae <;> cases e <;> first
   | exact he.elim
   | exact hΦ.elim
   | exact hQ E' V' a' hk (hat'.sub hΦ)
theorem zcD {x y : Code} {t : Nat} {b : Bool} (hat : At E V s a nt) (hl : look s.T t = some (.val (.bool b))) (h : WP lv P r (if b then x else y) Q a V) : WP lv P r (.cond (.tmp t) x y) Q a V:=by
 have hd:=(hat.tok t _ hl).2;generalize hx : a.tmps.getD t undef = v at hd;cases hd;exact zjN (t:=b) hx h
end
theorem znc {s s' : AS} (h : ∀ p ∈ s'.T,∃ b,look s.T p.1 = some b /\ Wk b p.2) (hH : s.H = s'.H) : s.Sub s':=⟨fun _ _ e => h _ (zbB e),hH⟩
theorem zc8 {E : Env} {x v : Value} (h : Den E (.val x) v) : v = x:=by cases h; rfl
theorem zed {E : Env} {cs : Array Value} (h : Denl E [] cs) : cs = #[]:=Array.size_eq_zero_iff.1 h.1
theorem zeK {E : Env} {l : List Value} {cs : Array Value} (h : Denl E (l.map .val) cs) : cs = l.toArray:=by
 have hs : cs.size = l.length:=by simpa using h.1
 refine Array.ext hs fun i h1 h2 => ?_;have hi : i < l.length:=by simpa using h2
 have:=zc8 (h.2 i (.val l[i]) (by simp [List.getElem?_eq_getElem hi]));rw [Array.getD_eq_getD_getElem?,Array.getElem?_eq_getElem h1] at this;simpa using this
theorem zgP {E : Env} {l : List Value} {v : Value} (h : Den E (.agg (l.map .val)) v) : v = .agg l.toArray:=by
 cases h with
 | agg hs h => rw [zeK ⟨hs,h⟩]
theorem Ring.Ok.depths {x : Ring} (hx : x.Ok) {y : Key} (hy : y ∈ x.keys) : ∀ n ∈ zlX y.cuts,0 <= n /\ n <= 3:=by
 intro n hn;unfold zlX at hn;rcases List.mem_append.1 hn with h | h
 ·exact (hx.key y hy).2.1 n (List.mem_of_mem_take h)
 ·have:=(List.mem_replicate.1 h).2; omega
def spOf (x : Ring) (k n : Nat) : Spec:=fun v _ Ow => v = .agg #[.int .i64 k,.int .i64 n,.int .u8 (zmf x k n)] /\ ∀ b,Ow b = none
def zmd (x : Ring) (k i : Nat) : List Spec:=(List.range' i (3 - i)).map (spOf x k)
theorem zbC {x : Ring} {k i : Nat} (h : i < 3) : zmd x k i = spOf x k i :: zmd x k (i + 1):=by
 unfold zmd;rw [show 3 - i = (3 - (i + 1)) + 1 by omega,List.range'_succ]; rfl
theorem zhf {x : Ring} {k : Nat} : zmd x k 3 = []:=rfl
set_option maxRecDepth 100000 in
theorem zrJ : Tryz.prog.funcs.size = 211:=by kernel_rfl
noncomputable def wkS (x : Ring) (kk Wg c : Nat) (ds : List Int) (i : Nat) : AS:=⟨[(16,iv i),(4,.op 0 0),(0,.val (pW Wg 0)),(1,.rp [.rp x.l]),(2,.rp [iv kk]),(3,.rp [.val (.chan (some c))])],[.cells (ds.map iv) 108]⟩
theorem zjO {J : View -> Goroutine -> Prop} (C : Closed0 Tryz.prog false J) {E : Env} {V : View} {x : Ring} {kk c Wg : Nat} {y : Key} {rv kv fv : Value} (hx : x.Ok) (hy : x.keys[kk]? = some y) (hsm : x.Small) (hcon : Conc E V [])
  (hr : Den E (.rp [.rp x.l]) rv) (hk : Den E (.rp [iv kk]) kv) (hf : Den E (.rp [.val (.chan (some c))]) fv) (hro : V.role = .work c Wg (zmd x kk 0)) (hde : V.deaf = 0) (hfr : E.fr = fun _ => none) : J V (born Tryz.prog ⟨.fn (.func 163) #[pW Wg 0,rv,kv,fv],#[]⟩):=by
 have C' : Closed false Tryz.prog false J:={ C with more:=fun h => by cases h };have hkl:=get_lt hy;have hk4 : kk < 4:=by have:=hx.keys; omega
 have hym : y ∈ x.keys:=zas hy;unfold born;rw [zrJ];refine zdV C' (fr:={ (default : Frame) with fn:=211,defers:=[⟨.fn (.func 163) #[pW Wg 0,rv,kv,fv],#[]⟩],mode:=.panicking [goexitEntry] }) (ds:=[]) rfl rfl (by kernel_rfl) ?_;refine zkN (Q:=fun a' V' => a'.defers = [⟨.fn (.func 164) #[],#[pW Wg 0]⟩] /\ V'.role = .work c Wg [] /\ V'.deaf = 0) C' (by simp) F.f163 rfl ?_ ?_
 rotate_left
 ·rintro a' V' todo ⟨h1,h2,h3⟩
  refine zdV C' (ds:=[]) h1 rfl (by kernel_rfl) ?_;exact zhK Wg a'.tmps todo C h2 h3
 have hargs : Denl E [.val (pW Wg 0),.rp [.rp x.l],.rp [iv kk],.rp [.val (.chan (some c))]] (#[] ++ #[pW Wg 0,rv,kv,fv]):=by
  refine ⟨rfl,fun i a e => ?_⟩
  match i,e with
  | 0,e => cases e; exact .val _
  | 1,e => cases e; exact hr
  | 2,e => cases e; exact hk
  | 3,e => cases e; exact hf
 have hat:=zeU (nt:=29) hcon hargs (by simp);simp only [zlW,Nat.reduceAdd] at hat;refine zaV ?_;refine (zeT (nt:=29) (n:=0) (ds:=[]) (Φ:=fun e s' ds' => e = .normal /\ s' = ⟨[(0,.val (pW Wg 0)),(1,.rp [.rp x.l]),(2,.rp [iv kk]),(3,.rp [.val (.chan (some c))])],[]⟩ /\ ds' = [(.fn (.func 164) [] [],[.val (pW Wg 0)])]) rfl rfl rfl rfl rfl rfl (by kernel_rfl) ?_) E V _ _ hat trivial fun ae e E1 V1 a1 s1 ds1 hk1 hat1 hd1 he1 h1 => ?_
 ·(try simp only [seval]);exact ⟨_,_,_,rfl⟩
 obtain ⟨rfl,rfl,rfl⟩:=h1;cases e <;> first
  | exact he1.elim
  | skip
 have hdf1 : a1.defers = [⟨.fn (.func 164) #[],#[pW Wg 0]⟩]:=by
  match hdd : a1.defers,hd1 with
  | [d],hd1 =>
   obtain ⟨⟨f,first,caps,fa,ca,vs,q1,rfl,q3,q4,q5⟩,_⟩:=hd1;cases q1;rw [zed q3,zed q4,zeK (l:=[pW Wg 0]) q5];rfl
  | [],hd1 => exact hd1.elim
  | _ :: _ :: _,hd1 => exact hd1.2.elim
 refine zaV ?_;refine zcX ⟨[(4,.op 0 0),(0,.val (pW Wg 0)),(1,.rp [.rp x.l]),(2,.rp [iv kk]),(3,.rp [.val (.chan (some c))])],[.cells ((zlX y.cuts).map iv) 108]⟩ hat1 ?_ fun E2 V2 a2 hk2 hat2 => ?_
 ·refine zmw [10,11] [0,1,2,3,4,5,6,7,8,9,10,11] [⟨0,false,[],[([10],[10])]⟩,⟨1,false,[],[([10],[10])]⟩,⟨2,false,[],[([10],[10])]⟩,⟨3,false,[],[([10],[10])]⟩,⟨4,false,[],[([10],[10])]⟩,⟨5,false,[],[([10],[10])]⟩,⟨6,false,[],[([10],[10])]⟩,⟨7,false,[],[([10],[10])]⟩,⟨8,false,[],[([10],[10])]⟩,⟨9,false,[],[([10],[10])]⟩,⟨10,true,[10],[]⟩,⟨11,true,[10,11],[]⟩] (fun D => bif zl7 11 D then [.cells ((zlX y.cuts).map iv) 108] else bif zl7 10 D then [.cells [iv 0,iv 0,iv 0,iv 0] 108] else []) ?_;simp only [seval,Ring.l,zl8,zc2 hy,zaz hkl];have hdl : ((zlX y.cuts).map iv).length = 4:=by simp [zcm]
  refine znT (.agg ((zlX y.cuts).map iv)) (zlY (f92_c ⟨rfl,rfl⟩)) ⟨znT _ (zlY (f92_c ⟨rfl,rfl⟩)) rfl,?_⟩;(try simp only [seval,hdl]);exact znc (by simp only [seval]; simp [zaf,Wk.refl]) rfl
 refine zaV ?_;refine zcX (wkS x kk Wg c (zlX y.cuts) 0) hat2 ?_ fun E3 V3 a3 hk3 hat3 => ?_
 ·refine zfK ?_;exact znc (by unfold wkS; simp only [seval]; simp [zaf,Wk.refl]) rfl
 have hdf3 : a3.defers = [⟨.fn (.func 164) #[],#[pW Wg 0]⟩]:=hk3.defers.trans (hk2.defers.trans hdf1);have hro3 : V3.role = .work c Wg (zmd x kk 0):=hk3.role.trans (hk2.role.trans (hk1.role.trans hro));have hde3 : V3.deaf = 0:=hk3.deaf.trans (hk2.deaf.trans (hk1.deaf.trans hde));refine zbS ?_;refine zg2 (fun m a' V' => ∃ E' i,m = 3 - i /\ i <= 3 /\ At E' V' (wkS x kk Wg c (zlX y.cuts) i) a' 29 /\ a'.defers = [⟨.fn (.func 164) #[],#[pW Wg 0]⟩] /\ V'.role = .work c Wg (zmd x kk i) /\ V'.deaf = 0) 3 ⟨E3,0,rfl,by omega,hat3,hdf3,hro3,hde3⟩ fun m a4 V4 hI => ?_;obtain ⟨E4,i,rfl,hi,hat4,hdf4,hro4,hde4⟩:=hI;refine zaV ?_;refine zcX ⟨(17,bv (decide ((i : Int) < 3))) :: (wkS x kk Wg c (zlX y.cuts) i).T,(wkS x kk Wg c (zlX y.cuts) i).H⟩ hat4 ?_ fun E5 V5 a5 hk5 hat5 => ?_
 ·unfold wkS;refine zfK ?_;exact znc (by simp only [seval]; simp [zaf,Wk.refl]) rfl
 refine zaV (zcD hat5 rfl ?_);by_cases h3 : i < 3
 ·rw [show decide ((i : Int) < 3) = true by simp; omega];refine zfm (zaV (zbS (zaV ?_)));refine zcX ⟨(5,iv i) :: (wkS x kk Wg c (zlX y.cuts) i).T,(wkS x kk Wg c (zlX y.cuts) i).H⟩ hat5 ?_ fun E6 V6 a6 hk6 hat6 => ?_
  ·unfold wkS;refine zfK ?_;exact znc (by simp only [seval]; simp [zaf,Wk.refl]) rfl
  have hro6 : V6.role = .work c Wg (spOf x kk i :: zmd x kk (i + 1)):=by rw [hk6.role,hk5.role,hro4,zbC h3]
  have hde6 : V6.deaf = 0:=hk6.deaf.trans (hk5.deaf.trans hde4);have hds : (zlX y.cuts).length = 4:=zcm _;refine zf2 (K:=fun s' => look s'.T 19 = some (.val (.chan (some c))) /\ look s'.T 27 = some (.agg [iv kk,iv i,uv (zmf x kk i)]) /\ s'.Sub (wkS x kk Wg c (zlX y.cuts) i)) F.mixed 9 (by kernel_rfl) hat6 ?_ fun E7 V7 a7 s7 hk7 hat7 hK => ?_
  ·unfold wkS;(try simp only [seval]);refine ⟨by omega,?_⟩;rw [List.take_of_length_le (by simp [hds])];refine znT (.agg ((zme i (zlX y.cuts)).map iv)) (zlY (f93_c hds (hx.depths hym) ⟨by omega,by omega⟩ ⟨rfl,rfl⟩)) ?_;have h139 : FnC false Tryz.prog 139 [.cells ((zlX y.cuts).map iv) 108] [.rp x.l,.agg ((zme i (zlX y.cuts)).map iv)] (fun b H' => b = uv (zmf x kk i) /\ H' = [.cells ((zlX y.cuts).map iv) 108]) (fun _ _ => False):=by
    have:=f139_c (lv:=false) (H:=[.cells ((zlX y.cuts).map iv) 108]) (x:=x) (os:=[]) (ds:=zme i (zlX y.cuts)) (k:=fun b H' => b = uv (zmf x kk i) /\ H' = [.cells ((zlX y.cuts).map iv) 108]) (kp:=fun _ _ => False) (by simp [zme,hds]) ⟨by have:=hx.cuts; omega,hx.cuts.2⟩ hx.locks (fun l hl => by have:=(hx.lock l hl).1; omega) ⟨by unfold zmf; rw [hy],rfl⟩;simpa using this
   refine znT (uv (zmf x kk i)) (zad (by kernel_rfl) h139) ?_;(try simp only [seval]);exact znc (by simp only [seval]; simp [zaf,Wk.refl]) rfl
  ·obtain ⟨l19,l27,hsub⟩:=hK;have hat7':=hat7.sub hsub;refine zdB rfl rfl ?_;have e19 : a7.eval (.tmp 19) = .chan (some c):=zc8 (hat7.tok _ _ l19).2;have e27 : a7.eval (.tmp 27) = .agg #[.int .i64 kk,.int .i64 i,.int .u8 (zmf x kk i)]:=zgP (l:=[.int .i64 kk,.int .i64 i,.int .u8 (zmf x kk i)]) (hat7.tok _ _ l27).2;refine ⟨c,Wg,spOf x kk i,zmd x kk (i + 1),fun _ => false,e19,by rw [hk7.role]; exact hro6,hk7.deaf.trans hde6,⟨e27,fun _ => rfl⟩,?_⟩;have hcon8 : Conc (E7.frame E7.fr) { V7 with own:=fun b => if (false : Bool) then none else V7.own b,role:=.work c Wg (zmd x kk (i + 1)) } (wkS x kk Wg c (zlX y.cuts) i).H :=
    hat7'.conc.reframe _ rfl (fun b z k w _ _ hz => by simpa using hz) (fun g hg => by cases hg) (fun g hg => by cases hg) (fun hm => by have:=(hat7'.conc.top hm).1; rw [hk7.role,hro6] at this; cases this) (fun b z hz => by simpa using hat7'.conc.fr b z hz)
   have hat8 : At (E7.frame E7.fr) { V7 with own:=fun b => if (false : Bool) then none else V7.own b,role:=.work c Wg (zmd x kk (i + 1)) } (wkS x kk Wg c (zlX y.cuts) i) (a7.put none undef) 29:=⟨hcon8,hat7'.tok.frame _,hat7'.size⟩;refine zcX (wkS x kk Wg c (zlX y.cuts) (i + 1)) hat8 ?_ fun E9 V9 a9 hk9 hat9 => ?_
   ·unfold wkS;have hw : IntKind.i64.wrap ((i : Int) + 1) = (i : Int) + 1:=zau _ (by omega);refine zl5 ?_;simp only [seval,hw];exact znc (by simp only [seval]; simp [zaf,Wk.refl]) rfl
   ·exact ⟨3 - (i + 1),by omega,E9,i + 1,rfl,by omega,hat9,by rw [hk9.defers]; exact hk7.defers.trans (hk6.defers.trans (hk5.defers.trans hdf4)),hk9.role,by rw [hk9.deaf]; exact hk7.deaf.trans hde6⟩
 ·have : i = 3:=by omega
  subst this;rw [show decide (((3 : Nat) : Int) < 3) = false by decide];refine zfn ?_;exact ⟨trivial,hk5.defers.trans hdf4,hk5.role.trans hro4,hk5.deaf.trans hde4⟩
theorem zrQ (r : Option Nat) : AV.parts (.val (.chan r)) = some [.val (.chan r)]:=rfl
theorem zq9 (r : Option Nat) : znP (.chan r) = [.val (.chan r)]:=rfl
theorem zuq (r : Option Nat) : AV.leaf (.val (.chan r)) = true:=rfl
theorem zbD (Hs L : List AObj) (i : Nat) : (Hs ++ L)[Hs.length + i]? = L[i]?:=by rw [List.getElem?_append_right (by omega)]; congr 1; omega
theorem zcT (Hs L : List AObj) (i : Nat) (y : AObj) : (Hs ++ L).set (Hs.length + i) y = Hs ++ L.set i y:=by rw [List.set_append_right _ _ (by omega)]; congr 2; omega
def zmo (x : Ring) (is : List Nat) : List (List Spec):=is.mapIdx fun k i => zmd x k i
def zo6 : Obj:=.chan 0 #[] false 0 0 false
def zl9 (x : Ring) (m c : Nat) (os : List AV) : List AObj:=[.cells x.l 26,.part 4 (x.l ++ os) 114,.part 1 [.op (m + 1) 0] 100,.part 1 [.val (.chan (some c))] 173,.gone]
structure NrC (x : Ring) (Hs : List AObj) (E : Env) (c Wg : Nat) (rv fv : Value) (os : List AV) (T : List (Nat × AV)) (G : List AObj) (E' : Env) (V' : View) (a' : Act) : Prop where
 hat : At E' V' ⟨T,Hs ++ (zl9 x Hs.length c os ++ G)⟩ a' 45
 lo : E.Lo E'
 main : E'.main = false
 defers : a'.defers = []
 deaf : V'.deaf = 0
 er : rv = .pointer (some ⟨E'.blk (Hs.length + 2),0,none⟩)
 ef : fv = .pointer (some ⟨E'.blk (Hs.length + 3),0,none⟩)
 dr : Den E' (.rp [.rp x.l]) rv
 df : Den E' (.rp [.val (.chan (some c))]) fv
 fr : ∀ b y,E.fr b = some y -> E'.fr b = some y /\ b ≠ c /\ b ≠ Wg
 ne : c ≠ Wg
section
variable {x : Ring} {Hs : List AObj} {E : Env} {c Wg : Nat} {rv fv : Value} {os os' : List AV} {T T' : List (Nat × AV)} {G G' : List AObj} {E1 E2 : Env} {V1 V2 : View} {a1 a2 : Act}
theorem NrC.step' (h : NrC x Hs E c Wg rv fv os T G E1 V1 a1) (le : E1.Le E2) (hdf : a2.defers = a1.defers) (hde : V2.deaf = V1.deaf) (hat : At E2 V2 ⟨T',Hs ++ (zl9 x Hs.length c os' ++ G')⟩ a2 45) : NrC x Hs E c Wg rv fv os' T' G' E2 V2 a2:=by
 have hl : ∀ i,i < 5 -> Hs.length + i < E1.n:=fun i hi => by rw [h.hat.conc.n]; simp [zl9]; omega
 exact ⟨hat,h.lo.trans le.lo,le.main.trans h.main,hdf.trans h.defers,hde.trans h.deaf,by rw [le.blk _ (hl 2 (by omega))]; exact h.er,by rw [le.blk _ (hl 3 (by omega))]; exact h.ef,h.dr.mono le,h.df.mono le,fun b y e => by rw [le.fr]; exact h.fr b y e,h.ne⟩
theorem NrC.step (h : NrC x Hs E c Wg rv fv os T G E1 V1 a1) (hk : Kept E1 E2 V1 V2 a1 a2) (hat : At E2 V2 ⟨T',Hs ++ (zl9 x Hs.length c os' ++ G')⟩ a2 45) : NrC x Hs E c Wg rv fv os' T' G' E2 V2 a2:=by
 have hl : ∀ i,i < 5 -> Hs.length + i < E1.n:=fun i hi => by rw [h.hat.conc.n]; simp [zl9]; omega
 exact ⟨hat,h.lo.trans hk.le.lo,hk.le.main.trans h.main,hk.defers.trans h.defers,hk.deaf.trans h.deaf,by rw [hk.le.blk _ (hl 2 (by omega))]; exact h.er,by rw [hk.le.blk _ (hl 3 (by omega))]; exact h.ef,h.dr.mono hk.le,h.df.mono hk.le,fun b y e => by rw [hk.le.fr]; exact h.fr b y e,h.ne⟩
theorem NrC.to (T' : List (Nat × AV)) (os' : List AV) (G' : List AObj) (h : NrC x Hs E c Wg rv fv os T G E1 V1 a1) {cd : Code} {Q : Ex -> Act -> View -> Prop} (hw : AWP true Tryz.prog none 45 cd ⟨T,Hs ++ (zl9 x Hs.length c os ++ G)⟩ (fun e s' => match e with | .normal => s'.Sub ⟨T',Hs ++ (zl9 x Hs.length c os' ++ G')⟩ | _ => False))
  (hQ : ∀ E2 V2 a2,Kept E1 E2 V1 V2 a1 a2 -> NrC x Hs E c Wg rv fv os' T' G' E2 V2 a2 -> Q .normal a2 V2) : WP true Tryz.prog none cd Q a1 V1 :=
 zcX ⟨T',Hs ++ (zl9 x Hs.length c os' ++ G')⟩ h.hat hw fun E2 V2 a2 hk hat => hQ E2 V2 a2 hk (h.step hk hat)
theorem NrC.cut (h : NrC x Hs E c Wg rv fv os T G E1 V1 a1) (hE : E.n <= Hs.length) (hT : ∀ p ∈ T',∃ b,look T p.1 = some b /\ Wk b p.2 /\ Lt (Hs.length + 5) p.2) (hok : HOk (Hs ++ zl9 x Hs.length c os)) : NrC x Hs E c Wg rv fv os T' [] { E1 with n:=Hs.length + 5 } V1 a1:=by
 have hlen : (Hs ++ zl9 x Hs.length c os).length = Hs.length + 5:=by simp [zl9]
 have hc:=h.hat.cut (s':=⟨T',Hs ++ zl9 x Hs.length c os⟩) ⟨fun t a e => by
  obtain ⟨b,h1,h2,h3⟩:=hT _ (zbB e);exact ⟨b,h1,h2,by rw [hlen]; exact h3⟩,⟨G,by simp⟩,hok⟩
 simp only [hlen] at hc;have l0 : Lt (Hs.length + 5) (.rp [.rp x.l]) = True:=by
  simp only [zi9,List.mem_singleton,forall_eq,eq_iff_iff,iff_true,Ring.l,List.mem_cons,List.not_mem_nil,or_false]
  rintro a (rfl | rfl | rfl | rfl)
  ·exact .val _
  ·rw [zc5]; trivial
  ·rw [zci]; trivial
  ·rw [zch]; trivial
 exact ⟨by simpa using hc,h.lo.cut (by omega),h.main,h.defers,h.deaf,h.er,h.ef,h.dr.trim (by rw [l0]; trivial),h.df.trim (by simp [zi9,zap]),h.fr,h.ne⟩
theorem ztf (hH : HOk Hs) (hos : ∀ a ∈ os,∀ n,Lt n a) : HOk (Hs ++ zl9 x Hs.length c os):=by
 intro y hy;have hlen : (Hs ++ zl9 x Hs.length c os).length = Hs.length + 5:=by simp [zl9]
 rw [hlen];have hl : ∀ a ∈ x.l,∀ n,Lt n a:=by
  intro a ha n;simp only [Ring.l,List.mem_cons,List.not_mem_nil,or_false] at ha;rcases ha with rfl | rfl | rfl | rfl
  ·exact .val _
  ·rw [zc5]; trivial
  ·rw [zci]; trivial
  ·rw [zch]; trivial
 rcases List.mem_append.1 hy with h | h
 ·exact (hH y h).mono (by omega)
 ·simp only [zl9,List.mem_cons,List.not_mem_nil,or_false] at h;rcases h with rfl | rfl | rfl | rfl | rfl
  ·exact fun a ha => hl a ha _
  ·exact fun a ha => (List.mem_append.1 ha).elim (fun h => hl a h _) (fun h => hos a h _)
  ·intro a ha; simp at ha; subst ha; exact .op (by omega)
  ·intro a ha; simp at ha; subst ha; exact .val _
  ·trivial
end
def cs : Code -> Code
 | .seq _ c => c
 | _ => .skip
def cf : Code -> Code
 | .seq c _ => c
 | _ => .skip
def ci : Code -> Code
 | .block _ c | .loop c | .scope c => c
 | _ => .skip
noncomputable def znL : Code:=Tryz.f144.body.getD .skip
noncomputable def zm0 : Code:=cs (cs (cs (cs znL)))
def zmm : List AV:=List.replicate 12 (uv 0)
noncomputable def znh (x : Ring) (Hs : List AObj) (Wg i : Nat) : List (Nat × AV):=[(19,iv i),(18,iv x.keys.length),(5,.val (pW Wg 0)),(4,.op (Hs.length + 3) 0),(3,.op (Hs.length + 2) 0)]
structure NrF (x : Ring) (Hs : List AObj) (E : Env) (c Wg : Nat) (rv fv : Value) (i : Nat) (T : List (Nat × AV)) (G : List AObj) (E' : Env) (V' : View) (a' : Act) : Prop where
 ok : NrC x Hs E c Wg rv fv zmm T G E' V' a'
 role : V'.role = .fork c Wg (zmo x (List.replicate i 0))
 frc : E'.fr c = some zo6
 frw : E'.fr Wg = some (zmJ Tryz.prog ((i : Int) * 4294967296) 0)
theorem zgi (x : Ring) (i : Nat) : zmo x (List.replicate (i + 1) 0) = zmo x (List.replicate i 0) ++ [zmd x i 0]:=by
 unfold zmo;rw [List.replicate_succ',List.mapIdx_append];simp
theorem zc1 (x : Ring) (is : List Nat) : (zmo x is).length = is.length:=by simp [zmo]
set_option maxRecDepth 100000 in
theorem wgT : zqu Tryz.prog = 182:=by kernel_rfl
theorem ztp {E : Env} {f : Fn} {first caps : List AV} {v : Value} (h : Den E (.fn f first caps) v) : ∃ fa ca,v = .func f fa ca /\ Denl E first fa /\ Denl E caps ca:=by
 cases h with
 | fn hs1 hs2 h1 h2 => exact ⟨_,_,rfl,⟨hs1,h1⟩,⟨hs2,h2⟩⟩
theorem zgO {E : Env} {i o : Nat} {v : Value} (h : Den E (.op i o) v) : v = .pointer (some ⟨E.blk i,o,none⟩):=by cases h; rfl
theorem zr1 (x : Ring) : Lt 0 (.rp [.rp x.l]):=by
 simp only [zi9,List.mem_singleton,forall_eq,Ring.l,List.mem_cons,List.not_mem_nil,or_false]
 rintro a (rfl | rfl | rfl | rfl)
 ·exact .val _
 ·rw [zc5]; trivial
 ·rw [zci]; trivial
 ·rw [zch]; trivial
section
variable {x : Ring} {Hs : List AObj} {E : Env} {c Wg i : Nat} {rv fv : Value} {T T' : List (Nat × AV)} {G G' : List AObj} {E1 E2 : Env} {V1 V2 : View} {a1 a2 : Act}
theorem NrF.step (h : NrF x Hs E c Wg rv fv i T G E1 V1 a1) (hk : Kept E1 E2 V1 V2 a1 a2) (hc : NrC x Hs E c Wg rv fv zmm T' G' E2 V2 a2) : NrF x Hs E c Wg rv fv i T' G' E2 V2 a2 :=
 ⟨hc,hk.role.trans h.role,by rw [hk.le.fr]; exact h.frc,by rw [hk.le.fr]; exact h.frw⟩
theorem zkr (hx : x.Ok) (hsm : x.Small) (hEn : E.n <= Hs.length) (hok : HOk (Hs ++ zl9 x Hs.length c zmm)) (h : NrF x Hs E c Wg rv fv i (znh x Hs Wg i) [] E1 V1 a1) (hi : i < x.keys.length) {cd : Code} {Q : Ex -> Act -> View -> Prop} (hcd : cd = cs (cs (ci (ci (cs (cf zm0))))))
  (hQ : ∀ E2 V2 a2,NrF x Hs E c Wg rv fv (i + 1) (znh x Hs Wg (i + 1)) [] E2 V2 a2 -> Q .normal a2 V2) : WP true Tryz.prog none cd Q a1 V1:=by
 subst hcd;have h4 : x.keys.length <= 4:=hx.keys;refine zaV (zbS (zaV ?_));refine h.ok.to ((6,.op (Hs.length + 5) 0) :: znh x Hs Wg i) zmm [.cells [iv i] 3] ?_ fun E2 V2 a2 hk2 hc2 => ?_
 ·unfold znh zl9;refine zfK ?_;exact znc (by simp only [seval]; simp [zaf,Wk.refl]) rfl
 have h2:=h.step hk2 hc2;obtain ⟨V3,g3,o3,r3,d3,le3,con3,den3⟩:=hc2.hat.conc.pubPart (id:=Hs.length + 5) (by rw [zbD]; rfl) 1 (by simp);rw [zcT] at con3;have hkp3 : Kept E2 { E2 with I:=V3.imm } V2 V3 a2 a2:=⟨le3,rfl,rfl,r3,d3⟩;have hc3:=hc2.step (T':=(6,.op (Hs.length + 5) 0) :: znh x Hs Wg i) (os':=zmm) (G':=[.part 1 [iv i] 3]) hkp3 ⟨con3,hc2.hat.tok.mono le3,hc2.hat.size⟩;have h3:=h2.step hkp3 hc3;refine WP.ghost g3 ?_;generalize { E2 with I:=V3.imm } = E3 at le3 con3 den3 hkp3 hc3 h3;have e5 : a2.eval (.tmp 5) = pW Wg 0:=zc8 (hc3.hat.tok 5 (.val (pW Wg 0)) rfl).2;obtain ⟨w1,w2,w3⟩:=hc3.hat.conc.fr Wg _ h3.frw;have hrc : V3.role.chan ≠ some Wg:=by rw [h3.role]; intro e; cases e; exact hc3.ne rfl
 refine zaV (zcp rfl rfl (zrU rfl rfl (by kernel_rfl) ?_));have hargs : (#[Operand.tmp 5,Operand.const (.int .i64 1)] : Array Operand).map a2.eval = #[pW Wg 0,.int .i64 1]:=by
  simp only [List.map_toArray,List.map_cons,List.map_nil,e5]; rfl
 rw [hargs];refine (zsQ (n:=i) (sm:=zqu Tryz.prog) (by omega) w1 w2 hrc hc3.deaf).mono fun o V4 hV => ?_;obtain ⟨rfl,rfl⟩:=hV;dsimp only;refine zjL ?_;let wg' : Obj:=zmJ Tryz.prog (((i + 1 : Nat) : Int) * 4294967296) 0;show WP true Tryz.prog none _ _ (a2.put (some 22) (.tuple #[])) (V3.upd Wg wg');have con4:=hc3.hat.conc.frUpd h3.frw wg';let f4 : Nat -> Option Obj:=fun b' => if b' = Wg then some wg' else E3.fr b';have hc4 : NrC x Hs E c Wg rv fv zmm ((6,.op (Hs.length + 5) 0) :: znh x Hs Wg i) [.part 1 [iv i] 3] (E3.frame f4) (V3.upd Wg wg') (a2.put (some 22) (.tuple #[])):=by
  refine ⟨⟨con4,fun t av e => ?_,(zaA a2 (some 22) _).trans hc3.hat.size⟩,hc3.lo.trans (Env.lo_frame E3 f4),hc3.main,(zaw a2 _ _).trans hc3.defers,hc3.deaf,hc3.er,hc3.ef,hc3.dr.frame f4,hc3.df.frame f4,fun b y e => ?_,hc3.ne⟩
  ·have hne : t ≠ 22:=by
    intro et; subst et;simp [znh,look] at e
   have:=((hc3.hat.tok.frame f4).put (d:=22) (a:=.tup []) (v:=.tuple #[]) (by rw [hc3.hat.size]; omega) (.tup rfl (by simp))) t av (by simp only [look]; rw [if_neg (Ne.symm hne)]; exact e);exact this
  ·obtain ⟨q1,q2,q3⟩:=hc3.fr b y e;exact ⟨by show (if b = Wg then _ else _) = _; rw [if_neg q3]; exact q1,q2,q3⟩
 have dk4 : Den (E3.frame f4) (.rp [iv i]) (.pointer (some ⟨(E3.frame f4).blk (Hs.length + 5),0,none⟩)):=by
  have hl : Hs.length + 5 < E2.n:=by rw [hc2.hat.conc.n]; simp [zl9]
  have e : (E3.frame f4).blk (Hs.length + 5) = E2.blk (Hs.length + 5):=le3.blk _ hl;rw [e];exact den3.frame f4
 have ro4 : (V3.upd Wg wg').role = .fork c Wg (zmo x (List.replicate i 0)):=h3.role;have frc4 : (E3.frame f4).fr c = some zo6:=by
  show (if c = Wg then _ else _) = _;rw [if_neg hc3.ne]; exact h3.frc
 have frw4 : (E3.frame f4).fr Wg = some wg':=by
  show (if Wg = Wg then _ else _) = _;rw [if_pos rfl]
 generalize E3.frame f4 = E4 at hc4 dk4 frc4 frw4;generalize V3.upd Wg wg' = V4 at hc4 ro4;generalize a2.put (some 22) (.tuple #[]) = a4 at hc4;clear con4;refine zbW (K:=fun s' => look s'.T 23 = some (.fn (.func 163) [] [.val (pW Wg 0),.op (Hs.length + 2) 0,.op (Hs.length + 5) 0,.op (Hs.length + 3) 0]) /\ s'.Sub ⟨znh x Hs Wg i,Hs ++ (zl9 x Hs.length c zmm ++ [.part 1 [iv i] 3])⟩) 1 1 rfl (by kernel_rfl) hc4.hat ?_ fun E5 V5 a5 s5 hk5 hat5 hK => ?_
 ·unfold znh zl9;(try simp only [seval,List.mapM_cons,List.mapM_nil,Option.pure_def,Option.bind_eq_bind]);exact znc (by simp only [seval]; simp [zaf,Wk.refl]) rfl
 obtain ⟨l23,hsub⟩:=hK;have hat5':=hat5.sub hsub;have hc5:=hc4.step hk5 hat5';have ro5 : V5.role = .fork c Wg (zmo x (List.replicate i 0)):=hk5.role.trans ro4;have frc5 : E5.fr c = some zo6:=by rw [hk5.le.fr]; exact frc4
 have frw5 : E5.fr Wg = some wg':=by rw [hk5.le.fr]; exact frw4
 have dk5:=dk4.mono hk5.le;have hl4 : Hs.length + 5 < E4.n:=by rw [hc4.hat.conc.n]; simp [zl9]
 refine zdB rfl rfl ?_;obtain ⟨c1,c2,c3⟩:=hc5.hat.conc.fr c _ frc5;obtain ⟨v1,v2,v3⟩:=hc5.hat.conc.fr Wg _ frw5;have e23 : a5.eval (.tmp 23) = .func (.func 163) #[] #[pW Wg 0,rv,.pointer (some ⟨E5.blk (Hs.length + 5),0,none⟩),fv]:=by
  obtain ⟨fa,ca,q1,q2,q3⟩:=ztp (hat5.tok 23 _ l23).2;rw [zed q2] at q1;refine q1.trans ?_;have hs4 : ca.size = 4:=q3.1;have k0:=zc8 (q3.2 0 _ rfl);have k1:=zgO (q3.2 1 _ rfl);have k2:=zgO (q3.2 2 _ rfl);have k3:=zgO (q3.2 3 _ rfl);rw [<- hc5.er] at k1;rw [<- hc5.ef] at k3;congr 1;refine Array.ext hs4 fun j h1 h2 => ?_;have hj : j = 0 \/ j = 1 \/ j = 2 \/ j = 3:=by omega
  rw [Array.getD_eq_getD_getElem?,Array.getElem?_eq_getElem (by omega)] at k0 k1 k2 k3;rcases hj with rfl | rfl | rfl | rfl
  ·exact k0
  ·exact k1
  ·exact k2
  ·exact k3
 refine ⟨rfl,.tmp 23,163,#[],_,rfl,e23,hc5.deaf,.inl ⟨c,Wg,zmo x (List.replicate i 0),spOf x i 0,zmd x i 1,ro5,c1,?_,?_,v2,fun J0 C => ?_,?_⟩⟩
 ·rw [v1,zc1,List.length_replicate]
 ·rw [zc1,List.length_replicate]; omega
 ·have hb : E5.blk (Hs.length + 5) = E4.blk (Hs.length + 5):=hk5.le.blk _ hl4;rw [hb];obtain ⟨y,hy⟩:=zaE hi;have:=zjO (J:=J0) (V:={ imm:=V5.imm,own:=fun _ => none,deaf:=0,role:=.work c Wg (zmd x i 0) }) C hx hy hsm (zk6 hc5.hat.conc.I rfl rfl) (hc5.dr.bare (zr1 x)) (dk5.bare (by simp [zi9,zap])) (hc5.df.bare (by simp [zi9,zap])) rfl rfl rfl;rw [zbC (by omega)] at this;simpa using this
 let V6 : View:={ V5 with role:=.fork c Wg (zmo x (List.replicate i 0) ++ [spOf x i 0 :: zmd x i 1]) };have con6 : Conc (E5.frame E5.fr) V6 (Hs ++ (zl9 x Hs.length c zmm ++ [.part 1 [iv i] 3])):=by
  refine hc5.hat.conc.reframe (V':=V6) _ rfl (fun _ _ _ _ _ _ h => h) (fun g hg => ?_) (fun g hg => ?_) (fun hm => by rw [hc5.main] at hm; cases hm) hc5.hat.conc.fr
  ·cases hg;exact ⟨by show V5.own Wg ≠ none; rw [v1]; simp,v2,v3⟩
  ·cases hg;exact ⟨by show V5.own c ≠ none; rw [c1]; simp,c2,c3⟩
 have hc6 : NrC x Hs E c Wg rv fv zmm (znh x Hs Wg i) [.part 1 [iv i] 3] E5 V6 (a5.put none undef):=⟨⟨con6,hc5.hat.tok,hc5.hat.size⟩,hc5.lo,hc5.main,hc5.defers,hc5.deaf,hc5.er,hc5.ef,hc5.dr,hc5.df,hc5.fr,hc5.ne⟩;show WP true Tryz.prog none _ _ (a5.put none undef) V6;refine hc6.to (znh x Hs Wg (i + 1)) zmm [.part 1 [iv i] 3] ?_ fun E7 V7 a7 hk7 hc7 => ?_
 ·unfold znh zl9;have hw : IntKind.i64.wrap ((i : Int) + 1) = (i : Int) + 1:=zau _ (by omega);refine zl5 ?_;simp only [seval,hw];exact znc (by simp only [seval]; simp [zaf,Wk.refl]) rfl
 have hcut:=hc7.cut (T':=znh x Hs Wg (i + 1)) hEn (by
  unfold znh;simp only [List.forall_mem_cons,List.not_mem_nil,false_imp_iff,implies_true,and_true,look,Nat.reduceEqDiff,if_false,if_true,Option.some.injEq,exists_eq_left',Wk.refl,true_and,zap,lt_op];omega) hok
 refine hQ _ V7 a7 ⟨hcut,?_,?_,?_⟩
 ·rw [hk7.role,zgi,zbC (i:=0) (by omega)]
 ·show E7.fr c = _;rw [hk7.le.fr]; exact frc5
 ·show E7.fr Wg = _;rw [hk7.le.fr]; exact frw5
end
def zmv (x : Ring) (is : List Nat) : List AV:=(List.range 4).flatMap fun k => (List.range 3).map fun w => uv (if w < is.getD k 0 then zmf x k w else 0)
theorem zhs (x : Ring) (is : List Nat) : (zmv x is).length = 12:=rfl
theorem zi4 (x : Ring) (is : List Nat) : ∀ a ∈ zmv x is,∀ n,Lt n a:=by
 intro a ha n;obtain ⟨k,_,h⟩:=List.mem_flatMap.1 ha;obtain ⟨w,_,rfl⟩:=List.mem_map.1 h;exact .val _
theorem zgt (x : Ring) (n : Nat) : zmv x (List.replicate n 0) = zmm:=by
 have h : ∀ k,(List.replicate n 0).getD k 0 = 0:=fun k => by
  rw [List.getD_eq_getElem?_getD,List.getElem?_replicate]; split <;> rfl
 unfold zmv;simp only [h,Nat.not_lt_zero,if_false];rfl
theorem zhr (x : Ring) (is : List Nat) {j i : Nat} (hj : j < 4) (hi : i < 3) (hji : is[j]? = some i) : putAt (x.l ++ zmv x is) (4 + j * 3 + i) [uv (zmf x j i)] = x.l ++ zmv x (is.set j (i + 1)):=by
 have hl : x.l.length = 4:=rfl;have hget : ∀ k,(is.set j (i + 1)).getD k 0 = if k = j then i + 1 else is.getD k 0:=fun k => by
  rw [List.getD_eq_getElem?_getD,List.getElem?_set,List.getD_eq_getElem?_getD];by_cases h : j = k
  ·subst h;rw [if_pos rfl,if_pos (get_lt hji),if_pos rfl]; rfl
  ·rw [if_neg h,if_neg (fun e => h e.symm)]
 have hgj : is.getD j 0 = i:=by rw [List.getD_eq_getElem?_getD,hji]; rfl
 unfold zmv;simp only [hget];rcases (show j = 0 \/ j = 1 \/ j = 2 \/ j = 3 by omega) with rfl | rfl | rfl | rfl <;> rcases (show i = 0 \/ i = 1 \/ i = 2 by omega) with rfl | rfl | rfl <;>
  simp [putAt,Ring.l,List.range_succ,hgj,hji]
theorem zht (x : Ring) {is : List Nat} (hlen : is.length = x.keys.length) (h : ∀ i ∈ is,i = 3) : zmv x is = zlV x:=by
 unfold zmv zlV;rw [List.flatMap_def,List.flatMap_def];congr 1;refine List.map_congr_left fun k _ => List.map_congr_left fun w hw => ?_;have hw3 : w < 3:=by simpa using hw
 by_cases hk : k < is.length
 ·have : is.getD k 0 = 3:=by
   rw [List.getD_eq_getElem?_getD,List.getElem?_eq_getElem hk];exact h _ (List.getElem_mem hk)
  rw [this,if_pos hw3]
 ·have e : x.keys[k]? = none:=List.getElem?_eq_none (by omega);have : zmf x k w = 0:=by unfold zmf; rw [e]
  rw [this]; simp
theorem zhe {x : Ring} {is : List Nat} {j : Nat} {S : List Spec} (h : (zmo x is)[j]? = some S) : ∃ i,is[j]? = some i /\ S = zmd x j i:=by
 unfold zmo at h;rw [List.getElem?_mapIdx] at h;obtain ⟨i,h1,h2⟩:=Option.map_eq_some_iff.1 h;exact ⟨i,h1,h2.symm⟩
theorem zhd (x : Ring) (is : List Nat) (j i : Nat) : (zmo x is).set j (zmd x j i) = zmo x (is.set j i):=by
 apply List.ext_getElem?;intro k;unfold zmo;rw [List.getElem?_set,List.getElem?_mapIdx,List.getElem?_mapIdx,List.getElem?_set,List.length_mapIdx];by_cases h : j = k
 ·subst h;simp only [if_true];split <;> rfl
 ·rw [if_neg h,if_neg h]
noncomputable def zm3 (Hs : List AObj) : List (Nat × AV):=[(4,.op (Hs.length + 3) 0),(3,.op (Hs.length + 2) 0)]
structure NrR (x : Ring) (Hs : List AObj) (E : Env) (c Wg : Nat) (rv fv : Value) (is : List Nat) (T : List (Nat × AV)) (G : List AObj) (E' : Env) (V' : View) (a' : Act) : Prop where
 ok : NrC x Hs E c Wg rv fv (zmv x is) T G E' V' a'
 role : V'.role = .recv c Wg (zmo x is)
 len : is.length = x.keys.length
 le : ∀ i ∈ is,i <= 3
noncomputable def zqC : Code:=ci (ci (cf (cs (cs zm0))))
section
variable {x : Ring} {Hs : List AObj} {E : Env} {c Wg : Nat} {is : List Nat} {rv fv : Value} {T T' : List (Nat × AV)} {G G' : List AObj} {E1 E2 : Env} {V1 V2 : View} {a1 a2 : Act}
theorem zkq (hx : x.Ok) (hEn : E.n <= Hs.length) (hHs : HOk Hs) (h : NrR x Hs E c Wg rv fv is (zm3 Hs) [] E1 V1 a1) {Q : Ex -> Act -> View -> Prop}
  (hQ : ∀ j i E2 V2 a2,is[j]? = some i -> i < 3 -> NrR x Hs E c Wg rv fv (is.set j (i + 1)) (zm3 Hs) [] E2 V2 a2 -> Q .normal a2 V2)
  (hQ2 : ∀ E2 V2 a2 G,NrC x Hs E c Wg rv fv (zlV x) (zm3 Hs) G E2 V2 a2 -> V2.role = .plain -> Q (.exit 2) a2 V2) : WP true Tryz.prog none zqC Q a1 V1:=by
 have h4 : x.keys.length <= 4:=hx.keys;refine zbS (id:=3) (zaV ?_);refine zbW (K:=fun s' => look s'.T 27 = some (.val (.chan (some c))) /\ s'.Sub ⟨zm3 Hs,Hs ++ (zl9 x Hs.length c (zmv x is) ++ [])⟩) 1 7 rfl (by kernel_rfl) h.ok.hat ?_ fun E3 V3 a3 s3 hk3 hat3 hK => ?_
 ·unfold zm3 zl9;(try simp only [seval]);exact znc (by simp only [seval]; simp [zaf,Wk.refl]) rfl
 obtain ⟨l27,hsub⟩:=hK;have hc3:=h.ok.step hk3 (hat3.sub hsub);have ro3 : V3.role = .recv c Wg (zmo x is):=hk3.role.trans h.role;have e27 : a3.eval (.tmp 27) = .chan (some c):=zc8 (hat3.tok 27 _ l27).2;obtain ⟨ti,hti,hzi⟩:=Option.bind_eq_some_iff.1 F.ZeroOf_185;refine zg1 rfl rfl (.inr ?_);refine ⟨rfl,c,Wg,zmo x is,.both,185,ti,_,e27,by kernel_rfl,hti,hzi,ro3,hc3.deaf,fun j sp S v Im Ow r1 r2 r3 r4 r5 => ?_,fun hS => ?_⟩
 ·
  obtain ⟨i,hji,hspec⟩:=zhe r1;have hi : i < 3:=by
   apply Classical.byContradiction;intro hn;have : i = 3:=(by have:=h.le i (zas hji); omega);subst this;rw [zhf] at hspec; cases hspec
  rw [zbC hi] at hspec;cases hspec;obtain ⟨hv,hOw⟩:=r2;have hj4 : j < 4:=by have:=get_lt hji; have:=h.len; omega
  let V4 : View:={ V3 with imm:=fun b o => match V3.imm b o with | some x => some x | none => Im b o,own:=fun b => match V3.own b with | some x => some x | none => Ow b,role:=.recv c Wg ((zmo x is).set j (zmd x j (i + 1))) };have hown : V4.own = V3.own:=by
   funext b;show (match V3.own b with | some x => some x | none => Ow b) = V3.own b;cases V3.own b with
   | none => exact hOw b
   | some x => rfl
  obtain ⟨le4,con4⟩:=hc3.hat.conc.learn (V':=V4) hown (fun b o v e => by show (match V3.imm b o with | some x => some x | none => Im b o) = some v; rw [e]) (fun b o hb e => by
   show (match V3.imm b o with | some x => some x | none => Im b o) = none;rw [e];apply Classical.byContradiction;intro hne;exact absurd e (r4 b o hb hne)) rfl rfl (fun hm => by rw [hc3.main] at hm; cases hm)
  have hden : Den { E3 with I:=V4.imm } (.tup [.agg [iv j,iv i,uv (zmf x j i)],bv true]) (.tuple #[v,.bool true]):=by
   subst hv;refine .tup rfl fun q a e => ?_
   match q,e with
   | 0,e =>
    cases e;refine .agg rfl fun q a e => ?_
    match q,e with
    | 0,e => cases e; exact .val _
    | 1,e => cases e; exact .val _
    | 2,e => cases e; exact .val _
   | 1,e => cases e; exact .val _
  have hat4 : At { E3 with I:=V4.imm } V4 ⟨(28,.tup [.agg [iv j,iv i,uv (zmf x j i)],bv true]) :: zm3 Hs,Hs ++ (zl9 x Hs.length c (zmv x is) ++ [])⟩ (a3.put (some 28) (.tuple #[v,.bool true])) 45:=⟨con4,(hc3.hat.tok.mono le4).put (by rw [hc3.hat.size]; omega) hden,(zaA a3 (some 28) _).trans hc3.hat.size⟩;have hc4 : NrC x Hs E c Wg rv fv (zmv x is) ((28,.tup [.agg [iv j,iv i,uv (zmf x j i)],bv true]) :: zm3 Hs) [] { E3 with I:=V4.imm } V4 (a3.put (some 28) (.tuple #[v,.bool true])) :=
   hc3.step' le4 (zaw a3 _ _) rfl hat4
  have ro4 : V4.role = .recv c Wg (zmo x (is.set j (i + 1))):=by
   show Role.recv c Wg ((zmo x is).set j (zmd x j (i + 1))) = _;rw [zhd]
  refine zfl ⟨(8,bv true) :: (7,.op (Hs.length + 5) 0) :: zm3 Hs,Hs ++ (zl9 x Hs.length c (zmv x is) ++ [.cells [iv j,iv i,uv (zmf x j i)] 185])⟩ rfl (by kernel_rfl) hat4 ?_ fun E5 V5 a5 hk5 hat5 => ?_
  ·unfold zm3 zl9;(try simp only [seval]);exact znc (by simp only [seval]; simp [zaf,Wk.refl]) rfl
  have hc5:=hc4.step hk5 hat5;have ro5 : V5.role = .recv c Wg (zmo x (is.set j (i + 1))):=hk5.role.trans ro4;refine zaV (zaV ?_);refine hc5.to ((32,bv false) :: (7,.op (Hs.length + 5) 0) :: zm3 Hs) (zmv x is) [.cells [iv j,iv i,uv (zmf x j i)] 185] ?_ fun E6 V6 a6 hk6 hc6 => ?_
  ·unfold zm3 zl9;refine zfK ?_;exact znc (by simp only [seval]; simp [zaf,Wk.refl]) rfl
  refine zcD hc6.hat rfl ?_;refine zfm ?_;refine hc6.to (zm3 Hs) (zmv x (is.set j (i + 1))) [.cells [iv j,iv i,uv (zmf x j i)] 185] ?_ fun E7 V7 a7 hk7 hc7 => ?_
  ·have hput:=zhr x is hj4 hi hji;have b4 : (0 <= (j : Int) /\ (j : Int) < 4) = True:=(by simp; omega);have b3 : (0 <= (i : Int) /\ (i : Int) < 3) = True:=(by simp; omega);unfold zm3 zl9;refine zma 11 ?_;simp only [seval,b4,b3];refine ⟨by omega,by rw [List.length_append,zhs]; simp [Ring.l]; omega,znc (by simp only [seval]; simp [zaf,Wk.refl]) ?_⟩;rw [<- hput];rfl
  have hcut:=hc7.cut (T':=zm3 Hs) hEn (by
   unfold zm3;simp only [List.forall_mem_cons,List.not_mem_nil,false_imp_iff,implies_true,and_true,look,Nat.reduceEqDiff,if_false,if_true,Option.some.injEq,exists_eq_left',Wk.refl,true_and,lt_op];omega) (ztf hHs (zi4 x _))
  exact hQ j i _ V7 a7 hji hi ⟨hcut,by rw [hk7.role,hk6.role]; exact ro5,by rw [List.length_set]; exact h.len,fun q hq => by
   rcases List.mem_or_eq_of_mem_set hq with h' | h'
   ·exact h.le q h'
   ·omega⟩
 ·
  have hall : ∀ i ∈ is,i = 3:=fun i hi => by
   obtain ⟨j,hj⟩:=List.mem_iff_getElem?.1 hi;have hm : zmd x j i ∈ zmo x is:=by
    refine List.mem_iff_getElem?.2 ⟨j,?_⟩;unfold zmo;rw [List.getElem?_mapIdx,hj]; rfl
   have:=hS _ hm;have h3:=h.le i hi;apply Classical.byContradiction;intro hne;rw [zbC (by omega)] at this; cases this
  have hos:=zht x h.len hall;let V4 : View:={ V3 with role:=.plain };have con4 : Conc (E3.frame E3.fr) V4 (Hs ++ (zl9 x Hs.length c (zmv x is) ++ [])) :=
   hc3.hat.conc.reframe (V':=V4) _ rfl (fun _ _ _ _ _ _ h => h) (fun g hg => by cases hg) (fun g hg => by cases hg) (fun hm => by rw [hc3.main] at hm; cases hm) hc3.hat.conc.fr
  have hden : Den E3 (.tup [.agg [iv 0,iv 0,uv 0],bv false]) (.tuple #[.agg #[.int .i64 0,.int .i64 0,.int .u8 0],.bool false]):=by
   refine .tup rfl fun q a e => ?_
   match q,e with
   | 0,e =>
    cases e;refine .agg rfl fun q a e => ?_
    match q,e with
    | 0,e => cases e; exact .val _
    | 1,e => cases e; exact .val _
    | 2,e => cases e; exact .val _
   | 1,e => cases e; exact .val _
  have hat4 : At E3 V4 ⟨(28,.tup [.agg [iv 0,iv 0,uv 0],bv false]) :: zm3 Hs,Hs ++ (zl9 x Hs.length c (zmv x is) ++ [])⟩ (a3.put (some 28) (.tuple #[.agg #[.int .i64 0,.int .i64 0,.int .u8 0],.bool false])) 45:=⟨con4,hc3.hat.tok.put (by rw [hc3.hat.size]; omega) hden,(zaA a3 (some 28) _).trans hc3.hat.size⟩;have hc4:=hc3.step' (V2:=V4) (Env.Le.refl E3) (zaw a3 (some 28) _) rfl hat4;refine zfl ⟨(8,bv false) :: zm3 Hs,Hs ++ (zl9 x Hs.length c (zmv x is) ++ [.cells [iv 0,iv 0,uv 0] 185])⟩ rfl (by kernel_rfl) hat4 ?_ fun E5 V5 a5 hk5 hat5 => ?_
  ·unfold zm3 zl9;(try simp only [seval]);exact znc (by simp only [seval]; simp [zaf,Wk.refl]) rfl
  have hc5:=hc4.step hk5 hat5;refine zaV (zaV ?_);refine hc5.to ((32,bv true) :: zm3 Hs) (zmv x is) [.cells [iv 0,iv 0,uv 0] 185] ?_ fun E6 V6 a6 hk6 hc6 => ?_
  ·unfold zm3 zl9;refine zfK ?_;exact znc (by simp only [seval]; simp [zaf,Wk.refl]) rfl
  refine zcD hc6.hat rfl ?_;refine zfn ?_;rw [hos] at hc6;exact hQ2 E6 V6 a6 _ (hc6.step' (Env.Le.refl E6) rfl rfl ⟨hc6.hat.conc,fun t av e => hc6.hat.tok t av (by
   have hne : t ≠ 32:=by
    intro et; subst et;simp [zm3,look] at e
   simp only [look]; rw [if_neg (Ne.symm hne)]; exact e),hc6.hat.size⟩) (by rw [hk6.role,hk5.role])
end
def zpH (is : List Nat) : Nat:=(is.map (3 - ·)).sum
theorem zfc : ∀ {is : List Nat} {j i : Nat},is[j]? = some i -> i < 3 -> zpH (is.set j (i + 1)) < zpH is
 | [],j,i,h,_ => by simp at h
 | a :: is,0,i,h,hi => by
  simp at h; subst h;simp [zpH]; omega
 | a :: is,j + 1,i,h,hi => by
  have:=zfc (is:=is) (j:=j) (i:=i) (by simpa using h) hi;simp only [zpH,List.set_cons_succ,List.map_cons,List.sum_cons] at this ⊢;omega
section
variable {x : Ring} {Hs : List AObj} {E : Env} {c Wg : Nat} {rv fv : Value} {T : List (Nat × AV)} {E1 : Env} {V1 : View} {a1 : Act}
theorem zuc (hx : x.Ok) (hsm : x.Small) (hEn : E.n <= Hs.length) (hHs : HOk Hs) (h : NrF x Hs E c Wg rv fv 0 [(5,.val (pW Wg 0)),(4,.op (Hs.length + 3) 0),(3,.op (Hs.length + 2) 0)] [] E1 V1 a1) {Q : Ex -> Act -> View -> Prop}
  (hQ : ∀ E2 V2 a2 G,At E2 V2 ⟨[(2,.rp (x.l ++ zlV x))],Hs ++ G⟩ a2 45 -> E.Lo E2 -> a2.defers = [] -> V2.deaf = 0 -> V2.role = .plain -> (∀ b y,E.fr b = some y -> E2.fr b = some y) -> Q .ret a2 V2) : WP true Tryz.prog none zm0 Q a1 V1:=by
 have h4 : x.keys.length <= 4:=hx.keys;have hokz : HOk (Hs ++ zl9 x Hs.length c zmm):=ztf hHs (fun a ha n => by
  have:=List.eq_of_mem_replicate ha;subst this; exact .val _)
 refine zaV (x:=cf zm0) (zaV (x:=cf (cf zm0)) ?_);refine h.ok.to (znh x Hs Wg 0) zmm [] ?_ fun E2 V2 a2 hk2 hc2 => ?_
 ·show AWP true Tryz.prog none 45 (cf (cf zm0)) _ _;unfold znh zl9;have hlk : x.l = [iv x.cuts,zl8 x.keys,zlL x.locks,zl4 x.tries]:=rfl;refine zl5 ?_;simp only [seval,hlk,zl8];exact znc (by simp only [seval]; simp [zaf,Wk.refl]) rfl
 have h2 : NrF x Hs E c Wg rv fv 0 (znh x Hs Wg 0) [] E2 V2 a2:=h.step hk2 hc2;refine zbS (id:=0) (c:=.loop (ci (ci (cs (cf zm0))))) ?_;refine zg2 (fun m a' V' => ∃ E' i,m = x.keys.length - i /\ i <= x.keys.length /\ NrF x Hs E c Wg rv fv i (znh x Hs Wg i) [] E' V' a') x.keys.length ⟨E2,0,rfl,by omega,h2⟩ fun m a3 V3 hI => ?_;obtain ⟨E3,i,rfl,hi,h3⟩:=hI;refine zaV (x:=cf (ci (ci (cs (cf zm0))))) (y:=cs (ci (ci (cs (cf zm0))))) ?_;refine h3.ok.to ((20,bv (decide ((i : Int) < x.keys.length))) :: znh x Hs Wg i) zmm [] ?_ fun E4 V4 a4 hk4 hc4 => ?_
 ·show AWP true Tryz.prog none 45 (cf (ci (ci (cs (cf zm0))))) _ _;unfold znh zl9;refine zfK ?_;exact znc (by simp only [seval]; simp [zaf,Wk.refl]) rfl
 have h4':=h3.step hk4 hc4;refine zaV (x:=.cond (.tmp 20) .skip (.exit 0)) (y:=cs (cs (ci (ci (cs (cf zm0)))))) (zcD hc4.hat rfl ?_);by_cases hik : i < x.keys.length
 ·rw [show decide ((i : Int) < x.keys.length) = true by simpa using hik];refine zfm ?_;have hc4w : NrC x Hs E c Wg rv fv zmm (znh x Hs Wg i) [] E4 V4 a4:=hc4.step' (Env.Le.refl E4) rfl rfl (hc4.hat.sub (znc (by unfold znh zl9; simp only [seval]; simp [zaf,Wk.refl]) rfl));exact zkr hx hsm hEn hokz ⟨hc4w,h4'.role,h4'.frc,h4'.frw⟩ hik rfl fun E5 V5 a5 h5 => ⟨x.keys.length - (i + 1),by omega,E5,i + 1,rfl,by omega,h5⟩
 have hie : i = x.keys.length:=by omega
 subst hie;rw [show decide (((x.keys.length : Nat) : Int) < x.keys.length) = false by simp];refine zfn ?_;refine zaV (x:=cf (cs zm0)) (y:=cs (cs zm0)) ?_;refine zbW (K:=fun s' => look s'.T 25 = some (.fn (.func 165) [] [.val (pW Wg 0),.op (Hs.length + 3) 0]) /\ s'.Sub ⟨zm3 Hs,Hs ++ (zl9 x Hs.length c zmm ++ [])⟩) 1 1 rfl (by kernel_rfl) hc4.hat ?_ fun E5 V5 a5 s5 hk5 hat5 hK => ?_
 ·unfold znh zl9 zm3;(try simp only [seval,List.mapM_cons,List.mapM_nil,Option.pure_def,Option.bind_eq_bind]);exact znc (by simp only [seval]; simp [zaf,Wk.refl]) rfl
 obtain ⟨l25,hsub⟩:=hK;have hc5:=hc4.step hk5 (hat5.sub hsub);have ro5 : V5.role = .fork c Wg (zmo x (List.replicate x.keys.length 0)):=hk5.role.trans h4'.role;have frc5 : E5.fr c = some zo6:=by rw [hk5.le.fr]; exact h4'.frc
 have frw5 : E5.fr Wg = some (zmJ Tryz.prog ((x.keys.length : Int) * 4294967296) 0):=by rw [hk5.le.fr]; exact h4'.frw
 obtain ⟨c1,c2,c3⟩:=hc5.hat.conc.fr c _ frc5;obtain ⟨v1,v2,v3⟩:=hc5.hat.conc.fr Wg _ frw5;have e25 : a5.eval (.tmp 25) = .func (.func 165) #[] #[pW Wg 0,fv]:=by
  obtain ⟨fa,ca,q1,q2,q3⟩:=ztp (hat5.tok 25 _ l25).2;rw [zed q2] at q1;refine q1.trans ?_;have hs2 : ca.size = 2:=q3.1;have k0:=zc8 (q3.2 0 _ rfl);have k1:=zgO (q3.2 1 _ rfl);rw [<- hc5.ef] at k1;congr 1;refine Array.ext hs2 fun j h1 h2 => ?_;have hj : j = 0 \/ j = 1:=by omega
  rw [Array.getD_eq_getD_getElem?,Array.getElem?_eq_getElem (by omega)] at k0 k1;rcases hj with rfl | rfl
  ·exact k0
  ·exact k1
 have hfc : V5.imm (E5.blk (Hs.length + 3)) 0 = some (.chan (some c)):=by
  have hdf:=hc5.df;rw [hc5.ef] at hdf;generalize hp : (Value.pointer (some ⟨E5.blk (Hs.length + 3),0,none⟩)) = pv at hdf;cases hdf with
  | rp b o f h1 h2 =>
   cases hp;have:=h1 0 (by simp);rw [hc5.hat.conc.I] at this;rw [Nat.add_zero] at this;rw [this,zc8 (h2 0 _ rfl)]
 refine zdB rfl rfl ?_;refine ⟨rfl,.tmp 25,165,#[],_,rfl,e25,hc5.deaf,.inr ⟨c,Wg,_,ro5,hc5.ne,c1,?_,c2,v2,?_,?_⟩⟩
 ·rw [v1,zc1,List.length_replicate]
 ·have:=zk7 Wg (E5.blk (Hs.length + 3)) c (Im:=V5.imm) hfc;rw [hc5.ef];simpa [pW] using this
 let V6 : View:={ V5 with own:=fun b => if b = c \/ b = Wg then none else V5.own b,role:=.recv c Wg (zmo x (List.replicate x.keys.length 0)) };let f6 : Nat -> Option Obj:=fun b => if b = c \/ b = Wg then none else E5.fr b;have con6 : Conc (E5.frame f6) V6 (Hs ++ (zl9 x Hs.length c zmm ++ [])):=by
  refine hc5.hat.conc.reframe (V':=V6) _ rfl (fun b z k w hk hbk hz => ?_) (fun g hg => by cases hg) (fun g hg => by cases hg) (fun hm => by rw [hc5.main] at hm; cases hm) (fun b y hb => ?_)
  ·have n1 : b ≠ c:=hc5.hat.conc.notFr frc5 hk hbk;have n2 : b ≠ Wg:=hc5.hat.conc.notFr frw5 hk hbk;show (if b = c \/ b = Wg then none else V5.own b) = some z;rw [if_neg (fun e => e.elim n1 n2)]; exact hz
  ·by_cases hbc : b = c \/ b = Wg
   ·simp only [f6,if_pos hbc] at hb; cases hb
   ·simp only [f6,if_neg hbc] at hb;obtain ⟨q1,q2,q3⟩:=hc5.hat.conc.fr b y hb;refine ⟨?_,q2,q3⟩;show (if b = c \/ b = Wg then none else V5.own b) = some y;rw [if_neg hbc]; exact q1
 have hc6 : NrC x Hs E c Wg rv fv zmm (zm3 Hs) [] (E5.frame f6) V6 (a5.put none undef):=by
  refine ⟨⟨con6,hc5.hat.tok.frame _,hc5.hat.size⟩,hc5.lo.trans (Env.lo_frame E5 f6),hc5.main,hc5.defers,hc5.deaf,hc5.er,hc5.ef,hc5.dr.frame f6,hc5.df.frame f6,fun b y e => ?_,hc5.ne⟩;obtain ⟨q1,q2,q3⟩:=hc5.fr b y e;refine ⟨?_,q2,q3⟩;show (if b = c \/ b = Wg then none else E5.fr b) = some y;rw [if_neg (fun e => e.elim q2 q3)]; exact q1
 rw [<- zgt x x.keys.length] at hc6;show WP true Tryz.prog none (.seq (.block 2 (.loop zqC)) (cs (cs (cs zm0)))) Q (a5.put none undef) V6;refine zaV (zbS ?_);refine zg2 (fun m a' V' => ∃ E' is,m = zpH is /\ NrR x Hs E c Wg rv fv is (zm3 Hs) [] E' V' a') _ ⟨_,_,rfl,⟨hc6,rfl,by simp,fun i hi => by rw [List.eq_of_mem_replicate hi]; omega⟩⟩ fun m a7 V7 hI => ?_;obtain ⟨E7,is,rfl,h7⟩:=hI;refine zkq hx hEn hHs h7 (fun j i E8 V8 a8 hji hi h8 => ⟨_,zfc hji hi,E8,_,rfl,h8⟩) fun E8 V8 a8 G hc8 ro8 => ?_;show WP true Tryz.prog none (cs (cs (cs zm0))) Q a8 V8;obtain ⟨V9,g9,o9,r9,d9,le9,con9,den9⟩:=hc8.hat.conc.pubRest (id:=Hs.length + 1) (p:=4) (l:=x.l ++ zlV x) (el:=114) (by rw [zbD]; rfl);rw [zcT] at con9;refine WP.ghost g9 ?_;have hat9 : At { E8 with I:=V9.imm } V9 ⟨zm3 Hs,Hs ++ ((zl9 x Hs.length c (zlV x) ++ G).set 1 .gone)⟩ a8 45:=⟨con9,hc8.hat.tok.mono le9,hc8.hat.size⟩;have hln : Hs.length + 1 < E8.n:=by rw [hc8.hat.conc.n]; simp [zl9]
 refine zaV (x:=cf (cs (cs (cs zm0)))) (y:=.ret) ?_;refine zcX ⟨[(2,.op (Hs.length + 1) 0)],Hs ++ ((zl9 x Hs.length c (zlV x) ++ G).set 1 .gone)⟩ hat9 ?_ fun E10 V10 a10 hk10 hat10 => ?_
 ·show AWP true Tryz.prog none 45 (cf (cs (cs (cs zm0)))) _ _;unfold zm3 zl9;refine zfK ?_;exact znc (by simp only [seval]; simp [zaf,Wk.refl]) rfl
 refine zs8 ?_;have e2:=hat10.val_of_op (t:=2) (id:=Hs.length + 1) (off:=0) rfl;have hb : E10.blk (Hs.length + 1) = E8.blk (Hs.length + 1):=hk10.le.blk _ hln;refine hQ E10 V10 a10 ((zl9 x Hs.length c (zlV x) ++ G).set 1 .gone) ⟨hat10.conc,fun t av e => ?_,hat10.size⟩ ((hc8.lo.trans le9.lo).trans hk10.le.lo) (hk10.defers.trans hc8.defers) (hk10.deaf.trans (d9.trans hc8.deaf)) (hk10.role.trans (r9.trans ro8)) (fun b y e => by rw [hk10.le.fr]; exact (hc8.fr b y e).1);simp only [look] at e;split at e
 ·rename_i et;subst et;cases e;refine ⟨by rw [hat10.size]; omega,?_⟩;have : a10.tmps.getD 2 undef = .pointer (some ⟨E8.blk (Hs.length + 1),0,none⟩):=by rw [<- hb]; exact e2
  rw [this];exact den9.mono hk10.le
 ·cases e
theorem zaQ : zmA true:=by
 intro x H k kp hm hc0 hs hk E V vs hc hd;have hx : x.Ok:=zbH.1 hc0;have hEm : E.main = true:=hc.obj 0 _ hm;obtain ⟨hrole,hdeaf⟩:=hc.top hEm;have hn : E.n = H.length:=hc.n;refine zfh (by simp) F.f144 rfl ?_;have hat0 : At (E.setMain false) V ⟨[(0,x.av)],H.map zoc⟩ { tmps:=vs ++ Array.replicate (Tryz.f144.ntmps - vs.size) undef,defers:=[] } 45:=by
  have:=zeU (nt:=45) hc hd (by simp);exact ⟨hc.demain,this.tok.setMain false,this.size⟩
 have hlen : (H.map zoc).length = H.length:=List.length_map _;have hokS : HOk (H.map zoc):=hat0.conc.hok
 suffices hmain : ∀ Hs,H.map zoc = Hs -> WP true Tryz.prog none znL (Ends Tryz.prog Tryz.f144 (RetC E V k kp)) { tmps:=vs ++ Array.replicate (Tryz.f144.ntmps - vs.size) undef,defers:=[] } V from hmain _ rfl
 intro Hs hHs;rw [hHs] at hat0 hlen hokS;have had0 : ({ tmps:=vs ++ Array.replicate (Tryz.f144.ntmps - vs.size) undef,defers:=[] } : Act).defers = []:=rfl;generalize ({ tmps:=vs ++ Array.replicate (Tryz.f144.ntmps - vs.size) undef,defers:=[] } : Act) = a0 at hat0 had0;refine zaV (x:=cf znL) (y:=cs znL) ?_;refine zcX ⟨[(1,.op Hs.length 0)],Hs ++ [.cells x.l 26]⟩ hat0 ?_ fun E1 V1 a1 hk1 hat1 => ?_
 ·show AWP true Tryz.prog none 45 (cf znL) _ _;simp only [Ring.av];refine zl5 ?_;simp only [seval,Ring.l];exact znc (by simp only [seval]; simp [zaf,Wk.refl]) rfl
 refine zaV (x:=cf (cs znL)) (y:=cs (cs znL)) ?_;refine zcX ⟨[(3,.op (Hs.length + 2) 0)],Hs ++ [.cells x.l 26,.cells (x.l ++ zmm) 114,.cells [.op (Hs.length + 1) 0] 100]⟩ hat1 ?_ fun E2 V2 a2 hk2 hat2 => ?_
 ·show AWP true Tryz.prog none 45 (cf (cs znL)) _ _;refine zl5 ?_;simp only [seval,Ring.l];exact znc (by simp only [seval]; simp [zaf,Wk.refl]) rfl
 obtain ⟨ti,hti⟩ : ∃ i,Tryz.prog.info? 185 = some i:=Option.isSome_iff_exists.1 (by kernel_rfl);refine zaV (x:=cf (cs (cs znL))) (y:=cs (cs (cs znL))) (zcp rfl rfl (zgs rfl (d:=.both) (el:=185) (by kernel_rfl) hti fun c hcf => ?_));let f3 : Nat -> Option Obj:=fun b => if b = c then some zo6 else E2.fr b;have hat3 : At (E2.frame f3) (V2.upd c zo6) ⟨[(12,.val (.chan (some c))),(3,.op (Hs.length + 2) 0)],Hs ++ [.cells x.l 26,.cells (x.l ++ zmm) 114,.cells [.op (Hs.length + 1) 0] 100]⟩ (a2.put (some 12) (.chan (some c))) 45 :=
  ⟨hat2.conc.frNew hcf zo6,(hat2.tok.frame _).put (by rw [hat2.size]; omega) (.val _),(zaA a2 (some 12) _).trans hat2.size⟩
 refine zfl ⟨[(4,.op (Hs.length + 3) 0),(3,.op (Hs.length + 2) 0)],Hs ++ [.cells x.l 26,.cells (x.l ++ zmm) 114,.cells [.op (Hs.length + 1) 0] 100,.cells [.val (.chan (some c))] 173]⟩ rfl (by kernel_rfl) hat3 ?_ fun E4 V4 a4 hk4 hat4 => ?_
 ·(try simp only [seval,zrQ,zq9,zuq]);exact znc (by simp only [seval]; simp [zaf,Wk.refl]) rfl
 refine zaV (x:=cf (cs (cs (cs znL)))) (y:=zm0) ?_;refine zcX ⟨[(5,.op (Hs.length + 4) 0),(4,.op (Hs.length + 3) 0),(3,.op (Hs.length + 2) 0)],Hs ++ [.cells x.l 26,.cells (x.l ++ zmm) 114,.cells [.op (Hs.length + 1) 0] 100,.cells [.val (.chan (some c))] 173,.cells [.val (.int .u64 0),.val (.int .u32 0)] 182]⟩ hat4 ?_ fun E5 V5 a5 hk5 hat5 => ?_
 ·show AWP true Tryz.prog none 45 (cf (cs (cs (cs znL)))) _ _;refine zfK ?_;exact znc (by simp only [seval]; simp [zaf,Wk.refl]) rfl
 obtain ⟨wcs,hwd,hwo,hwi,hcon6⟩:=hat5.conc.frOf (id:=Hs.length + 4) (zbD _ _ 4);have hwcs:=zeK (l:=[.int .u64 0,.int .u32 0]) hwd;subst hwcs;rw [zcT] at hcon6;simp only [List.set_cons_succ,List.set_cons_zero] at hcon6;have e5v:=hat5.val_of_op (t:=5) (id:=Hs.length + 4) (off:=0) rfl;have fr5 : E5.fr = f3:=hk5.le.fr.trans hk4.le.fr;have frc5 : E5.fr c = some zo6:=by rw [fr5]; simp [f3]
 have hne : c ≠ E5.blk (Hs.length + 4):=fun e => hat5.conc.notFr frc5 (zbD Hs _ 4) rfl e.symm;have frE : ∀ b y,E.fr b = some y -> E5.fr b = some y /\ b ≠ c /\ b ≠ E5.blk (Hs.length + 4):=fun b y hb => by
  have h2 : E2.fr b = some y:=by rw [hk2.le.fr,hk1.le.fr]; exact hb
  have hbc : b ≠ c:=fun e => by subst e; have:=(hat2.conc.fr b y h2).1; rw [hcf.1] at this; cases this
  have h5 : E5.fr b = some y:=by rw [fr5]; simp [f3,hbc,h2]
  exact ⟨h5,hbc,fun e => hat5.conc.notFr h5 (zbD Hs _ 4) rfl e.symm⟩
 generalize hWg : E5.blk (Hs.length + 4) = Wg at hwo hwi hcon6 e5v hne frE;let f6 : Nat -> Option Obj:=fun b' => if b' = Wg then some (zmJ Tryz.prog 0 0) else E5.fr b';have hcon6' : Conc (E5.frame f6) V5 (Hs ++ [.cells x.l 26,.cells (x.l ++ zmm) 114,.cells [.op (Hs.length + 1) 0] 100,.cells [.val (.chan (some c))] 173,.gone]):=by
  have : (fun b' => if b' = Wg then some (Obj.cells #[.int .u64 0,.int .u32 0] 182 (0,0)) else E5.fr b') = f6:=by
   funext b';simp only [f6,zmJ,wgT]
  rw [<- this]; exact hcon6
 have hat6 : At (E5.frame f6) V5 ⟨[(5,.val (pW Wg 0)),(4,.op (Hs.length + 3) 0),(3,.op (Hs.length + 2) 0)],Hs ++ [.cells x.l 26,.cells (x.l ++ zmm) 114,.cells [.op (Hs.length + 1) 0] 100,.cells [.val (.chan (some c))] 173,.gone]⟩ a5 45:=by
  refine ⟨hcon6',fun t av e => ?_,hat5.size⟩;simp only [look] at e;split at e
  ·rename_i et;subst et; cases e;refine ⟨by rw [hat5.size]; omega,?_⟩;have : a5.tmps.getD 5 undef = pW Wg 0:=e5v;rw [this]; exact .val _
  ·split at e
   ·rename_i et; subst et; cases e;exact (hat5.tok.frame f6) 4 _ rfl
   ·split at e
    ·rename_i et; subst et; cases e;exact (hat5.tok.frame f6) 3 _ rfl
    ·cases e
 clear hcon6 hcon6';have lo6 : E.Lo (E5.frame f6):=(((((E.lo_main false).trans hk1.le.lo).trans hk2.le.lo).trans (Env.lo_frame E2 f3)).trans (hk4.le.lo.trans hk5.le.lo)).trans (Env.lo_frame E5 f6);have main6 : (E5.frame f6).main = false:=hk5.le.main.trans (hk4.le.main.trans (hk2.le.main.trans hk1.le.main));have def6 : a5.defers = []:=hk5.defers.trans (hk4.defers.trans ((zaw a2 _ _).trans (hk2.defers.trans (hk1.defers.trans had0))));have ro6 : V5.role = .plain:=hk5.role.trans (hk4.role.trans (hk2.role.trans (hk1.role.trans hrole)));have de6 : V5.deaf = 0:=hk5.deaf.trans (hk4.deaf.trans (hk2.deaf.trans (hk1.deaf.trans hdeaf)));have frc6 : (E5.frame f6).fr c = some zo6:=by show f6 c = _; simp only [f6,if_neg hne]; exact frc5
 have frw6 : (E5.frame f6).fr Wg = some (zmJ Tryz.prog 0 0):=by show f6 Wg = _; simp [f6]
 have frE6 : ∀ b y,E.fr b = some y -> (E5.frame f6).fr b = some y /\ b ≠ c /\ b ≠ Wg:=fun b y hb => by
  obtain ⟨q1,q2,q3⟩:=frE b y hb;refine ⟨?_,q2,q3⟩;show f6 b = _;simp only [f6,if_neg q3]; exact q1
 generalize E5.frame f6 = E6 at hat6 lo6 main6 frc6 frw6 frE6;obtain ⟨V7,g7,o7,r7,d7,le7,con7,den7⟩:=hat6.conc.pubPart (id:=Hs.length + 1) (zbD _ _ 1) 4 (by simp [Ring.l]);rw [zcT] at con7;simp only [List.set_cons_succ,List.set_cons_zero] at con7;have tok7:=hat6.tok.mono le7;generalize hE7 : ({ E6 with I:=V7.imm } : Env) = E7 at le7 con7 den7 tok7;obtain ⟨V8,g8,o8,r8,d8,le8,con8,den8⟩:=con7.pubPart (id:=Hs.length + 2) (zbD _ _ 2) 1 (by simp);rw [zcT] at con8;simp only [List.set_cons_succ,List.set_cons_zero] at con8;have tok8:=tok7.mono le8;generalize hE8 : ({ E7 with I:=V8.imm } : Env) = E8 at le8 con8 den8 tok8;obtain ⟨V9,g9,o9,r9,d9,le9,con9,den9⟩:=con8.pubPart (id:=Hs.length + 3) (zbD _ _ 3) 1 (by simp);rw [zcT] at con9;simp only [List.set_cons_succ,List.set_cons_zero] at con9;have tok9:=tok8.mono le9;generalize hE9 : ({ E8 with I:=V9.imm } : Env) = E9 at le9 con9 den9 tok9;refine WP.ghost g7 (WP.ghost g8 (WP.ghost g9 ?_));have lo9 : E.Lo E9:=lo6.trans ((le7.trans le8).trans le9).lo;have ro9 : V9.role = .plain:=r9.trans (r8.trans (r7.trans ro6));have de9 : V9.deaf = 0:=d9.trans (d8.trans (d7.trans de6));have fr9 : E9.fr = E6.fr:=le9.fr.trans (le8.fr.trans le7.fr);have n6 : E6.n = Hs.length + 5:=by rw [hat6.conc.n]; simp
 have b7 : ∀ k,k < Hs.length + 5 -> E9.blk k = E6.blk k /\ E9.blk k = E7.blk k /\ E9.blk k = E8.blk k:=fun k hk => by
  have n7:=le7.n;have n8:=le8.n;have q7:=le7.blk k (by omega);have q8:=le8.blk k (by omega);have q9:=le9.blk k (by omega);exact ⟨by rw [q9,q8,q7],by rw [q9,q8],q9⟩
 obtain ⟨c1,c2,c3⟩:=con9.fr c zo6 (by rw [fr9]; exact frc6);obtain ⟨v1,v2,v3⟩:=con9.fr Wg _ (by rw [fr9]; exact frw6);refine zra (c:=c) (Wg:=Wg) rfl ro9 hne c1 (by rw [v1]; simp) v2 ?_;let V10 : View:={ V9 with role:=.fork c Wg [] };have con10 : Conc (E9.frame E9.fr) V10 (Hs ++ (zl9 x Hs.length c zmm ++ [])):=by
  refine con9.reframe (V':=V10) _ rfl (fun _ _ _ _ _ _ h => h) (fun g hg => ?_) (fun g hg => ?_) (fun hm => by rw [le9.main,le8.main,le7.main,main6] at hm; cases hm) con9.fr
  ·cases hg;exact ⟨by show V9.own Wg ≠ none; rw [v1]; simp,v2,v3⟩
  ·cases hg;exact ⟨by show V9.own c ≠ none; rw [c1]; simp,c2,c3⟩
 have dr9 : Den E9 (.rp [.rp x.l]) (.pointer (some ⟨E9.blk (Hs.length + 2),0,none⟩)):=by
  have h8:=den8.mono le9;rw [<- (b7 (Hs.length + 2) (by omega)).2.1] at h8;have h7:=(den7.mono le8).mono le9;rw [<- (b7 (Hs.length + 1) (by omega)).1] at h7;generalize hp : (Value.pointer (some ⟨E9.blk (Hs.length + 2),0,none⟩)) = pv at h8;cases h8 with
  | rp b o f q1 q2 =>
   refine .rp b o f q1 fun i a e => ?_
   match i,e with
   | 0,e =>
    cases e;rw [zgO (q2 0 _ rfl)];exact h7
 have df9 : Den E9 (.rp [.val (.chan (some c))]) (.pointer (some ⟨E9.blk (Hs.length + 3),0,none⟩)):=by
  rw [<- (b7 (Hs.length + 3) (by omega)).2.2] at den9;exact den9
 have hnc : NrC x Hs E c Wg (.pointer (some ⟨E9.blk (Hs.length + 2),0,none⟩)) (.pointer (some ⟨E9.blk (Hs.length + 3),0,none⟩)) zmm [(5,.val (pW Wg 0)),(4,.op (Hs.length + 3) 0),(3,.op (Hs.length + 2) 0)] [] E9 V10 a5 :=
  ⟨⟨con10,tok9,hat6.size⟩,lo9,le9.main.trans (le8.main.trans (le7.main.trans main6)),def6,de9,rfl,rfl,dr9,df9,fun b y hb => by rw [fr9]; exact frE6 b y hb,hne⟩
 refine zuc hx hs (by omega) hokS ⟨hnc,rfl,by rw [fr9]; exact frc6,by rw [fr9]; exact frw6⟩ fun E11 V11 a11 G hat11 lo11 def11 de11 ro11 fr11 => ?_;subst hHs;exact ⟨def11,zry (P:=Tryz.prog) (rs:=[.tmp 2]) (H:=H) (G:=G) (T:=[(2,.rp (x.l ++ zlV x))]) (av:=.rp (x.l ++ zlV x)) rfl hat11 lo11 hc (ro11.trans hrole.symm) (de11.trans hdeaf.symm) fr11 rfl (by rw [zfB]; trivial) hk⟩
end
def zmH (lo hi : Int) : List Int:=(List.range (hi - lo + 1).toNat).map fun i : Nat => lo + i
theorem ziT {lo hi : Int} {i : Nat} (h : (i : Int) < hi - lo + 1) : (zmH lo hi)[i]? = some (lo + i):=by
 unfold zmH;rw [List.getElem?_map,List.getElem?_range (by omega)]; rfl
theorem ze8 (lo hi : Int) : (zmH lo hi).length = (hi - lo + 1).toNat:=by simp [zmH]
def zmz : List Key -> Nat -> List Int -> List (List Int)
 | [],_,t => [t]
 | y :: ys,n,t => (zmH y.wear.min y.wear.max).flatMap fun w => zmz ys (n + 1) (t.set n w)
def ztr (lv : Bool) (yv : AV) (Gf : List (List Int) -> List AObj) (all : List (List Int)) : Prop:=∀ (σ : List (List Int)) (t : List Int) (M : List AObj) (k kp : AV -> List AObj -> Prop),t.length = 4 -> σ ++ [t] <+: all -> k (bv true) (Gf (σ ++ [t]) ++ M) -> CallC lv Tryz.prog yv (Gf σ ++ M) [.agg (t.map iv)] k kp
structure GrowF (lv : Bool) (x : Ring) (os : List AV) (all : List (List Int)) (ir iy ig : Nat) (yv : AV) (Gf : List (List Int) -> List AObj) (N : Nat) : Prop where
 len : ∀ σ,(Gf σ).length = N
 r : ∀ σ M,(Gf σ ++ M)[ir]? = some (.cells [.rp (x.l ++ os)] 100)
 y : ∀ σ M,(Gf σ ++ M)[iy]? = some (.cells [yv] 187)
 g : ∀ σ M,(Gf σ ++ M)[ig]? = some (.cells [.fn (.func 168) [] [.op ir 0,.op iy 0,.op ig 0]] 188)
 yield : ztr lv yv Gf all
 ok : ∀ m σ σ',(∀ z ∈ Gf σ,OLt m z) -> ∀ z ∈ Gf σ',OLt m z
theorem GrowF.more {lv : Bool} {x : Ring} {os : List AV} {all : List (List Int)} {ir iy ig N : Nat} {yv : AV} {Gf : List (List Int) -> List AObj} (h : GrowF lv x os all ir iy ig yv Gf N) (z : AObj) : GrowF lv x os all ir iy ig yv (fun σ => Gf σ ++ [z]) (N + 1) :=
 ⟨fun σ => by simp [h.len],fun σ M => by rw [List.append_assoc]; exact h.r σ _,fun σ M => by rw [List.append_assoc]; exact h.y σ _,fun σ M => by rw [List.append_assoc]; exact h.g σ _,fun σ t M k kp h1 h2 h3 => by
  rw [List.append_assoc];exact h.yield σ t _ k kp h1 h2 (by rw [<- List.append_assoc]; exact h3),fun m σ σ' h1 w hw => (List.mem_append.1 hw).elim (fun hw => h.ok m σ σ' (fun v hv => h1 v (List.mem_append_left _ hv)) w hw) (fun hw => h1 w (List.mem_append_right _ hw))⟩
theorem GrowF.hok {lv : Bool} {x : Ring} {os : List AV} {all : List (List Int)} {ir iy ig N : Nat} {yv : AV} {Gf : List (List Int) -> List AObj} (h : GrowF lv x os all ir iy ig yv Gf N) {σ : List (List Int)} (hH : HOk (Gf σ)) (σ' : List (List Int)) : HOk (Gf σ'):=fun z hz => by
 have:=h.ok N σ σ' (fun w hw => by have:=hH w hw; rwa [h.len] at this) z hz;rwa [h.len]
section
variable {lv : Bool}
theorem f168_c {x : Ring} {os : List AV} {all : List (List Int)} {ir iy ig : Nat} {yv : AV} (hx : x.Ok) (hsy : yv.sure = true) : ∀ (d n N : Nat) (Gf : List (List Int) -> List AObj) (t : List Int) (σ : List (List Int)) (k kp : AV -> List AObj -> Prop),d + n = x.keys.length -> t.length = 4 -> GrowF lv x os all ir iy ig yv Gf N -> σ ++ zmz (x.keys.drop n) n t <+: all -> k (bv true) (Gf (σ ++ zmz (x.keys.drop n) n t)) -> FnC lv Tryz.prog 168 (Gf σ) [.agg (t.map iv),iv n,.op ir 0,.op iy 0,.op ig 0] k kp:=by
 intro d;induction d with
 | zero =>
  intro n N Gf t σ k kp hdn ht hG hpre hk;refine zlA (rs:=[.tmp 7]) (nt:=53) Tryz.f168 fun hH hA => ?_;simp only [zlW,Nat.reduceAdd];have hr:=hG.r σ;have hy:=hG.y σ;have hlk : x.l = [iv x.cuts,zl8 x.keys,zlL x.locks,zl4 x.tries]:=rfl;have hkd : x.keys.drop n = []:=List.drop_eq_nil_of_le (by omega);rw [hkd,zmz] at hpre hk;refine zfK ?_;refine zl5 ?_;simp only [seval,hr,hlk,zl8];refine zlu ?_;refine ⟨fun h => ?_,fun h => by simp at h; omega⟩;have h4 : (t.map iv).length = 4:=by simp [ht]
  refine zl5 ?_;simp only [seval,hy,h4];rw [List.take_of_length_le (by simp [ht])];refine zqQ (hG.yield σ t _ _ _ ht hpre ?_);(try simp only [seval]);refine zlz ?_;have hlen : (Gf σ).length = (Gf (σ ++ [t])).length:=by rw [hG.len,hG.len]
  rw [hlen];exact endV (hG.hok hH _) hk
 | succ d ih =>
  intro n N Gf t σ k kp hdn ht hG hpre hk;refine zlA (rs:=[.tmp 7]) (nt:=53) Tryz.f168 fun hH hA => ?_;simp only [zlW,Nat.reduceAdd];have hr:=hG.r σ;have hlk : x.l = [iv x.cuts,zl8 x.keys,zlL x.locks,zl4 x.tries]:=rfl;have hnl : n < x.keys.length:=by omega
  obtain ⟨y,hy⟩:=zaE hnl;have hyk:=(hx.key y (zas hy)).2.2;have hkd : x.keys.drop n = y :: x.keys.drop (n + 1):=by
   rw [List.drop_eq_getElem_cons hnl];rw [List.getElem?_eq_getElem hnl] at hy;cases hy; rfl
  rw [hkd,zmz] at hpre hk;have h4 : (t.map iv).length = 4:=by simp [ht]
  refine zfK ?_;refine zl5 ?_;simp only [seval,hr,hlk,zl8];refine zlu ?_;refine ⟨fun h => by exfalso; omega,fun h => ?_⟩;refine zly ?_;refine zl5 ?_;simp only [seval,hr,hlk,zl8,zc2 hy,zaz hnl];refine zlC ?_;refine zaB (zmH y.wear.min y.wear.max).length (fun i : Nat => [(8,iv (y.wear.min + i))]) (fun i => Gf (σ ++ ((zmH y.wear.min y.wear.max).take i).flatMap fun w => zmz (x.keys.drop (n + 1)) (n + 1) (t.set n w)) ++ [.cells ((if i = 0 then t else t.set n (y.wear.min + (i - 1 : Nat))).map iv) 132]) (fun i => True) (fun _ _ => rfl) (by intro p hp; simp at hp; subst hp; exact ⟨_,rfl,Wk.refl _⟩) (by simp) (fun m _ _ => by simp [hG.len]) trivial (fun hHs hLt i hin hi R hR => ?_);have hrl:=ze8 y.wear.min y.wear.max;have hmm:=hyk.le;have hmin:=hyk.min;have hmax:=hyk.max;have hri:=hG.r (σ ++ ((zmH y.wear.min y.wear.max).take i).flatMap fun w => zmz (x.keys.drop (n + 1)) (n + 1) (t.set n w));have hgi:=hG.g (σ ++ ((zmH y.wear.min y.wear.max).take i).flatMap fun w => zmz (x.keys.drop (n + 1)) (n + 1) (t.set n w));have hb4 : (0 <= (n : Int) /\ (n : Int) < 4) = True:=by have:=hx.keys; simp; omega
  have hw1 : IntKind.i64.wrap ((n : Int) + 1) = ((n + 1 : Nat) : Int):=by have:=hx.keys; rw [zau _ (by omega)]; rfl
  have hlti : ((if i = 0 then t else t.set n (y.wear.min + (i - 1 : Nat))).map iv).length = 4:=by split <;> simp [ht]
  have hGl : ∀ σ',(Gf σ).length = (Gf σ').length:=fun σ' => by rw [hG.len,hG.len]
  have hbox : ∀ σ' z M,(Gf σ' ++ z :: M)[(Gf σ).length]? = some z:=fun σ' z M => by rw [hGl σ',List.getElem?_append_right (Nat.le_refl _)]; simp
  have hbset : ∀ σ' z z',(Gf σ' ++ [z]).set (Gf σ).length z' = Gf σ' ++ [z']:=fun σ' z z' => by rw [hGl σ',List.set_append_right _ _ (Nat.le_refl _)]; simp
  have hset : List.take n ((if i = 0 then t else t.set n (y.wear.min + (i - 1 : Nat))).map iv) ++ [AV.val (.int .i64 (y.wear.min + i))] ++ List.drop (n + 1) ((if i = 0 then t else t.set n (y.wear.min + (i - 1 : Nat))).map iv) = (t.set n (y.wear.min + i)).map iv:=by
   have hn4 : n < t.length:=(by have:=hx.keys; omega);have e : ∀ u : List Int,n < u.length -> List.take n (u.map iv) ++ [AV.val (.int .i64 (y.wear.min + i))] ++ List.drop (n + 1) (u.map iv) = (u.set n (y.wear.min + i)).map iv:=fun u hu => by
    rw [List.set_eq_take_append_cons_drop,if_pos hu]; simp
   split
   ·exact e t hn4
   ·rw [e _ (by simpa using hn4),List.set_set]
  refine zl5 ?_;simp only [seval,hri,hlk,zl8,zc2 hy,zaz hnl];refine zlu ?_;refine ⟨fun h => ?_,fun h => ?_⟩
  ·
   have hil : (i : Int) < y.wear.max - y.wear.min + 1:=(by omega);have hget:=ziT hil;have hil' : i < (zmH y.wear.min y.wear.max).length:=(by omega);have hsucc : ((zmH y.wear.min y.wear.max).take (i + 1)).flatMap (fun w => zmz (x.keys.drop (n + 1)) (n + 1) (t.set n w)) = ((zmH y.wear.min y.wear.max).take i).flatMap (fun w => zmz (x.keys.drop (n + 1)) (n + 1) (t.set n w)) ++ zmz (x.keys.drop (n + 1)) (n + 1) (t.set n (y.wear.min + i)):=by
    rw [List.take_succ,hget,List.flatMap_append]; simp
   refine zly ?_;refine zl5 ?_;simp only [seval,hb4,hbox,hbset,hlti];refine ⟨by have:=hx.keys; omega,?_⟩;rw [hset];have ht' : (t.set n (y.wear.min + i)).length = 4:=(by simp [ht]);have h4' : ((t.set n (y.wear.min + i)).map iv).length = 4:=(by simp [ht]);refine zl5 ?_;simp only [seval,hgi,hbox,h4',hw1];rw [List.take_of_length_le (i:=4) (l:=(t.set n (y.wear.min + i)).map iv) (by rw [h4']; exact Nat.le_refl _)];refine zl6 ((ih (n + 1) (N + 1) (fun σ => Gf σ ++ [.cells ((t.set n (y.wear.min + i)).map iv) 132]) (t.set n (y.wear.min + i)) (σ ++ ((zmH y.wear.min y.wear.max).take i).flatMap fun w => zmz (x.keys.drop (n + 1)) (n + 1) (t.set n w)) _ _ (by omega) ht' (hG.more _) ?_ ?_))
   ·rw [List.append_assoc,<- hsucc];refine List.IsPrefix.trans ?_ hpre;obtain ⟨r,hr'⟩:=List.take_prefix (i + 1) (zmH y.wear.min y.wear.max);rw [List.prefix_append_right_inj]
    conv => rhs; rw [<- hr',List.flatMap_append]
    exact List.prefix_append _ _
   ·(try simp only [seval]);refine zlu ?_;refine zly ?_;have hw2 : IntKind.i64.wrap (y.wear.min + (i : Int) + 1) = y.wear.min + ((i + 1 : Nat) : Int):=(by rw [zau _ (by omega)]; push_cast; omega);refine zl5 ?_;simp only [seval,hw2];refine hR _ ⟨hil',trivial,?_⟩;rw [List.append_assoc,<- hsucc];exact zlJ
  ·have hil : i = (zmH y.wear.min y.wear.max).length:=(by omega);refine zlF ?_;refine zfK ?_;refine zlz ?_;subst hil;rw [List.take_length];rw [hG.len,<- hG.len (σ ++ (zmH y.wear.min y.wear.max).flatMap fun w => zmz (x.keys.drop (n + 1)) (n + 1) (t.set n w))];exact endV (hG.hok hH _) hk
theorem f159_c {H : List AObj} {k kp : AV -> List AObj -> Prop} {l : List AV} (hk : k (.fn (.func 167) [] [.op H.length 0]) (H ++ [.cells [.rp l] 100])) : FnC lv Tryz.prog 159 H [.rp l] k kp:=by
 refine zlA (rs:=[.tmp 2]) (nt:=4) Tryz.f159 fun hH hA => ?_;simp only [zlW,Nat.reduceAdd];refine zfK ?_;refine zl5 ?_;simp only [seval,List.mapM_cons,List.mapM_nil,Option.pure_def,Option.bind_eq_bind];refine zlz ?_;exact zao hk
theorem f167_c {x : Ring} {os : List AV} {ir N : Nat} {yv : AV} {Gf : List (List Int) -> List AObj} {k kp : AV -> List AObj -> Prop} (hx : x.Ok) (hsy : yv.sure = true) (hlen : ∀ σ,(Gf σ).length = N) (hr : ∀ σ M,(Gf σ ++ M)[ir]? = some (.cells [.rp (x.l ++ os)] 100)) (hy : ztr lv yv Gf (zmz x.keys 0 [0,0,0,0])) (hok : ∀ m σ σ',(∀ z ∈ Gf σ,OLt m z) -> ∀ z ∈ Gf σ',OLt m z)
  (hparts : yv.parts = some [yv]) (hleaf : yv.leaf = true) (hk : k (.tup []) (Gf (zmz x.keys 0 [0,0,0,0]))) : FnC lv Tryz.prog 167 (Gf []) [yv,.op ir 0] k kp:=by
 refine zlA (rs:=[]) (nt:=8) Tryz.f167 fun hH hA => ?_;simp only [zlW,Nat.reduceAdd];have hN:=hlen [];refine zl5 ?_;simp only [seval,hparts];refine zfK ?_;refine zl5 ?_;simp only [seval,List.mapM_cons,List.mapM_nil,Option.pure_def,Option.bind_eq_bind];refine zfK ?_;have hget : ∀ σ (L : List AObj) i,(Gf σ ++ L)[N + i]? = L[i]?:=fun σ L i => by rw [<- hlen σ,List.getElem?_append_right (by omega)]; congr 1; omega
 have hG : GrowF lv x os (zmz x.keys 0 [0,0,0,0]) ir N (N + 1) yv (fun σ => Gf σ ++ [.cells [yv] 187,.cells [.fn (.func 168) [] [.op ir 0,.op N 0,.op (N + 1) 0]] 188]) (N + 2):=by
  refine ⟨fun σ => by simp [hlen],fun σ M => by rw [List.append_assoc]; exact hr σ _,fun σ M => ?_,fun σ M => ?_,fun σ t M k kp h1 h2 h3 => ?_,fun m σ σ' h1 w hw => (List.mem_append.1 hw).elim (fun hw => hok m σ σ' (fun v hv => h1 v (List.mem_append_left _ hv)) w hw) (fun hw => h1 w (List.mem_append_right _ hw))⟩
  ·rw [List.append_assoc]; exact (hget σ _ 0).trans rfl
  ·rw [List.append_assoc]; rw [hget σ _ 1]; rfl
  ·rw [List.append_assoc];exact hy σ t _ k kp h1 h2 (by rw [<- List.append_assoc]; exact h3)
 rw [hN];refine zl6 ((f168_c hx hsy x.keys.length 0 (N + 2) _ [0,0,0,0] [] _ _ rfl rfl hG (List.prefix_refl _) ?_));(try simp only [seval]);refine zaJ (H':=Gf (zmz x.keys 0 [0,0,0,0])) (Wk.refl _) rfl (by rw [hlen]; exact Nat.le_refl _) ?_ (by simp [zaD]) hk;intro z hz;rw [hlen,<- hN];exact hok _ [] _ (fun w hw => hH w hw) z hz
end
set_option maxRecDepth 100000
theorem F.fits166 : zq1 Tryz.prog 166 "gladstone/key.fits" 208 := fun v w es => by kernel_rfl
theorem F.fits167 : zq1 Tryz.prog 167 "gladstone/key.fits" 209 := fun v w es => by kernel_rfl
theorem F.nil166 : zpm Tryz.prog 166 "gladstone/key.fits" := fun v w es => by kernel_rfl
theorem F.nil167 : zpm Tryz.prog 167 "gladstone/key.fits" := fun v w es => by kernel_rfl
section
variable {lv : Bool} {H : List AObj} {k kp : AV -> List AObj -> Prop}
theorem f208_c {m n : Nat} (hm : m < 256) (hk : k (bv (m.testBit n)) H) : FnC lv Tryz.prog 208 H [iv n,uv m] k kp:=by
 refine zlA (rs:=[.tmp 4]) (nt:=8) Tryz.f208 fun hH hA => ?_;simp only [zlW,Nat.reduceAdd];refine zfK ?_;refine zfK ?_;refine zl6 ((f135_c hm ?_));(try simp only [seval]);refine zlz ?_;exact zao hk
theorem f209_c {m n : Nat} (hm : m < 256) (hk : k (bv (!m.testBit n)) H) : FnC lv Tryz.prog 209 H [iv n,uv m] k kp:=by
 refine zlA (rs:=[.tmp 4]) (nt:=9) Tryz.f209 fun hH hA => ?_;simp only [zlW,Nat.reduceAdd];refine zfK ?_;refine zfK ?_;refine zl6 ((f135_c hm ?_));(try simp only [seval]);refine zlz ?_;exact zao hk
theorem zii {b : Bool} {m n : Nat} (hm : m < 256) (hk : k (bv (m.testBit n == b)) H) : InvC lv Tryz.prog (.ifc (if b then 166 else 167) (iv n)) "gladstone/key.fits" H [uv m] k kp := by
 cases b with
 | true => exact invC F.fits166 (by kernel_rfl) (f208_c hm (by simpa using hk))
 | false => exact invC F.fits167 (by kernel_rfl) (f209_c hm (by simpa using hk))
theorem zfz {b : Bool} : zpm Tryz.prog (if b then 166 else 167) "gladstone/key.fits" := by
 cases b
 ·exact F.nil167
 ·exact F.nil166
end
def zlK (x : Ring) : List (List Int):=zmz x.keys 0 [0,0,0,0]
def zpa (x : Ring) (t : List Int) (r : Try) : Bool:=(zmf x r.key.toNat (t.getD r.key.toNat 0).toNat).testBit r.lock.toNat == r.opens
def okTo (x : Ring) (but : List Int) (t : List Int) : Nat -> Bool
 | 0 => true
 | i + 1 => okTo x but t i && (match x.tries[i]? with | some r => but.contains (i : Int) || zpa x t r | none => true)
def zmu (x : Ring) (but : List Int) (i : Nat) : List (List Int × Nat):=(zlK x).zipIdx.filter fun y => okTo x but y.1 i
def zlD (x : Ring) (but : List Int) : List (List Int × Nat):=zmu x but x.tries.length
theorem zgC : ∀ (ys : List Key) (n : Nat) (t : List Int),∀ u ∈ zmz ys n t,u.length = t.length
 | [],_,t,u,h => by simp [zmz] at h; subst h; rfl
 | y :: ys,n,t,u,h => by
  rw [zmz] at h;obtain ⟨w,_,h⟩:=List.mem_flatMap.1 h;rw [zgC ys (n + 1) _ u h]; simp
theorem zc7 : ∀ (ys : List Key) (n : Nat) (t : List Int),∀ u ∈ zmz ys n t,∀ i,i < n -> u[i]? = t[i]?
 | [],_,t,u,h,i,_ => by simp [zmz] at h; subst h; rfl
 | y :: ys,n,t,u,h,i,hi => by
  rw [zmz] at h;obtain ⟨w,_,h⟩:=List.mem_flatMap.1 h;rw [zc7 ys (n + 1) _ u h i (by omega),List.getElem?_set_ne (by omega)]
theorem ziS {lo hi w : Int} (h : w ∈ zmH lo hi) : lo <= w /\ w <= hi:=by
 unfold zmH at h;obtain ⟨i,h1,rfl⟩:=List.mem_map.1 h;have:=List.mem_range.1 h1;omega
theorem zij : ∀ (ys : List Key) (n : Nat) (t : List Int),(∀ y ∈ ys,y.wear.Ok 2) -> (∀ w ∈ t,0 <= w /\ w <= 2) -> ∀ u ∈ zmz ys n t,∀ w ∈ u,0 <= w /\ w <= 2
 | [],_,t,_,ht,u,h => by simp [zmz] at h; subst h; exact ht
 | y :: ys,n,t,hy,ht,u,h => by
  rw [zmz] at h;obtain ⟨w,hw,h⟩:=List.mem_flatMap.1 h;refine zij ys (n + 1) _ (fun z hz => hy z (List.mem_cons_of_mem _ hz)) (fun v hv => ?_) u h;rcases List.mem_or_eq_of_mem_set hv with h' | h'
  ·exact ht v h'
  ·subst h';have:=ziS hw;have hk:=hy y (List.mem_cons_self ..);have:=hk.min; have:=hk.max; omega
theorem zgn (lo hi : Int) : (zmH lo hi).Nodup:=by
 unfold zmH;refine List.Pairwise.map _ (fun a b hab => ?_) List.nodup_range;omega
theorem zeD : ∀ (ys : List Key) (n : Nat) (t : List Int),n + ys.length <= t.length -> (zmz ys n t).Nodup
 | [],_,t,_ => by simp [zmz]
 | y :: ys,n,t,h => by
  simp only [List.length_cons] at h;rw [zmz];unfold List.Nodup;rw [List.pairwise_flatMap];refine ⟨fun w _ => zeD ys (n + 1) _ (by simp; omega),?_⟩;refine List.Pairwise.imp ?_ (zgn _ _);intro a b hab u hu1 u2 hu2 e;subst e;have e1:=zc7 ys (n + 1) _ u hu1 n (by omega);have e2:=zc7 ys (n + 1) _ u hu2 n (by omega);rw [List.getElem?_set_self (by omega)] at e1 e2;rw [e1] at e2;exact hab (Option.some.inj e2)
theorem zeE : ∀ (ys : List Key) (n : Nat) (t : List Int),(∀ y ∈ ys,y.wear.Ok 2) -> (zmz ys n t).length <= 3 ^ ys.length
 | [],_,t,_ => by simp [zmz]
 | y :: ys,n,t,hy => by
  rw [zmz,List.length_flatMap];have h1 : ∀ w,(zmz ys (n + 1) (t.set n w)).length <= 3 ^ ys.length:=fun w => zeE ys (n + 1) _ fun z hz => hy z (List.mem_cons_of_mem _ hz);have h2 : (zmH y.wear.min y.wear.max).length <= 3:=by
   rw [ze8];have hk:=hy y (List.mem_cons_self ..);have:=hk.min; have:=hk.max; omega
  have h3 : ∀ l : List Int,(l.map fun w => (zmz ys (n + 1) (t.set n w)).length).sum <= l.length * 3 ^ ys.length:=by
   intro l;induction l with
   | nil => simp
   | cons a l ih =>
    have:=h1 a;simp only [List.map_cons,List.sum_cons,List.length_cons,Nat.add_mul,Nat.one_mul];omega
  refine Nat.le_trans (h3 _) ?_;rw [List.length_cons,Nat.pow_succ,Nat.mul_comm];exact Nat.mul_le_mul_left _ h2
section
variable {x : Ring}
theorem zdD (hx : x.Ok) : ∀ t ∈ zlK x,t.length = 4:=fun t h => zgC _ _ _ t h
theorem zf4 (hx : x.Ok) : ∀ t ∈ zlK x,∀ w ∈ t,0 <= w /\ w <= 2:=zij _ _ _ (fun y hy => (hx.key y hy).2.2) (by simp)
theorem zdT (hx : x.Ok) : (zlK x).Nodup:=zeD _ _ _ (by have:=hx.keys; simp; omega)
theorem zdU (hx : x.Ok) : (zlK x).length <= 81:=Nat.le_trans (zeE _ _ _ fun y hy => (hx.key y hy).2.2) (Nat.pow_le_pow_right (n:=3) (j:=4) (by omega) hx.keys)
theorem zhU (l : List (List Int)) : ∀ y ∈ l.zipIdx,y.2 < l.length:=fun y hy => by
 have:=List.snd_lt_of_mem_zipIdx (x:=y) (l:=l) (k:=0) hy;simpa using this
theorem ze2 (l : List (List Int)) : (l.zipIdx.map (·.2)).Nodup:=by
 rw [List.zipIdx_map_snd]; exact List.nodup_range'
theorem zix {l : List (List Int)} (h : l.Nodup) : (l.zipIdx.map (·.1)).Nodup:=by
 rw [List.zipIdx_map_fst]; exact h
theorem zdA {l : List (List Int)} {y : List Int × Nat} (h : y ∈ l.zipIdx) : y.1 ∈ l:=by
 have : y.1 ∈ l.zipIdx.map (·.1):=List.mem_map.2 ⟨y,h,rfl⟩;rwa [List.zipIdx_map_fst] at this
end
theorem zcA {α β : Type} [DecidableEq β] (f : α -> β) : ∀ {l : List α} {i : Nat} {a : α},(l.map f).Nodup -> l[i]? = some a -> l.eraseIdx i = l.filter fun z => decide (f z ≠ f a)
 | [],_,_,_,h => by simp at h
 | z :: l,0,a,hn,h => by
  simp at h; subst h;simp only [List.map_cons,List.nodup_cons] at hn;rw [List.eraseIdx_cons_zero,List.filter_cons_of_neg (by simp)];symm;rw [List.filter_eq_self];intro w hw;have : f w ≠ f z:=fun e => hn.1 (List.mem_map.2 ⟨w,hw,e⟩);simpa using this
 | z :: l,i + 1,a,hn,h => by
  simp only [List.map_cons,List.nodup_cons] at hn;have h' : l[i]? = some a:=by simpa using h
  have hne : f z ≠ f a:=fun e => hn.1 (List.mem_map.2 ⟨a,List.mem_of_getElem? h',e.symm⟩);rw [List.eraseIdx_cons_succ,List.filter_cons_of_pos (by simpa using hne),zcA f hn.2 h']
theorem zgK {x : List Int} : ∀ {ts : List (List Int × Nat)} {j : Nat},(∃ y ∈ ts,y.1 = x) -> ∃ i v,zoD x ts j = some (i,v)
 | [],_,h => by obtain ⟨y,hy,_⟩:=h; cases hy
 | y :: ts,j,h => by
  rw [zoD];by_cases e : (x == y.1) = true
  ·rw [if_pos e]; exact ⟨_,_,rfl⟩
  ·rw [if_neg e];refine zgK ?_;obtain ⟨z,hz,hzx⟩:=h;rcases List.mem_cons.1 hz with rfl | hz
   ·exact absurd (by simpa using hzx.symm) e
   ·exact ⟨z,hz,hzx⟩
def zm8 (ts : List (List Int × Nat)) (fit : List Int -> Bool) (bs : List Nat) : List (List Int × Nat):=ts.filter fun y => !bs.contains y.2 || fit y.1
section
variable {ts : List (List Int × Nat)} {fit : List Int -> Bool} {bs : List Nat}
theorem zk1 : zm8 ts fit [] = ts:=by
 unfold zm8;rw [List.filter_eq_self]; simp
theorem zeN : zm8 ts fit bs ⊆ ts:=fun _ h => (List.mem_filter.1 h).1
theorem zdo {α β : Type} {f : α -> β} : ∀ {l : List α},(l.map f).Nodup -> ∀ a ∈ l,∀ b ∈ l,f a = f b -> a = b
 | [],_,_,h,_,_,_ => by cases h
 | z :: l,hn,a,ha,b,hb,e => by
  simp only [List.map_cons,List.nodup_cons] at hn;rcases List.mem_cons.1 ha with h1 | h1 <;> rcases List.mem_cons.1 hb with h2 | h2
  ·rw [h1,h2]
  ·subst h1; exact (hn.1 (List.mem_map.2 ⟨b,h2,e.symm⟩)).elim
  ·subst h2; exact (hn.1 (List.mem_map.2 ⟨a,h1,e⟩)).elim
  ·exact zdo hn.2 a h1 b h2 e
theorem zk2 (hb : (ts.map (·.2)).Nodup) {y : List Int × Nat} (hy : y ∈ ts) (hf : fit y.1 = true) : zm8 ts fit (bs ++ [y.2]) = zm8 ts fit bs:=by
 unfold zm8;refine List.filter_congr fun z hz => ?_;by_cases e : z.2 = y.2
 ·have:=zdo hb z hz y hy e;subst this;simp [hf]
 ·simp [e]
theorem zk4 (hb : (ts.map (·.2)).Nodup) (hk : (ts.map (·.1)).Nodup) {y : List Int × Nat} (hy : y ∈ ts) (hf : fit y.1 = false) (hbs : y.2 ∉ bs) :
  ∃ i v,zoD y.1 (zm8 ts fit bs) 0 = some (i,v) /\ i < (zm8 ts fit bs).length /\ (zm8 ts fit bs).eraseIdx i = zm8 ts fit (bs ++ [y.2]):=by
 have hym : y ∈ zm8 ts fit bs:=List.mem_filter.2 ⟨hy,by simp [hbs]⟩;obtain ⟨i,v,h⟩:=zgK (x:=y.1) (ts:=zm8 ts fit bs) (j:=0) ⟨y,hym,rfl⟩;obtain ⟨b,_,h2,_⟩:=zfe h;rw [Nat.sub_zero] at h2;refine ⟨i,v,h,(List.getElem?_eq_some_iff.1 h2).1,?_⟩;have hn : ((zm8 ts fit bs).map (·.1)).Nodup:=List.Sublist.nodup (List.Sublist.map _ List.filter_sublist) hk;rw [zcA (·.1) hn h2];unfold zm8;rw [List.filter_filter];refine List.filter_congr fun z hz => ?_;by_cases e : z.1 = y.1
 ·have:=zdo hk z hz y hy e;subst this;simp [hf]
 ·have e2 : z.2 ≠ y.2:=fun e2 => e (by rw [zdo hb z hz y hy e2]);simp [e,e2]
theorem zk5 (h : ∀ y ∈ ts,y.2 ∈ bs) : zm8 ts fit bs = ts.filter fun y => fit y.1:=by
 unfold zm8;refine List.filter_congr fun z hz => ?_;simp [h z hz]
end
theorem zfo (x : Ring) (but : List Int) : zmu x but 0 = (zlK x).zipIdx:=by
 unfold zmu;rw [List.filter_eq_self]; simp [okTo]
theorem zdc {x : Ring} {but : List Int} {i : Nat} {r : Try} (h : x.tries[i]? = some r) : zmu x but (i + 1) = (zmu x but i).filter fun y => but.contains (i : Int) || zpa x y.1 r:=by
 unfold zmu;rw [List.filter_filter];refine List.filter_congr fun z _ => ?_;simp only [okTo,h];rw [Bool.and_comm]
theorem zbk (x : Ring) (but : List Int) (i : Nat) : (zmu x but i).Sublist (zlK x).zipIdx:=List.filter_sublist
theorem F.u132 : Tryz.prog.underlying 132 = some (.array 4 3):=by kernel_rfl
theorem F.u3 : Tryz.prog.underlying 3 = some (.int .i64):=by kernel_rfl
theorem F.i3 : ∃ i,Tryz.prog.info? 3 = some i /\ i.size = 1:=by
 obtain ⟨i,h1,h2⟩:=Option.map_eq_some_iff.1 (show (Tryz.prog.info? 3).map (·.size) = some 1 by kernel_rfl);exact ⟨i,h1,h2⟩
theorem zgJ {x : List Int} : ∀ {ts : List (List Int × Nat)} {j : Nat},(∀ y ∈ ts,y.1 ≠ x) -> zoD x ts j = none
 | [],_,_ => rfl
 | y :: ts,j,h => by
  rw [zoD,if_neg (by simpa using fun e => h y (List.mem_cons_self ..) e.symm)];exact zgJ fun z hz => h z (List.mem_cons_of_mem _ hz)
theorem zec {H L : List AObj} {o o' : AObj} (h : HOk (H ++ o :: L)) (ho : ∀ n,OLt n o') : HOk (H ++ o' :: L):=by
 have hl : (H ++ o' :: L).length = (H ++ o :: L).length:=by simp
 intro z hz;rw [hl];rcases List.mem_append.1 hz with h' | h'
 ·exact h z (List.mem_append_left _ h')
 ·rcases List.mem_cons.1 h' with rfl | h'
  ·exact ho _
  ·exact h z (List.mem_append_right _ (List.mem_cons_of_mem _ h'))
theorem zrW {H L : List AObj} {o o' : AObj} {m : Nat} (h : ∀ z ∈ H ++ o :: L,OLt m z) (ho : ∀ n,OLt n o') : ∀ z ∈ H ++ o' :: L,OLt m z:=by
 intro z hz;rcases List.mem_append.1 hz with h' | h'
 ·exact h z (List.mem_append_left _ h')
 ·rcases List.mem_cons.1 h' with rfl | h'
  ·exact ho _
  ·exact h z (List.mem_append_right _ (List.mem_cons_of_mem _ h'))
theorem zhv (ts : List (List Int × Nat)) (ck n : Nat) : OLt n (setObj ts ck):=trivial
theorem zaL (ts : List (List Int × Nat)) (ck : Nat) : setObj ts ck = .obj (.map (ts.map zlH).toArray ck):=rfl
theorem zhi (σ : List (List Int)) (t : List Int) : setObj (σ ++ [t]).zipIdx (σ ++ [t]).length = .obj (.map ((σ.zipIdx ++ [(t,σ.length)]).map zlH).toArray (σ.length + 1)):=by
 rw [List.zipIdx_append,List.length_append]; simp [setObj]
section
variable {lv : Bool} {H : List AObj} {k kp : AV -> List AObj -> Prop}
theorem f129_c {x : Ring} {but : List Int} {e : End} (hx : x.Ok) (hb : but.length < 2 ^ 30) (hk : k (.mp H.length) (H ++ [setObj (zlD x but) (zlK x).length])) : FnC lv Tryz.prog 129 H [.rp (x.l ++ zlV x),.sl but.length (but.map iv) e] k kp:=by
 refine zjj (rs:=[.tmp 4]) (nt:=73) F.f129 rfl rfl rfl (by simp) fun hH hA => ?_;simp only [zlW,Nat.reduceAdd];refine zeS ?_;refine zfK ?_;refine zhS ?_;refine zeS ?_;refine zfK ?_;refine zis ?_;refine zeS ?_;refine zfK ?_;refine zl6 ((f159_c ?_));(try simp only [seval]);refine zjz ?_;refine zjy (by rfl) fun l fn => ?_;(try simp only [seval]);obtain ⟨i3,hi3,hs3⟩:=F.i3;refine zlY (f167_c (x:=x) (os:=zlV x) (ir:=H.length + 2) (N:=H.length + 5) (Gf:=fun σ => H ++ [setObj σ.zipIdx σ.length,.cells [.mp H.length] 118,.cells [.rp (x.l ++ zlV x)] 100,.obj (.deferred (some [])),.loop l .ready none fn _ 73 #[16] _ _ (H.length + 3)]) hx rfl (fun σ => by simp) (fun σ M => ?_) (fun σ t M k kp ht hpre hk => ?_) (fun m σ σ' h1 z hz => ?_) rfl rfl ?_)
 ·rw [List.append_assoc,zbD]; rfl
 ·
  have hget : ∀ (L : List AObj) i,(H ++ L)[H.length + i]? = L[i]?:=fun L i => zbD H L i;refine zhM (id:=H.length + 4) (by rw [List.append_assoc,zbD]; rfl) rfl (by kernel_rfl) fun hHk hAk => ?_;simp only [zipT];refine zfK ?_;refine ⟨ht,by omega,?_⟩;unfold ztt;refine ⟨none,fn,_,73,#[16],_,_,_,by rw [zbD]; rfl,?_⟩;dsimp only;rw [zcT];simp only [List.set_cons_succ,List.set_cons_zero];have hk4 : (t.map iv).length = 4:=by simp [ht]
  have hse : setObj σ.zipIdx σ.length = .obj (.map (σ.zipIdx.map zlH).toArray σ.length):=rfl;refine zl5 ?_;simp only [seval,hk4,ht,hse];rw [List.take_of_length_le (i:=4) (l:=t.map iv) (by omega)];have hnd : (σ ++ [t]).Nodup:=List.Sublist.nodup hpre.sublist (zdT hx);have hnt : ∀ y ∈ σ.zipIdx,y.1 ≠ t:=fun y hy e => by
   have hm:=zdA hy;rw [e] at hm;exact (List.nodup_append.1 hnd).2.2 t hm t (by simp) rfl
  have hσ4 : ∀ y ∈ σ.zipIdx,y.1.length = 4:=fun y hy => zdD hx _ (hpre.subset (List.mem_append_left _ (zdA hy)));have hfind:=zdW (ts:=σ.zipIdx) F.u132 F.u3 hi3 hs3 ht hσ4;rw [zgJ hnt] at hfind;refine zbs (zd8 t) (zbs rfl ⟨zcR F.u132 F.u3 hi3 hs3 ht,none,hfind,by simp,?_⟩);unfold zts;refine ⟨_,_,_,_,_,_,_,_,_,_,by rw [zbD]; rfl,?_⟩;dsimp only;rw [zcT];simp only [List.set_cons_succ,List.set_cons_zero];rw [zgp,<- zhi];dsimp only at hk hHk;refine zaJ (G:=[.cells (t.map iv) 132]) (Wk.refl _) ?_ ?_ ?_ (.val _) hk
  ·simp
  ·simp
  ·rw [List.append_assoc] at hHk ⊢;exact zec hHk (zhv _ _)
 ·exact zrW h1 (zhv _ _) z hz
 ·
  refine ⟨.ready,none,_,_,_,_,_,_,_,by rw [Nat.add_assoc,zbD]; rfl,by simp,?_⟩;rw [Nat.add_assoc,zcT];simp only [List.set_cons_succ,List.set_cons_zero];unfold zu5;(try simp only [seval]);refine zle ?_;have hb2:=zdU hx;rw [show zmz x.keys 0 [0,0,0,0] = zlK x from rfl];have hlk : x.l ++ zlV x = iv x.cuts :: zl8 x.keys :: zlL x.locks :: zl4 x.tries :: zlV x:=rfl;(repeat apply zaa);refine zbQ ?_;simp only [seval];refine zl5 ?_;simp only [seval,hlk,zl4];refine zlC ?_;refine zaB x.tries.length (fun i : Nat => [(25,iv i)]) (fun i => H ++ [setObj (zmu x but i) (zlK x).length,.cells [.mp H.length] 118,.cells [.rp (x.l ++ zlV x)] 100,.obj (.deferred (some [])),.gone]) (fun i => True) (fun _ _ => rfl) (by simp only [seval]; simp [zaf,Wk.refl]) (by simp only [zfo]; rfl) (fun _ _ _ => by simp) trivial (fun hHs hLt i hin hi R hR => ?_);refine zfK ?_;refine zlu ?_;refine ⟨fun h => ?_,fun h => ?_⟩
  ·have hHf : ∀ ts,HOk (H ++ [setObj ts (zlK x).length,.cells [.mp H.length] 118,.cells [.rp (x.l ++ zlV x)] 100,.obj (.deferred (some [])),.gone]):=fun ts => zec hHs (zhv _ _);have hil : i < x.tries.length:=(by omega);obtain ⟨r,hr⟩:=zaE hil;have hrt:=hx.tried r (zas hr);obtain ⟨rk,rl,ro⟩:=r;simp only at hrt;obtain ⟨kn,rfl⟩ : ∃ n : Nat,rk = n:=⟨rk.toNat,by omega⟩;obtain ⟨ln,rfl⟩ : ∃ n : Nat,rl = n:=⟨rl.toNat,by omega⟩;have hkn : kn < 4:=(by have:=hx.keys; omega);have hln : ln < 4:=(by have:=hx.locks; omega);refine zly ?_;refine zl5 ?_;simp only [seval,zh6 hr,zaz hil];refine zfK ?_;refine zlC ?_;refine zmt but.length (fun j : Nat => [(32,iv j)]) (fun _ => _) (fun j => ∀ q,q < j -> but[q]? ≠ some (i : Int)) (fun q hq => by omega) (fun hHs2 hLt2 j hjn hj R2 hR2 => ?_);refine zfK ?_;refine zlu ?_;refine ⟨fun h2 => ?_,fun h2 => ?_⟩
   ·
    have hjl : j < but.length:=(by omega);obtain ⟨w,hw⟩:=zaE hjl;refine zly ?_;refine zl5 ?_;simp only [seval,za2 hw,zaz hjl];refine zfK ?_;refine zlu ?_;refine ⟨fun h3 => ?_,fun h3 => ?_⟩
    ·
     refine zlF ?_;have hi1 : IntKind.i64.wrap ((i : Int) + 1) = ((i + 1 : Nat) : Int):=(by have:=hx.tries; rw [zau _ (by omega)]; rfl);refine zl5 ?_;simp only [seval,hi1];have hwi : w = (i : Int):=(by simpa using h3);have hcon : but.contains (i : Int) = true:=(by rw [<- hwi]; simpa using zas hw);have heq : zmu x but (i + 1) = zmu x but i:=by
      rw [zdc hr,List.filter_eq_self];intro y _;simp only [hcon,Bool.true_or]
     refine hR _ ⟨hil,trivial,?_⟩;rw [heq];have hHs:=hHf (zmu x but i);exact (zmG hHs)
    ·refine zly ?_;have hj1 : IntKind.i64.wrap ((j : Int) + 1) = ((j + 1 : Nat) : Int):=(by rw [zau _ (by omega)]; rfl);refine zl5 ?_;simp only [seval,hj1];refine hR2 _ ⟨hjl,fun q hq => ?_,?_⟩
     ·by_cases e : q = j
      ·subst e;rw [hw];have : ¬ w = (i : Int):=(by simpa using h3);simpa using this
      ·exact hj q (by omega)
     ·exact zlJ
   ·
    have hnc : but.contains (i : Int) = false:=by
     have hjn' : j = but.length:=(by omega);subst hjn';apply Bool.eq_false_iff.2;intro hc;obtain ⟨q,hq⟩:=List.mem_iff_getElem?.1 (by simpa using hc);exact hj q (get_lt hq) hq
    refine zlF ?_;refine zfK ?_;refine zl6 ((f122_c ?_));(try simp only [seval]);let ts:=zmu x but i;let fit : List Int -> Bool:=fun t => zpa x t ⟨kn,ln,ro⟩;have hsub:=zbk x but i;have hborn : ∀ y ∈ ts,y.2 < (zlK x).length:=fun y hy => zhU _ y (hsub.subset hy);have hnd2 : (ts.map (·.2)).Nodup:=List.Sublist.nodup (hsub.map _) (ze2 _);have hnd1 : (ts.map (·.1)).Nodup:=List.Sublist.nodup (hsub.map _) (zix (zdT hx));have h4r : ∀ y ∈ ts,y.1.length = 4 /\ ∀ w ∈ y.1,0 <= w /\ w <= 2:=fun y hy => ⟨zdD hx _ (zdA (hsub.subset hy)),zf4 hx _ (zdA (hsub.subset hy))⟩;have hokV : ∀ ts' sn,HOk (H ++ [setObj ts' (zlK x).length,.cells [.mp H.length] 118,.cells [.rp (x.l ++ zlV x)] 100,.obj (.deferred (some [])),.gone,.cells [iv kn,iv ln,bv ro] 28,.iter H.length (zlK x).length sn (zlK x).length]):=by
     intro ts' sn z hz;have hl : ∀ o1 o2 o3 o4 o5 o6 o7 : AObj,(H ++ [o1,o2,o3,o4,o5,o6,o7]).length = H.length + 7:=fun _ _ _ _ _ _ _ => (by simp);rw [hl];rcases List.mem_append.1 hz with h' | h'
     ·exact (hH z h').mono (by omega)
     ·simp only [List.mem_cons,List.not_mem_nil,or_false] at h';rcases h' with rfl | rfl | rfl | rfl | rfl | rfl | rfl
      ·trivial
      ·intro a ha; simp at ha; subst ha; exact .mp (by omega)
      ·intro a ha; simp at ha; subst ha; rw [zfB]; trivial
      ·trivial
      ·trivial
      ·intro a ha; simp at ha; rcases ha with rfl | rfl | rfl <;> exact .val _
      ·show H.length < _; omega
    refine zl5 ?_;simp only [seval,zaL];refine zlC ?_;refine za9 (measure fun vs : List (List Int × Nat) => ts.length - vs.length).wf (fun vs => []) (fun vs => H ++ [setObj (zm8 ts fit (vs.map (·.2))) (zlK x).length,.cells [.mp H.length] 118,.cells [.rp (x.l ++ zlV x)] 100,.obj (.deferred (some [])),.gone,.cells [iv kn,iv ln,bv ro] 28,.iter H.length (zlK x).length (vs.map (·.2)).toArray (zlK x).length]) (fun vs => (vs.map (·.2)).Nodup /\ ∀ y ∈ vs,y ∈ ts) [] (fun _ _ => rfl) (by simp) (by simp only [List.map_nil,zk1]; rfl) (fun _ _ => by simp) ⟨by simp,by simp⟩ (fun hHs3 hLt3 vs hok R3 hR3 => ?_);have hcb : ∀ y ∈ zm8 ts fit (vs.map (·.2)),y.2 < (zlK x).length:=fun y hy => hborn y (zeN hy);have hall:=zcO (zm8 ts fit (vs.map (·.2))) _ hcb;refine zl5 ?_;simp only [seval,zaL];refine ⟨hall.elim .inl (fun h => .inr (.inl h)),fun e he hn => ?_,fun hs => ?_⟩
    ·obtain ⟨y,hy,rfl⟩ : ∃ y ∈ zm8 ts fit (vs.map (·.2)),zlH y = e:=(by simpa using he);have hyts : y ∈ ts:=zeN hy;refine zlu ?_;refine zly ?_;refine zlC ?_;obtain ⟨h41,h42⟩:=h4r y hyts;have hlen : (y.1.map iv).length = 4:=(by simp [h41]);have hdrop : List.drop 4 [AV.val (Value.int IntKind.i64 0),AV.val (Value.int IntKind.i64 0),AV.val (Value.int IntKind.i64 0),AV.val (Value.int IntKind.i64 0)] = []:=rfl;have hbe : (zlH y).born = y.2:=rfl;have hcn2 : ((zm8 ts fit (vs.map (·.2))).map (·.2)).Nodup:=List.Sublist.nodup (List.filter_sublist.map _) hnd2;refine zl5 ?_;simp only [seval,zaL,Array.back?_push,hbe,zcL hcn2 hy,zb7,h41,hlen,hdrop];obtain ⟨w,hw⟩:=zaE (xs:=y.1) (i:=kn) (by omega);have hwb:=h42 w (zas hw);obtain ⟨wn,rfl⟩ : ∃ n : Nat,w = n:=⟨w.toNat,by omega⟩;have b4 : (0 <= (kn : Int) /\ (kn : Int) < 4) = True:=(by simp; omega);have b3 : (0 <= (wn : Int) /\ (wn : Int) < 3) = True:=(by simp; omega);have hm : zmf x kn wn < 256:=by
      unfold zmf;split
      ·exact zre (zb5 _ _ _ _) (by have:=hx.locks; omega)
      ·decide
     refine zma 18 ?_;simp only [seval,b4,b3,zbf hw,zcH x hkn,zb0 x hkn (show wn < 3 by omega),zfz,List.mapM_cons,List.mapM_nil,Option.pure_def,Option.bind_eq_bind];refine qInv (bv ((zmf x kn wn).testBit ln == ro)) (zii hm ⟨rfl,rfl⟩) ?_;(try simp only [seval]);have hget : y.1.getD kn 0 = (wn : Int):=(by rw [List.getD_eq_getElem?_getD,hw]; rfl);have hfit : fit y.1 = ((zmf x kn wn).testBit ln == ro):=by
      show zpa x y.1 ⟨kn,ln,ro⟩ = _;simp only [zpa,Int.toNat_natCast,hget]
     have hyn : y.2 ∉ vs.map (·.2):=(by simpa [zlH] using hn);have hpush : ((vs.map (·.2)).toArray.push y.2) = ((vs ++ [y]).map (·.2)).toArray:=(by simp);have hmapa : (vs ++ [y]).map (·.2) = vs.map (·.2) ++ [y.2]:=(by simp);have hok' : ((vs ++ [y]).map (·.2)).Nodup /\ ∀ z ∈ vs ++ [y],z ∈ ts:=by
      refine ⟨?_,fun z hz => ?_⟩
      ·rw [hmapa,List.nodup_append];refine ⟨hok.1,by simp,fun a ha b hb => ?_⟩;simp at hb; subst hb;intro e; subst e; exact hyn ha
      ·rcases List.mem_append.1 hz with h | h
       ·exact hok.2 z h
       ·rw [List.mem_singleton.1 h]; exact hyts
     have hvlen : vs.length < ts.length:=by
      have h1 : (vs ++ [y]).Nodup:=zbo _ hok'.1;have:=h1.length_le_of_subset hok'.2;simp at this; omega
     have hrel : ts.length - (vs ++ [y]).length < ts.length - vs.length:=(by simp; omega);refine zlu ?_;refine ⟨fun h5 => ?_,fun h5 => ?_⟩
     ·have hf : fit y.1 = false:=(by rw [hfit]; simpa using h5);refine zl5 ?_;simp only [seval,zaL,hlen];rw [List.take_of_length_le (i:=4) (l:=y.1.map iv) (by omega)];obtain ⟨di,dv,hfd,hdl,hde⟩:=zk4 hnd2 hnd1 hyts hf hyn;have hfind:=zdW (ts:=zm8 ts fit (vs.map (·.2))) F.u132 F.u3 hi3 hs3 h41 (fun z hz => (h4r z (zeN hz)).1);rw [hfd] at hfind;refine zbs (zd8 y.1) ⟨zcR F.u132 F.u3 hi3 hs3 h41,_,hfind,?_⟩;rw [zgQ hdl,hde,<- hmapa,<- zaL,hpush];refine hR3 _ ⟨vs ++ [y],hrel,hok',?_⟩;exact (by first | exact zaS (zam rfl rfl) (by simp) (hokV _ _) (by simp) | exact zat (zam rfl rfl) (by simp) (hokV _ _) (by simp))
     ·have hf : fit y.1 = true:=(by rw [hfit]; simpa using h5);refine zly ?_;rw [hpush];have hce : zm8 ts fit (vs.map (·.2)) = zm8 ts fit ((vs ++ [y]).map (·.2)):=(by rw [hmapa,zk2 hnd2 hyts hf]);rw [<- zaL,hce];refine hR3 _ ⟨vs ++ [y],hrel,hok',?_⟩;exact (by first | exact zaS (zam rfl rfl) (by simp) (hokV _ _) (by simp) | exact zat (zam rfl rfl) (by simp) (hokV _ _) (by simp))
    ·
     have hseen : ∀ y ∈ ts,y.2 ∈ vs.map (·.2):=fun y hy => by
      apply Classical.byContradiction;intro hn;have hm : y ∈ zm8 ts fit (vs.map (·.2)):=List.mem_filter.2 ⟨hy,by simp only [List.contains_eq_mem,hn,decide_false,Bool.not_false,Bool.true_or]⟩;have:=hs (zlH y) (by simpa using ⟨y.1,y.2,hm,rfl⟩) (hborn y hy);exact hn (by simpa [zlH] using this)
     have hcur : zm8 ts fit (vs.map (·.2)) = zmu x but (i + 1):=by
      rw [zk5 hseen,zdc hr];simp only [hnc,Bool.false_or];rfl
     refine zlu ?_;refine zlF ?_;have hi1 : IntKind.i64.wrap ((i : Int) + 1) = ((i + 1 : Nat) : Int):=(by have:=hx.tries; rw [zau _ (by omega)]; rfl);refine zl5 ?_;simp only [seval,hi1];rw [<- zaL,hcur];refine hR _ ⟨hil,trivial,?_⟩;have hHs:=hHf (zmu x but (i + 1));exact (zmG hHs)
  ·have hie : i = x.tries.length:=(by omega);subst hie;refine zlF ?_;refine zfK ?_;refine zlz ?_;rw [zjg (by rw [zbD]; rfl),zgF,zcT];refine zbs rfl ?_;simp only [List.set_cons_succ,List.set_cons_zero];refine zaJ (H':=H ++ [setObj (zlD x but) (zlK x).length]) (G:=[.cells [.mp H.length] 118,.cells [.rp (x.l ++ zlV x)] 100,.gone,.gone]) (Wk.refl _) (by simp [zlD]) (by simp) ?_ (.mp (by simp)) hk;intro z hz;rcases List.mem_append.1 hz with h' | h'
   ·exact (hH z h').mono (by simp)
   ·rw [List.mem_singleton.1 h']; trivial
def zlS (x : Ring) (fl : Option Int) : Int:=if zmC x fl ≠ 0 then zmC x fl else if zlD x [] = [] then 11 else 0
theorem zaP {x : Ring} {fl : Option Int} : zlS x fl = 0 <-> zmC x fl = 0 /\ zlD x [] ≠ []:=by
 unfold zlS;split
 ·simp_all
 ·split <;> simp_all
theorem zbp {x : Ring} {fl : Option Int} (h : zmC x fl = 0) : x.Ok:=zbH.1 (zaN.1 h).1
def znC (n all : Nat) : Int:=if n = 0 then 2 else if n = all then 1 else 3
theorem zbl {x : Ring} (hx : x.Ok) (but : List Int) : (zlD x but).length <= 81:=by
 have h1:=(zbk x but x.tries.length).length_le;have h2:=zdU hx;have h3 : (zlK x).zipIdx.length = (zlK x).length:=by simp
 show (zmu x but x.tries.length).length <= 81;omega
def znJ (x : Ring) (n w : Int) : Option Int:=if inM n 0 (x.keys.length - 1) then (if inM w 0 2 then none else some 4) else some 0
def zm4 (x : Ring) (n w : Int) : Option Int:=if inM n 0 (x.keys.length - 1) then (if inM w 0 (x.locks.length - 1) then none else some 1) else some 0
theorem zuv {H H' L : List AObj} (h1 : HOk H') (hl : H'.length = H.length) (h : HOk (H ++ L)) : HOk (H' ++ L):=fun z hz => by
 have e : (H' ++ L).length = (H ++ L).length:=by simp [hl]
 rw [e];rcases List.mem_append.1 hz with h' | h'
 ·exact (h1 z h').mono (by simp [hl])
 ·exact h z (List.mem_append_right _ h')
theorem zu3 (P : Program) (T : List (Nat × AV)) (H : List AObj) {t : TypeId} (id : Nat) (k : AV -> Prop) (h : znu P t = some .map) : ALen P ⟨T,H⟩ t (.mp id) k = (match H[id]? with
  | some (.obj (.map es _)) => k (.val (.int .i64 es.size))
  | _ => False):=by unfold ALen; rw [h]; rfl
attribute [seval] zu3
theorem zbm (x : Ring) (but : List Int) : ∀ y ∈ zlD x but,y.2 < (zlK x).length:=fun y hy => zhU _ y ((zbk x but _).subset hy)
theorem zba (x : Ring) (but : List Int) : ((zlD x but).map (·.2)).Nodup:=List.Sublist.nodup ((zbk x but _).map _) (ze2 _)
theorem zbt {x : Ring} (hx : x.Ok) (but : List Int) : ∀ y ∈ zlD x but,y.1.length = 4 /\ ∀ w ∈ y.1,0 <= w /\ w <= 2:=fun y hy => ⟨zdD hx _ (zdA ((zbk x but _).subset hy)),zf4 hx _ (zdA ((zbk x but _).subset hy))⟩
theorem zbU {a lo hi : Int} : inM a lo hi = true <-> lo <= a /\ a <= hi:=by simp [inM]
theorem zg4 {x : Ring} {n w : Int} : znJ x n w = none <-> (0 <= n /\ n <= x.keys.length - 1) /\ 0 <= w /\ w <= 2:=by
 unfold znJ;rw [<- zbU,<- zbU];cases inM n 0 (x.keys.length - 1) <;> cases inM w 0 2 <;> simp
theorem zgu {x : Ring} {n w : Int} : zm4 x n w = none <-> (0 <= n /\ n <= x.keys.length - 1) /\ 0 <= w /\ w <= x.locks.length - 1:=by
 unfold zm4;rw [<- zbU,<- zbU];cases inM n 0 (x.keys.length - 1) <;> cases inM w 0 (x.locks.length - 1) <;> simp
theorem f99_t {H' : List AObj} {x : Ring} {ask : AV} {fl : Option Int} (hnr : zmA lv) (hmain : H'[0]? = some .main) (hl : H'.length = H.length) (hok : HOk H -> HOk H') (hs : x.Small) (hask : AskT lv H H' ask fl) (h0 : zm2 x ≠ 0 -> k (.tup [.val (.pointer none),.val (.map none),iv (zlS x fl)]) H) (h1 : zm2 x = 0 -> zlS x fl ≠ 0 -> k (.tup [.val (.pointer none),.val (.map none),iv (zlS x fl)]) H') (h2 : zlS x fl = 0 -> k (.tup [.rp (x.l ++ zlV x),.mp (H.length + 1),iv 0]) (H' ++ [.cells x.l 26,setObj (zlD x []) (zlK x).length])) : FnC lv Tryz.prog 99 H [x.av,ask] k kp:=by
 have hlL : ∀ L : List AObj,(H' ++ L).length = (H ++ L).length:=fun L => by simp [hl]
 have hmn : ∀ L : List AObj,(H' ++ L)[0]? = some .main:=fun L => by rw [List.getElem?_append_left (List.getElem?_eq_some_iff.1 hmain).1]; exact hmain
 refine zlA (rs:=[.tmp 4,.tmp 5,.tmp 6]) (nt:=26) Tryz.f99 fun hH hA => ?_;simp only [zlW,Nat.reduceAdd,Ring.av];refine zl5 ?_;simp only [seval,Ring.l];refine zfK ?_;refine zl6 ((f87_t hnr (hmn _) (hlL _) (zuv (hok hH) hl) hs (fun _ => hask.ext _) (fun hc => ?_) (fun hc hz => ?_) (fun hz => ?_)))
 ·(try simp only [seval]);refine zfK ?_;have hz : zmC x fl ≠ 0:=fun e => hc (zaN.1 e).1;have he : zlS x fl = zmC x fl:=by unfold zlS; rw [if_pos hz]
  refine zlu ?_;refine ⟨fun h => ?_,fun h => absurd (by simpa using h) hz⟩;refine zfK ?_;refine zlz ?_;exact endA hH (Wk.refl _) (by simp [zap,zaD]) (he ▸ h0 hc)
 ·(try simp only [seval]);refine zfK ?_;have he : zlS x fl = zmC x fl:=by unfold zlS; rw [if_pos hz]
  refine zlu ?_;refine ⟨fun h => ?_,fun h => absurd (by simpa using h) hz⟩;refine zfK ?_;refine zlz ?_;have h1:=h1 hc (he ▸ hz);rw [he] at h1;rw [<- hl];exact endA (hok hH) (Wk.refl _) (by simp [zap,zaD]) h1
 ·rw [<- hl] at h2 ⊢;(try simp only [seval]);refine zfK ?_;have hx:=zbp hz;have hlen : (zlD x []).length <= 81:=zbl hx [];refine zlu ?_;refine zly ?_;refine zfK ?_;refine zl6 ((f129_c (but:=[]) (e:=.exact) hx (by decide) ?_));(try simp only [seval]);refine zl5 ?_;simp only [seval,zaL];refine zlu ?_;refine ⟨fun h => ?_,fun h => ?_⟩
  ·
   refine zfK ?_;refine zlz ?_;have he : zlD x [] = []:=(by simpa using h);have ho : zlS x fl = 11:=(by unfold zlS; rw [if_neg (by simpa using hz),if_pos he]);refine zaJ (H':=H') (Wk.refl _) rfl (Nat.le_refl _) (hok hH) (by simp [zap,zaD]) (ho ▸ h1 (zaN.1 hz).1 (by rw [ho]; decide))
  ·
   refine zly ?_;refine zfK ?_;refine zlz ?_;have he : zlD x [] ≠ []:=(by simpa using h);refine zao ?_;exact h2 (zaP.2 ⟨hz,he⟩)
theorem f99_c {x : Ring} {ask : AV} {fl : Option Int} (hnr : zmA lv) (hmain : H[0]? = some .main) (hs : x.Small) (hask : AskC lv H ask fl) (h1 : zlS x fl ≠ 0 -> k (.tup [.val (.pointer none),.val (.map none),iv (zlS x fl)]) H) (h2 : zlS x fl = 0 -> k (.tup [.rp (x.l ++ zlV x),.mp (H.length + 1),iv 0]) (H ++ [.cells x.l 26,setObj (zlD x []) (zlK x).length])) : FnC lv Tryz.prog 99 H [x.av,ask] k kp :=
 f99_t hnr hmain rfl id hs hask (fun hc => h1 fun e => hc (zaN.1 (zaP.1 e).1).1) (fun _ => h1) h2
theorem f101_c {n all : Nat} (hk : k (iv (znC n all)) H) : FnC lv Tryz.prog 101 H [iv n,iv all] k kp:=by
 refine zlA (rs:=[.tmp 4]) (nt:=11) Tryz.f101 fun hH hA => ?_;simp only [zlW,Nat.reduceAdd];refine zfK ?_;refine zfK ?_;refine zfK ?_;refine zlu ?_;refine ⟨fun h => ?_,fun h => ?_⟩
 ·refine zfK ?_;refine zlz ?_;have h : n = 0:=by simpa using h
  rw [znC,if_pos h] at hk;exact zao hk
 ·have h : n ≠ 0:=by simpa using h
  refine zfK ?_;refine zlu ?_;refine ⟨fun h2 => ?_,fun h2 => ?_⟩
  ·refine zfK ?_;refine zlz ?_;have h2 : n = all:=Int.ofNat_inj.1 (by simpa using h2);rw [znC,if_neg h,if_pos h2] at hk;exact zao hk
  ·have h2 : n ≠ all:=fun e => (by subst e; simp at h2);refine zly ?_;refine zfK ?_;refine zlz ?_;rw [znC,if_neg h,if_neg h2] at hk;exact zao hk
theorem f88_c {r i j : Nat} {x : Ring} {n w : Int} (hx : x.Small) (hr : H[r]? = some (.cells x.l 26)) (hi : H[i]? = some (.cells [iv n] 3)) (hj : H[j]? = some (.cells [iv w] 3)) (hk : znJ x n w = none -> k (.tup []) H) (hp : ∀ f,znJ x n w = some f -> kp (.ifc 106 (iv f)) H) : FnC lv Tryz.prog 88 H [.op r 0,.op i 0,.op j 0] k kp:=by
 refine zlA (rs:=[]) (nt:=10) Tryz.f88 fun hH hA => ?_;simp only [zlW,Nat.reduceAdd];have hr2:=hr;rw [Ring.l] at hr2;refine zl5 ?_;simp only [seval,hr2,hi];refine zl6 ((f89_c (x:=x) ?_));(try simp only [seval]);refine zl6 ((f152_c hx (by simp only [seval] <;> rfl) (by simp only [seval] <;> rfl) (fun hin => ?_) (fun hin => ?_)))
 ·(try simp only [seval]);refine zl5 ?_;simp only [seval,zay hj];refine zl6 ((f91_c ?_));(try simp only [seval]);refine zl6 ((f90_c (fun h => ?_) (fun h => ?_)))
  ·have h : inM w 0 2 = true:=(by simpa [inM] using h);exact zaJ (Wk.refl _) rfl (Nat.le_refl _) hH (by simp [zaD]) (hk (by rw [znJ,if_pos hin,if_pos h]))
  ·have h : inM w 0 2 = false:=(by simpa [inM] using h);exact zaJ (Wk.refl _) rfl (Nat.le_refl _) hH (by simp [zap,zey]) (hp 4 (by rw [znJ,if_pos hin,h]; rfl))
 ·exact zaJ (Wk.refl _) rfl (Nat.le_refl _) hH (by simp [zap,zey]) (hp 0 (by rw [znJ,hin]; rfl))
theorem f100_c {r i j : Nat} {x : Ring} {n w : Int} (hx : x.Small) (hr : H[r]? = some (.cells x.l 26)) (hi : H[i]? = some (.cells [iv n] 3)) (hj : H[j]? = some (.cells [iv w] 3)) (hk : zm4 x n w = none -> k (.tup []) H) (hp : ∀ f,zm4 x n w = some f -> kp (.ifc 106 (iv f)) H) : FnC lv Tryz.prog 100 H [.op r 0,.op i 0,.op j 0] k kp:=by
 refine zlA (rs:=[]) (nt:=14) Tryz.f100 fun hH hA => ?_;simp only [zlW,Nat.reduceAdd];have hl:=hx.locks;have hw : IntKind.i64.wrap ((x.locks.length : Int) - 1) = x.locks.length - 1:=zau _ (by omega);have hr2:=hr;rw [Ring.l] at hr2;refine zl5 ?_;simp only [seval,hr2,hi];refine zl6 ((f89_c (x:=x) ?_));(try simp only [seval]);refine zl6 ((f152_c hx (by simp only [seval] <;> rfl) (by simp only [seval] <;> rfl) (fun hin => ?_) (fun hin => ?_)))
 ·(try simp only [seval]);refine zl5 ?_;simp only [seval,zay hj,zay hr2,hw,zlL];refine zl6 ((f91_c ?_));(try simp only [seval]);refine zl6 ((f90_c (fun h => ?_) (fun h => ?_)))
  ·have h : inM w 0 (x.locks.length - 1) = true:=(by simpa [inM] using h);exact zaJ (Wk.refl _) rfl (Nat.le_refl _) hH (by simp [zaD]) (hk (by rw [zm4,if_pos hin,if_pos h]))
  ·have h : inM w 0 (x.locks.length - 1) = false:=(by simpa [inM] using h);exact zaJ (Wk.refl _) rfl (Nat.le_refl _) hH (by simp [zap,zey]) (hp 1 (by rw [zm4,if_pos hin,h]; rfl))
 ·exact zaJ (Wk.refl _) rfl (Nat.le_refl _) hH (by simp [zap,zey]) (hp 0 (by rw [zm4,hin]; rfl))
theorem zsG {r i j : Nat} {x : Ring} {n w : Int} (hx : x.Small) (hr : H[r]? = some (.cells x.l 26)) (hi : H[i]? = some (.cells [iv n] 3)) (hj : H[j]? = some (.cells [iv w] 3)) : AskC lv H (.fn (.func 88) [] [.op r 0,.op i 0,.op j 0]) (znJ x n w):=fun L k kp h1 h2 =>
 zlY (f88_c hx (zay hr) (zay hi) (zay hj) h1 h2)
theorem zlh {r i j : Nat} {x : Ring} {n w : Int} (hx : x.Small) (hr : H[r]? = some (.cells x.l 26)) (hi : H[i]? = some (.cells [iv n] 3)) (hj : H[j]? = some (.cells [iv w] 3)) : AskC lv H (.fn (.func 100) [] [.op r 0,.op i 0,.op j 0]) (zm4 x n w):=fun L k kp h1 h2 =>
 zlY (f100_c hx (zay hr) (zay hi) (zay hj) h1 h2)
def zp2 (x : Ring) (n w : Nat) : List Int:=match x.keys[n]? with
 | some y => (zme w (zlX y.cuts)).take x.cuts.toNat
 | none => []
theorem f94_o {id off n cap : Nat} {l : List AV} {el : TypeId} {xs : List Int} (hid : H[id]? = some (.cells l el)) (hn : n = xs.length) (hxs : (l.drop off).take n = xs.map iv) (hl : xs.length <= 2 ^ 30) (hk : k (aInts xs) H) : FnC lv Tryz.prog 94 H [.osl id off n cap] k kp:=by
 refine zlA (rs:=[.tmp 2]) (nt:=8) Tryz.f94 fun hH hA => ?_;simp only [zlW,Nat.reduceAdd];refine zfK ?_;refine zfK ?_;intro b hb;refine zlu ?_;refine ⟨fun h => ?_,fun h => ?_⟩
 ·
  refine zfK ?_;refine zlz ?_;have : xs = []:=by
   cases xs with
   | nil => rfl
   | cons x xs => rw [hb (by simp [hn])] at h; cases h
  subst this;exact zaJ (H':=H) (G:=[]) (zaK _ _ _) (by simp) (Nat.le_refl _) hH (by simp [aInts,za3]) hk
 ·
  refine zly ?_;refine zl5 ?_;simp only [seval,hid,hxs];subst hn;refine ⟨by simp,hl,?_⟩;refine zlz ?_;exact endA hH (zaK _ _ _) (by simp [<- aInts.eq_1,zbi]) hk
theorem f30_c {x : Ring} {n w : Int} (hnr : zmA lv) (hmain : H[0]? = some .main) (hs : x.Small) (h1 : zmC x (znJ x n w) ≠ 0 -> k (.tup [.sl 0 [] .exact,iv (zmC x (znJ x n w))]) H) (h2 : zmC x (znJ x n w) = 0 -> k (.tup [aInts (zp2 x n.toNat w.toNat),iv 0]) H) : FnC lv Tryz.prog 30 H [x.av,iv n,iv w] k kp:=by
 have hmn : ∀ L : List AObj,(H ++ L)[0]? = some .main:=fun L => zay hmain;refine zlA (rs:=[.tmp 6,.tmp 7]) (nt:=39) Tryz.f30 fun hH hA => ?_;simp only [zlW,Nat.reduceAdd,Ring.av];refine zl5 ?_;simp only [seval,Ring.l];refine zl5 ?_;simp only [seval,List.mapM_cons,List.mapM_nil,Option.pure_def,Option.bind_eq_bind];have hask : AskC lv (H ++ [.cells x.l 26,.cells [iv n] 3,.cells [iv w] 3]) _ (znJ x n w):=zsG (r:=H.length) (i:=H.length + 1) (j:=H.length + 2) hs (by simp only [seval]) (by simp only [seval]) (by simp only [seval]);refine zl6 ((f87_c hnr (hmn _) hs hask (fun hz => ?_) (fun hz => ?_)))
 ·(try simp only [seval]);refine zfK ?_;refine zlu ?_;refine ⟨fun h => ?_,fun h => absurd (by simpa using h) hz⟩;refine zfK ?_;refine zlz ?_;exact endA hH (Wk.refl _) (by simp [zap,zaD,zbh]) (h1 hz)
 ·(try simp only [seval]);refine zfK ?_;have hx:=zbp hz;obtain ⟨hc,hfl⟩:=zaN.1 hz;obtain ⟨⟨hn0,hn1⟩,hw0,hw1⟩:=zg4.1 hfl;obtain ⟨kn,rfl⟩ : ∃ m : Nat,n = m:=⟨n.toNat,by omega⟩;have hkl : kn < x.keys.length:=by omega
  obtain ⟨y,hy⟩:=zaE hkl;have hym:=zas hy;have hds:=zcm y.cuts;have hdl : ((zlX y.cuts).map iv).length = 4:=by simp [hds]
  have hwl : ((zme w (zlX y.cuts)).map iv).length = 4:=by simp [zme,hds]
  have hdrop : ([iv 0,iv 0,iv 0,iv 0] : List AV).drop 4 = []:=rfl;refine zlu ?_;refine zly ?_;refine zmw [12,13] [0,1,2,3,4,5,6,7,8,9,10,11,12,13] [⟨0,false,[],[([12],[12])]⟩,⟨1,false,[],[([12],[12])]⟩,⟨2,false,[],[([12],[12])]⟩,⟨3,false,[],[([12],[12])]⟩,⟨4,false,[],[([12],[12])]⟩,⟨5,false,[],[([12],[12])]⟩,⟨6,false,[],[([12],[12])]⟩,⟨7,false,[],[([12],[12])]⟩,⟨8,false,[],[([12],[12])]⟩,⟨9,false,[],[([12],[12])]⟩,⟨10,false,[],[([12],[12])]⟩,⟨11,false,[],[([12],[12])]⟩,⟨12,true,[12],[]⟩,⟨13,true,[12,13],[]⟩] (fun D => bif zl7 13 D then H ++ [.cells x.l 26,.cells [iv kn] 3,.cells [iv w] 3,.cells ((zme w (zlX y.cuts)).map iv) 108] else bif zl7 12 D then H ++ [.cells x.l 26,.cells [iv kn] 3,.cells [iv w] 3,.cells [iv 0,iv 0,iv 0,iv 0] 108] else H ++ [.cells x.l 26,.cells [iv kn] 3,.cells [iv w] 3]) ?_;simp only [seval,Ring.l,zl8,zc2 hy,zaz hkl];refine znT (.agg ((zlX y.cuts).map iv)) (zlY (f92_c ⟨rfl,rfl⟩)) ⟨znT _ (zlY (f92_c ⟨rfl,rfl⟩)) rfl,?_⟩;have hdm:=hx.depths hym;refine znT (.agg ((zme w (zlX y.cuts)).map iv)) (zlY (f93_c hds hdm ⟨hw0,hw1⟩ ⟨rfl,rfl⟩)) ⟨znT _ (zlY (f93_c hds hdm ⟨hw0,hw1⟩ ⟨rfl,rfl⟩)) rfl,?_⟩;(try simp only [seval,hwl]);have hc4:=hx.cuts;refine zl5 ?_;simp only [seval,hwl];refine ⟨by omega,by omega,?_⟩;have hw2 : ((w.toNat : Nat) : Int) = w:=by omega
  have hwo : zp2 x (kn : Int).toNat w.toNat = (zme w (zlX y.cuts)).take x.cuts.toNat:=by
   unfold zp2;rw [Int.toNat_natCast,hy,hw2]
  have hwn : (zme w (zlX y.cuts)).length = 4:=by simp [zme,hds]
  rw [hwo] at h2;refine zl6 ((f94_o (xs:=(zme w (zlX y.cuts)).take x.cuts.toNat) (by simp only [seval] <;> rfl) (by rw [List.length_take,hwn]; omega) (by rw [List.map_take]; rfl) (by rw [List.length_take,hwn]; omega) ?_));(try simp only [seval]);refine zlz ?_;exact endA hH (Wk.refl _) (by simp [zap,zaD,zbi]) (h2 hz)
theorem f32_c {x : Ring} {n w : Int} (hnr : zmA lv) (hmain : H[0]? = some .main) (hs : x.Small) (h1 : zlS x (zm4 x n w) ≠ 0 -> k (.tup [iv 0,iv (zlS x (zm4 x n w))]) H) (h2 : zlS x (zm4 x n w) = 0 -> k (.tup [iv (znC (cntM x n.toNat w.toNat (zlD x [])) (zlD x []).length),iv 0]) H) : FnC lv Tryz.prog 32 H [x.av,iv n,iv w] k kp:=by
 have hmn : ∀ L : List AObj,(H ++ L)[0]? = some .main:=fun L => zay hmain;refine zlA (rs:=[.tmp 6,.tmp 7]) (nt:=29) Tryz.f32 fun hH hA => ?_;simp only [zlW,Nat.reduceAdd,Ring.av];refine zl5 ?_;simp only [seval,Ring.l];refine zl5 ?_;simp only [seval,List.mapM_cons,List.mapM_nil,Option.pure_def,Option.bind_eq_bind];have hask : AskC lv (H ++ [.cells x.l 26,.cells [iv n] 3,.cells [iv w] 3]) _ (zm4 x n w):=zlh (r:=H.length) (i:=H.length + 1) (j:=H.length + 2) hs (by simp only [seval]) (by simp only [seval]) (by simp only [seval]);refine zl6 ((f99_c hnr (hmn _) hs hask (fun hz => ?_) (fun hz => ?_)))
 ·(try simp only [seval]);refine zfK ?_;refine zlu ?_;refine ⟨fun h => ?_,fun h => absurd (by simpa using h) hz⟩;refine zfK ?_;refine zlz ?_;exact endA hH (Wk.refl _) (by simp [zap,zaD]) (h1 hz)
 ·(try simp only [seval]);refine zfK ?_;obtain ⟨ho,hne⟩:=zaP.1 hz;have hx:=zbp ho;obtain ⟨⟨hn0,hn1⟩,hw0,hw1⟩:=zgu.1 (zaN.1 ho).2;obtain ⟨kn,rfl⟩ : ∃ m : Nat,n = m:=⟨n.toNat,by omega⟩;obtain ⟨ln,rfl⟩ : ∃ m : Nat,w = m:=⟨w.toNat,by omega⟩;have hx4:=hx.keys;have hx5:=hx.locks;have hle:=zbl hx [];refine zlu ?_;refine zly ?_;have hg4 : ∀ L : List AObj,(H ++ L)[H.length + 3 + 1]? = L[4]?:=fun L => zbD H L 4;refine zfK ?_;refine zl6 ((f102_c (x:=x) (ts:=zlD x []) (ck:=(zlK x).length) (by rw [hg4]; rfl) (zbm x []) (zba x []) (by omega) (by omega) (by omega) (zbt hx []) ?_));(try simp only [seval,zaL,hg4]);have hsz : ((List.map zlH (zlD x [])).toArray.size : Int) = ((zlD x []).length : Nat):=by simp
  (try simp only [seval,hsz]);refine zl6 ((f101_c ?_));(try simp only [seval]);refine zlz ?_;exact endA hH (Wk.refl _) (by simp [zap,zaD]) (h2 hz)
theorem f53_c {x : Ring} (hnr : zmA lv) (hmain : H[0]? = some .main) (hs : x.Small) (h1 : zmC x none ≠ 0 -> k (.tup [iv 0,iv (zmC x none)]) H) (h2 : zmC x none = 0 -> k (.tup [iv (zlD x []).length,iv 0]) H) : FnC lv Tryz.prog 53 H [x.av] k kp:=by
 have hmn : ∀ L : List AObj,(H ++ L)[0]? = some .main:=fun L => zay hmain;refine zlA (rs:=[.tmp 2,.tmp 3]) (nt:=17) Tryz.f53 fun hH hA => ?_;simp only [zlW,Nat.reduceAdd,Ring.av];refine zl5 ?_;simp only [seval,Ring.l];refine zfK ?_;refine zl6 ((f87_c hnr (hmn _) hs zbA (fun hz => ?_) (fun hz => ?_)))
 ·(try simp only [seval]);refine zfK ?_;refine zlu ?_;refine ⟨fun h => ?_,fun h => absurd (by simpa using h) hz⟩;refine zfK ?_;refine zlz ?_;exact endA hH (Wk.refl _) (by simp [zap,zaD]) (h1 hz)
 ·(try simp only [seval]);refine zfK ?_;have hx:=zbp hz;refine zlu ?_;refine zly ?_;refine zfK ?_;refine zl6 ((f129_c (but:=[]) (e:=.exact) hx (by decide) ?_));(try simp only [seval,zaL]);have hsz : ((List.map zlH (zlD x [])).toArray.size : Int) = ((zlD x []).length : Nat):=by simp
  (try simp only [seval,hsz]);refine zlz ?_;exact endA hH (Wk.refl _) (by simp [zap,zaD]) (h2 hz)
def zmE (n : Nat) : List Int:=(List.range n).map fun i : Nat => (i : Int)
theorem zhR (n : Nat) : (zmE (n + 1)).map iv = (zmE n).map iv ++ [iv n]:=by simp [zmE,List.range_succ]
theorem zca (n : Nat) : (zmE n).length = n:=by simp [zmE]
theorem zjx {n i : Nat} (h : i < n) : (zmE n)[i]? = some (i : Int):=by simp [zmE,h]
theorem z1 : zmn (Value.int .i64 0) 1 = [iv 0]:=rfl
theorem f115_c {n : Nat} (hn : n <= 2 ^ 30) (hk : k (aInts (zmE n)) H) : FnC lv Tryz.prog 115 H [iv n] k kp:=by
 refine zlA (rs:=[.tmp 2]) (nt:=15) Tryz.f115 fun hH hA => ?_;simp only [zlW,Nat.reduceAdd];refine zfK ?_;refine zfK ?_
 (repeat apply zaa); refine zbV (t:=3) (sz:=1) (el:=3) (by simp only [seval] <;> rfl) ?_
 refine zfK ?_;refine zlC ?_;refine zaB n (fun i : Nat => [(3,.sl i ((zmE i).map iv) (.opn H.length)),(6,iv i)]) (fun i => H ++ [.tail i 1 3]) (fun _ => True) (fun _ _ => rfl) (by simp only [seval]; simp [zaf,Wk.refl]; exact Wk.refl _) rfl (fun _ _ _ => by simp) trivial (fun hHs hLt i hin hi R hR => ?_);refine zfK ?_;refine zlu ?_;refine ⟨fun h => ?_,fun h => ?_⟩
 ·refine zly ?_;refine zfK ?_;refine zl5 ?_;simp only [seval,z1,zca];have hl : i < n:=by omega
  first | refine ⟨by omega,by omega,?_⟩ | refine ⟨by omega,?_⟩
  have hi1 : IntKind.i64.wrap ((i : Int) + 1) = ((i + 1 : Nat) : Int):=by rw [zau _ (by omega)]; rfl
  refine zl5 ?_;simp only [seval,hi1];refine hR _ ⟨hl,trivial,?_⟩;rw [zhR];exact zlJ
 ·refine zlF ?_;have : i = n:=by omega
  subst this;refine zfK ?_;refine zlz ?_;rw [aInts,zca] at hk;exact endA hH (zaK _ _ _) (by simp [za3,zap]) hk
theorem zeg {n : Nat} {l l' : List AV} {e : End} (hl : l.length = l'.length) (h : ∀ (i : Nat) a b,l'[i]? = some a -> l[i]? = some b -> Wk b a) : Wk (.sl n l e) (.sl n l' e):=fun E v hd => by
 cases hd with
 | sl b o cap f hc he h1 h2 =>
  refine .sl b o cap f hc he (fun i hi => h1 i (by omega)) fun i x hx => ?_;obtain ⟨y,hy⟩:=zaE (xs:=l) (i:=i) (by have:=get_lt hx; omega);exact h i x y hx hy E _ (h2 i y hy)
 | nil he =>
  have : l' = []:=List.eq_nil_of_length_eq_zero hl.symm;subst this;exact .nil he
theorem zhW {a b c : AV} (h : Wk a b) (k : Wk b c) : Wk a c:=fun E v hd => k E v (h E v hd)
theorem zdC {a b a' b' : AV} (h : Wk a a') (k : Wk b b') : Wk (.tup [a,b]) (.tup [a',b']):=fun E v hd => by
 cases hd with
 | tup hs h1 =>
  refine .tup (by simpa using hs) fun i x hx => ?_
  match i with
  | 0 => cases hx; exact h E _ (h1 0 a rfl)
  | 1 => cases hx; exact k E _ (h1 1 b rfl)
  | i + 2 => cases hx
theorem z1s : zmn (Value.slice none 0 0) 1 = [.sl 0 [] .exact]:=rfl
theorem zqA : (1 <= 2 ^ 24) = True:=by simp
def znp (x : List Int) : Nat:=match x.getLast? with
 | none => 0
 | some i => i.toNat + 1
def zn3 (n : Nat) (x : List Int) : List (List Int):=(List.range' (znp x) (n - znp x)).map fun i : Nat => x ++ [(i : Int)]
def zmD (n : Nat) : Nat -> List (List Int)
 | 0 => [[]]
 | k + 1 => (zmD n k).flatMap (zn3 n)
def zm5 (n : Nat) (f : List Int -> Bool) : Option (List Int):=((List.range (n + 1)).flatMap (zmD n)).find? f
theorem zgy : ∀ n,n <= 6 -> ∀ k,k <= 7 -> (zmD n k).length <= 20:=by decide +kernel
theorem zfE : ∀ n,n <= 6 -> ∀ k,k <= 7 -> ∀ x ∈ zmD n k,x.length = k /\ ∀ i ∈ x,0 <= i /\ i < n:=by decide +kernel
def znx (n k j : Nat) : List (List Int):=((zmD n k).take j).flatMap (zn3 n)
theorem zke (n k : Nat) : znx n k (zmD n k).length = zmD n (k + 1):=by unfold znx; rw [List.take_length]; rfl
theorem ziR {n k j : Nat} {x : List Int} (h : (zmD n k)[j]? = some x) : znx n k (j + 1) = znx n k j ++ zn3 n x:=by
 unfold znx;obtain ⟨hj,rfl⟩:=List.getElem?_eq_some_iff.1 h;rw [List.take_succ_eq_append_getElem hj,List.flatMap_append]; simp
theorem zrw {n k j : Nat} (hn : n <= 6) (hk : k <= 6) : (znx n k j).length <= 20:=by
 have h1:=zgy n hn (k + 1) (by omega);have h2 : (znx n k j).length <= (zmD n (k + 1)).length:=by
  show (((zmD n k).take j).flatMap (zn3 n)).length <= ((zmD n k).flatMap (zn3 n)).length
  conv => rhs; rw [<- List.take_append_drop j (zmD n k),List.flatMap_append,List.length_append]
  omega
 omega
theorem zdp (n : Nat) (x : List Int) : (zn3 n x).length = n - znp x:=by simp [zn3]
theorem zks {n c : Nat} {x : List Int} (h : znp x + c < n) : (zn3 n x).take (c + 1) = (zn3 n x).take c ++ [x ++ [((znp x + c : Nat) : Int)]]:=by
 have hl:=zdp n x;rw [List.take_succ_eq_append_getElem (by omega)];simp [zn3]
theorem zjh {x : List Int} {q : Nat} {i : Int} (h : x[q]? = some i) (hi : 0 <= i) : ((znp (x.take (q + 1)) : Nat) : Int) = i + 1:=by
 obtain ⟨hj,rfl⟩:=List.getElem?_eq_some_iff.1 h;unfold znp;rw [List.take_succ_eq_append_getElem hj,List.getLast?_append];simp;omega
theorem zsj {n : Nat} {x : List Int} (h : ∀ i ∈ x,0 <= i /\ i < n) : znp x <= n:=by
 unfold znp;split
 ·omega
 ·rename_i i hi;have:=h i (List.mem_of_getLast? hi);omega
theorem zdt {α : Type} {f : α -> Bool} {l : List α} (h : ∀ x ∈ l,f x = false) : l.find? f = none:=by
 rw [List.find?_eq_none]; intro x hx; simp [h x hx]
theorem zfN {α : Type} {f : α -> Bool} : ∀ {l : List α} {j : Nat} {x : α},l[j]? = some x -> f x = true -> (∀ y ∈ l.take j,f y = false) -> l.find? f = some x
 | [],j,x,h,_,_ => by simp at h
 | y :: l,0,x,h,hf,_ => by simp at h; subst h; simp [hf]
 | y :: l,j + 1,x,h,hf,hn => by
  have hy : f y = false:=hn y (by simp);rw [List.find?_cons_of_neg (by simp [hy])];exact zfN (by simpa using h) hf fun z hz => hn z (by simp [hz])
theorem zhG {n k : Nat} {f : List Int -> Bool} {x : List Int} (hk : k <= n) (h0 : ∀ k' < k,∀ y ∈ zmD n k',f y = false) (hx : (zmD n k).find? f = some x) : zm5 n f = some x:=by
 unfold zm5;have e : List.range (n + 1) = List.range k ++ (k :: List.range' (k + 1) (n - k)):=by
  have h1 : List.range (n + 1) = List.range' 0 (n + 1):=List.range_eq_range';have h2 : List.range k = List.range' 0 k:=List.range_eq_range';have h3:=@List.range'_append_1 0 k (n - k + 1);rw [Nat.zero_add] at h3;rw [h1,h2,<- List.range'_succ,h3];congr 1; omega
 rw [e,List.flatMap_append,List.find?_append,zdt fun y hy => by
  obtain ⟨k',h1,h2⟩:=List.mem_flatMap.1 hy;exact h0 k' (List.mem_range.1 h1) y h2]
 rw [List.flatMap_cons,List.find?_append,hx];rfl
theorem zhH {n : Nat} {f : List Int -> Bool} (h0 : ∀ k' < n + 1,∀ y ∈ zmD n k',f y = false) : zm5 n f = none:=by
 unfold zm5;refine zdt fun y hy => ?_;obtain ⟨k',h1,h2⟩:=List.mem_flatMap.1 hy;exact h0 k' (List.mem_range.1 h1) y h2
theorem zrd (n : Nat) : Wk (.sl 1 [.sl 0 [] .exact] .exact) (zqX (zmD n 0)):=zhW (zeg (l':=[aInts []]) rfl fun i a b h1 h2 => by
  match i with
  | 0 => cases h1; cases h2; exact zaK _ _ _
  | i + 1 => cases h1) (zaK _ _ _)
theorem ztA {n : Nat} {l : List AV} {a b : AV} {e : End} (h : Wk a b) : Wk (.sl n (l ++ [a]) e) (.sl n (l ++ [b]) e):=zeg (by simp) fun i x y hx hy => by
 by_cases hi : i < l.length
 ·rw [List.getElem?_append_left hi] at hx hy;rw [hx] at hy; cases hy; exact Wk.refl _
 ·rw [List.getElem?_append_right (by omega)] at hx hy;have h0 : i - l.length = 0:=by have:=get_lt hx; simp at this; omega
  rw [h0] at hx hy;cases hx; cases hy; exact h
theorem zc6 {H L : List AObj} (h : HOk H) (hL : ∀ z ∈ L,∀ n,OLt n z) : HOk (H ++ L):=fun z hz => by
 rcases List.mem_append.1 hz with h' | h'
 ·exact (h z h').mono (by simp)
 ·exact hL z h' _
theorem zif (n m k : Nat) (ls : List (List Int)) : Lt n (.sl m (ls.map aInts) (.opn k)) = (k < n):=by
 rw [zdq];simp only [List.mem_map,eq_iff_iff,and_iff_left_iff_imp]
 rintro _ _ ⟨x,_,rfl⟩
 rw [zbi]; trivial
theorem ztD {x : List Int} {q : Nat} {i : Int} (h : x[q]? = some i) : (x.take (q + 1)).map iv = (x.take q).map iv ++ [iv i]:=by
 obtain ⟨hj,rfl⟩:=List.getElem?_eq_some_iff.1 h;rw [List.take_succ_eq_append_getElem hj,List.map_append]; rfl
def SoC (lv : Bool) (H : List AObj) (so : AV) (f : List Int -> Bool) (P : List Int -> Prop) : Prop:=∀ (L : List AObj) (xs : List Int) (e : End) (k kp : AV -> List AObj -> Prop),P xs -> k (bv (f xs)) (H ++ L) -> CallC lv Tryz.prog so (H ++ L) [.sl xs.length (xs.map iv) e] k kp
theorem f113_c {n : Nat} {so : AV} {f : List Int -> Bool} {P : List Int -> Prop} (hn : n <= 6) (hso : SoC lv H so f P) (hP : ∀ k,k <= n -> ∀ x ∈ zmD n k,P x) (hk : k (.tup [aInts ((zm5 n f).getD []),bv (zm5 n f).isSome]) H) : FnC lv Tryz.prog 113 H [so,aInts (zmE n)] k kp:=by
 refine zlA (rs:=[.tmp 4,.tmp 5]) (nt:=69) Tryz.f113 fun hH hA => ?_;simp only [zlW,Nat.reduceAdd];refine zfK ?_;refine zl5 ?_;simp only [seval,z1s,zqA];have hn1 : IntKind.i64.wrap ((n : Int) + 1) = ((n + 1 : Nat) : Int):=by rw [zau _ (by omega)]; rfl
 refine zl5 ?_;simp only [seval,aInts,zca,hn1];refine zlC ?_;refine zaB (n + 1) (fun i : Nat => [(6,zqX (zmD n i)),(19,iv i)]) (fun _ => H) (fun i => ∀ k' < i,∀ y ∈ zmD n k',f y = false) (fun _ _ => rfl) (by simp only [seval]; simp [zaf,Wk.refl]; exact zrd n) rfl (fun _ _ _ => rfl) (fun k' hk' => by omega) (fun hHs hLt i hin hi R hR => ?_);refine zfK ?_;refine zlu ?_;refine ⟨fun h => ?_,fun h => ?_⟩
 ·
  have hil : i <= n:=by omega
  refine zly ?_;refine zfK ?_
  (repeat apply zaa); refine zbV (t:=7) (sz:=1) (el:=30) (by simp only [seval] <;> rfl) ?_
  refine zl5 ?_;simp only [seval,zqX];refine zlC ?_;refine zaB (zmD n i).length (fun j : Nat => [(7,.sl (znx n i j).length ((znx n i j).map aInts) (.opn H.length)),(23,iv j)]) (fun j => H ++ [.tail (znx n i j).length 1 30]) (fun j => ∀ y ∈ (zmD n i).take j,f y = false) (fun _ _ => rfl) (by simp only [seval]; simp [zaf,Wk.refl]; exact Wk.refl _) rfl (fun _ _ _ => by simp) (by simp) (fun hHs2 hLt2 j hjn hj R2 hR2 => ?_);refine zfK ?_;refine zlu ?_;refine ⟨fun h2 => ?_,fun h2 => ?_⟩
  ·
   have hjl : j < (zmD n i).length:=(by omega);obtain ⟨x,hx⟩:=zaE hjl;obtain ⟨hxl,hxi⟩:=zfE n hn i (by omega) x (zas hx);refine zly ?_;refine zl5 ?_;simp only [seval,zlB hx,zaz hjl];refine zfK ?_
   (repeat apply zaa); refine zbV (t:=10) (sz:=1) (el:=3) (by simp only [seval] <;> rfl) ?_
   refine zfK ?_;refine zl5 ?_;simp only [seval,aInts];refine zlC ?_;refine zaB x.length (fun q : Nat => [(10,.sl q ((x.take q).map iv) (.opn (H.length + 1))),(11,iv (znp (x.take q))),(29,iv q)]) (fun q => H ++ [.tail (znx n i j).length 1 30,.tail q 1 3]) (fun _ => True) (fun _ _ => rfl) (by simp only [seval]; simp [zaf,Wk.refl]; first | exact Wk.refl _ | exact ⟨Wk.refl _,Wk.refl _⟩) rfl (fun _ _ _ => by simp) trivial (fun hHs3 hLt3 q hqn hq R3 hR3 => ?_);refine zfK ?_;refine zlu ?_;refine ⟨fun h3 => ?_,fun h3 => ?_⟩
   ·
    have hql : q < x.length:=(by omega);obtain ⟨xi,hxq⟩:=zaE hql;obtain ⟨hx0,hx1⟩:=hxi xi (zas hxq);obtain ⟨c,rfl⟩ : ∃ m : Nat,xi = m:=⟨xi.toNat,by omega⟩;have hcn : c < n:=(by omega);have hlt : (x.take q).length = q:=(by rw [List.length_take]; omega);have hc1 : IntKind.i64.wrap ((c : Int) + 1) = (c : Int) + 1:=zau _ (by omega);have hq1 : IntKind.i64.wrap ((q : Int) + 1) = ((q + 1 : Nat) : Int):=(by rw [zau _ (by omega)]; rfl);have hfr:=zjh hxq hx0;refine zly ?_;refine zl5 ?_;simp only [seval,za2 hxq,zaz hql];refine zl5 ?_;simp only [seval,za2 (zjx hcn),zaz hcn,z1,List.length_map,zca,hlt,hc1]
    first | refine ⟨by omega,by omega,?_⟩ | refine ⟨by omega,?_⟩
    refine zl5 ?_;simp only [seval,hq1];refine hR3 _ ⟨hql,trivial,?_⟩;rw [ztD hxq,hfr];exact zlJ
   ·
    have hqx : q = x.length:=(by omega);subst hqx;have hxm:=zas hx;refine zlF ?_;have htk : List.take x.length x = x:=List.take_length;refine zl5 ?_;simp only [seval,htk];refine zqQ (hso _ x _ _ _ (hP i hil x hxm) ?_);(try simp only [seval]);refine zlu ?_;refine ⟨fun h4 => ?_,fun h4 => ?_⟩
    ·
     refine zfK ?_;refine zlz ?_;have hfw:=zhG (f:=f) hil hi (zfN hx (by simpa using h4) hj);rw [hfw] at hk;exact endA hH (zdC (zaK _ _ _) (Wk.refl _)) (by simp [zap,zaD,za3]) hk
    ·
     refine zly ?_;refine zfK ?_;refine zlC ?_;have hfl : znp x <= n:=zsj hxi;refine zaB (n - znp x) (fun c : Nat => [(7,.sl ((znx n i j).length + c) ((znx n i j ++ (zn3 n x).take c).map aInts) (.opn H.length)),(14,iv ((znp x + c : Nat) : Int))]) (fun c => H ++ [.tail ((znx n i j).length + c) 1 30,.tail x.length 1 3]) (fun c => True) (fun _ _ => rfl) (by simp only [seval]; simp [zaf,Wk.refl]) rfl (fun _ _ _ => by simp) trivial (fun hHs4 hLt4 c hcn hc R4 hR4 => ?_);refine zfK ?_;refine zlu ?_;refine ⟨fun h5 => ?_,fun h5 => ?_⟩
     ·
      have hfc : znp x + c < n:=(by omega);have hbe : ((x.length : Int) == x.length) = true:=(by simp);have htc : ((zn3 n x).take c).length = c:=(by rw [List.length_take,zdp]; omega);have hf1 : IntKind.i64.wrap ((znp x : Int) + c + 1) = (znp x : Int) + ((c + 1 : Nat) : Int):=(by rw [zau _ (by omega)]; omega);have hrl:=zrw (n:=n) (k:=i) (j:=j) hn (by omega);refine zly ?_;refine zl5 ?_;simp only [seval,z1,z1s,hbe,Bool.and_self,zqA,List.length_append,htc]
      first | refine ⟨by omega,by omega,by omega,?_⟩ | refine ⟨by omega,by omega,?_⟩ | refine ⟨by omega,?_⟩
      refine zl5 ?_;simp only [seval,hf1];have ew : ((znx n i j ++ (zn3 n x).take (c + 1)).map aInts) = (znx n i j ++ (zn3 n x).take c).map aInts ++ [.sl (x.length + 1) (x.map iv ++ [iv ((znp x + c : Nat) : Int)]) .shut]:=by
       rw [zks hfc,<- List.append_assoc,List.map_append];simp [aInts]
      refine hR4 _ ⟨by omega,trivial,?_⟩;rw [ew];refine zat (L:=[.tail ((znx n i j).length + (c + 1)) 1 30,.tail x.length 1 3]) (zam rfl rfl) ?_ (zc6 hH (by simp [OLt])) ?_
      ·(try simp only [seval]; simp [zaf,Wk.refl]);simp only [<- List.append_assoc];exact ztA (zaK _ _ _)
      ·rw [<- ew];simp only [List.forall_mem_cons,zif,iv,zap];simp
     ·
      have hcn' : c = n - znp x:=(by omega);subst hcn';refine zlF ?_;have hj1 : IntKind.i64.wrap ((j : Int) + 1) = ((j + 1 : Nat) : Int):=by
       have:=zgy n hn i (by omega);rw [zau _ (by omega)]; rfl
      refine zl5 ?_;simp only [seval,hj1];have htk : (zn3 n x).take (n - znp x) = zn3 n x:=List.take_of_length_le (by rw [zdp]; omega);have hrs:=ziR hx;have hrl : (znx n i (j + 1)).length = (znx n i j).length + (n - znp x):=(by rw [hrs,List.length_append,zdp]);refine hR2 _ ⟨hjl,fun y hy => ?_,?_⟩
      ·obtain ⟨hj',rfl⟩:=List.getElem?_eq_some_iff.1 hx;rw [List.take_succ_eq_append_getElem hj',List.mem_append] at hy;rcases hy with hy | hy
       ·exact hj y hy
       ·simp at hy; subst hy; simpa using h4
      ·rw [htk,hrl,hrs];refine zat (L:=[.tail ((znx n i j).length + (n - znp x)) 1 30]) (G:=[.tail x.length 1 3]) (zam rfl rfl) ?_ (zc6 hH (by simp [OLt])) ?_
       ·try simp only [seval]; simp [zaf,Wk.refl]
       ·simp only [List.forall_mem_cons,zif,iv,zap];simp
  ·
   have hjx : j = (zmD n i).length:=(by omega);subst hjx;refine zlF ?_;refine zfK ?_;have hi1 : IntKind.i64.wrap ((i : Int) + 1) = ((i + 1 : Nat) : Int):=(by rw [zau _ (by omega)]; rfl);refine zl5 ?_;simp only [seval,hi1];refine hR _ ⟨by omega,fun k' hk' y hy => ?_,?_⟩
   ·by_cases e : k' = i
    ·subst e;exact hj y (by rw [List.take_length]; exact hy)
    ·exact hi k' (by omega) y hy
   ·rw [zke];refine zaS (zam rfl rfl) ?_ hH (by simp [zap,zlv]);(try simp only [seval]; simp [zaf,Wk.refl]);exact zaK _ _ _
 ·refine zlF ?_;refine zfK ?_;refine zlz ?_;have hin' : i = n + 1:=by omega
  subst hin';have hfw:=zhH (f:=f) hi;rw [hfw] at hk;have hk : k (.tup [.sl 0 [] .shut,bv false]) H:=hk;exact zaJ (H':=H) (G:=[]) (zdC (zaK _ _ _) (Wk.refl _)) (by simp) (Nat.le_refl _) hH (by simp [zap,zaD,za3]) hk
def zs7 (x : Ring) : List Int:=(zm5 x.tries.length fun xs => decide (0 < (zlD x xs).length)).getD []
def znb : Option (Nat × Nat × Nat) -> AObj
 | none => .cells [.fn (.func 132) [] [],iv 0,iv 0,iv 0,bv false] 148
 | some (a,b,c) => .cells [.fn (.func 132) [] [],iv a,iv b,iv c,bv true] 148
def zpS : Option (Nat × Nat × Nat) -> Nat × Nat × Nat -> Option (Nat × Nat × Nat)
 | none,t => some t
 | some u,t => if t.2.2 < u.2.2 then some t else some u
def zpz (x : Ring) (k n : Nat) : Nat × Nat × Nat:=(k,n,max (cntM x k n (zlD x [])) ((zlD x []).length - cntM x k n (zlD x [])))
def zpR (x : Ring) (k n : Nat) : List (Nat × Nat × Nat):=((List.range k).flatMap fun i => (List.range x.locks.length).map (zpz x i)) ++ (List.range n).map (zpz x k)
def zo1 (x : Ring) (k n : Nat) : Option (Nat × Nat × Nat):=(zpR x k n).foldl zpS none
def askM (x : Ring) : Option (Nat × Nat × Nat):=zo1 x x.keys.length 0
theorem zjC (x : Ring) (k n : Nat) : zo1 x k (n + 1) = zpS (zo1 x k n) (zpz x k n):=by
 unfold zo1 zpR;rw [List.range_succ,List.map_append,<- List.append_assoc,List.foldl_append]; rfl
theorem zjD (x : Ring) (k : Nat) : zo1 x (k + 1) 0 = zo1 x k x.locks.length:=by
 unfold zo1 zpR;rw [List.range_succ,List.flatMap_append]; simp
theorem zie (n : Nat) (o : Option (Nat × Nat × Nat)) : OLt n (znb o):=by
 cases o with
 | none => intro a ha; simp [iv,bv] at ha; rcases ha with rfl | rfl | rfl <;> simp [zap,lt_fn]
 | some u => obtain ⟨a0,b0,c0⟩:=u; intro a ha; simp [iv,bv] at ha; rcases ha with rfl | rfl | rfl | rfl | rfl <;> simp [zap,lt_fn]
theorem zh7 {H : List AObj} {id : Nat} {z : AObj} (h : H[id]? = some z) : H.set id z = H:=by
 obtain ⟨hj,rfl⟩:=List.getElem?_eq_some_iff.1 h;exact List.set_getElem_self hj
theorem f128_c {r : Nat} {x : Ring} {xs : List Int} {e : End} (hx : x.Ok) (hb : xs.length < 2 ^ 30) (hr : H[r]? = some (.cells [.rp (x.l ++ zlV x)] 100)) (hk : k (bv (decide (0 < (zlD x xs).length))) H) : FnC lv Tryz.prog 128 H [.sl xs.length (xs.map iv) e,.op r 0] k kp:=by
 refine zlA (rs:=[.tmp 3]) (nt:=9) Tryz.f128 fun hH hA => ?_;simp only [zlW,Nat.reduceAdd];refine zfK ?_;refine zl5 ?_;simp only [seval,hr];refine zl6 ((f129_c hx hb ?_));(try simp only [seval,zaL]);have hsz : ((List.map zlH (zlD x xs)).toArray.size : Int) = ((zlD x xs).length : Nat):=by simp
 (try simp only [seval,hsz]);refine zlz ?_;have e : (decide (0 < ((zlD x xs).length : Int))) = decide (0 < (zlD x xs).length):=by simp
 rw [e];exact endA hH (Wk.refl _) (by simp [zap]) hk
theorem f132_c {a b c a' b' c' : Int} (hk : k (bv (decide (c < c'))) H) : FnC lv Tryz.prog 132 H [.agg [iv a,iv b,iv c],.agg [iv a',iv b',iv c']] k kp:=by
 refine zlA (rs:=[.tmp 4]) (nt:=10) Tryz.f132 fun hH hA => ?_;simp only [zlW,Nat.reduceAdd];refine zfK ?_;refine zfK ?_;refine zlz ?_;exact endA hH (Wk.refl _) (by simp [zap]) hk
theorem f133_c {id : Nat} {o : Option (Nat × Nat × Nat)} {a b c : Nat} (hid : H[id]? = some (znb o)) (hk : k (.tup []) (H.set id (znb (zpS o (a,b,c))))) : FnC lv Tryz.prog 133 H [.op id 0,.agg [iv a,iv b,iv c]] k kp:=by
 refine zlA (rs:=[]) (nt:=28) Tryz.f133 fun hH hA => ?_;simp only [zlW,Nat.reduceAdd];have hg : ∀ L : List AObj,(H ++ L)[id]? = some (znb o):=fun L => zay hid;have hset : ∀ (L : List AObj) z,(H ++ L).set id z = H.set id z ++ L:=fun L z => List.set_append_left _ _ (get_lt hid);have hget2 : ∀ z (L : List AObj),(H.set id z ++ L)[id]? = some z:=fun z L => by
  rw [List.getElem?_append_left (by simpa using get_lt hid),List.getElem?_set_self (get_lt hid)]
 have hset2 : ∀ z z' (L : List AObj),(H.set id z ++ L).set id z' = H.set id z' ++ L:=fun z z' L => by
  rw [List.set_append_left _ _ (by simpa using get_lt hid),List.set_set]
 have hokb : ∀ z,OLt H.length z -> HOk (H.set id z):=fun z hz y hy => by
  rw [List.length_set];rcases List.mem_or_eq_of_mem_set hy with h | h
  ·exact hH y h
  ·rw [h]; exact hz
 refine zfK ?_;cases o with
 | none =>
  simp only [znb] at hg;refine zma 15 ?_;simp only [seval,hg];refine zlu ?_;refine zl5 ?_;simp only [seval,hg,hset,hget2,hset2];exact zaJ (H':=H.set id (znb (some (a,b,c)))) (Wk.refl _) rfl (by simp) (hokb _ (zie _ _)) (by simp [zaD]) hk
 | some u =>
  obtain ⟨a0,b0,c0⟩:=u;simp only [znb] at hg;refine zma 15 ?_;simp only [seval,hg];refine zl6 ((f132_c ?_));(try simp only [seval]);refine zlu ?_;refine ⟨fun h => ?_,fun h => ?_⟩
  ·refine zl5 ?_;simp only [seval,hg,hset,hget2,hset2];have ht : zpS (some (a0,b0,c0)) (a,b,c) = some (a,b,c):=(by simp [zpS]; omega);rw [ht] at hk;exact zaJ (H':=H.set id (znb (some (a,b,c)))) (Wk.refl _) rfl (by simp) (hokb _ (zie _ _)) (by simp [zaD]) hk
  ·refine zly ?_;have ht : zpS (some (a0,b0,c0)) (a,b,c) = some (a0,b0,c0):=(by simp [zpS]; omega);rw [ht,zh7 hid] at hk;exact endA hH (Wk.refl _) (by simp [zaD]) hk
theorem zrn {r : Nat} {x : Ring} (hx : x.Ok) (hr : H[r]? = some (.cells [.rp (x.l ++ zlV x)] 100)) : SoC lv H (.fn (.func 128) [] [.op r 0]) (fun xs => decide (0 < (zlD x xs).length)) (fun xs => xs.length <= 6):=fun L xs e k kp hp h =>
 zlY (f128_c hx (Nat.lt_of_le_of_lt hp (by decide)) (zay hr) h)
theorem f51_c {x : Ring} (hnr : zmA lv) (hmain : H[0]? = some .main) (hs : x.Small) (h1 : zmC x none ≠ 0 -> k (.tup [.sl 0 [] .exact,iv (zmC x none)]) H) (h2 : zmC x none = 0 -> k (.tup [aInts (zs7 x),iv 0]) H) : FnC lv Tryz.prog 51 H [x.av] k kp:=by
 have hmn : ∀ L : List AObj,(H ++ L)[0]? = some .main:=fun L => zay hmain;refine zlA (rs:=[.tmp 2,.tmp 3]) (nt:=29) Tryz.f51 fun hH hA => ?_;simp only [zlW,Nat.reduceAdd,Ring.av];refine zl5 ?_;simp only [seval,Ring.l];refine zfK ?_;refine zl6 ((f87_c hnr (hmn _) hs zbA (fun hz => ?_) (fun hz => ?_)))
 ·(try simp only [seval]);refine zfK ?_;refine zlu ?_;refine ⟨fun h => ?_,fun h => absurd (by simpa using h) hz⟩;refine zfK ?_;refine zlz ?_;exact endA hH (Wk.refl _) (by simp [zap,zaD,zbh]) (h1 hz)
 ·(try simp only [seval]);refine zfK ?_;have hx:=zbp hz;have hlk : x.l ++ zlV x = iv x.cuts :: zl8 x.keys :: zlL x.locks :: zl4 x.tries :: zlV x:=rfl;refine zlu ?_;refine zly ?_;refine zl5 ?_;simp only [seval,List.mapM_cons,List.mapM_nil,Option.pure_def,Option.bind_eq_bind,hlk,zl4];have hx6:=hx.tries;refine zl6 ((f115_c (by omega) ?_));(try simp only [seval]);refine zl6 ((f113_c (P:=fun xs => xs.length <= 6) (by omega) (zrn (r:=H.length + 1) hx (by simp only [seval] <;> rfl)) (fun k hk y hy => by rw [(zfE _ (by omega) k (by omega) y hy).1]; omega) ?_));(try simp only [seval]);refine zfK ?_;refine zlz ?_;exact endA hH (Wk.refl _) (by simp [zap,zaD,zbi]) (h2 hz)
def askR (x : Ring) : Option (Nat × Nat × Nat):=(askM x).filter fun t => decide (t.2.2 < (zlD x []).length)
theorem cnt_le (x : Ring) (k n : Nat) (ts : List (List Int × Nat)) : cntM x k n ts <= ts.length:=List.length_filter_le _ _
theorem f55_c {x : Ring} (hnr : zmA lv) (hmain : H[0]? = some .main) (hs : x.Small) (h1 : zlS x none ≠ 0 -> k (.tup [iv 0,iv 0,iv 0,iv (zlS x none)]) H) (h2 : zlS x none = 0 -> askR x = none -> k (.tup [iv 0,iv 0,iv 0,iv 11]) H) (h3 : zlS x none = 0 -> ∀ a b c : Nat,askR x = some (a,b,c) -> k (.tup [iv a,iv b,iv c,iv 0]) H) : FnC lv Tryz.prog 55 H [x.av] k kp:=by
 have hmn : ∀ L : List AObj,(H ++ L)[0]? = some .main:=fun L => zay hmain;refine zlA (rs:=[.tmp 2,.tmp 3,.tmp 4,.tmp 5]) (nt:=81) Tryz.f55 fun hH hA => ?_;simp only [zlW,Nat.reduceAdd,Ring.av];refine zl5 ?_;simp only [seval,Ring.l];refine zfK ?_;refine zl6 ((f99_c hnr (hmn _) hs zbA (fun hz => ?_) (fun hz => ?_)))
 ·(try simp only [seval]);refine zfK ?_;refine zlu ?_;refine ⟨fun h => ?_,fun h => absurd (by simpa using h) hz⟩;refine zfK ?_;refine zlz ?_;exact endA hH (Wk.refl _) (by simp [zap,zaD]) (h1 hz)
 ·(try simp only [seval]);refine zfK ?_;obtain ⟨ho,hne⟩:=zaP.1 hz;have hx:=zbp ho;have hx4:=hx.keys;have hx5:=hx.locks;have hle:=zbl hx [];have hlk : x.l ++ zlV x = iv x.cuts :: zl8 x.keys :: zlL x.locks :: zl4 x.tries :: zlV x:=rfl;refine zlu ?_;refine zly ?_;refine zfK ?_;refine zl5 ?_;simp only [seval,List.mapM_cons,List.mapM_nil,Option.pure_def,Option.bind_eq_bind];refine zl5 ?_;simp only [seval,hlk,zl8];have hsz : ((List.map zlH (zlD x [])).toArray.size : Int) = ((zlD x []).length : Nat):=by simp
  refine zlC ?_;refine zaB x.keys.length (fun i : Nat => [(31,iv i)]) (fun i => H ++ [.cells x.l 26,.cells x.l 26,setObj (zlD x []) (zlK x).length,znb (zo1 x i 0)]) (fun _ => True) (fun _ _ => rfl) (by simp only [seval]; simp [zaf,Wk.refl]) rfl (fun _ _ _ => by simp) trivial (fun hHs hLt i hin hi R hR => ?_);refine zfK ?_;refine zlu ?_;refine ⟨fun h => ?_,fun h => ?_⟩
  ·
   refine zly ?_;refine zfK ?_;refine zl5 ?_;simp only [seval,zlL];refine zlC ?_;refine zaB x.locks.length (fun j : Nat => [(40,iv j)]) (fun j => H ++ [.cells x.l 26,.cells x.l 26,setObj (zlD x []) (zlK x).length,znb (zo1 x i j)]) (fun _ => True) (fun _ _ => rfl) (by simp only [seval]; simp [zaf,Wk.refl]) rfl (fun _ _ _ => by simp) trivial (fun hHs2 hLt2 j hjn hj R2 hR2 => ?_);refine zfK ?_;refine zlu ?_;refine ⟨fun h2 => ?_,fun h2 => ?_⟩
   ·
    have hil : i < x.keys.length:=(by omega);have hjl : j < x.locks.length:=(by omega);refine zly ?_;refine zfK ?_;refine zfK ?_;refine zl6 ((f102_c (x:=x) (ts:=zlD x []) (ck:=(zlK x).length) (by simp only [seval] <;> rfl) (zbm x []) (zba x []) (by omega) (by omega) (by omega) (zbt hx []) ?_));(try simp only [seval]);have hcl:=cnt_le x i j (zlD x []);have hw : IntKind.i64.wrap (((zlD x []).length : Int) - (cntM x i j (zlD x []) : Nat)) = ((zlD x []).length : Int) - (cntM x i j (zlD x []) : Nat):=zau _ (by omega);have hmx : (if ((cntM x i j (zlD x []) : Nat) : Int) < ((zlD x []).length : Int) - (cntM x i j (zlD x []) : Nat) then ((zlD x []).length : Int) - (cntM x i j (zlD x []) : Nat) else ((cntM x i j (zlD x []) : Nat) : Int)) = (((zpz x i j).2.2 : Nat) : Int):=by
     simp only [zpz];split <;> omega
    refine zl5 ?_;simp only [seval,zaL,hsz,hw,hmx];refine zl6 ((f133_c (id:=H.length + 3) (o:=zo1 x i j) (a:=i) (b:=j) (c:=(zpz x i j).2.2) (by simp only [seval] <;> rfl) ?_));have hj1 : IntKind.i64.wrap ((j : Int) + 1) = ((j + 1 : Nat) : Int):=(by rw [zau _ (by omega)]; rfl);rw [zbR H _ 3,<- show zpz x i j = (i,j,(zpz x i j).2.2) from rfl,<- zjC];(try simp only [seval]);refine zl5 ?_;simp only [seval,hj1];refine hR2 _ ⟨hjl,trivial,?_⟩;exact zlJ
   ·
    have hjx : j = x.locks.length:=(by omega);subst hjx;refine zlF ?_;have hi1 : IntKind.i64.wrap ((i : Int) + 1) = ((i + 1 : Nat) : Int):=(by rw [zau _ (by omega)]; rfl);refine zl5 ?_;simp only [seval,hi1];refine hR _ ⟨by omega,trivial,?_⟩;rw [<- zjD];exact zlJ
  ·
   have hix : i = x.keys.length:=(by omega);subst hix;refine zlF ?_;rw [show zo1 x x.keys.length 0 = askM x from rfl];cases hm : askM x with
   | none =>
    simp only [znb];refine zfK ?_;refine zlu ?_;refine zfK ?_;refine zlz ?_;exact endA hH (Wk.refl _) (by simp [zap,zaD]) (h2 hz (by simp [askR,hm]))
   | some u =>
    obtain ⟨a,b,c⟩:=u;simp only [znb];refine zl5 ?_;simp only [seval,zaL,hsz];refine zlu ?_;refine ⟨fun h5 => ?_,fun h5 => ?_⟩
    ·have hc : (zlD x []).length <= c:=(by simpa using h5);refine zfK ?_;refine zlz ?_;exact endA hH (Wk.refl _) (by simp [zap,zaD]) (h2 hz (by simp [askR,hm]; omega))
    ·have hc : c < (zlD x []).length:=(by simpa using h5);refine zly ?_;refine zma 11 ?_;simp only [seval];refine zlz ?_;exact endA hH (Wk.refl _) (by simp [zap,zaD]) (h3 hz a b c (by simp [askR,hm]; omega))
theorem zfj {P : Program} {t : TypeId} {op : BinOp} (hop : op = .eql \/ op = .neq) (ht : P.underlying t = some .bool) (hg : P.eqGuardType P.depth t = false) (x y : Bool) (k : AV -> Prop) : ABin P op t (.val (.bool x)) (.val (.bool y)) k = k (.val (.bool (if op == .neq then !(x == y) else (x == y)))):=by
 have hsure : Sure P (Op.equal t (.bool x) (.bool y)) (x == y):=zjZ (d:=9999) ht;have e : ABin P op t (.val (.bool x)) (.val (.bool y)) k = ((op = .eql \/ op = .neq) /\ one1 (AV.raw (.val (.bool x))) fun X => one1 (AV.raw (.val (.bool y))) fun Y => zpg X Y = true /\ P.eqGuardType P.depth t = false /\ ∃ e,Sure P (Op.equal t X Y) e /\ k (.val (.bool (if op == .neq then !e else e)))):=rfl;rw [e];apply propext;constructor
 ·rintro ⟨_,_,_,b,h1,h2⟩
  rw [hsure.uniq h1]; exact h2
 ·intro h;exact ⟨hop,rfl,hg,_,hsure,h⟩
theorem F.u4 : Tryz.prog.underlying 4 = some .bool:=by kernel_rfl
theorem F.g4 : Tryz.prog.eqGuardType Tryz.prog.depth 4 = false:=by kernel_rfl
theorem B4.eql (x y : Bool) (k : AV -> Prop) : ABin Tryz.prog .eql 4 (.val (.bool x)) (.val (.bool y)) k = k (.val (.bool (x == y))):=zfj (.inl rfl) F.u4 F.g4 x y k
theorem B4.neq (x y : Bool) (k : AV -> Prop) : ABin Tryz.prog .neq 4 (.val (.bool x)) (.val (.bool y)) k = k (.val (.bool (x != y))):=zfj (.inr rfl) F.u4 F.g4 x y k
attribute [seval] B4.eql B4.neq
theorem zdk {ts vs : List (List Int × Nat)} {y : List Int × Nat} (h : (vs.map (·.2)).Nodup /\ ∀ z ∈ vs,z ∈ ts) (hy : y ∈ ts) (hn : y.2 ∉ vs.map (·.2)) : ((vs ++ [y]).map (·.2)).Nodup /\ ∀ z ∈ vs ++ [y],z ∈ ts:=by
 refine ⟨?_,fun z hz => ?_⟩
 ·rw [List.map_append,List.nodup_append];refine ⟨h.1,by simp,fun a ha b hb => ?_⟩;simp at hb; subst hb;intro e; subst e; exact hn ha
 ·rcases List.mem_append.1 hz with h' | h'
  ·exact h.2 z h'
  ·rw [List.mem_singleton.1 h']; exact hy
theorem zdl {ts vs : List (List Int × Nat)} {y : List Int × Nat} (h : ((vs ++ [y]).map (·.2)).Nodup /\ ∀ z ∈ vs ++ [y],z ∈ ts) : ts.length - (vs ++ [y]).length < ts.length - vs.length:=by
 have h1 : (vs ++ [y]).Nodup:=zbo _ h.1;have:=h1.length_le_of_subset h.2;simp at this ⊢; omega
theorem zdm (vs : List (List Int × Nat)) (y : List Int × Nat) : ((vs.map (·.2)).toArray.push y.2) = ((vs ++ [y]).map (·.2)).toArray:=by simp
theorem u8z (t : List Int) (k : Nat) {w : Int} (h : t[k]? = some w) : t.getD k 0 = w:=by rw [List.getD_eq_getElem?_getD,h]; rfl
def zmy (x : Ring) (t : List Int) (k : Nat) : Nat:=zmf x k (t.getD k 0).toNat
theorem zdn {x : Ring} (hl4 : x.locks.length <= 8) (k w : Nat) : zmf x k w < 256:=by
 unfold zmf;split
 ·exact zre (zb5 _ _ _ _) hl4
 ·decide
def zn9 (x : Ring) (t : List Int) (keys : List Int) (a b : Nat) : Bool:=keys.any fun k => (zmy x t k.toNat).testBit a != (zmy x t k.toNat).testBit b
theorem zsP {α : Type} {f : α -> Bool} {l : List α} {i : Nat} {a : α} (h : l[i]? = some a) : (l.take (i + 1)).any f = ((l.take i).any f || f a):=by
 obtain ⟨hj,rfl⟩:=List.getElem?_eq_some_iff.1 h;rw [List.take_succ_eq_append_getElem hj,List.any_append]; simp
theorem any_of {α : Type} {f : α -> Bool} {l : List α} {i : Nat} {a : α} (h : l[i]? = some a) (hf : f a = true) : l.any f = true:=List.any_eq_true.2 ⟨a,zas h,hf⟩
theorem f117_c {x : Ring} {t keys : List Int} {e : End} {a b : Nat} (hl4 : x.locks.length <= 8) (ht : t.length = 4) (htb : ∀ w ∈ t,0 <= w /\ w <= 2) (hkeys : ∀ q ∈ keys,0 <= q /\ q < 4) (hkl : keys.length < 2 ^ 30) (hk : k (bv (zn9 x t keys a b)) H) : FnC lv Tryz.prog 117 H [.rp (x.l ++ zlV x),.agg (t.map iv),.sl keys.length (keys.map iv) e,iv a,iv b] k kp:=by
 refine zlA (rs:=[.tmp 10]) (nt:=38) Tryz.f117 fun hH hA => ?_;simp only [zlW,Nat.reduceAdd];refine zfK ?_;refine zfK ?_;refine zlC ?_;refine zmt keys.length (fun i : Nat => [(16,iv i)]) (fun _ => H ++ [.cells (t.map iv) 132]) (fun i => (keys.take i).any (fun q => (zmy x t q.toNat).testBit a != (zmy x t q.toNat).testBit b) = false) (by simp) (fun hHs hLt i hin hi R hR => ?_);refine zfK ?_;refine zlu ?_;refine ⟨fun h => ?_,fun h => ?_⟩
 ·
  have hil : i < keys.length:=by omega
  obtain ⟨q,hq⟩:=zaE hil;obtain ⟨hq0,hq4⟩:=hkeys q (zas hq);obtain ⟨kn,rfl⟩ : ∃ m : Nat,q = m:=⟨q.toNat,by omega⟩;obtain ⟨w,hw⟩:=zaE (xs:=t) (i:=kn) (by omega);have hwb:=htb w (zas hw);obtain ⟨wn,rfl⟩ : ∃ n : Nat,w = n:=⟨w.toNat,by omega⟩;have b4 : (0 <= (kn : Int) /\ (kn : Int) < 4) = True:=by simp; omega
  have b3 : (0 <= (wn : Int) /\ (wn : Int) < 3) = True:=by simp; omega
  have hm:=zdn hl4 kn wn;have hin : zmy x t (kn : Int).toNat = zmf x kn wn:=by unfold zmy; rw [Int.toNat_natCast,u8z t kn hw]; rfl
  have sh4 : AV.shift 4 (.rp (x.l ++ zlV x)) = some (.rp (zlV x)):=by simp [Ring.l,zdf,zdg]
  refine zly ?_;refine zl5 ?_;simp only [seval,za2 hq,zaz hil];refine zma 10 ?_;simp only [seval,b4,b3,zbf hw,sh4,zcH x (show kn < 4 by omega),zb0 x (show kn < 4 by omega) (show wn < 3 by omega)];refine zfK ?_;refine zl6 ((f135_c hm ?_));(try simp only [seval]);refine zl6 ((f135_c hm ?_));(try simp only [seval]);refine zlu ?_;refine ⟨fun h2 => ?_,fun h2 => ?_⟩
  ·
   refine zfK ?_;refine zlz ?_;have hr : zn9 x t keys a b = true:=any_of hq (by rw [hin]; simpa using h2);rw [hr] at hk;exact endA hH (Wk.refl _) (by simp [zap]) hk
  ·
   refine zly ?_;have hi1 : IntKind.i64.wrap ((i : Int) + 1) = ((i + 1 : Nat) : Int):=(by rw [zau _ (by omega)]; rfl);refine zl5 ?_;simp only [seval,hi1];refine hR _ ⟨hil,?_,?_⟩
   ·rw [zsP hq,hi,hin]; simpa using h2
   ·exact zlJ
 ·
  have hix : i = keys.length:=by omega
  subst hix;refine zlF ?_;refine zfK ?_;refine zlz ?_;rw [List.take_length] at hi;have hr : zn9 x t keys a b = false:=hi;rw [hr] at hk;exact endA hH (Wk.refl _) (by simp [zap]) hk
end
end Go.Gg
