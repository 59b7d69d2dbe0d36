/- A part of the proof. -/
import Derived.Test.YtfalifflpppchaaDoorTopStackedCard1
set_option linter.all false
set_option maxRecDepth 4000
set_option maxHeartbeats 1000000
namespace Go.Gg
open Go.Conc
theorem Conc.setLoop {E : Env} {V : View} {H : List AObj} (hc : Conc E V H) {id r fn nt df : Nat} {st : LoopState} {pe : Option Code} {T : List (Nat × AV)} {ps : Array Tmp} {asg body : Code} (hk : H[id]? = some (.loop r st pe fn T nt ps asg body df)) :
  E.blk id = r /\ V.role.chan ≠ some r /\ ∃ tmps, V.own r = some (.loop { state := st, pending := pe, fn, tmps, params := ps, assign := asg, body, defers := E.blk df }) /\ tmps.size = nt /\ TOk E T tmps /\
   ∀ st' pe', Conc E (V.upd r (.loop { state := st', pending := pe', fn, tmps, params := ps, assign := asg, body, defers := E.blk df })) (H.set id (.loop r st' pe' fn T nt ps asg body df)) := by
 obtain ⟨⟨tmps, p1, p2, p3⟩, p4, p5, p6⟩ := hc.obj id _ hk
 have hch := (hc.notGroup hk (b := E.blk id) rfl).2
 subst p6
 refine ⟨rfl, hch, tmps, p1, p2, p3, fun st' pe' => ?_⟩
 refine hc.turn id (.loop (E.blk id) st' pe' fn T nt ps asg body df) (Env.Le.refl E) hc.I (by simpa using hc.n) list_set_get rfl (fun _ _ _ => rfl) (fun b z hb hz => ⟨?_, fun _ => rfl⟩) ⟨⟨tmps, by simp [View.upd], p2, p3⟩, p4, p5, rfl⟩ (fun b h => .inl ⟨_, hk, h⟩)
 have : b ≠ E.blk id := fun e => hb _ hk (by rw [e]; rfl)
 simpa [View.upd, this] using hz
theorem Conc.setGone {E : Env} {V : View} {H : List AObj} (hc : Conc E V H) {id : Nat} (x : AObj) (hk : H[id]? = some x) (y : Obj) {b : Nat} (hb : blkOf E id x = some b) : Conc E (V.upd b y) (H.set id .gone) := by
 refine hc.turn id .gone (Env.Le.refl E) hc.I (by simpa using hc.n) list_set_get rfl (fun _ _ _ => rfl) (fun b' z hb' hz => ⟨?_, fun _ => rfl⟩) trivial (fun b h => by cases h)
 have : b' ≠ b := fun e => hb' _ hk (by rw [e]; exact hb)
 simpa [View.upd, this] using hz
def zipT : List Nat -> List AV -> List (Nat × AV) -> List (Nat × AV)
 | t :: ts, a :: zas, T => zipT ts zas ((t, a) :: T)
 | _, _, T => T
theorem zipT_ok {E : Env} {nt : Nat} : ∀ (ts : List Nat) (zas : List AV) (vs : List Value) (T : List (Nat × AV)) (tmps : Array Value), vs.length = zas.length -> (∀ (i : Nat) a, zas[i]? = some a -> Den E a (vs.getD i undef)) -> (∀ t ∈ ts, t < nt) -> tmps.size = nt -> TOk E T tmps ->
  TOk E (zipT ts zas T) ((ts.zip vs).foldl (fun tmps (x : Nat × Value) => tmps.setIfInBounds x.1 x.2) tmps) /\ ((ts.zip vs).foldl (fun tmps (x : Nat × Value) => tmps.setIfInBounds x.1 x.2) tmps).size = nt
 | [], zas, vs, T, tmps, _, _, _, hs, hT => by cases zas <;> cases vs <;> exact ⟨hT, hs⟩
 | t :: ts, [], [], T, tmps, _, _, _, hs, hT => ⟨hT, hs⟩
 | t :: ts, [], _ :: _, T, tmps, h, _, _, hs, hT => by cases h
 | t :: ts, _ :: _, [], T, tmps, h, _, _, hs, hT => by cases h
 | t :: ts, a :: zas, v :: vs, T, tmps, hl, hd, ht, hs, hT => by
  have h0 : Den E a v := by simpa using hd 0 a rfl
  have h1 : t < tmps.size := by rw [hs]; exact ht t (by simp)
  exact zipT_ok ts zas vs ((t, a) :: T) (tmps.setIfInBounds t v) (by simpa using hl) (fun i x hx => by simpa using hd (i + 1) x (by simpa using hx)) (fun x hx => ht x (by simp [hx])) (by simpa using hs) (hT.put h1 h0)
section
variable {lv : Bool} {P : Program}
def RoundE (id n : Nat) (k : AV -> List AObj -> Prop) : AEx -> AS -> Prop
 | .normal, s => ∃ r st pe fn T nt ps asg body df, s.H[id]? = some (.loop r st pe fn T nt ps asg body df) /\ EndOf n (s.H.set id (.loop r .ready none fn T nt ps asg body df)) (.val (.bool true)) k
 | .ret, s => ∃ r st pe fn T nt ps asg body df, s.H[id]? = some (.loop r st pe fn T nt ps asg body df) /\ EndOf n (s.H.set id (.loop r .done (some .ret) fn T nt ps asg body df)) (.val (.bool false)) k
 | _, _ => False
def RoundB (lv : Bool) (P : Program) (l nt id n : Nat) (body : Code) (k : AV -> List AObj -> Prop) : AEx -> AS -> Prop
 | .normal, s => ∃ pe fn T nt' ps asg body' df, s.H[id]? = some (.loop l .ready pe fn T nt' ps asg body' df) /\ AWP lv P (some l) nt body ⟨s.T, s.H.set id (.loop l .busy pe fn T nt' ps asg body' df)⟩ (RoundE id n k)
 | _, _ => False
theorem callC_yield {l id fn nt df : Nat} {pe : Option Code} {T : List (Nat × AV)} {ps : Array Tmp} {asg body : Code} {H : List AObj} {args : List AV} {k kp : AV -> List AObj -> Prop} (hid : H[id]? = some (.loop l .ready pe fn T nt ps asg body df)) (hlen : args.length = ps.size) (hps : ps.all (· < nt) = true)
  (h : HOk H -> (∀ a ∈ args, Lt H.length a) -> AWP lv P (some l) nt asg ⟨zipT ps.toList args T, H⟩ (RoundB lv P l nt id H.length body k)) : CallC lv P (.fn (.yield l) [] []) H args k kp := by
 intro E V cv vs hc hd hds
 cases hd with
 | fn hs1 hs2 h1 h2 =>
  rename_i fa ca
  have e1 : fa = #[] := by apply Array.ext'; simpa using hs1
  subst e1
  have hlt : ∀ a ∈ args, Lt H.length a := fun a ha => by
   obtain ⟨i, hi⟩ := mem_get ha
   rw [<- hc.n]; exact (hds.2 i a hi).lt
  obtain ⟨hb, hch, tmps, ho, hsz, hT, _⟩ := hc.setLoop hid
  unfold Deferred.ofValue
  refine semOk_bind (semOk_pure' ?_)
  unfold invoke
  dsimp only
  unfold Instr.yield Instr.getLoop
  refine semOk_bind (semOk_bind ?_)
  unfold getObj
  refine semOk_getObj ho rfl rfl hch (semOk_pure ?_)
  dsimp only
  refine semOk_pure' ?_
  have hvs : (#[] ++ vs).size = ps.size := by simp [hds.1, hlen]
  rw [if_neg (by simp [hds.1, hlen])]
  refine semOk_pure' ?_
  show Runs lv P _ V (RetC E V k kp)
  have hz := zipT_ok (nt := nt) ps.toList args vs.toList T tmps (by simpa using hds.1) (fun i a e => by
   have := hds.2 i a e
   simpa [Array.getD_eq_getD_getElem?, List.getD_eq_getElem?_getD] using this) (fun t ht => by
    have := (Array.all_eq_true_iff_forall_mem.1 hps) t (by simpa using ht)
    simpa using this) hsz hT
  have efold : (ps.zip (#[] ++ vs)).foldl (fun tmps (x : Nat × Value) => tmps.setIfInBounds x.1 x.2) tmps = (ps.toList.zip vs.toList).foldl (fun tmps (x : Nat × Value) => tmps.setIfInBounds x.1 x.2) tmps := by
   rw [<- Array.foldl_toList, Array.toList_zip]; simp
  have efold' : Array.foldl (fun tmps x => match x with | (t, a) => tmps.setIfInBounds t a) tmps (ps.zip (#[] ++ vs)) = (ps.toList.zip vs.toList).foldl (fun tmps (x : Nat × Value) => tmps.setIfInBounds x.1 x.2) tmps := efold
  rw [efold']
  refine runs_round ?_
  refine h hc.hok hlt E V _ _ ⟨hc, hz.1, hz.2⟩ fun ae e E' V' a' s' hk hat' he hΦ => ?_
  cases ae <;> cases e <;> first
   | exact he.elim
   | exact hΦ.elim
   | skip
  obtain ⟨pe', fn', T', nt', ps', asg', body', df', hid', hw⟩ := hΦ
  obtain ⟨hb', hch', tmps', ho', hsz', hT', hset⟩ := hat'.conc.setLoop hid'
  refine ⟨_, ho', hch', rfl, ?_⟩
  refine hw E' _ a' _ ⟨hset .busy pe', hat'.tok, hat'.size⟩ fun ae e E'' V'' a'' s'' hk2 hat'' he2 hΦ2 => ?_
  have fin : ∀ (st' : LoopState) (pe2 : Option Code) (b : Bool), (∃ r st pe fn T nt ps asg body df, s''.H[id]? = some (.loop r st pe fn T nt ps asg body df) /\ EndOf H.length (s''.H.set id (.loop r st' pe2 fn T nt ps asg body df)) (.val (.bool b)) k) ->
    ∃ r, V''.own l = some (.loop r) /\ V''.role.chan ≠ some l /\ RetC E V k kp (.ret (.bool b)) (V''.upd l (.loop { r with state := st', pending := pe2 })) := by
   intro st' pe2 b ⟨r, st, pe3, fn3, T3, nt3, ps3, asg3, body3, df3, hid3, hend⟩
   obtain ⟨hb3, hch3, tmps3, ho3, hsz3, hT3, hset3⟩ := hat''.conc.setLoop hid3
   have hlt : id < E.n := by rw [hc.n]; exact (List.getElem?_eq_some_iff.1 hid).1
   have hle : E.Le E'' := hk.le.trans hk2.le
   have hr : r = l := by rw [<- hb3, <- hb]; exact hle.blk id hlt
   subst hr
   obtain ⟨x, E4, H4, q1, q2, q3, q4⟩ := endOf_out hend (hset3 st' pe2) (.val _) hle hc.n
   exact ⟨_, ho3, hch3, x, E4, H4, q1, hk2.role.trans hk.role, hk2.deaf.trans hk.deaf, q2, q3, q4⟩
  cases ae <;> cases e <;> first
   | exact he2.elim
   | exact hΦ2.elim
   | exact fin .ready none true hΦ2
   | exact fin .done (some .ret) false hΦ2
def Marks (E : Env) (ms : List Nat) (l : List Deferred) : Prop := l = ms.map (fun i => ({ target := .collected (E.blk i), args := #[] } : Deferred)) /\ ∀ i ∈ ms, i < E.n
theorem Marks.mono {E E' : Env} (h : E.Le E') {ms : List Nat} {l : List Deferred} (k : Marks E ms l) : Marks E' ms l :=
 ⟨by rw [k.1]; exact List.map_congr_left fun i hi => by rw [h.blk i (k.2 i hi)], fun i hi => Nat.lt_of_lt_of_le (k.2 i hi) h.n⟩
def AWPm (lv : Bool) (P : Program) (nt : Nat) (c : Code) (s : AS) (ms : List Nat) (Φ : AEx -> AS -> List Nat -> Prop) : Prop :=
 ∀ (E : Env) (V : View) (a : Act) (Q : Ex -> Act -> View -> Prop), At E V s a nt -> Marks E ms a.defers -> (∀ ae e E' V' a' s' ms', KeptD E E' V V' a a' -> At E' V' s' a' nt -> Marks E' ms' a'.defers -> ExDen E' ae e -> Φ ae s' ms' -> Q e a' V') -> WP lv P none c Q a V
variable {s : AS} {ms : List Nat} {nt : Nat}
theorem awpm_of {c : Code} {Φ : AEx -> AS -> List Nat -> Prop} (h : AWP lv P none nt c s fun e s' => Φ e s' ms) : AWPm lv P nt c s ms Φ := fun E V a Q hat hd hQ =>
 h E V a Q hat fun ae e E' V' a' s' hk hat' he hΦ => hQ ae e E' V' a' s' ms hk.d hat' (by rw [hk.defers]; exact hd.mono hk.le) he hΦ
def AEx.thenM (next : AS -> List Nat -> Prop) (Φ : AEx -> AS -> List Nat -> Prop) : AEx -> AS -> List Nat -> Prop
 | .normal, s, ms => next s ms
 | e, s, ms => Φ e s ms
theorem awpm_seq {x y : Code} {Φ : AEx -> AS -> List Nat -> Prop} (h : AWPm lv P nt x s ms (AEx.thenM (fun s' ms' => AWPm lv P nt y s' ms' Φ) Φ)) : AWPm lv P nt (.seq x y) s ms Φ := by
 intro E V a Q hat hd hQ
 refine wp_seq (h E V a _ hat hd fun ae e E' V' a' s' ms' hk hat' hd' he hΦ => ?_)
 cases ae <;> cases e <;> first
  | exact he.elim
  | exact hΦ E' V' a' Q hat' hd' fun ae e E'' V'' a'' s'' ms'' hk' hat'' hd'' he' hΦ' => hQ ae e E'' V'' a'' s'' ms'' (hk.trans hk') hat'' hd'' he' hΦ'
  | exact hQ _ _ E' V' a' s' ms' hk hat' hd' he hΦ
theorem awpm_seq1 {x y : Code} {Φ : AEx -> AS -> List Nat -> Prop} (h : AWP lv P none nt x s (AEx.then (fun s' => AWPm lv P nt y s' ms Φ) fun e s' => Φ e s' ms)) : AWPm lv P nt (.seq x y) s ms Φ := by
 refine awpm_seq (awpm_of (h.mono fun e s' hs => ?_))
 cases e <;> exact hs
def PendQ (Φ : AEx -> AS -> List Nat -> Prop) (s : AS) (ms : List Nat) : Option Code -> Prop
 | none => Φ .normal s ms
 | some .ret => Φ .ret s ms
 | some (.exit i) => Φ (.exit i) s ms
 | some (.goto i) => Φ (.goto i) s ms
 | _ => False
theorem awpm_range {f : Operand} {ps : Array Tmp} {asg body : Code} {fv : AV} {Φ : AEx -> AS -> List Nat -> Prop} (hf : s.ev f = some fv)
  (h : ∀ l fn : Nat, CallC lv P fv (s.H ++ [.obj (.deferred (some [])), .loop l .ready none fn s.T nt ps asg body s.H.length]) [.fn (.yield l) [] []]
   (fun _ H' => ∃ st pe fn' T' nt' ps' asg' body' df', H'[s.H.length + 1]? = some (.loop l st pe fn' T' nt' ps' asg' body' df') /\ st ≠ .busy /\ PendQ Φ ⟨s.T, H'.set (s.H.length + 1) .gone⟩ (s.H.length :: ms) pe)
   (fun pv H' => Φ (.panic pv) ⟨s.T, H'⟩ (s.H.length :: ms))) : AWPm lv P nt (.rangeFunc f ps asg body) s ms Φ := by
 intro E V a Q hat hm hQ
 refine wp_range fun fn d l hd hl => ?_
 have hc := hat.conc
 have hc1 : Conc (E.add d V.imm) (V.upd d (.deferred (some []))) (s.H ++ [.obj (.deferred (some []))]) := by
  refine hc.add hd _ ⟨?_, rfl, rfl, fun o => ?_⟩ (fun b e => ?_)
  ·rw [Env.add_blk]; simp [View.upd]
  ·rw [Env.add_blk]; exact hd.2 o
  ·simp only [blkOf, Env.add_blk, Option.some.injEq] at e; exact e.symm
 have hle1 : E.Le (E.add d V.imm) := E.le_add d (fun b o v h => by rw [<- hc.I]; exact h)
 have hbd : (E.add d V.imm).blk s.H.length = d := by rw [<- hc.n]; exact E.add_blk d _
 let E1 := E.add d V.imm
 let V1 := V.upd d (.deferred (some []))
 have hn1 : E1.n = s.H.length + 1 := by rw [hc1.n]; simp
 have hle2 : E1.Le (E1.add l V1.imm) := E1.le_add l (fun b o v h => by rw [<- hc1.I]; exact h)
 have hc2 : Conc (E1.add l V1.imm) (V1.upd l (.loop { state := .ready, pending := none, fn, tmps := a.tmps, params := ps, assign := asg, body, defers := d })) ((s.H ++ [.obj (.deferred (some []))]) ++ [.loop l .ready none fn s.T nt ps asg body s.H.length]) := by
  refine hc1.add hl _ ⟨⟨a.tmps, ?_, hat.size, (hat.tok.mono hle1).mono hle2⟩, ?_, fun o => ?_, ?_⟩ (fun b e => ?_)
  ·have e : (E1.add l V1.imm).blk s.H.length = d := by rw [hle2.blk s.H.length (by rw [hn1]; omega)]; exact hbd
   rw [e, Env.add_blk]; simp [View.upd]
  ·show s.H.length < E1.n + 1; omega
  ·rw [Env.add_blk]; exact hl.2 o
  ·exact Env.add_blk _ _ _
  ·simp only [blkOf, Env.add_blk, Option.some.injEq] at e; exact e.symm
 have hle : E.Le (E1.add l V1.imm) := hle1.trans hle2
 have hbl : (E1.add l V1.imm).blk (s.H.length + 1) = l := by rw [<- hn1]; exact E1.add_blk l _
 have hbd2 : (E1.add l V1.imm).blk s.H.length = d := by rw [hle2.blk s.H.length (by rw [hn1]; omega)]; exact hbd
 rw [List.append_assoc] at hc2
 have hm2 : ∀ E', (E1.add l V1.imm).Le E' -> Marks E' (s.H.length :: ms) (mark a d).defers := fun E' hE => by
  refine Marks.mono hE ⟨?_, fun i hi => ?_⟩
  ·have := (hm.mono hle).1
   simp only [mark, List.map_cons, hbd2]
   rw [<- this]
  ·rcases List.mem_cons.1 hi with rfl | hi
   ·show _ < E1.n + 1; omega
   ·exact Nat.lt_of_lt_of_le (hm.2 i hi) hle.n
 have hdf := Den.ev hat.tok hf
 have hcall := h l fn (E1.add l V1.imm) (V1.upd l (.loop { state := .ready, pending := none, fn, tmps := a.tmps, params := ps, assign := asg, body, defers := d })) (a.eval f) #[.func (.yield l) #[] #[]] hc2 (hdf.mono hle) ⟨rfl, fun i x hx => by
  match i, hx with
  | 0, hx => cases hx; exact .fn rfl rfl (by simp) (by simp)⟩
 have key : ∀ o V', RetC (E1.add l V1.imm) (V1.upd l (.loop { state := .ready, pending := none, fn, tmps := a.tmps, params := ps, assign := asg, body, defers := d }))
   (fun _ H' => ∃ st pe fn' T' nt' ps' asg' body' df', H'[s.H.length + 1]? = some (.loop l st pe fn' T' nt' ps' asg' body' df') /\ st ≠ .busy /\ PendQ Φ ⟨s.T, H'.set (s.H.length + 1) .gone⟩ (s.H.length :: ms) pe)
   (fun pv H' => Φ (.panic pv) ⟨s.T, H'⟩ (s.H.length :: ms)) o V' -> RangeR l d Q a o V' := by
  intro o V' hr
  cases o with
  | ret v =>
   obtain ⟨av, E', H', hE, hro, hde, _, hc', st, pe, fn', T', nt', ps', asg', body', df', hid, hst, hp⟩ := hr
   obtain ⟨hb', hch', tmps', ho', hsz', hT', hset⟩ := hc'.setLoop hid
   refine ⟨_, ho', hch', hst, ?_⟩
   have hg : Conc E' (V'.upd l (.loop { state := .exhausted, pending := pe, fn := fn', tmps := tmps', params := ps', assign := asg', body := body', defers := E'.blk df' })) (H'.set (s.H.length + 1) .gone) := hc'.setGone _ hid _ (by simp only [blkOf, hb'])
   have hat' : At E' (V'.upd l (.loop { state := .exhausted, pending := pe, fn := fn', tmps := tmps', params := ps', assign := asg', body := body', defers := E'.blk df' })) ⟨s.T, H'.set (s.H.length + 1) .gone⟩ (mark a d) nt := ⟨hg, hat.tok.mono (hle.trans hE), hat.size⟩
   have hkd : KeptD E E' V (V'.upd l (.loop { state := .exhausted, pending := pe, fn := fn', tmps := tmps', params := ps', assign := asg', body := body', defers := E'.blk df' })) a (mark a d) := ⟨hle.trans hE, rfl, hro, hde⟩
   dsimp only
   match pe, hp, hat', hkd with
   | none, hp, hat', hkd => exact hQ .normal .normal E' _ _ _ _ hkd hat' (hm2 E' hE) trivial hp
   | some .ret, hp, hat', hkd => exact hQ .ret .ret E' _ _ _ _ hkd hat' (hm2 E' hE) trivial hp
   | some (.exit i), hp, hat', hkd => exact hQ (.exit i) (.exit i) E' _ _ _ _ hkd hat' (hm2 E' hE) rfl hp
   | some (.goto i), hp, hat', hkd => exact hQ (.goto i) (.goto i) E' _ _ _ _ hkd hat' (hm2 E' hE) rfl hp
  | panic ch =>
   obtain ⟨pv, v, E', H', rfl, hE, hro, hde, hden, hc', hp⟩ := hr
   exact hQ (.panic pv) (.panic _) E' V' (mark a d) ⟨s.T, H'⟩ _ ⟨hle.trans hE, rfl, hro, hde⟩ ⟨hc', hat.tok.mono (hle.trans hE), hat.size⟩ (hm2 E' hE) ⟨v, rfl, hden⟩ hp
 exact hcall.mono (fun nx V' hn => Nx.mono key hn) (fun v V' hr => key _ _ hr)
def UnwM (P : Program) (fn : Func) (R : Out -> View -> Prop) : List Deferred -> FrameMode -> Array Value -> View -> Prop
 | [], .returning, tmps, V => ∃ v, SemOk P V (results fn tmps) (fun x V' => x = v /\ V' = V) (fun _ _ => False) /\ R (.ret v) V
 | [], .panicking ch, _, V => R (.panic ch) V
 | d :: ds, md, tmps, V => (md matches .run) = false /\ ∃ b, d = { target := .collected b, args := #[] } /\ V.own b = some (.deferred (some [])) /\ V.role.chan ≠ some b /\ UnwM P fn R ds md tmps (V.upd b (.deferred none))
 | [], .run, _, _ => False
theorem unwM_sound {f : FuncId} {fn : Func} {kd : CallKind} {R : Out -> View -> Prop} (hf : P.funcs[f]? = some fn) {main : Bool} {J : View -> Goroutine -> Prop} (C : Closed lv P main J) {cs : List Frame} (hR : ∀ o V' fr', R o V' -> Leaves P fr' f kd o V' -> J V' (G fr' cs)) : ∀ (ds : List Deferred) (md : FrameMode) (V : View) (fr : Frame), fr.fn = f -> fr.kind = kd -> fr.mode = md -> fr.defers = ds -> UnwM P fn R ds md fr.tmps V -> J V (G fr cs)
 | [], .returning, V, fr, h1, h2, h3, h4, h => by
  obtain ⟨v, hs, hr⟩ := h
  exact hR _ _ _ hr ⟨h1, h4, h2, fn, hf, h3, hs⟩
 | [], .panicking ch, V, fr, h1, h2, h3, h4, h => hR _ _ _ h ⟨h1, h4, h2, fn, hf, h3⟩
 | [], .run, _, _, _, _, _, _, h => h.elim
 | d :: ds, md, V, fr, h1, h2, h3, h4, h => by
  obtain ⟨hm, b, rfl, ho, hch, hu⟩ := h
  refine C.step _ _ rfl fun w hw => ?_
  obtain ⟨es, w', V', k1, k2, k3⟩ := (semOk_takeDeferred (P := P) ho hch).runs hw
  rcases k3 with ⟨x, k3, rfl, rfl⟩ | ⟨_, _, hx⟩
  ·refine ⟨G { fr with defers := ds } cs, w', seen P fr.fn es, _, ?_, k1.seen P fr.fn, ?_⟩
   ·have e : ∀ main, stepG P main (G fr cs) w = unwind P main fr cs none w := fun main => by
     cases md with
     | run => cases hm
     | returning => simp [G, stepG, h3]
     | panicking ch => simp [G, stepG, h3]
    rw [e]
    simp only [unwind, h4]
    simp [Sem.runT_eq, k3, k2, GStep.after, G]
   ·exact unwM_sound hf C hR ds md _ { fr with defers := ds } h1 h2 h3 rfl hu
  ·exact hx.elim
def EndsM (P : Program) (fn : Func) (R : Out -> View -> Prop) : Ex -> Act -> View -> Prop
 | .normal, a, V | .ret, a, V => UnwM P fn R a.defers .returning a.tmps V
 | .panic ch, a, V => UnwM P fn R a.defers (.panicking ch) a.tmps V
 | _, _, _ => False
theorem body_of_wpM {f : FuncId} {fn : Func} {c : Code} {args : Array Value} {kd : CallKind} {V : View} {R : Out -> View -> Prop} (hk : kd ≠ .early) (hf : P.funcs[f]? = some fn) (hb : fn.body = some c)
  (h : WP lv P none c (EndsM P fn R) { tmps := args ++ Array.replicate (fn.ntmps - args.size) undef, defers := [] } V) : Body lv P f args kd V R := by
 intro main J C cs hR
 let b : Frame := { (default : Frame) with fn := f, kind := kd, roundOf := none }
 have henter : Frame.enter P f args kd = on b { tmps := args ++ Array.replicate (fn.ntmps - args.size) undef, defers := [] } [.code c] := by
  simp [Frame.enter, on, hf, hb, b]
 rw [henter]
 refine h main J C b [] cs hk rfl fun e a' V' q => ?_
 cases e with
 | normal => exact C.idle rfl (fun w => s_end rfl) (unwM_sound hf C hR _ _ _ _ rfl rfl rfl rfl q)
 | ret => intro k; exact C.idle rfl (fun w => s_ret rfl) (unwM_sound hf C hR _ _ _ _ rfl rfl rfl rfl q)
 | panic ch => intro todo; exact unwM_sound hf C hR _ _ _ _ rfl rfl rfl rfl q
 | exit id => exact q.elim
 | goto l => exact q.elim
def goneL : List Nat -> List AObj -> Option (List AObj)
 | [], H => some H
 | i :: ms, H => match H[i]? with
  | some (.obj (.deferred (some []))) => goneL ms (H.set i .gone)
  | _ => none
def FnEndM (P : Program) (rs : List ResultVar) (n : Nat) (k kp : AV -> List AObj -> Prop) : AEx -> AS -> List Nat -> Prop
 | .normal, s, ms | .ret, s, ms => one1 (goneL ms s.H) fun H' => one1 (resAll P ⟨s.T, H'⟩ rs) fun l => EndOf n H' (resTup l) k
 | .panic pv, s, ms => one1 (goneL ms s.H) fun H' => EndOf n H' pv kp
 | _, _, _ => False
theorem unwM_of {fn : Func} {R : Out -> View -> Prop} {tmps : Array Value} {md : FrameMode} (hm : (md matches .run) = false) : ∀ (ms : List Nat) (H H' : List AObj) (E : Env) (V : View) (l : List Deferred), goneL ms H = some H' -> Conc E V H -> Marks E ms l -> (∀ V', V'.role = V.role -> V'.deaf = V.deaf -> Conc E V' H' -> UnwM P fn R [] md tmps V') -> UnwM P fn R l md tmps V
 | [], H, H', E, V, l, hg, hc, hmk, hk => by
  cases hg
  have : l = [] := hmk.1
  subst this
  exact hk V rfl rfl hc
 | i :: ms, H, H', E, V, l, hg, hc, hmk, hk => by
  simp only [goneL] at hg
  split at hg
  ·rename_i hi
   obtain ⟨e, hlt⟩ := hmk
   simp only [List.map_cons] at e
   subst e
   obtain ⟨p1, p2, p3, p4⟩ := hc.obj i _ hi
   exact ⟨hm, _, rfl, p1, (hc.notGroup hi rfl).2, unwM_of hm ms _ H' E _ _ hg (hc.setGone _ hi _ rfl) ⟨rfl, fun j hj => hlt j (by simp [hj])⟩ fun V' h1 h2 h3 => hk V' h1 h2 h3⟩
  ·cases hg
theorem fnC_introM {f : FuncId} {fn : Func} {c : Code} {rs : List ResultVar} {nt : Nat} {H : List AObj} {args : List AV} {k kp : AV -> List AObj -> Prop} (hf : P.funcs[f]? = some fn) (hb : fn.body = some c) (hr : fn.results = rs.toArray) (hn : fn.ntmps = nt) (hargs : args.length <= nt)
  (h : HOk H -> (∀ a ∈ args, Lt H.length a) -> AWPm lv P nt c ⟨argsT 0 args, H⟩ [] (FnEndM P rs H.length k kp)) : FnC lv P f H args k kp := by
 intro E V vs hc hd
 have hlt : ∀ a ∈ args, Lt H.length a := fun a ha => by
  obtain ⟨i, hi⟩ := mem_get ha
  rw [<- hc.n]; exact (hd.2 i a hi).lt
 have hat := at_args (nt := nt) hc hd hargs
 refine body_of_wpM (by simp) hf hb ?_
 rw [hn]
 refine h hc.hok hlt E V _ _ hat ⟨rfl, by simp⟩ fun ae e E' V' a' s' ms' hk hat' hm' he hΦ => ?_
 have fin : FnEndM P rs H.length k kp .ret s' ms' -> UnwM P fn (RetC E V k kp) a'.defers .returning a'.tmps V' := fun hΦ => by
  obtain ⟨H', hg, hΦ⟩ := one1.out hΦ
  exact unwM_of rfl ms' _ H' E' V' _ hg hat'.conc hm' fun V'' h1 h2 h3 => ret_of (s' := ⟨s'.T, H'⟩) (a' := a') hr ⟨h3, hat'.tok, hat'.size⟩ hk.le hc.n (h1.trans hk.role) (h2.trans hk.deaf) hΦ
 cases ae <;> cases e <;> first
  | exact he.elim
  | exact fin hΦ
  | exact hΦ.elim
  | skip
 rename_i pv ch
 obtain ⟨v, hch, hden⟩ : ∃ v, ch = [{ v, recovered := false }] /\ Den E' pv v := he
 subst hch
 obtain ⟨H', hg, hΦ⟩ := one1.out hΦ
 refine unwM_of rfl ms' _ H' E' V' _ hg hat'.conc hm' fun V'' h1 h2 h3 => ?_
 obtain ⟨b, E'', H'', r1, r2, r3, r4⟩ := endOf_out hΦ h3 hden hk.le hc.n
 exact ⟨b, v, E'', H'', rfl, r1, h1.trans hk.role, h2.trans hk.deaf, r2, r3, r4⟩
end
def Env.frame (E : Env) (f : Nat -> Option Obj) : Env := { E with fr := f }
theorem Den.frame {E : Env} {a : AV} {v : Value} (h : Den E a v) (f : Nat -> Option Obj) : Den (E.frame f) a v := by
 induction h with
 | val x => exact .val x
 | agg hs _ ih => exact .agg hs ih
 | tup hs _ ih => exact .tup hs ih
 | sl b o cap g hc he h1 _ ih => exact .sl b o cap g hc (by cases he' : ‹End› <;> (subst he'; exact he)) h1 ih
 | nil he => exact .nil (by cases he' : ‹End› <;> (subst he'; exact he))
 | osl hi hcap => exact .osl (E := E.frame f) hi hcap
 | rp b o g h1 _ ih => exact .rp b o g h1 ih
 | op hi => exact .op (E := E.frame f) hi
 | fn hs1 hs2 _ _ ih1 ih2 => exact .fn hs1 hs2 ih1 ih2
 | ifc _ ih => exact .ifc ih
 | mp hi => exact .mp (E := E.frame f) hi
theorem Denl.frame {E : Env} {l : List AV} {cs : Array Value} (h : Denl E l cs) (f : Nat -> Option Obj) : Denl (E.frame f) l cs := ⟨h.1, fun i a e => (h.2 i a e).frame f⟩
theorem Denp.frame {E : Env} {l : List AV} {cs : Array Value} (h : Denp E l cs) (f : Nat -> Option Obj) : Denp (E.frame f) l cs := ⟨h.1, fun i a e => (h.2 i a e).frame f⟩
theorem TOk.frame {E : Env} {T : List (Nat × AV)} {tmps : Array Value} (h : TOk E T tmps) (f : Nat -> Option Obj) : TOk (E.frame f) T tmps := fun t a e => ⟨(h t a e).1, (h t a e).2.frame f⟩
theorem ObjOk.frame {E : Env} {V : View} {k : Nat} {x : AObj} (h : ObjOk E V k x) (f : Nat -> Option Obj) : ObjOk (E.frame f) V k x := by
 cases x with
 | cells l el => obtain ⟨⟨cs, h1, h2⟩, h3⟩ := h; exact ⟨⟨cs, h1, h2.frame f⟩, h3⟩
 | part p l el => obtain ⟨⟨cs, h1, h2, h4⟩, h3⟩ := h; exact ⟨⟨cs, h1, h2.frame f, h4⟩, h3⟩
 | own sz l el => obtain ⟨⟨cs, h1, h2, h4⟩, h3⟩ := h; exact ⟨⟨cs, h1, h2.frame f, h4⟩, h3⟩
 | tail n sz el => exact h
 | obj x => exact h
 | iter => exact h
 | loop => obtain ⟨⟨tmps, h1, h2, h3⟩, h4, h5⟩ := h; exact ⟨⟨tmps, h1, h2, h3.frame f⟩, h4, h5⟩
 | gone => trivial
 | main => exact h
section
variable {lv : Bool} {P : Program} {nt id : Nat} {ops : Array Oper} {s : AS} {E : Env} {V : View} {a : Act} {Q : Ex -> Act -> View -> Prop} {K : AS -> Prop}
end
section
variable {lv main : Bool} {P : Program} {J : View -> Goroutine -> Prop}
end
def Env.setMain (E : Env) (m : Bool) : Env := { E with main := m }
theorem Den.setMain {E : Env} {a : AV} {v : Value} (h : Den E a v) (m : Bool) : Den (E.setMain m) a v := by
 induction h with
 | val x => exact .val x
 | agg hs _ ih => exact .agg hs ih
 | tup hs _ ih => exact .tup hs ih
 | sl b o cap g hc he h1 _ ih => exact .sl b o cap g hc (by cases he' : ‹End› <;> (subst he'; exact he)) h1 ih
 | nil he => exact .nil (by cases he' : ‹End› <;> (subst he'; exact he))
 | osl hi hcap => exact .osl (E := E.setMain m) hi hcap
 | rp b o g h1 _ ih => exact .rp b o g h1 ih
 | op hi => exact .op (E := E.setMain m) hi
 | fn hs1 hs2 _ _ ih1 ih2 => exact .fn hs1 hs2 ih1 ih2
 | ifc _ ih => exact .ifc ih
 | mp hi => exact .mp (E := E.setMain m) hi
theorem Denl.setMain {E : Env} {l : List AV} {cs : Array Value} (h : Denl E l cs) (m : Bool) : Denl (E.setMain m) l cs := ⟨h.1, fun i a e => (h.2 i a e).setMain m⟩
theorem Denp.setMain {E : Env} {l : List AV} {cs : Array Value} (h : Denp E l cs) (m : Bool) : Denp (E.setMain m) l cs := ⟨h.1, fun i a e => (h.2 i a e).setMain m⟩
theorem TOk.setMain {E : Env} {T : List (Nat × AV)} {tmps : Array Value} (h : TOk E T tmps) (m : Bool) : TOk (E.setMain m) T tmps := fun t a e => ⟨(h t a e).1, (h t a e).2.setMain m⟩
theorem ObjOk.setMain {E : Env} {V : View} {k : Nat} {x : AObj} (h : ObjOk E V k x) (m : Bool) (hm : x = .main -> m = true) : ObjOk (E.setMain m) V k x := by
 cases x with
 | cells l el => obtain ⟨⟨cs, h1, h2⟩, h3⟩ := h; exact ⟨⟨cs, h1, h2.setMain m⟩, h3⟩
 | part p l el => obtain ⟨⟨cs, h1, h2, h4⟩, h3⟩ := h; exact ⟨⟨cs, h1, h2.setMain m, h4⟩, h3⟩
 | own sz l el => obtain ⟨⟨cs, h1, h2, h4⟩, h3⟩ := h; exact ⟨⟨cs, h1, h2.setMain m, h4⟩, h3⟩
 | tail n sz el => exact h
 | obj x => exact h
 | iter => exact h
 | loop => obtain ⟨⟨tmps, h1, h2, h3⟩, h4, h5⟩ := h; exact ⟨⟨tmps, h1, h2, h3.setMain m⟩, h4, h5⟩
 | gone => trivial
 | main => exact hm rfl
section
variable {lv : Bool} {P : Program} {nt id : Nat} {ops : Array Oper} {s : AS} {E : Env} {V : View} {a : Act} {Q : Ex -> Act -> View -> Prop} {N : Act -> View -> Prop} {o : Oper}
end
structure Env.Lo (E E' : Env) : Prop where
 I : ∀ b o v, E.I b o = some v -> E'.I b o = some v
 n : E.n <= E'.n
 blk : ∀ k, k < E.n -> E'.blk k = E.blk k
 ver : ∀ k, k < E.n -> E.ver k <= E'.ver k
 room : ∀ k v, k < E.n -> v <= E.ver k -> E'.room k v = E.room k v
theorem Env.Le.lo {E E' : Env} (h : E.Le E') : E.Lo E' := ⟨h.I, h.n, h.blk, h.ver, h.room⟩
theorem Env.Lo.refl (E : Env) : E.Lo E := (Env.Le.refl E).lo
theorem Env.Lo.trans {E E' E'' : Env} (h : E.Lo E') (k : E'.Lo E'') : E.Lo E'' :=
 ⟨fun b o v e => k.I b o v (h.I b o v e), Nat.le_trans h.n k.n, fun i hi => (k.blk i (Nat.lt_of_lt_of_le hi h.n)).trans (h.blk i hi), fun i hi => Nat.le_trans (h.ver i hi) (k.ver i (Nat.lt_of_lt_of_le hi h.n)),
  fun i v hi hv => (k.room i v (Nat.lt_of_lt_of_le hi h.n) (Nat.le_trans hv (h.ver i hi))).trans (h.room i v hi hv)⟩
theorem Env.Lo.le {E E' : Env} (h : E.Lo E') : E.Le ((E'.setMain E.main).frame E.fr) := ⟨h.I, h.n, h.blk, h.ver, h.room, rfl, rfl⟩
theorem Den.lo {E E' : Env} (h : E.Lo E') {a : AV} {v : Value} (d : Den E a v) : Den E' a v := by
 have := ((d.mono h.le).setMain E'.main).frame E'.fr
 exact this
theorem Env.Lo.cut {E E' : Env} (h : E.Lo E') {n : Nat} (hn : E.n <= n) : E.Lo { E' with n := n } := ⟨h.I, hn, h.blk, h.ver, h.room⟩
def Env.bare (E : Env) : Env := ((({ E with n := 0 } : Env).setMain false).frame fun _ => none)
theorem Den.bare {E : Env} {a : AV} {v : Value} (h : Den E a v) (hl : Lt 0 a) : Den E.bare a v := ((h.trim hl).setMain false).frame _
section
variable {lv : Bool} {P : Program} {s : AS} {ms : List Nat} {nt : Nat}
def AEx.blockM (id : Nat) (Φ : AEx -> AS -> List Nat -> Prop) : AEx -> AS -> List Nat -> Prop
 | .exit i, s, ms => if i = id then Φ .normal s ms else Φ (.exit i) s ms
 | e, s, ms => Φ e s ms
theorem awpm_block {id : Nat} {c : Code} {Φ : AEx -> AS -> List Nat -> Prop} (h : AWPm lv P nt c s ms (AEx.blockM id Φ)) : AWPm lv P nt (.block id c) s ms Φ := by
 intro E V a Q hat hd hQ
 refine wp_block (h E V a _ hat hd fun ae e E' V' a' s' ms' hk hat' hd' he hΦ => ?_)
 cases ae <;> cases e <;> first
  | exact he.elim
  | skip
 ·exact hQ .normal .normal E' V' a' s' ms' hk hat' hd' trivial hΦ
 ·rename_i i j
  have e : i = j := he
  subst e
  by_cases hid : i = id
  ·simp only [Ex.inBlock, hid, if_true]; simp only [AEx.blockM, hid, if_true] at hΦ; exact hQ .normal _ E' V' a' s' ms' hk hat' hd' trivial hΦ
  ·simp only [Ex.inBlock, hid, if_false]; simp only [AEx.blockM, hid, if_false] at hΦ; exact hQ (.exit i) _ E' V' a' s' ms' hk hat' hd' rfl hΦ
 ·exact hQ _ _ E' V' a' s' ms' hk hat' hd' he hΦ
 ·exact hQ _ _ E' V' a' s' ms' hk hat' hd' he hΦ
 ·exact hQ _ _ E' V' a' s' ms' hk hat' hd' he hΦ
def AEx.stayM (Φ : AEx -> AS -> List Nat -> Prop) : AEx -> AS -> List Nat -> Prop
 | .goto _, _, _ => False
 | e, s, ms => Φ e s ms
theorem blockM_normal (id : Nat) (Φ : AEx -> AS -> List Nat -> Prop) (s : AS) (ms : List Nat) : AEx.blockM id Φ .normal s ms = Φ .normal s ms := by rw [AEx.blockM]; simp
theorem stayM_normal (Φ : AEx -> AS -> List Nat -> Prop) (s : AS) (ms : List Nat) : AEx.stayM Φ .normal s ms = Φ .normal s ms := by rw [AEx.stayM]; simp
theorem stayM_ret (Φ : AEx -> AS -> List Nat -> Prop) (s : AS) (ms : List Nat) : AEx.stayM Φ .ret s ms = Φ .ret s ms := by rw [AEx.stayM]; simp
theorem thenM_normal (K : AS -> List Nat -> Prop) (Φ : AEx -> AS -> List Nat -> Prop) (s : AS) (ms : List Nat) : AEx.thenM K Φ .normal s ms = K s ms := by rw [AEx.thenM]
theorem thenM_ret (K : AS -> List Nat -> Prop) (Φ : AEx -> AS -> List Nat -> Prop) (s : AS) (ms : List Nat) : AEx.thenM K Φ .ret s ms = Φ .ret s ms := by rw [AEx.thenM]; simp
@[congr] theorem awpm_congr {c : Code} {s s' : AS} {ms ms' : List Nat} {Φ : AEx -> AS -> List Nat -> Prop} (h : s = s') (hd : ms = ms') : AWPm lv P nt c s ms Φ = AWPm lv P nt c s' ms' Φ := by rw [h, hd]
@[congr] theorem thenM_congr {K : AS -> List Nat -> Prop} {Φ : AEx -> AS -> List Nat -> Prop} {e e' : AEx} {s s' : AS} {ms ms' : List Nat} (he : e = e') (h : s = s') (hd : ms = ms') : AEx.thenM K Φ e s ms = AEx.thenM K Φ e' s' ms' := by rw [he, h, hd]
@[congr] theorem stayM_congr {Φ : AEx -> AS -> List Nat -> Prop} {e e' : AEx} {s s' : AS} {ms ms' : List Nat} (he : e = e') (h : s = s') (hd : ms = ms') : AEx.stayM Φ e s ms = AEx.stayM Φ e' s' ms' := by rw [he, h, hd]
@[congr] theorem fnEndM_congr {rs : List ResultVar} {n : Nat} {k kp : AV -> List AObj -> Prop} {e e' : AEx} {s s' : AS} {ms ms' : List Nat} (he : e = e') (h : s = s') (hd : ms = ms') : FnEndM P rs n k kp e s ms = FnEndM P rs n k kp e' s' ms' := by rw [he, h, hd]
theorem fnEndM_ret (rs : List ResultVar) (n : Nat) (k kp : AV -> List AObj -> Prop) (s : AS) (ms : List Nat) : FnEndM P rs n k kp .ret s ms = one1 (goneL ms s.H) fun H' => one1 (resAll P ⟨s.T, H'⟩ rs) fun l => EndOf n H' (resTup l) k := by rw [FnEndM]
theorem goneL_nil (H : List AObj) : goneL [] H = some H := by rw [goneL]
theorem goneL_cons {i : Nat} {ms : List Nat} {H : List AObj} (h : H[i]? = some (.obj (.deferred (some [])))) : goneL (i :: ms) H = goneL ms (H.set i .gone) := by rw [goneL]; rw [h]
attribute [push_cast] blockM_normal stayM_normal stayM_ret thenM_normal thenM_ret fnEndM_ret goneL_nil
end
section
variable {lv : Bool} {P : Program} {r : Option Nat} {s : AS}
theorem den_tok {E : Env} {I : Imm} (hI : ∀ b o v, E.I b o = some v -> I b o = some v) {n : Nat} {l : List AV} {v : Value} (h : Den E (.sl n l .exact) v) : ∃ a, Den (E.tok I (a, n) n) (.sl n l (.opn E.n)) v := by
 cases h with
 | sl b o cap f hcap he q1 q2 =>
  have hcap' : cap = n := he
  subst hcap'
  refine ⟨some ⟨b, o, none⟩, ?_⟩
  have hle := E.le_tok (I := I) hI (some ⟨b, o, none⟩, cap) cap
  exact .sl b o cap f hcap ⟨by simp [Env.tok], by simp [Env.tok], by simp [Env.tok]⟩ (fun i hi => hle.I _ _ _ (q1 i hi)) (fun i x hx => (q2 i x hx).mono hle)
 | nil he => exact ⟨_, .nil ⟨by simp [Env.tok], by simp [Env.tok], by simp [Env.tok]; rfl⟩⟩
theorem awp_tail {nt t n sz : Nat} {c : Code} {l : List AV} {el : TypeId} {Φ : AEx -> AS -> Prop} (ht : look s.T t = some (.sl n l .exact)) (h : AWP lv P r nt c ⟨(t, .sl n l (.opn s.H.length)) :: s.T, s.H ++ [.tail n sz el]⟩ Φ) : AWP lv P r nt c s Φ := fun E V a Q hat hQ => by
 obtain ⟨hlt, hd⟩ := hat.tok t _ ht
 obtain ⟨ad, hd'⟩ := den_tok (I := V.imm) (fun b o v h => by rw [<- hat.conc.I]; exact h) hd
 obtain ⟨hc, hle⟩ := hat.conc.tok0 (n := n) sz el ad
 refine h _ V a Q ⟨hc, fun t' x hx => ?_, hat.size⟩ fun ae e E' V' a' s' hk => hQ ae e E' V' a' s' ((⟨hle, rfl, rfl, rfl, rfl⟩ : Kept E _ V V a a).trans hk)
 simp only [look] at hx
 split at hx
 ·rename_i e
  subst e; cases hx
  rw [<- hat.conc.n]
  exact ⟨hlt, hd'⟩
 ·exact ⟨(hat.tok t' x hx).1, (hat.tok t' x hx).2.mono hle⟩
theorem denl_set {E : Env} {l : List AV} {cs : Array Value} {j : Nat} {a b : AV} (h : Denl E l cs) (hj : l[j]? = some a) (hb : ∀ v, Den E a v -> Den E b v) : Denl E (l.set j b) cs := by
 refine ⟨by rw [List.length_set]; exact h.1, fun i x hx => ?_⟩
 by_cases e : i = j
 ·subst e
  rw [List.getElem?_set_self (List.getElem?_eq_some_iff.1 hj).1] at hx
  cases hx
  exact hb _ (h.2 i a hj)
 ·rw [List.getElem?_set_ne (Ne.symm e)] at hx
  exact h.2 i x hx
theorem awp_tailO {nt id j n sz : Nat} {c : Code} {l l' : List AV} {el el' : TypeId} {Φ : AEx -> AS -> Prop} (hid : s.H[id]? = some (.cells l el)) (hj : l[j]? = some (.sl n l' .exact)) (h : AWP lv P r nt c ⟨s.T, s.H.set id (.cells (l.set j (.sl n l' (.opn s.H.length))) el) ++ [AObj.tail n sz el']⟩ Φ) : AWP lv P r nt c s Φ := fun E V a Q hat hQ => by
 have hc := hat.conc
 obtain ⟨⟨cs, hown, hd⟩, himm⟩ := hc.obj id _ hid
 obtain ⟨ad, hd'⟩ := den_tok (I := V.imm) (fun b o v h => by rw [<- hc.I]; exact h) (hd.2 j _ hj)
 obtain ⟨hc', hle⟩ := hc.tok0 (n := n) sz el' ad
 have hlt := (List.getElem?_eq_some_iff.1 hid).1
 have hn : (E.tok V.imm (ad, n) n).n = s.H.length + 1 := by simp [Env.tok, hc.n]
 have e : s.H.set id (.cells (l.set j (.sl n l' (.opn s.H.length))) el) ++ [AObj.tail n sz el'] = (s.H ++ [AObj.tail n sz el']).set id (.cells (l.set j (.sl n l' (.opn s.H.length))) el) := (List.set_append_left _ _ hlt).symm
 rw [e] at h
 have hdl : Denl (E.tok V.imm (ad, n) n) (l.set j (.sl n l' (.opn s.H.length))) cs := by
  have h0 := hd.mono hle
  refine ⟨by rw [List.length_set]; exact h0.1, fun i x hx => ?_⟩
  by_cases ei : i = j
  ·subst ei
   rw [List.getElem?_set_self (List.getElem?_eq_some_iff.1 hj).1] at hx
   cases hx
   rw [<- hc.n]; exact hd'
  ·rw [List.getElem?_set_ne (Ne.symm ei)] at hx
   exact h0.2 i x hx
 have hb : (E.tok V.imm (ad, n) n).blk id = E.blk id := hle.blk id (by rw [hc.n]; exact hlt)
 have hc2 : Conc (E.tok V.imm (ad, n) n) V ((s.H ++ [AObj.tail n sz el']).set id (.cells (l.set j (.sl n l' (.opn s.H.length))) el)) := by
  have hidx : (s.H ++ [AObj.tail n sz el'])[id]? = some (.cells l el) := by rw [List.getElem?_append_left hlt]; exact hid
  refine hc'.turn id _ (Env.Le.refl _) hc'.I (by rw [hc'.n, List.length_set]) list_set_get rfl (fun _ _ _ => rfl) (fun b y _ hy => ⟨hy, fun _ => rfl⟩) ⟨⟨cs, by rw [hb]; exact hown, hdl⟩, fun o => by rw [hb]; exact himm o⟩ (fun b hb' => .inl ⟨_, hidx, hb'⟩)
 refine h _ V a Q ⟨hc2, hat.tok.mono hle, hat.size⟩ fun ae e E' V' a' s' hk => hQ ae e E' V' a' s' ((⟨hle, rfl, rfl, rfl, rfl⟩ : Kept E _ V V a a).trans hk)
theorem awp_wkO {nt id j : Nat} {c : Code} {l : List AV} {x y : AV} {el : TypeId} {Φ : AEx -> AS -> Prop} (hid : s.H[id]? = some (.cells l el)) (hj : l[j]? = some x) (hw : Wk x y) (h : AWP lv P r nt c ⟨s.T, s.H.set id (.cells (l.set j y) el)⟩ Φ) : AWP lv P r nt c s Φ := fun E V a Q hat hQ => by
 have hc := hat.conc
 obtain ⟨⟨cs, hown, hd⟩, himm⟩ := hc.obj id _ hid
 have hc2 : Conc E V (s.H.set id (.cells (l.set j y) el)) :=
  hc.turn id _ (Env.Le.refl _) hc.I (by rw [hc.n, List.length_set]) list_set_get rfl (fun _ _ _ => rfl) (fun b y _ hy => ⟨hy, fun _ => rfl⟩) ⟨⟨cs, hown, denl_set hd hj (hw E)⟩, himm⟩ (fun b hb' => .inl ⟨_, hid, hb'⟩)
 exact h E V a Q ⟨hc2, hat.tok, hat.size⟩ hQ
end
structure Kept3 (X Y Z : Prop) : Type where
 n : Nat
def UG (a : AV) (want : Bool) (X Y Z : Prop) (_t : Kept3 X Y Z) : Prop := (∃ b, a = .val (.bool b) /\ (b = want -> X) /\ (b = !want -> Y)) \/ (a = .val undef /\ Z)
theorem ug_b {b want : Bool} {X Y Z : Prop} {t : Kept3 X Y Z} : UG (.val (.bool b)) want X Y Z t = ((b = want -> X) /\ (b = !want -> Y)) := by
 unfold UG
 refine propext ⟨fun h => ?_, fun h => .inl ⟨b, rfl, h⟩⟩
 rcases h with ⟨b', e, h⟩ | ⟨e, _⟩
 ·cases e; exact h
 ·cases e
theorem ug_tt (X Y Z : Prop) (t : Kept3 X Y Z) : UG (.val (.bool true)) true X Y Z t = X := by rw [ug_b]; simp
theorem ug_tf (X Y Z : Prop) (t : Kept3 X Y Z) : UG (.val (.bool true)) false X Y Z t = Y := by rw [ug_b]; simp
theorem ug_ft (X Y Z : Prop) (t : Kept3 X Y Z) : UG (.val (.bool false)) true X Y Z t = Y := by rw [ug_b]; simp
theorem ug_ff (X Y Z : Prop) (t : Kept3 X Y Z) : UG (.val (.bool false)) false X Y Z t = X := by rw [ug_b]; simp
theorem ug_u (want : Bool) (X Y Z : Prop) (t : Kept3 X Y Z) : UG (.val undef) want X Y Z t = Z := by
 unfold UG
 refine propext ⟨fun h => ?_, fun h => .inr ⟨rfl, h⟩⟩
 rcases h with ⟨b', e, _⟩ | ⟨_, h⟩
 ·cases e
 ·exact h
section
variable (lv : Bool) (P : Program)
def UOps (all : Array Oper) : List Oper -> AS -> (AS -> Prop) -> (AV -> AS -> Prop) -> Prop
 | [], s, next, _ => next s
 | o :: rest, s, next, bad => match o.guard with
  | none => AStep lv P s o (fun s' => UOps all rest s' next bad) bad
  | some (j, want) => one1 ((all[j]?).bind (·.dst)) fun d => one1 (look s.T d) fun a => UG a want (AStep lv P ⟨(d, .val (.bool want)) :: s.T, s.H⟩ o (fun s' => UOps all rest s' next bad) bad) (UOps all rest ((⟨(d, .val (.bool !want)) :: s.T, s.H⟩ : AS).put o.dst (.val undef)) next bad) (UOps all rest (s.put o.dst (.val undef)) next bad) ⟨0⟩
end
theorem uOps_n : type_of% @UOps.eq_1 := by intros; rw [UOps.eq_1]
theorem uOps_c : type_of% @UOps.eq_2 := by intros; rw [UOps.eq_2]
@[congr] theorem uOps_congr {lv : Bool} {P : Program} {s s' : AS} {all : Array Oper} {l : List Oper} {next : AS -> Prop} {bad : AV -> AS -> Prop} (h : s = s') : UOps lv P all l s next bad = UOps lv P all l s' next bad := by rw [h]
attribute [push_cast] uOps_n uOps_c ug_tt ug_tf ug_ft ug_ff ug_u
section
variable {lv : Bool} {P : Program} {r : Option Nat} {s : AS}
end
section
variable {lv : Bool} {P : Program} {r : Option Nat} {o : Oper} {s : AS} {next : AS -> Prop} {bad : AV -> AS -> Prop}
end
section
variable (lv : Bool) (P : Program) (r : Option Nat)
end
section
variable {lv : Bool} {P : Program} {r : Option Nat} {s : AS}
end
section
variable {lv : Bool} {P : Program} {r : Option Nat} {o : Oper} {s : AS} {next : AS -> Prop} {bad : AV -> AS -> Prop}
def WkH (H : List AObj) (b a : AV) : Prop := ∀ E V v, Conc E V H -> Den E b v -> Den E a v
theorem WkH.of {H : List AObj} {b a : AV} (h : Wk b a) : WkH H b a := fun E _ v _ d => h E v d
end
open Go.Proofs
structure Band where
 min : Int
 max : Int
 deriving DecidableEq
def aInts (xs : List Int) : AV := .sl xs.length (xs.map iv) .shut
def bagL (h : Int) : List AV := [iv 1, iv h, iv h]
def aBags (hs : List Int) : AV := .sl hs.length (hs.flatMap bagL) .shut
structure Par where
 w : Int
 b : Int
def Par.l (p : Par) : List AV := [iv p.w, iv p.w, iv p.b, iv 1]
def aPars (ps : List Par) : AV := .sl ps.length (ps.flatMap Par.l) .shut
def shelfL (n : Int) (hs : List Int) (m : Nat) : List AV := [aInts [n], aBags hs, aInts (List.replicate m 0)]
def shelfA (n : Int) (hs : List Int) (m : Nat) : AV := .agg (shelfL n hs m)
def yardL (ps : List Par) : List AV := [aPars ps, iv 2]
def yardA (ps : List Par) : AV := .agg (yardL ps)
theorem bag_len (b : Int) : (bagL b).length = 3 := rfl
theorem Par.len (b : Par) : b.l.length = 4 := rfl
section
variable {i : Nat}
theorem sh_ints {xs : List Int} {x : Int} (h : xs[i]? = some x) : AV.shift i (.rp (xs.map iv)) = some (.rp (iv x :: (xs.drop (i + 1)).map iv)) := by have := shift_map (f := iv) h; rwa [Nat.mul_one] at this
theorem sh_bags {xs : List Int} {x : Int} (h : xs[i]? = some x) : AV.shift (i * 3) (.rp (xs.flatMap bagL)) = some (.rp (iv 1 :: iv x :: iv x :: (xs.drop (i + 1)).flatMap bagL)) := shift_flat bag_len h
theorem sh_pars {xs : List Par} {x : Par} (h : xs[i]? = some x) : AV.shift (i * 4) (.rp (xs.flatMap Par.l)) = some (.rp (iv x.w :: iv x.w :: iv x.b :: iv 1 :: (xs.drop (i + 1)).flatMap Par.l)) := shift_flat Par.len h
end
theorem lt_ints (n : Nat) (xs : List Int) : Lt n (aInts xs) = True := by simp [aInts, lt_shut, lt_val]
theorem lt_bags (n : Nat) (xs : List Int) : Lt n (aBags xs) = True := by
 simp only [aBags, lt_shut, eq_iff_iff, iff_true]
 intro a ha
 obtain ⟨x, _, hx⟩ := List.mem_flatMap.1 ha
 simp only [bagL, List.mem_cons, List.not_mem_nil, or_false] at hx
 rcases hx with rfl | rfl | rfl <;> exact .val _
theorem lt_pars (n : Nat) (xs : List Par) : Lt n (aPars xs) = True := by
 simp only [aPars, lt_shut, eq_iff_iff, iff_true]
 intro a ha
 obtain ⟨x, _, hx⟩ := List.mem_flatMap.1 ha
 simp only [Par.l, List.mem_cons, List.not_mem_nil, or_false] at hx
 rcases hx with rfl | rfl | rfl | rfl <;> exact .val _
theorem z1 : zeroRow (Value.int .i64 0) 1 = [iv 0] := rfl
theorem mem_of_get {α : Type} {l : List α} {i : Nat} {x : α} (h : l[i]? = some x) : x ∈ l := List.mem_iff_getElem?.2 ⟨i, h⟩
theorem get_at (Hs L : List AObj) (i : Nat) : (Hs ++ L)[Hs.length + i]? = L[i]? := by rw [List.getElem?_append_right (by omega)]; congr 1; omega
inductive Wks : List AV -> List AV -> Prop
 | nil : Wks [] []
 | cons {a b : AV} {l m : List AV} (h : Wk a b) (t : Wks l m) : Wks (a :: l) (b :: m)
theorem Wks.len {l m : List AV} (h : Wks l m) : l.length = m.length := by
 induction h with
 | nil => rfl
 | cons _ _ ih => simp [ih]
theorem Wks.at {l m : List AV} (h : Wks l m) : ∀ (i : Nat) (a b : AV), m[i]? = some a -> l[i]? = some b -> Wk b a := by
 induction h with
 | nil => intro i a b h; simp at h
 | cons h _ ih =>
  intro i a b h1 h2
  match i with
  | 0 => cases h1; cases h2; exact h
  | i + 1 => exact ih i a b h1 h2
theorem wk_agg {l l' : List AV} (h : Wks l l') : Wk (.agg l) (.agg l') := fun E v hd => by
 cases hd with
 | agg hs h1 =>
  refine .agg (by rw [hs, h.len]) fun i x hx => ?_
  obtain ⟨y, hy⟩ := lt_get (xs := l) (i := i) (by rw [h.len]; exact get_lt hx)
  exact h.at i x y hx hy E _ (h1 i y hy)
theorem zr2 : zeroRow (Value.int .i64 0) 2 = [iv 0, iv 0] := rfl
theorem p24_4 : (4 <= 2 ^ 24) = True := by simp
theorem p24_1 : (1 <= 2 ^ 24) = True := by simp
theorem p24_2 : (2 <= 2 ^ 24) = True := by simp
theorem p24_3 : (3 <= 2 ^ 24) = True := by simp
theorem leaf_intl (x : List Int) : (aInts x).leaf = true := rfl
attribute [push_cast] leaf_intl
theorem fnC_wk {lv : Bool} {H : List AObj} {k kp : AV -> List AObj -> Prop} {P : Program} {f : FuncId} {l l' : List AV} (h : Wks l l') (hf : FnC lv P f H l' k kp) : FnC lv P f H l k kp := fun E V vs hc hd => by
 refine hf E V vs hc ⟨by rw [hd.1, h.len], fun i a ha => ?_⟩
 obtain ⟨b, hb⟩ := lt_get (xs := l) (i := i) (by rw [h.len]; exact get_lt ha)
 exact h.at i a b ha hb E _ (hd.2 i b hb)
def bitsTo (m n : Nat) : List Int := ((List.range n).filter fun i => m.testBit i).map fun i : Nat => (i : Int)
theorem bitsTo_succ (m n : Nat) : bitsTo m (n + 1) = bitsTo m n ++ (if m.testBit n = true then [(n : Int)] else []) := by
 unfold bitsTo
 rw [List.range_succ, List.filter_append, List.map_append]
 congr 1
 by_cases h : m.testBit n = true <;> simp [h]
theorem bitsTo_le (m n : Nat) : (bitsTo m n).length <= n := by
 unfold bitsTo
 rw [List.length_map]
 exact Nat.le_trans (List.length_filter_le _ _) (by simp)
def belowM (n : Nat) : List Int := (List.range n).map fun i : Nat => (i : Int)
theorem belowM_succ (n : Nat) : (belowM (n + 1)).map iv = (belowM n).map iv ++ [iv n] := by simp [belowM, List.range_succ]
theorem belowM_len (n : Nat) : (belowM n).length = n := by simp [belowM]
section
variable {H : List AObj}
theorem get_app {L : List AObj} {i : Nat} {x : AObj} (h : H[i]? = some x) : (H ++ L)[i]? = some x := by rw [List.getElem?_append_left (get_lt h)]; exact h
end
section
variable {lv : Bool} {H : List AObj} {k kp : AV -> List AObj -> Prop}
theorem f36_c {n lo hi : Int} (hk : k (bv (decide (n < lo) || decide (hi < n))) H) : FnC lv Tryd.prog 36 H [iv n, iv lo, iv hi] k kp := by
 refine fnC_intro (rs := [.tmp 6]) (nt := 15) F.f36 rfl rfl rfl (by simp) fun hH hA => ?_
 simp only [argsT, Nat.reduceAdd]
 repeat refine awp_seq ?_
 refine awp_region (by kernel_rfl) ?_
 simp only [push_cast, Int.cast_ofNat_Int, Int.reduceLE, Int.reduceLT, Int.reduceToNat, Int.reduceNeg, Int.reduceSub, iv, bv, Nat.reduceBEq, reduceCtorEq, Nat.reduceAdd, Nat.reduceLeDiff, Nat.reduceSub, Nat.reduceLT, Nat.reduceMul]
 repeat refine awp_seq ?_
 refine awp_region (by kernel_rfl) ?_
 simp only [push_cast, Int.cast_ofNat_Int, Int.reduceLE, Int.reduceLT, Int.reduceToNat, Int.reduceNeg, Int.reduceSub, iv, bv, Nat.reduceBEq, reduceCtorEq, Nat.reduceAdd, Nat.reduceLeDiff, Nat.reduceSub, Nat.reduceLT, Nat.reduceMul]
 refine guardI (fun h => ?_) (fun h => ?_)
 ·simp only [push_cast, Int.cast_ofNat_Int, Int.reduceLE, Int.reduceLT, Int.reduceToNat, Int.reduceNeg, Int.reduceSub, iv, bv, Nat.reduceBEq, reduceCtorEq, Nat.reduceAdd, Nat.reduceLeDiff, Nat.reduceSub, Nat.reduceLT, Nat.reduceMul]
  repeat refine awp_seq ?_
  refine awp_ret ?_
  simp only [push_cast, Int.cast_ofNat_Int, Int.reduceLE, Int.reduceLT, Int.reduceToNat, Int.reduceNeg, Int.reduceSub, iv, bv, Nat.reduceBEq, reduceCtorEq, Nat.reduceAdd, Nat.reduceLeDiff, Nat.reduceSub, Nat.reduceLT, Nat.reduceMul]
  refine endOf_here ?_
  simpa [h] using hk
 ·simp only [push_cast, Int.cast_ofNat_Int, Int.reduceLE, Int.reduceLT, Int.reduceToNat, Int.reduceNeg, Int.reduceSub, iv, bv, Nat.reduceBEq, reduceCtorEq, Nat.reduceAdd, Nat.reduceLeDiff, Nat.reduceSub, Nat.reduceLT, Nat.reduceMul]
  repeat refine awp_seq ?_
  refine awp_ret ?_
  simp only [push_cast, Int.cast_ofNat_Int, Int.reduceLE, Int.reduceLT, Int.reduceToNat, Int.reduceNeg, Int.reduceSub, iv, bv, Nat.reduceBEq, reduceCtorEq, Nat.reduceAdd, Nat.reduceLeDiff, Nat.reduceSub, Nat.reduceLT, Nat.reduceMul]
  refine endOf_here ?_
  simpa [h] using hk
theorem f25_c {m n : Nat} (hm : m < 256) (hn : n < 8) (hk : k (uv (m ||| 2 ^ n)) H) : FnC lv Tryd.prog 25 H [uv m, iv n] k kp := by
 refine fnC_intro (rs := [.tmp 4]) (nt := 9) F.f25 rfl rfl rfl (by simp) fun hH hA => ?_
 simp only [argsT, Nat.reduceAdd]
 repeat refine awp_seq ?_
 refine awp_region (by kernel_rfl) ?_
 simp only [push_cast, Int.cast_ofNat_Int, Int.reduceLE, Int.reduceLT, Int.reduceToNat, Int.reduceNeg, Int.reduceSub, iv, bv, Nat.reduceBEq, reduceCtorEq, Nat.reduceAdd, Nat.reduceLeDiff, Nat.reduceSub, Nat.reduceLT, Nat.reduceMul]
 repeat refine awp_seq ?_
 refine awp_region (by kernel_rfl) ?_
 simp only [push_cast, Int.cast_ofNat_Int, Int.reduceLE, Int.reduceLT, Int.reduceToNat, Int.reduceNeg, Int.reduceSub, iv, bv, Nat.reduceBEq, reduceCtorEq, Nat.reduceAdd, Nat.reduceLeDiff, Nat.reduceSub, Nat.reduceLT, Nat.reduceMul, abin_shl, abin_or]
 repeat refine awp_seq ?_
 refine awp_ret ?_
 simp only [push_cast, Int.cast_ofNat_Int, Int.reduceLE, Int.reduceLT, Int.reduceToNat, Int.reduceNeg, Int.reduceSub, iv, bv, Nat.reduceBEq, reduceCtorEq, Nat.reduceAdd, Nat.reduceLeDiff, Nat.reduceSub, Nat.reduceLT, Nat.reduceMul]
 refine endOf_here ?_
 rw [with_u8 hm hn]; exact hk
theorem f43_c {m n : Nat} (hm : m < 256) (hk : k (bv (m.testBit n)) H) : FnC lv Tryd.prog 43 H [uv m, iv n] k kp := by
 refine fnC_intro (rs := [.tmp 4]) (nt := 10) F.f43 rfl rfl rfl (by simp) fun hH hA => ?_
 simp only [argsT, Nat.reduceAdd]
 repeat refine awp_seq ?_
 refine awp_region (by kernel_rfl) ?_
 simp only [push_cast, Int.cast_ofNat_Int, Int.reduceLE, Int.reduceLT, Int.reduceToNat, Int.reduceNeg, Int.reduceSub, iv, bv, Nat.reduceBEq, reduceCtorEq, Nat.reduceAdd, Nat.reduceLeDiff, Nat.reduceSub, Nat.reduceLT, Nat.reduceMul]
 repeat refine awp_seq ?_
 refine awp_region (by kernel_rfl) ?_
 simp only [push_cast, Int.cast_ofNat_Int, Int.reduceLE, Int.reduceLT, Int.reduceToNat, Int.reduceNeg, Int.reduceSub, iv, bv, Nat.reduceBEq, reduceCtorEq, Nat.reduceAdd, Nat.reduceLeDiff, Nat.reduceSub, Nat.reduceLT, Nat.reduceMul, abin_shr, abin_and]
 repeat refine awp_seq ?_
 refine awp_ret ?_
 simp only [push_cast, Int.cast_ofNat_Int, Int.reduceLE, Int.reduceLT, Int.reduceToNat, Int.reduceNeg, Int.reduceSub, iv, bv, Nat.reduceBEq, reduceCtorEq, Nat.reduceAdd, Nat.reduceLeDiff, Nat.reduceSub, Nat.reduceLT, Nat.reduceMul]
 refine endOf_here ?_
 rw [has_u8 hm]; exact hk
theorem f26_c {m : Nat} (hm : m < 256) (hk : k (aInts (bitsTo m 8)) H) : FnC lv Tryd.prog 26 H [uv m] k kp := by
 refine fnC_intro (rs := [.tmp 2]) (nt := 17) F.f26 rfl rfl rfl (by simp) fun hH hA => ?_
 simp only [argsT, Nat.reduceAdd]
 repeat refine awp_seq ?_
 refine awp_region (by kernel_rfl) ?_
 simp only [push_cast, Int.cast_ofNat_Int, Int.reduceLE, Int.reduceLT, Int.reduceToNat, Int.reduceNeg, Int.reduceSub, iv, bv, Nat.reduceBEq, reduceCtorEq, Nat.reduceAdd, Nat.reduceLeDiff, Nat.reduceSub, Nat.reduceLT, Nat.reduceMul]
 repeat refine awp_seq ?_
 refine awp_region (by kernel_rfl) ?_
 simp only [push_cast, Int.cast_ofNat_Int, Int.reduceLE, Int.reduceLT, Int.reduceToNat, Int.reduceNeg, Int.reduceSub, iv, bv, Nat.reduceBEq, reduceCtorEq, Nat.reduceAdd, Nat.reduceLeDiff, Nat.reduceSub, Nat.reduceLT, Nat.reduceMul]
 (repeat refine awp_seq ?_); refine awp_tail (t := 3) (sz := 1) (el := 3) (by simp only [push_cast, Int.cast_ofNat_Int, Int.reduceLE, Int.reduceLT, Int.reduceToNat, Int.reduceNeg, Int.reduceSub, iv, bv, Nat.reduceBEq, reduceCtorEq, Nat.reduceAdd, Nat.reduceLeDiff, Nat.reduceSub, Nat.reduceLT, Nat.reduceMul] <;> rfl) ?_
 repeat refine awp_seq ?_
 refine awp_region (by kernel_rfl) ?_
 simp only [push_cast, Int.cast_ofNat_Int, Int.reduceLE, Int.reduceLT, Int.reduceToNat, Int.reduceNeg, Int.reduceSub, iv, bv, Nat.reduceBEq, reduceCtorEq, Nat.reduceAdd, Nat.reduceLeDiff, Nat.reduceSub, Nat.reduceLT, Nat.reduceMul]
 repeat refine awp_seq ?_
 refine awp_block ?_
 refine awp_for 8 (fun i : Nat => [(3, .sl (bitsTo m i).length ((bitsTo m i).map iv) (.opn H.length)), (5, iv i)]) (fun i => H ++ [.tail (bitsTo m i).length 1 3]) (fun i => True) (fun _ _ => rfl) (by simp only [push_cast, Int.cast_ofNat_Int, Int.reduceLE, Int.reduceLT, Int.reduceToNat, Int.reduceNeg, Int.reduceSub, iv, bv, Nat.reduceBEq, reduceCtorEq, Nat.reduceAdd, Nat.reduceLeDiff, Nat.reduceSub, Nat.reduceLT, Nat.reduceMul, List.forall_mem_cons, List.not_mem_nil, false_imp_iff, implies_true, List.forall_mem_nil]; simp [exists_wk, Wk.refl]; exact Wk.refl _) rfl (fun _ _ _ => by simp) trivial (fun hHs hLt i hin hi R hR => ?_)
 repeat refine awp_seq ?_
 refine awp_region (by kernel_rfl) ?_
 simp only [push_cast, Int.cast_ofNat_Int, Int.reduceLE, Int.reduceLT, Int.reduceToNat, Int.reduceNeg, Int.reduceSub, iv, bv, Nat.reduceBEq, reduceCtorEq, Nat.reduceAdd, Nat.reduceLeDiff, Nat.reduceSub, Nat.reduceLT, Nat.reduceMul]
 have hle := bitsTo_le m i
 repeat refine awp_seq ?_
 refine awp_condS ?_
 simp only [push_cast, Int.cast_ofNat_Int, Int.reduceLE, Int.reduceLT, Int.reduceToNat, Int.reduceNeg, Int.reduceSub, iv, bv, Nat.reduceBEq, reduceCtorEq, Nat.reduceAdd, Nat.reduceLeDiff, Nat.reduceSub, Nat.reduceLT, Nat.reduceMul]
 refine ⟨fun h => ?_, fun h => ?_⟩
 ·
  have hlt : i < 8 := by omega
  have hi1 : IntKind.i64.wrap ((i : Int) + 1) = ((i + 1 : Nat) : Int) := by rw [i64_in _ (by omega)]; rfl
  repeat refine awp_seq ?_
  refine awp_skip ?_
  simp only [push_cast, Int.cast_ofNat_Int, Int.reduceLE, Int.reduceLT, Int.reduceToNat, Int.reduceNeg, Int.reduceSub, iv, bv, Nat.reduceBEq, reduceCtorEq, Nat.reduceAdd, Nat.reduceLeDiff, Nat.reduceSub, Nat.reduceLT, Nat.reduceMul]
  repeat refine awp_seq ?_
  refine awp_block ?_
  repeat refine awp_seq ?_
  refine awp_region (by kernel_rfl) ?_
  simp only [push_cast, Int.cast_ofNat_Int, Int.reduceLE, Int.reduceLT, Int.reduceToNat, Int.reduceNeg, Int.reduceSub, iv, bv, Nat.reduceBEq, reduceCtorEq, Nat.reduceAdd, Nat.reduceLeDiff, Nat.reduceSub, Nat.reduceLT, Nat.reduceMul]
  repeat refine awp_seq ?_
  refine awp_region (by kernel_rfl) ?_
  simp only [push_cast, Int.cast_ofNat_Int, Int.reduceLE, Int.reduceLT, Int.reduceToNat, Int.reduceNeg, Int.reduceSub, iv, bv, Nat.reduceBEq, reduceCtorEq, Nat.reduceAdd, Nat.reduceLeDiff, Nat.reduceSub, Nat.reduceLT, Nat.reduceMul]
  refine callG (callC_func (by kernel_rfl) (f43_c hm ?_))
  simp only [push_cast, Int.cast_ofNat_Int, Int.reduceLE, Int.reduceLT, Int.reduceToNat, Int.reduceNeg, Int.reduceSub, iv, bv, Nat.reduceBEq, reduceCtorEq, Nat.reduceAdd, Nat.reduceLeDiff, Nat.reduceSub, Nat.reduceLT, Nat.reduceMul]
  repeat refine awp_seq ?_
  refine awp_condS ?_
  simp only [push_cast, Int.cast_ofNat_Int, Int.reduceLE, Int.reduceLT, Int.reduceToNat, Int.reduceNeg, Int.reduceSub, iv, bv, Nat.reduceBEq, reduceCtorEq, Nat.reduceAdd, Nat.reduceLeDiff, Nat.reduceSub, Nat.reduceLT, Nat.reduceMul]
  refine ⟨fun h2 => ?_, fun h2 => ?_⟩
  ·
   have e : bitsTo m (i + 1) = bitsTo m i ++ [(i : Int)] := by rw [bitsTo_succ, if_pos (by simpa using h2)]
   have hsl : (bitsTo m i ++ [(i : Int)]).length = (bitsTo m i).length + 1 := by simp
   repeat refine awp_seq ?_
   refine awp_region (by kernel_rfl) ?_
   simp only [push_cast, Int.cast_ofNat_Int, Int.reduceLE, Int.reduceLT, Int.reduceToNat, Int.reduceNeg, Int.reduceSub, iv, bv, Nat.reduceBEq, reduceCtorEq, Nat.reduceAdd, Nat.reduceLeDiff, Nat.reduceSub, Nat.reduceLT, Nat.reduceMul, F.SliceOf_22, F.AppOf_22_22, z1, List.length_map]
   refine ⟨by omega, by omega, ?_⟩
   repeat refine awp_seq ?_
   refine awp_region (by kernel_rfl) ?_
   simp only [push_cast, Int.cast_ofNat_Int, Int.reduceLE, Int.reduceLT, Int.reduceToNat, Int.reduceNeg, Int.reduceSub, iv, bv, Nat.reduceBEq, reduceCtorEq, Nat.reduceAdd, Nat.reduceLeDiff, Nat.reduceSub, Nat.reduceLT, Nat.reduceMul, hi1]
   refine hR _ ⟨hlt, trivial, ?_⟩
   rw [e, hsl, List.map_append]
   exact (round_keep (keeps_rfl rfl rfl) (by simp only [push_cast, Int.cast_ofNat_Int, Int.reduceLE, Int.reduceLT, Int.reduceToNat, Int.reduceNeg, Int.reduceSub, iv, bv, Nat.reduceBEq, reduceCtorEq, Nat.reduceAdd, Nat.reduceLeDiff, Nat.reduceSub, Nat.reduceLT, Nat.reduceMul]; simp [exists_wk, Wk.refl]))
  ·
   have e : bitsTo m (i + 1) = bitsTo m i := by rw [bitsTo_succ, if_neg (by simpa using h2), List.append_nil]
   repeat refine awp_seq ?_
   refine awp_skip ?_
   simp only [push_cast, Int.cast_ofNat_Int, Int.reduceLE, Int.reduceLT, Int.reduceToNat, Int.reduceNeg, Int.reduceSub, iv, bv, Nat.reduceBEq, reduceCtorEq, Nat.reduceAdd, Nat.reduceLeDiff, Nat.reduceSub, Nat.reduceLT, Nat.reduceMul]
   repeat refine awp_seq ?_
   refine awp_region (by kernel_rfl) ?_
   simp only [push_cast, Int.cast_ofNat_Int, Int.reduceLE, Int.reduceLT, Int.reduceToNat, Int.reduceNeg, Int.reduceSub, iv, bv, Nat.reduceBEq, reduceCtorEq, Nat.reduceAdd, Nat.reduceLeDiff, Nat.reduceSub, Nat.reduceLT, Nat.reduceMul, hi1]
   refine hR _ ⟨hlt, trivial, ?_⟩
   rw [e]
   exact (round_keep (keeps_rfl rfl rfl) (by simp only [push_cast, Int.cast_ofNat_Int, Int.reduceLE, Int.reduceLT, Int.reduceToNat, Int.reduceNeg, Int.reduceSub, iv, bv, Nat.reduceBEq, reduceCtorEq, Nat.reduceAdd, Nat.reduceLeDiff, Nat.reduceSub, Nat.reduceLT, Nat.reduceMul]; simp [exists_wk, Wk.refl]))
 ·
  repeat refine awp_seq ?_
  refine awp_exit ?_
  simp only [push_cast, Int.cast_ofNat_Int, Int.reduceLE, Int.reduceLT, Int.reduceToNat, Int.reduceNeg, Int.reduceSub, iv, bv, Nat.reduceBEq, reduceCtorEq, Nat.reduceAdd, Nat.reduceLeDiff, Nat.reduceSub, Nat.reduceLT, Nat.reduceMul]
  repeat refine awp_seq ?_
  refine awp_region (by kernel_rfl) ?_
  simp only [push_cast, Int.cast_ofNat_Int, Int.reduceLE, Int.reduceLT, Int.reduceToNat, Int.reduceNeg, Int.reduceSub, iv, bv, Nat.reduceBEq, reduceCtorEq, Nat.reduceAdd, Nat.reduceLeDiff, Nat.reduceSub, Nat.reduceLT, Nat.reduceMul]
  repeat refine awp_seq ?_
  refine awp_ret ?_
  simp only [push_cast, Int.cast_ofNat_Int, Int.reduceLE, Int.reduceLT, Int.reduceToNat, Int.reduceNeg, Int.reduceSub, iv, bv, Nat.reduceBEq, reduceCtorEq, Nat.reduceAdd, Nat.reduceLeDiff, Nat.reduceSub, Nat.reduceLT, Nat.reduceMul]
  have : i = 8 := by omega
  subst this
  exact endA hH (wk_shut _ _ _) (by simp [lt_shut, lt_val]) hk
theorem f37_c {hs : List Int} (hl : hs.length <= 5) (hh : ∀ h ∈ hs, 0 <= h /\ h <= 6) (hk : k (.val .nilIface) H) : FnC lv Tryd.prog 37 H [aBags hs] k kp := by
 refine fnC_intro (rs := [.tmp 2]) (nt := 45) F.f37 rfl rfl rfl (by simp) fun hH hA => ?_
 simp only [argsT, Nat.reduceAdd, aBags]
 repeat refine awp_seq ?_
 refine awp_region (by kernel_rfl) ?_
 simp only [push_cast, Int.cast_ofNat_Int, Int.reduceLE, Int.reduceLT, Int.reduceToNat, Int.reduceNeg, Int.reduceSub, iv, bv, Nat.reduceBEq, reduceCtorEq, Nat.reduceAdd, Nat.reduceLeDiff, Nat.reduceSub, Nat.reduceLT, Nat.reduceMul]
 repeat refine awp_seq ?_
 refine awp_region (by kernel_rfl) ?_
 simp only [push_cast, Int.cast_ofNat_Int, Int.reduceLE, Int.reduceLT, Int.reduceToNat, Int.reduceNeg, Int.reduceSub, iv, bv, Nat.reduceBEq, reduceCtorEq, Nat.reduceAdd, Nat.reduceLeDiff, Nat.reduceSub, Nat.reduceLT, Nat.reduceMul, F.LenOf_25]
 repeat refine awp_seq ?_
 refine awp_block ?_
 refine awp_for hs.length (fun i : Nat => [(7, iv i)]) (fun _ => H) (fun i => True) (fun _ _ => rfl) (by simp only [push_cast, Int.cast_ofNat_Int, Int.reduceLE, Int.reduceLT, Int.reduceToNat, Int.reduceNeg, Int.reduceSub, iv, bv, Nat.reduceBEq, reduceCtorEq, Nat.reduceAdd, Nat.reduceLeDiff, Nat.reduceSub, Nat.reduceLT, Nat.reduceMul, List.forall_mem_cons, List.not_mem_nil, false_imp_iff, implies_true, List.forall_mem_nil]; simp [exists_wk, Wk.refl]) rfl (fun _ _ _ => rfl) trivial (fun hHs hLt i hin hi R hR => ?_)
 repeat refine awp_seq ?_
 refine awp_region (by kernel_rfl) ?_
 simp only [push_cast, Int.cast_ofNat_Int, Int.reduceLE, Int.reduceLT, Int.reduceToNat, Int.reduceNeg, Int.reduceSub, iv, bv, Nat.reduceBEq, reduceCtorEq, Nat.reduceAdd, Nat.reduceLeDiff, Nat.reduceSub, Nat.reduceLT, Nat.reduceMul]
 repeat refine awp_seq ?_
 refine awp_condS ?_
 simp only [push_cast, Int.cast_ofNat_Int, Int.reduceLE, Int.reduceLT, Int.reduceToNat, Int.reduceNeg, Int.reduceSub, iv, bv, Nat.reduceBEq, reduceCtorEq, Nat.reduceAdd, Nat.reduceLeDiff, Nat.reduceSub, Nat.reduceLT, Nat.reduceMul]
 refine ⟨fun h => ?_, fun h => ?_⟩
 ·
  have hlt : i < hs.length := by omega
  obtain ⟨x, hx⟩ := lt_get hlt
  have hxb := hh x (mem_of_get hx)
  have hi1 : IntKind.i64.wrap ((i : Int) + 1) = ((i + 1 : Nat) : Int) := by rw [i64_in _ (by omega)]; rfl
  repeat refine awp_seq ?_
  refine awp_skip ?_
  simp only [push_cast, Int.cast_ofNat_Int, Int.reduceLE, Int.reduceLT, Int.reduceToNat, Int.reduceNeg, Int.reduceSub, iv, bv, Nat.reduceBEq, reduceCtorEq, Nat.reduceAdd, Nat.reduceLeDiff, Nat.reduceSub, Nat.reduceLT, Nat.reduceMul]
  repeat refine awp_seq ?_
  refine awp_block ?_
  repeat refine awp_seq ?_
  refine awp_region (by kernel_rfl) ?_
  simp only [push_cast, Int.cast_ofNat_Int, Int.reduceLE, Int.reduceLT, Int.reduceToNat, Int.reduceNeg, Int.reduceSub, iv, bv, Nat.reduceBEq, reduceCtorEq, Nat.reduceAdd, Nat.reduceLeDiff, Nat.reduceSub, Nat.reduceLT, Nat.reduceMul, F.IdxOf_25, F.Ty_35, F.ZeroOf_35, sh_bags hx, bnd_nat hlt]
  have hx0 : (decide (x < 0) || decide (6 < x)) = false := by simp; omega
  repeat refine awp_seq ?_
  refine awp_block ?_
  repeat refine awp_seq ?_
  refine awp_region (by kernel_rfl) ?_
  simp only [push_cast, Int.cast_ofNat_Int, Int.reduceLE, Int.reduceLT, Int.reduceToNat, Int.reduceNeg, Int.reduceSub, iv, bv, Nat.reduceBEq, reduceCtorEq, Nat.reduceAdd, Nat.reduceLeDiff, Nat.reduceSub, Nat.reduceLT, Nat.reduceMul, F.FieldOf_35_0, F.Ty_3]
  refine callG (callC_func (by kernel_rfl) (f36_c ?_))
  simp only [push_cast, Int.cast_ofNat_Int, Int.reduceLE, Int.reduceLT, Int.reduceToNat, Int.reduceNeg, Int.reduceSub, iv, bv, Nat.reduceBEq, reduceCtorEq, Nat.reduceAdd, Nat.reduceLeDiff, Nat.reduceSub, Nat.reduceLT, Nat.reduceMul, decide_false, Bool.or_self]
  repeat refine awp_seq ?_
  refine awp_condS ?_
  simp only [push_cast, Int.cast_ofNat_Int, Int.reduceLE, Int.reduceLT, Int.reduceToNat, Int.reduceNeg, Int.reduceSub, iv, bv, Nat.reduceBEq, reduceCtorEq, Nat.reduceAdd, Nat.reduceLeDiff, Nat.reduceSub, Nat.reduceLT, Nat.reduceMul]
  repeat refine awp_seq ?_
  refine awp_region (by kernel_rfl) ?_
  simp only [push_cast, Int.cast_ofNat_Int, Int.reduceLE, Int.reduceLT, Int.reduceToNat, Int.reduceNeg, Int.reduceSub, iv, bv, Nat.reduceBEq, reduceCtorEq, Nat.reduceAdd, Nat.reduceLeDiff, Nat.reduceSub, Nat.reduceLT, Nat.reduceMul, F.FieldOf_35_1, F.FieldOf_33_0, F.Ty_3, F.FieldOf_33_1]
  refine callG (callC_func (by kernel_rfl) (f36_c ?_))
  simp only [push_cast, Int.cast_ofNat_Int, Int.reduceLE, Int.reduceLT, Int.reduceToNat, Int.reduceNeg, Int.reduceSub, iv, bv, Nat.reduceBEq, reduceCtorEq, Nat.reduceAdd, Nat.reduceLeDiff, Nat.reduceSub, Nat.reduceLT, Nat.reduceMul, hx0, F.FieldOf_35_1, F.FieldOf_33_0, F.Ty_3, F.FieldOf_33_1]
  refine callG (callC_func (by kernel_rfl) (f36_c ?_))
  simp only [push_cast, Int.cast_ofNat_Int, Int.reduceLE, Int.reduceLT, Int.reduceToNat, Int.reduceNeg, Int.reduceSub, iv, bv, Nat.reduceBEq, reduceCtorEq, Nat.reduceAdd, Nat.reduceLeDiff, Nat.reduceSub, Nat.reduceLT, Nat.reduceMul, hx0]
  repeat refine awp_seq ?_
  refine awp_condS ?_
  simp only [push_cast, Int.cast_ofNat_Int, Int.reduceLE, Int.reduceLT, Int.reduceToNat, Int.reduceNeg, Int.reduceSub, iv, bv, Nat.reduceBEq, reduceCtorEq, Nat.reduceAdd, Nat.reduceLeDiff, Nat.reduceSub, Nat.reduceLT, Nat.reduceMul]
  repeat refine awp_seq ?_
  refine awp_region (by kernel_rfl) ?_
  simp only [push_cast, Int.cast_ofNat_Int, Int.reduceLE, Int.reduceLT, Int.reduceToNat, Int.reduceNeg, Int.reduceSub, iv, bv, Nat.reduceBEq, reduceCtorEq, Nat.reduceAdd, Nat.reduceLeDiff, Nat.reduceSub, Nat.reduceLT, Nat.reduceMul, F.FieldOf_35_1, F.FieldOf_33_0, F.Ty_3, F.FieldOf_33_1]
  repeat refine awp_seq ?_
  refine awp_condS ?_
  simp only [push_cast, Int.cast_ofNat_Int, Int.reduceLE, Int.reduceLT, Int.reduceToNat, Int.reduceNeg, Int.reduceSub, iv, bv, Nat.reduceBEq, reduceCtorEq, Nat.reduceAdd, Nat.reduceLeDiff, Nat.reduceSub, Nat.reduceLT, Nat.reduceMul]
  refine ⟨fun h2 => absurd h2 (by simp), fun h2 => ?_⟩
  repeat refine awp_seq ?_
  refine awp_skip ?_
  simp only [push_cast, Int.cast_ofNat_Int, Int.reduceLE, Int.reduceLT, Int.reduceToNat, Int.reduceNeg, Int.reduceSub, iv, bv, Nat.reduceBEq, reduceCtorEq, Nat.reduceAdd, Nat.reduceLeDiff, Nat.reduceSub, Nat.reduceLT, Nat.reduceMul]
  repeat refine awp_seq ?_
  refine awp_region (by kernel_rfl) ?_
  simp only [push_cast, Int.cast_ofNat_Int, Int.reduceLE, Int.reduceLT, Int.reduceToNat, Int.reduceNeg, Int.reduceSub, iv, bv, Nat.reduceBEq, reduceCtorEq, Nat.reduceAdd, Nat.reduceLeDiff, Nat.reduceSub, Nat.reduceLT, Nat.reduceMul, hi1]
  refine hR _ ⟨hlt, trivial, ?_⟩
  exact (by first | exact round_trim1 (keeps_rfl rfl rfl) (by simp only [push_cast, Int.cast_ofNat_Int, Int.reduceLE, Int.reduceLT, Int.reduceToNat, Int.reduceNeg, Int.reduceSub, iv, bv, Nat.reduceBEq, reduceCtorEq, Nat.reduceAdd, Nat.reduceLeDiff, Nat.reduceSub, Nat.reduceLT, Nat.reduceMul]; simp [exists_wk, Wk.refl]) hHs (by simp [lt_val]) | exact round_trim2 (keeps_rfl rfl rfl) (by simp only [push_cast, Int.cast_ofNat_Int, Int.reduceLE, Int.reduceLT, Int.reduceToNat, Int.reduceNeg, Int.reduceSub, iv, bv, Nat.reduceBEq, reduceCtorEq, Nat.reduceAdd, Nat.reduceLeDiff, Nat.reduceSub, Nat.reduceLT, Nat.reduceMul]; simp [exists_wk, Wk.refl]) hHs (by simp [lt_val]))
 ·
  repeat refine awp_seq ?_
  refine awp_exit ?_
  simp only [push_cast, Int.cast_ofNat_Int, Int.reduceLE, Int.reduceLT, Int.reduceToNat, Int.reduceNeg, Int.reduceSub, iv, bv, Nat.reduceBEq, reduceCtorEq, Nat.reduceAdd, Nat.reduceLeDiff, Nat.reduceSub, Nat.reduceLT, Nat.reduceMul]
  repeat refine awp_seq ?_
  refine awp_region (by kernel_rfl) ?_
  simp only [push_cast, Int.cast_ofNat_Int, Int.reduceLE, Int.reduceLT, Int.reduceToNat, Int.reduceNeg, Int.reduceSub, iv, bv, Nat.reduceBEq, reduceCtorEq, Nat.reduceAdd, Nat.reduceLeDiff, Nat.reduceSub, Nat.reduceLT, Nat.reduceMul]
  repeat refine awp_seq ?_
  refine awp_ret ?_
  simp only [push_cast, Int.cast_ofNat_Int, Int.reduceLE, Int.reduceLT, Int.reduceToNat, Int.reduceNeg, Int.reduceSub, iv, bv, Nat.reduceBEq, reduceCtorEq, Nat.reduceAdd, Nat.reduceLeDiff, Nat.reduceSub, Nat.reduceLT, Nat.reduceMul]
  exact endOf_here hk
end
structure At1 (Gf : List AV -> List AObj) (R el N : Nat) : Prop where
 get : ∀ l, (Gf l)[R]? = some (.cells l el)
 set : ∀ l l', (Gf l).set R (.cells l' el) = Gf l'
 len : ∀ l, (Gf l).length = N
 ok : ∀ m l l', (∀ z ∈ Gf l, OLt m z) -> (∀ a ∈ l', Lt m a) -> ∀ z ∈ Gf l', OLt m z
section
variable {Gf : List AV -> List AObj} {R el N : Nat} (h : At1 Gf R el N)
include h
theorem At1.more (L : List AObj) (l : List AV) : (Gf l ++ L)[R]? = some (.cells l el) := get_app (h.get l)
theorem At1.sets (L : List AObj) (l l' : List AV) : (Gf l ++ L).set R (.cells l' el) = Gf l' ++ L := by
 rw [List.set_append_left _ _ (get_lt (h.get l)), h.set]
theorem At1.ext (L : List AObj) : At1 (fun l => Gf l ++ L) R el (N + L.length) where
 get := fun l => h.more L l
 set := fun l l' => h.sets L l l'
 len := fun l => by simp [h.len l]
 ok := fun m l l' hH hl z hz => (List.mem_append.1 hz).elim (fun hz => h.ok m l l' (fun v hv => hH v (List.mem_append_left _ hv)) hl z hz) fun hz => hH z (List.mem_append_right _ hz)
theorem At1.hok {l l' : List AV} (hH : HOk (Gf l)) (hl : ∀ a ∈ l', Lt N a) : HOk (Gf l') := fun z hz => by
 rw [h.len l']
 exact h.ok _ l l' (fun w hw => by have := hH w hw; rwa [h.len] at this) hl z hz
theorem At1.n0 (l : List AV) (L : List AObj) : (Gf l ++ L)[N]? = L[0]? := by have := app_get (Gf l) L 0; rwa [h.len] at this
theorem At1.p0 (l : List AV) (L : List AObj) (x : AObj) : (Gf l ++ L).set (N) x = Gf l ++ L.set 0 x := by have := app_set (Gf l) L 0 x; rwa [h.len] at this
theorem At1.n1 (l : List AV) (L : List AObj) : (Gf l ++ L)[N + 1]? = L[1]? := by have := app_get (Gf l) L 1; rwa [h.len] at this
theorem At1.p1 (l : List AV) (L : List AObj) (x : AObj) : (Gf l ++ L).set (N + 1) x = Gf l ++ L.set 1 x := by have := app_set (Gf l) L 1 x; rwa [h.len] at this
theorem At1.n2 (l : List AV) (L : List AObj) : (Gf l ++ L)[N + 2]? = L[2]? := by have := app_get (Gf l) L 2; rwa [h.len] at this
theorem At1.p2 (l : List AV) (L : List AObj) (x : AObj) : (Gf l ++ L).set (N + 2) x = Gf l ++ L.set 2 x := by have := app_set (Gf l) L 2 x; rwa [h.len] at this
theorem At1.p3 (l : List AV) (L : List AObj) (x : AObj) : (Gf l ++ L).set (N + 3) x = Gf l ++ L.set 3 x := by have := app_set (Gf l) L 3 x; rwa [h.len] at this
theorem At1.p4 (l : List AV) (L : List AObj) (x : AObj) : (Gf l ++ L).set (N + 4) x = Gf l ++ L.set 4 x := by have := app_set (Gf l) L 4 x; rwa [h.len] at this
theorem At1.p5 (l : List AV) (L : List AObj) (x : AObj) : (Gf l ++ L).set (N + 5) x = Gf l ++ L.set 5 x := by have := app_set (Gf l) L 5 x; rwa [h.len] at this
end
theorem at1_new (H L : List AObj) (el : Nat) : At1 (fun l => H ++ .cells l el :: L) H.length el (H.length + (L.length + 1)) where
 get := fun l => by simp
 set := fun l l' => by simp
 len := fun l => by simp
 ok := fun m l l' hH hl z hz => by
  rcases List.mem_append.1 hz with hz | hz
  ·exact hH z (List.mem_append_left _ hz)
  ·rcases List.mem_cons.1 hz with rfl | hz
   ·exact hl
   ·exact hH z (List.mem_append_right _ (List.mem_cons_of_mem _ hz))
theorem or_next {c : Nat} (h : c < 8) : (2 ^ c - 1) ||| 2 ^ c = 2 ^ (c + 1) - 1 := by
 have : ∀ c : Fin 8, (2 ^ c.1 - 1) ||| 2 ^ c.1 = 2 ^ (c.1 + 1) - 1 := by decide
 exact this ⟨c, h⟩
theorem pow_lt8 {c : Nat} (h : c <= 8) : 2 ^ c - 1 < 256 := by
 have := Nat.pow_le_pow_right (n := 2) (by omega) h
 omega
def rackL (n : Int) (hs : List Int) (m c M : Nat) : List AV := [aInts [n], aBags hs, aInts (List.replicate m 0), iv (n - c), iv 0, iv 0, uv (2 ^ c - 1), uv 0, uv 0, iv c, .mp M]
section
variable {lv : Bool} {Gf : List AV -> List AObj} {R N : Nat} {k kp : AV -> List AObj -> Prop}
theorem f61_c {n : Int} {hs : List Int} {m c M : Nat} (hG : At1 Gf R 77 N) (hc : c < hs.length) (h5 : hs.length <= 5) (hcn : (c : Int) < n /\ n <= 9) (hk : k (.tup []) (Gf (rackL n hs m (c + 1) M))) : FnC lv Tryd.prog 61 (Gf (rackL n hs m c M)) [.op R 0, iv 0] k kp := by
 obtain ⟨x, hx⟩ := lt_get hc
 refine fnC_intro (rs := []) (nt := 61) F.f61 rfl rfl rfl (by simp) fun hH hA => ?_
 simp only [argsT, Nat.reduceAdd]
 have hg := hG.get (rackL n hs m c M)
 simp only [rackL] at hg
 repeat refine awp_seq ?_
 refine awp_draw F.mixed 18 (by kernel_rfl) ?_
 simp only [push_cast, Int.cast_ofNat_Int, Int.reduceLE, Int.reduceLT, Int.reduceToNat, Int.reduceNeg, Int.reduceSub, iv, bv, Nat.reduceBEq, reduceCtorEq, Nat.reduceAdd, Nat.reduceLeDiff, Nat.reduceSub, Nat.reduceLT, Nat.reduceMul, F.FieldOf_77_1, F.IdxOf_73, F.Ty_3, F.FieldOf_77_0, F.FieldOf_27_1, F.Ty_25, F.FieldOf_77_3, F.IdxOf_25, F.FieldOf_35_0, hG.get, rackL, aBags, sh_bags hx, bnd_nat hc]
 have hw1 : IntKind.i64.wrap (n - c - 1) = n - ((c + 1 : Nat) : Int) := by rw [i64_in _ (by omega)]; omega
 have hw2 : IntKind.i64.wrap ((c : Int) + 1) = ((c + 1 : Nat) : Int) := by rw [i64_in _ (by omega)]; rfl
 simp only [push_cast, Int.cast_ofNat_Int, Int.reduceLE, Int.reduceLT, Int.reduceToNat, Int.reduceNeg, Int.reduceSub, iv, bv, Nat.reduceBEq, reduceCtorEq, Nat.reduceAdd, Nat.reduceLeDiff, Nat.reduceSub, Nat.reduceLT, Nat.reduceMul, hw1]
 repeat refine awp_seq ?_
 refine awp_region (by kernel_rfl) ?_
 simp only [push_cast, Int.cast_ofNat_Int, Int.reduceLE, Int.reduceLT, Int.reduceToNat, Int.reduceNeg, Int.reduceSub, iv, bv, Nat.reduceBEq, reduceCtorEq, Nat.reduceAdd, Nat.reduceLeDiff, Nat.reduceSub, Nat.reduceLT, Nat.reduceMul]
 repeat refine awp_seq ?_
 refine awp_condS ?_
 simp only [push_cast, Int.cast_ofNat_Int, Int.reduceLE, Int.reduceLT, Int.reduceToNat, Int.reduceNeg, Int.reduceSub, iv, bv, Nat.reduceBEq, reduceCtorEq, Nat.reduceAdd, Nat.reduceLeDiff, Nat.reduceSub, Nat.reduceLT, Nat.reduceMul]
 refine ⟨fun h => absurd h (by simp; omega), fun h => ?_⟩
 repeat refine awp_seq ?_
 refine awp_skip ?_
 simp only [push_cast, Int.cast_ofNat_Int, Int.reduceLE, Int.reduceLT, Int.reduceToNat, Int.reduceNeg, Int.reduceSub, iv, bv, Nat.reduceBEq, reduceCtorEq, Nat.reduceAdd, Nat.reduceLeDiff, Nat.reduceSub, Nat.reduceLT, Nat.reduceMul]
 repeat refine awp_seq ?_
 refine awp_drawB [19, 23] [0, 1, 2, 3, 4, 5, 6, 7, 8, 9, 10, 11, 12, 13, 14, 15, 16, 17, 18, 19, 20, 21, 22, 23] [⟨0, false, [], []⟩, ⟨1, false, [], []⟩, ⟨2, false, [], [([19], [19])]⟩, ⟨3, false, [], [([19], [19])]⟩, ⟨4, false, [], []⟩, ⟨5, false, [], []⟩, ⟨6, false, [], []⟩, ⟨7, false, [], []⟩, ⟨8, false, [], []⟩, ⟨9, false, [], []⟩, ⟨10, false, [], []⟩, ⟨11, false, [], []⟩, ⟨12, false, [], []⟩, ⟨13, false, [], []⟩, ⟨14, false, [], []⟩, ⟨15, false, [], []⟩, ⟨16, false, [], []⟩, ⟨17, false, [], []⟩, ⟨18, false, [], []⟩, ⟨19, true, [19], []⟩, ⟨20, false, [19], [([], [])]⟩, ⟨21, false, [19], [([], [])]⟩, ⟨22, false, [19], []⟩, ⟨23, true, [19, 23], []⟩] (fun D => bif isDone 23 D then Gf [aInts [n], aBags hs, aInts (List.replicate m 0), iv (n - ((c + 1 : Nat) : Int)), iv 0, iv 0, uv (2 ^ (c + 1) - 1), uv 0, uv 0, iv c, .mp M] else bif isDone 19 D then Gf [aInts [n], aBags hs, aInts (List.replicate m 0), iv (n - ((c + 1 : Nat) : Int)), iv 0, iv 0, uv (2 ^ c - 1), uv 0, uv 0, iv c, .mp M] else Gf [aInts [n], aBags hs, aInts (List.replicate m 0), iv (n - c), iv 0, iv 0, uv (2 ^ c - 1), uv 0, uv 0, iv c, .mp M]) F.mixed (by kernel_rfl) (by kernel_rfl) (by first | rfl | simp only [push_cast, Int.cast_ofNat_Int, Int.reduceLE, Int.reduceLT, Int.reduceToNat, Int.reduceNeg, Int.reduceSub, iv, bv, Nat.reduceBEq, reduceCtorEq, Nat.reduceAdd, Nat.reduceLeDiff, Nat.reduceSub, Nat.reduceLT, Nat.reduceMul]) ?_
 simp only [push_cast, Int.cast_ofNat_Int, Int.reduceLE, Int.reduceLT, Int.reduceToNat, Int.reduceNeg, Int.reduceSub, iv, bv, Nat.reduceBEq, reduceCtorEq, Nat.reduceAdd, Nat.reduceLeDiff, Nat.reduceSub, Nat.reduceLT, Nat.reduceMul, F.FieldOf_77_2, F.IdxOf_74, F.Ty_69, F.FieldOf_77_3, F.Ty_3, F.FieldOf_77_1, F.IdxOf_73, hG.get, hG.set, aBags]
 refine qCall (uv (2 ^ (c + 1) - 1)) (callC_func (by kernel_rfl) (f25_c (pow_lt8 (by omega)) (by omega) (by rw [or_next (by omega)]; exact ⟨rfl, rfl⟩))) ?_
 simp only [push_cast, Int.cast_ofNat_Int, Int.reduceLE, Int.reduceLT, Int.reduceToNat, Int.reduceNeg, Int.reduceSub, iv, bv, Nat.reduceBEq, reduceCtorEq, Nat.reduceAdd, Nat.reduceLeDiff, Nat.reduceSub, Nat.reduceLT, Nat.reduceMul, F.FieldOf_77_2, F.IdxOf_74, F.Ty_69, F.FieldOf_77_3, F.Ty_3, F.FieldOf_77_1, F.IdxOf_73, hG.get, hG.set, aBags]
 repeat refine awp_seq ?_
 refine awp_region (by kernel_rfl) ?_
 simp only [push_cast, Int.cast_ofNat_Int, Int.reduceLE, Int.reduceLT, Int.reduceToNat, Int.reduceNeg, Int.reduceSub, iv, bv, Nat.reduceBEq, reduceCtorEq, Nat.reduceAdd, Nat.reduceLeDiff, Nat.reduceSub, Nat.reduceLT, Nat.reduceMul, F.FieldOf_77_3, F.Ty_3, hG.get, hG.set, hw2]
 exact endOf_here hk
theorem f60_d0 {H : List AObj} {kr kp : List AObj -> Prop} {r : Nat} (h : ∀ L, kr (H ++ L)) : DefA lv Tryd.prog (.fn (.func 60) [] [.op r 0], []) H none kr kp := by
 refine defA_recoverL (nt := 9) (by kernel_rfl) F.f60 rfl rfl rfl rfl rfl rfl rfl rfl (by kernel_rfl) (by simp) ?_
 simp only [argsT, Nat.reduceAdd, List.nil_append, Option.getD_none]
 simp only [push_cast, Int.cast_ofNat_Int, Int.reduceLE, Int.reduceLT, Int.reduceToNat, Int.reduceNeg, Int.reduceSub, iv, bv, Nat.reduceBEq, reduceCtorEq, Nat.reduceAdd, Nat.reduceLeDiff, Nat.reduceSub, Nat.reduceLT, Nat.reduceMul, F.isIfc_143, F.ZeroOf_143, F.Ty_143, show AV.of (Value.agg #[Value.int IntKind.i64 0]) = .agg [iv 0] from rfl]
 repeat refine awp_seq ?_
 refine awp_region (by kernel_rfl) ?_
 simp only [push_cast, Int.cast_ofNat_Int, Int.reduceLE, Int.reduceLT, Int.reduceToNat, Int.reduceNeg, Int.reduceSub, iv, bv, Nat.reduceBEq, reduceCtorEq, Nat.reduceAdd, Nat.reduceLeDiff, Nat.reduceSub, Nat.reduceLT, Nat.reduceMul]
 repeat refine awp_seq ?_
 refine awp_condS ?_
 simp only [push_cast, Int.cast_ofNat_Int, Int.reduceLE, Int.reduceLT, Int.reduceToNat, Int.reduceNeg, Int.reduceSub, iv, bv, Nat.reduceBEq, reduceCtorEq, Nat.reduceAdd, Nat.reduceLeDiff, Nat.reduceSub, Nat.reduceLT, Nat.reduceMul]
 refine awp_skip ?_
 exact .inl (h _)
theorem rack_lt {n : Int} {hs : List Int} {m c M K : Nat} (hM : M < K) : ∀ a ∈ rackL n hs m c M, Lt K a := fun a ha => by
 simp only [rackL, List.mem_cons, List.not_mem_nil, or_false] at ha
 rcases ha with rfl | rfl | rfl | rfl | rfl | rfl | rfl | rfl | rfl | rfl | rfl
 ·rw [lt_ints]; trivial
 ·rw [lt_bags]; trivial
 ·rw [lt_ints]; trivial
 all_goals first | exact .val _ | (rw [lt_mp]; exact hM)
theorem f51_c {n : Int} {hs : List Int} {m c M : Nat} (hG : At1 Gf R 77 N) (hM : M < N) (hc : c < hs.length) (h5 : hs.length <= 5) (hcn : (c : Int) < n /\ n <= 9) (hk : k (bv true) (Gf (rackL n hs m (c + 1) M))) : FnC lv Tryd.prog 51 (Gf (rackL n hs m c M)) [.op R 0, iv 0] k kp := by
 refine fnC_introD (rs := [.cell 4 4]) (nt := 9) F.f51 rfl rfl rfl (by simp) fun hH hA => ?_
 simp only [argsT, Nat.reduceAdd]
 have hok := hG.hok hH (rack_lt (n := n) (hs := hs) (m := m) (c := c + 1) hM)
 simp only [hG.len]
 refine awpd_seq1 ?_
 repeat refine awp_seq ?_
 refine awp_region (by kernel_rfl) ?_
 simp only [push_cast, Int.cast_ofNat_Int, Int.reduceLE, Int.reduceLT, Int.reduceToNat, Int.reduceNeg, Int.reduceSub, iv, bv, Nat.reduceBEq, reduceCtorEq, Nat.reduceAdd, Nat.reduceLeDiff, Nat.reduceSub, Nat.reduceLT, Nat.reduceMul, F.ZeroOf_4, F.Ty_4, hG.len]
 refine awpd_seq ?_
 refine awpd_defer0 (n := 1) rfl rfl rfl rfl rfl rfl (by kernel_rfl) ?_
 simp only [push_cast, Int.cast_ofNat_Int, Int.reduceLE, Int.reduceLT, Int.reduceToNat, Int.reduceNeg, Int.reduceSub, iv, bv, Nat.reduceBEq, reduceCtorEq, Nat.reduceAdd, Nat.reduceLeDiff, Nat.reduceSub, Nat.reduceLT, Nat.reduceMul, List.mapM_cons, List.mapM_nil, Option.pure_def, Option.bind_eq_bind]
 refine ⟨⟨_, _, _, rfl⟩, ?_⟩
 refine awpd_of ?_
 repeat refine awp_seq ?_
 refine awp_region (by kernel_rfl) ?_
 simp only [push_cast, Int.cast_ofNat_Int, Int.reduceLE, Int.reduceLT, Int.reduceToNat, Int.reduceNeg, Int.reduceSub, iv, bv, Nat.reduceBEq, reduceCtorEq, Nat.reduceAdd, Nat.reduceLeDiff, Nat.reduceSub, Nat.reduceLT, Nat.reduceMul]
 have hG2 := hG.ext [.cells [bv false] 4]
 refine callG (callC_func (by kernel_rfl) (f61_c hG2 hc h5 hcn ?_))
 simp only [push_cast, Int.cast_ofNat_Int, Int.reduceLE, Int.reduceLT, Int.reduceToNat, Int.reduceNeg, Int.reduceSub, iv, bv, Nat.reduceBEq, reduceCtorEq, Nat.reduceAdd, Nat.reduceLeDiff, Nat.reduceSub, Nat.reduceLT, Nat.reduceMul]
 repeat refine awp_seq ?_
 refine awp_region (by kernel_rfl) ?_
 simp only [push_cast, Int.cast_ofNat_Int, Int.reduceLE, Int.reduceLT, Int.reduceToNat, Int.reduceNeg, Int.reduceSub, iv, bv, Nat.reduceBEq, reduceCtorEq, Nat.reduceAdd, Nat.reduceLeDiff, Nat.reduceSub, Nat.reduceLT, Nat.reduceMul, F.Ty_4, hG.n0, hG.p0]
 refine awp_ret ?_
 simp only [fnEndD_ret1]
 refine f60_d0 fun L => ?_
 simp only [push_cast, Int.cast_ofNat_Int, Int.reduceLE, Int.reduceLT, Int.reduceToNat, Int.reduceNeg, Int.reduceSub, iv, bv, Nat.reduceBEq, reduceCtorEq, Nat.reduceAdd, Nat.reduceLeDiff, Nat.reduceSub, Nat.reduceLT, Nat.reduceMul, F.Ty_4, List.append_assoc, List.cons_append, List.nil_append, hG.n0]
 rw [<- hG.len (rackL n hs m (c + 1) M)]
 exact endA hok (Wk.refl _) (by simp [lt_val]) hk
end
def LJump (l : Nat) (S : Nat -> AS) (ok : Nat -> Prop) (m : Nat) (Φ : AEx -> AS -> Prop) : AEx -> AS -> Prop
 | .goto l', s => l' = l /\ ∃ m', m' < m /\ ok m' /\ s.Sub (S m')
 | e, s => Φ e s
section
variable {lv : Bool} {P : Program} {r : Option Nat} {s : AS}
theorem awp_scopeL {nt l : Nat} {c X : Code} {Φ : AEx -> AS -> Prop} (S : Nat -> AS) (ok : Nat -> Prop) (hlab : findLabel c l = some (.seq .skip X)) (body : ∀ m, ok m -> AWP lv P r nt X (S m) (LJump l S ok m Φ)) (start : (∀ m, ok m -> AWP lv P r nt X (S m) (LJump l S ok m Φ)) -> ∃ n, AWP lv P r nt c s (LJump l S ok n Φ)) : AWP lv P r nt (.scope c) s Φ := by
 refine awp_scope (fun l' m s' => l' = l /\ ok m /\ s'.Sub (S m)) ?_ ?_
 ·obtain ⟨n, hn⟩ := start body
  refine ⟨n, hn.mono fun e s' h => ?_⟩
  cases e <;> first
   | exact h
   |(obtain ⟨rfl, m', hm, ho, hs⟩ := h; exact ⟨_, hlab, m', hm, rfl, ho, hs⟩)
 ·rintro l' rest m s' hf ⟨rfl, ho, hs⟩
  rw [hlab] at hf; cases hf
  refine awp_seq (awp_skip ?_)
  show AWP lv P r nt X s' _
  refine (awp_weak hs (body m ho)).mono fun e s'' h => ?_
  cases e <;> first
   | exact h
   |(obtain ⟨rfl, m', hm, ho, hs⟩ := h; exact ⟨_, hlab, m', hm, rfl, ho, hs⟩)
end
theorem lj_normal (l : Nat) (S : Nat -> AS) (ok : Nat -> Prop) (m : Nat) (Φ : AEx -> AS -> Prop) (s : AS) : LJump l S ok m Φ .normal s = Φ .normal s := by rw [LJump]; simp
theorem lj_ret (l : Nat) (S : Nat -> AS) (ok : Nat -> Prop) (m : Nat) (Φ : AEx -> AS -> Prop) (s : AS) : LJump l S ok m Φ .ret s = Φ .ret s := by rw [LJump]; simp
theorem lj_exit (l : Nat) (S : Nat -> AS) (ok : Nat -> Prop) (m : Nat) (Φ : AEx -> AS -> Prop) (i : Nat) (s : AS) : LJump l S ok m Φ (.exit i) s = Φ (.exit i) s := by rw [LJump]; simp
theorem lj_panic (l : Nat) (S : Nat -> AS) (ok : Nat -> Prop) (m : Nat) (Φ : AEx -> AS -> Prop) (a : AV) (s : AS) : LJump l S ok m Φ (.panic a) s = Φ (.panic a) s := by rw [LJump]; simp
@[congr] theorem lj_congr {l m : Nat} {S : Nat -> AS} {ok : Nat -> Prop} {s s' : AS} {Φ : AEx -> AS -> Prop} {e e' : AEx} (he : e = e') (h : s = s') : LJump l S ok m Φ e s = LJump l S ok m Φ e' s' := by rw [he, h]
attribute [push_cast] lj_normal lj_ret lj_exit lj_panic
theorem sub_look {T T' : List (Nat × AV)} (h : ∀ p ∈ T', ∃ b, look T p.1 = some b /\ Wk b p.2) {t : Nat} {a : AV} (e : look T' t = some a) : ∃ b, look T t = some b /\ Wk b a := h _ (look_mem e)
section
variable {lv : Bool} {Gf : List AV -> List AObj} {R N : Nat} {k kp : AV -> List AObj -> Prop}
def fillS (Gf : List AV -> List AObj) (R : Nat) (n : Int) (hs : List Int) (p M c : Nat) : AS := ⟨[(0, .op R 0), (1, aInts (List.replicate p 0)), (5, iv c)], Gf (rackL n hs p c M)⟩
theorem f40_c {n : Int} {hs : List Int} {p M : Nat} (hG : At1 Gf R 77 N) (hM : M < N) (hp : p <= hs.length) (h5 : hs.length <= 5) (hpn : (p : Int) <= n /\ n <= 9) (hk : k (.val .nilIface) (Gf (rackL n hs p p M))) : FnC lv Tryd.prog 40 (Gf (rackL n hs p 0 M)) [.op R 0, aInts (List.replicate p 0)] k kp := by
 refine fnC_intro (rs := [.tmp 4]) (nt := 37) F.f40 rfl rfl rfl (by simp) fun hH hA => ?_
 simp only [argsT, Nat.reduceAdd]
 repeat refine awp_seq ?_
 refine awp_region (by kernel_rfl) ?_
 simp only [push_cast, Int.cast_ofNat_Int, Int.reduceLE, Int.reduceLT, Int.reduceToNat, Int.reduceNeg, Int.reduceSub, iv, bv, Nat.reduceBEq, reduceCtorEq, Nat.reduceAdd, Nat.reduceLeDiff, Nat.reduceSub, Nat.reduceLT, Nat.reduceMul]
 repeat refine awp_seq ?_
 refine awp_scopeL (fun m => fillS Gf R n hs p M (p - m)) (fun m => m <= p) (l := 0) rfl (fun m hm => ?_) (fun hb => ⟨p, ?_⟩)
 ·obtain ⟨c, hc, hcp⟩ : ∃ c, p - m = c /\ c <= p := ⟨_, rfl, by omega⟩
  rw [hc]
  unfold fillS
  repeat refine awp_seq ?_
  refine awp_region (by kernel_rfl) ?_
  simp only [push_cast, Int.cast_ofNat_Int, Int.reduceLE, Int.reduceLT, Int.reduceToNat, Int.reduceNeg, Int.reduceSub, iv, bv, Nat.reduceBEq, reduceCtorEq, Nat.reduceAdd, Nat.reduceLeDiff, Nat.reduceSub, Nat.reduceLT, Nat.reduceMul, F.LenOf_22, aInts, List.length_replicate]
  repeat refine awp_seq ?_
  refine awp_condS ?_
  simp only [push_cast, Int.cast_ofNat_Int, Int.reduceLE, Int.reduceLT, Int.reduceToNat, Int.reduceNeg, Int.reduceSub, iv, bv, Nat.reduceBEq, reduceCtorEq, Nat.reduceAdd, Nat.reduceLeDiff, Nat.reduceSub, Nat.reduceLT, Nat.reduceMul]
  refine ⟨fun h => ?_, fun h => ?_⟩
  ·
   have hcp : c = p := by have h' : (c : Int) = p := (by simpa using h); omega
   subst hcp
   repeat refine awp_seq ?_
   refine awp_region (by kernel_rfl) ?_
   simp only [push_cast, Int.cast_ofNat_Int, Int.reduceLE, Int.reduceLT, Int.reduceToNat, Int.reduceNeg, Int.reduceSub, iv, bv, Nat.reduceBEq, reduceCtorEq, Nat.reduceAdd, Nat.reduceLeDiff, Nat.reduceSub, Nat.reduceLT, Nat.reduceMul]
   repeat refine awp_seq ?_
   refine awp_ret ?_
   simp only [push_cast, Int.cast_ofNat_Int, Int.reduceLE, Int.reduceLT, Int.reduceToNat, Int.reduceNeg, Int.reduceSub, iv, bv, Nat.reduceBEq, reduceCtorEq, Nat.reduceAdd, Nat.reduceLeDiff, Nat.reduceSub, Nat.reduceLT, Nat.reduceMul]
   exact endOf_here hk
  ·
   have hne : ¬ (c : Int) = p := by simpa using h
   have hcl : c < p := by omega
   have hw0 : IntKind.i64.wrap 0 = 0 := i64_in _ (by omega)
   have hx : (List.replicate p (0 : Int))[c]? = some 0 := by rw [List.getElem?_replicate, if_pos hcl]
   have hw : IntKind.i64.wrap ((c : Int) + 1) = ((c + 1 : Nat) : Int) := by rw [i64_in _ (by omega)]; rfl
   repeat refine awp_seq ?_
   refine awp_skip ?_
   simp only [push_cast, Int.cast_ofNat_Int, Int.reduceLE, Int.reduceLT, Int.reduceToNat, Int.reduceNeg, Int.reduceSub, iv, bv, Nat.reduceBEq, reduceCtorEq, Nat.reduceAdd, Nat.reduceLeDiff, Nat.reduceSub, Nat.reduceLT, Nat.reduceMul]
   repeat refine awp_seq ?_
   refine awp_draw F.mixed 11 (by kernel_rfl) ?_
   simp only [push_cast, Int.cast_ofNat_Int, Int.reduceLE, Int.reduceLT, Int.reduceToNat, Int.reduceNeg, Int.reduceSub, iv, bv, Nat.reduceBEq, reduceCtorEq, Nat.reduceAdd, Nat.reduceLeDiff, Nat.reduceSub, Nat.reduceLT, Nat.reduceMul, F.IdxOf_22, F.Ty_3, F.FieldOf_77_0, F.FieldOf_27_0, F.Ty_22, F.LenOf_22, hG.get, rackL, aInts, sh_ints hx, bnd_nat hcl]
   simp only [push_cast, Int.cast_ofNat_Int, Int.reduceLE, Int.reduceLT, Int.reduceToNat, Int.reduceNeg, Int.reduceSub, iv, bv, Nat.reduceBEq, reduceCtorEq, Nat.reduceAdd, Nat.reduceLeDiff, Nat.reduceSub, Nat.reduceLT, Nat.reduceMul, hw0]
   refine callG (callC_func (by kernel_rfl) (f36_c ?_))
   simp only [push_cast, Int.cast_ofNat_Int, Int.reduceLE, Int.reduceLT, Int.reduceToNat, Int.reduceNeg, Int.reduceSub, iv, bv, Nat.reduceBEq, reduceCtorEq, Nat.reduceAdd, Nat.reduceLeDiff, Nat.reduceSub, Nat.reduceLT, Nat.reduceMul, decide_false, Bool.or_self]
   repeat refine awp_seq ?_
   refine awp_condS ?_
   simp only [push_cast, Int.cast_ofNat_Int, Int.reduceLE, Int.reduceLT, Int.reduceToNat, Int.reduceNeg, Int.reduceSub, iv, bv, Nat.reduceBEq, reduceCtorEq, Nat.reduceAdd, Nat.reduceLeDiff, Nat.reduceSub, Nat.reduceLT, Nat.reduceMul]
   repeat refine awp_seq ?_
   refine awp_skip ?_
   simp only [push_cast, Int.cast_ofNat_Int, Int.reduceLE, Int.reduceLT, Int.reduceToNat, Int.reduceNeg, Int.reduceSub, iv, bv, Nat.reduceBEq, reduceCtorEq, Nat.reduceAdd, Nat.reduceLeDiff, Nat.reduceSub, Nat.reduceLT, Nat.reduceMul]
   repeat refine awp_seq ?_
   refine awp_region (by kernel_rfl) ?_
   simp only [push_cast, Int.cast_ofNat_Int, Int.reduceLE, Int.reduceLT, Int.reduceToNat, Int.reduceNeg, Int.reduceSub, iv, bv, Nat.reduceBEq, reduceCtorEq, Nat.reduceAdd, Nat.reduceLeDiff, Nat.reduceSub, Nat.reduceLT, Nat.reduceMul, F.IdxOf_22, F.Ty_3, sh_ints hx, bnd_nat hcl]
   refine callG (callC_func (by kernel_rfl) (f51_c (n := n) (hs := hs) (m := p) (c := c) (M := M) hG hM (by omega) h5 (by omega) ?_))
   simp only [push_cast, Int.cast_ofNat_Int, Int.reduceLE, Int.reduceLT, Int.reduceToNat, Int.reduceNeg, Int.reduceSub, iv, bv, Nat.reduceBEq, reduceCtorEq, Nat.reduceAdd, Nat.reduceLeDiff, Nat.reduceSub, Nat.reduceLT, Nat.reduceMul]
   repeat refine awp_seq ?_
   refine awp_condS ?_
   simp only [push_cast, Int.cast_ofNat_Int, Int.reduceLE, Int.reduceLT, Int.reduceToNat, Int.reduceNeg, Int.reduceSub, iv, bv, Nat.reduceBEq, reduceCtorEq, Nat.reduceAdd, Nat.reduceLeDiff, Nat.reduceSub, Nat.reduceLT, Nat.reduceMul]
   repeat refine awp_seq ?_
   refine awp_skip ?_
   simp only [push_cast, Int.cast_ofNat_Int, Int.reduceLE, Int.reduceLT, Int.reduceToNat, Int.reduceNeg, Int.reduceSub, iv, bv, Nat.reduceBEq, reduceCtorEq, Nat.reduceAdd, Nat.reduceLeDiff, Nat.reduceSub, Nat.reduceLT, Nat.reduceMul]
   repeat refine awp_seq ?_
   refine awp_region (by kernel_rfl) ?_
   simp only [push_cast, Int.cast_ofNat_Int, Int.reduceLE, Int.reduceLT, Int.reduceToNat, Int.reduceNeg, Int.reduceSub, iv, bv, Nat.reduceBEq, reduceCtorEq, Nat.reduceAdd, Nat.reduceLeDiff, Nat.reduceSub, Nat.reduceLT, Nat.reduceMul, hw]
   repeat refine awp_seq ?_
   refine awp_goto ?_
   refine ⟨rfl, m - 1, by omega, by omega, ?_⟩
   have e : p - (m - 1) = c + 1 := by omega
   simp only [e]
   exact ⟨fun t' a e' => sub_look (by simp only [push_cast, Int.cast_ofNat_Int, Int.reduceLE, Int.reduceLT, Int.reduceToNat, Int.reduceNeg, Int.reduceSub, iv, bv, Nat.reduceBEq, reduceCtorEq, Nat.reduceAdd, Nat.reduceLeDiff, Nat.reduceSub, Nat.reduceLT, Nat.reduceMul, List.forall_mem_cons, List.not_mem_nil, false_imp_iff, implies_true, List.forall_mem_nil]; simp [exists_wk, Wk.refl]) e', rfl⟩
 ·repeat refine awp_seq ?_
  refine awp_region (by kernel_rfl) ?_
  simp only [push_cast, Int.cast_ofNat_Int, Int.reduceLE, Int.reduceLT, Int.reduceToNat, Int.reduceNeg, Int.reduceSub, iv, bv, Nat.reduceBEq, reduceCtorEq, Nat.reduceAdd, Nat.reduceLeDiff, Nat.reduceSub, Nat.reduceLT, Nat.reduceMul]
  repeat refine awp_seq ?_
  refine awp_label ?_
  simp only [push_cast, Int.cast_ofNat_Int, Int.reduceLE, Int.reduceLT, Int.reduceToNat, Int.reduceNeg, Int.reduceSub, iv, bv, Nat.reduceBEq, reduceCtorEq, Nat.reduceAdd, Nat.reduceLeDiff, Nat.reduceSub, Nat.reduceLT, Nat.reduceMul]
  refine awp_weak ?_ (hb p (Nat.le_refl _))
  have e : p - p = 0 := by omega
  show AS.Sub _ (fillS Gf R n hs p M (p - p))
  rw [e]
  exact ⟨fun t' a e' => sub_look (by unfold fillS; simp only [push_cast, Int.cast_ofNat_Int, Int.reduceLE, Int.reduceLT, Int.reduceToNat, Int.reduceNeg, Int.reduceSub, iv, bv, Nat.reduceBEq, reduceCtorEq, Nat.reduceAdd, Nat.reduceLeDiff, Nat.reduceSub, Nat.reduceLT, Nat.reduceMul, List.forall_mem_cons, List.not_mem_nil, false_imp_iff, implies_true, List.forall_mem_nil]; simp [exists_wk, Wk.refl]) e', rfl⟩
def openO (N : Nat) (n : Int) (hs : List Int) (m c : Nat) : List AObj := [.cells (shelfL n hs m) 27, .obj (.map #[] 0), .cells (rackL n hs m c (N + 1)) 77]
theorem f39_c {H : List AObj} {n : Int} {hs : List Int} {m : Nat} (hk : k (.op (H.length + 2) 0) (H ++ openO H.length n hs m 0)) : FnC lv Tryd.prog 39 H [shelfA n hs m] k kp := by
 refine fnC_intro (rs := [.tmp 2]) (nt := 16) F.f39 rfl rfl rfl (by simp) fun hH hA => ?_
 simp only [argsT, Nat.reduceAdd, shelfA, shelfL]
 repeat refine awp_seq ?_
 refine awp_region (by kernel_rfl) ?_
 simp only [push_cast, Int.cast_ofNat_Int, Int.reduceLE, Int.reduceLT, Int.reduceToNat, Int.reduceNeg, Int.reduceSub, iv, bv, Nat.reduceBEq, reduceCtorEq, Nat.reduceAdd, Nat.reduceLeDiff, Nat.reduceSub, Nat.reduceLT, Nat.reduceMul]
 repeat refine awp_seq ?_
 refine awp_region (by kernel_rfl) ?_
 simp only [push_cast, Int.cast_ofNat_Int, Int.reduceLE, Int.reduceLT, Int.reduceToNat, Int.reduceNeg, Int.reduceSub, iv, bv, Nat.reduceBEq, reduceCtorEq, Nat.reduceAdd, Nat.reduceLeDiff, Nat.reduceSub, Nat.reduceLT, Nat.reduceMul, F.Ty_27, F.BuildOf_77]
 repeat refine awp_seq ?_
 refine awp_draw F.mixed 6 (by kernel_rfl) ?_
 simp only [push_cast, Int.cast_ofNat_Int, Int.reduceLE, Int.reduceLT, Int.reduceToNat, Int.reduceNeg, Int.reduceSub, iv, bv, Nat.reduceBEq, reduceCtorEq, Nat.reduceAdd, Nat.reduceLeDiff, Nat.reduceSub, Nat.reduceLT, Nat.reduceMul, F.FieldOf_77_1, F.IsSliceOf_73, F.IsArrOf_73, F.FieldOf_27_0, F.Ty_22, F.IsSliceOf_22, aInts]
 refine ⟨by decide, ?_⟩
 repeat refine awp_seq ?_
 refine awp_region (by kernel_rfl) ?_
 simp only [push_cast, Int.cast_ofNat_Int, Int.reduceLE, Int.reduceLT, Int.reduceToNat, Int.reduceNeg, Int.reduceSub, iv, bv, Nat.reduceBEq, reduceCtorEq, Nat.reduceAdd, Nat.reduceLeDiff, Nat.reduceSub, Nat.reduceLT, Nat.reduceMul]
 repeat refine awp_seq ?_
 refine awp_ret ?_
 simp only [push_cast, Int.cast_ofNat_Int, Int.reduceLE, Int.reduceLT, Int.reduceToNat, Int.reduceNeg, Int.reduceSub, iv, bv, Nat.reduceBEq, reduceCtorEq, Nat.reduceAdd, Nat.reduceLeDiff, Nat.reduceSub, Nat.reduceLT, Nat.reduceMul]
 refine endOf_here ?_
 have e : openO H.length n hs m 0 = [.cells (shelfL n hs m) 27, .obj (.map #[] 0), .cells [aInts [n], aBags hs, aInts (List.replicate m 0), iv n, iv 0, iv 0, uv 0, uv 0, uv 0, iv 0, .mp (H.length + 1)] 77] := by
  unfold openO rackL
  simp
 rw [e] at hk
 exact hk
end
structure ShOk (n : Int) (hs : List Int) (m : Nat) : Prop where
 long : 1 <= n /\ n <= 9
 many : hs.length <= 5
 hour : ∀ h ∈ hs, 0 <= h /\ h <= 6
 plan : m <= hs.length
 room : (m : Int) <= n
def beginO (N : Nat) (n : Int) (hs : List Int) (m : Nat) : List AObj := .cells (shelfL n hs m) 27 :: openO (N + 1) n hs m m
section
variable {lv : Bool} {H : List AObj} {k kp : AV -> List AObj -> Prop}
theorem f23_c {n : Int} {hs : List Int} {m : Nat} (hs' : ShOk n hs m) (hk : k (.tup [.op (H.length + 3) 0, iv 0]) (H ++ beginO H.length n hs m)) : FnC lv Tryd.prog 23 H [shelfA n hs m] k kp := by
 obtain ⟨hn, h5, hh, hp, hr⟩ := hs'
 refine fnC_intro (rs := [.tmp 2, .tmp 3]) (nt := 58) F.f23 rfl rfl rfl (by simp) fun hH hA => ?_
 simp only [argsT, Nat.reduceAdd, shelfA, shelfL]
 repeat refine awp_seq ?_
 refine awp_region (by kernel_rfl) ?_
 simp only [push_cast, Int.cast_ofNat_Int, Int.reduceLE, Int.reduceLT, Int.reduceToNat, Int.reduceNeg, Int.reduceSub, iv, bv, Nat.reduceBEq, reduceCtorEq, Nat.reduceAdd, Nat.reduceLeDiff, Nat.reduceSub, Nat.reduceLT, Nat.reduceMul]
 repeat refine awp_seq ?_
 refine awp_region (by kernel_rfl) ?_
 simp only [push_cast, Int.cast_ofNat_Int, Int.reduceLE, Int.reduceLT, Int.reduceToNat, Int.reduceNeg, Int.reduceSub, iv, bv, Nat.reduceBEq, reduceCtorEq, Nat.reduceAdd, Nat.reduceLeDiff, Nat.reduceSub, Nat.reduceLT, Nat.reduceMul, F.FieldOf_27_0, F.Ty_22, F.LenOf_22, aInts, List.length_cons, List.length_nil]
 repeat refine awp_seq ?_
 refine awp_block ?_
 repeat refine awp_seq ?_
 refine awp_region (by kernel_rfl) ?_
 simp only [push_cast, Int.cast_ofNat_Int, Int.reduceLE, Int.reduceLT, Int.reduceToNat, Int.reduceNeg, Int.reduceSub, iv, bv, Nat.reduceBEq, reduceCtorEq, Nat.reduceAdd, Nat.reduceLeDiff, Nat.reduceSub, Nat.reduceLT, Nat.reduceMul]
 repeat refine awp_seq ?_
 refine awp_condS ?_
 simp only [push_cast, Int.cast_ofNat_Int, Int.reduceLE, Int.reduceLT, Int.reduceToNat, Int.reduceNeg, Int.reduceSub, iv, bv, Nat.reduceBEq, reduceCtorEq, Nat.reduceAdd, Nat.reduceLeDiff, Nat.reduceSub, Nat.reduceLT, Nat.reduceMul]
 refine ⟨fun h => absurd h (by decide), fun _ => ?_⟩
 repeat refine awp_seq ?_
 refine awp_region (by kernel_rfl) ?_
 simp only [push_cast, Int.cast_ofNat_Int, Int.reduceLE, Int.reduceLT, Int.reduceToNat, Int.reduceNeg, Int.reduceSub, iv, bv, Nat.reduceBEq, reduceCtorEq, Nat.reduceAdd, Nat.reduceLeDiff, Nat.reduceSub, Nat.reduceLT, Nat.reduceMul]
 repeat refine awp_seq ?_
 refine awp_condS ?_
 simp only [push_cast, Int.cast_ofNat_Int, Int.reduceLE, Int.reduceLT, Int.reduceToNat, Int.reduceNeg, Int.reduceSub, iv, bv, Nat.reduceBEq, reduceCtorEq, Nat.reduceAdd, Nat.reduceLeDiff, Nat.reduceSub, Nat.reduceLT, Nat.reduceMul]
 repeat refine awp_seq ?_
 refine awp_skip ?_
 simp only [push_cast, Int.cast_ofNat_Int, Int.reduceLE, Int.reduceLT, Int.reduceToNat, Int.reduceNeg, Int.reduceSub, iv, bv, Nat.reduceBEq, reduceCtorEq, Nat.reduceAdd, Nat.reduceLeDiff, Nat.reduceSub, Nat.reduceLT, Nat.reduceMul]
 repeat refine awp_seq ?_
 refine awp_region (by kernel_rfl) ?_
 simp only [push_cast, Int.cast_ofNat_Int, Int.reduceLE, Int.reduceLT, Int.reduceToNat, Int.reduceNeg, Int.reduceSub, iv, bv, Nat.reduceBEq, reduceCtorEq, Nat.reduceAdd, Nat.reduceLeDiff, Nat.reduceSub, Nat.reduceLT, Nat.reduceMul, F.FieldOf_27_0, F.Ty_22, F.LenOf_22]
 repeat refine awp_seq ?_
 refine awp_block ?_
 refine awp_for 1 (fun i : Nat => [(22, iv i)]) (fun _ => H ++ [.cells (shelfL n hs m) 27]) (fun i => True) (fun _ _ => rfl) (by simp only [push_cast, Int.cast_ofNat_Int, Int.reduceLE, Int.reduceLT, Int.reduceToNat, Int.reduceNeg, Int.reduceSub, iv, bv, Nat.reduceBEq, reduceCtorEq, Nat.reduceAdd, Nat.reduceLeDiff, Nat.reduceSub, Nat.reduceLT, Nat.reduceMul, List.forall_mem_cons, List.not_mem_nil, false_imp_iff, implies_true, List.forall_mem_nil]; simp [exists_wk, Wk.refl]) rfl (fun _ _ _ => rfl) trivial (fun hHs hLt i hin hi R hR => ?_)
 repeat refine awp_seq ?_
 refine awp_region (by kernel_rfl) ?_
 simp only [push_cast, Int.cast_ofNat_Int, Int.reduceLE, Int.reduceLT, Int.reduceToNat, Int.reduceNeg, Int.reduceSub, iv, bv, Nat.reduceBEq, reduceCtorEq, Nat.reduceAdd, Nat.reduceLeDiff, Nat.reduceSub, Nat.reduceLT, Nat.reduceMul]
 repeat refine awp_seq ?_
 refine awp_condS ?_
 simp only [push_cast, Int.cast_ofNat_Int, Int.reduceLE, Int.reduceLT, Int.reduceToNat, Int.reduceNeg, Int.reduceSub, iv, bv, Nat.reduceBEq, reduceCtorEq, Nat.reduceAdd, Nat.reduceLeDiff, Nat.reduceSub, Nat.reduceLT, Nat.reduceMul]
 refine ⟨fun h => ?_, fun h => ?_⟩
 ·
  have hlt : i = 0 := by omega
  subst hlt
  repeat refine awp_seq ?_
  refine awp_skip ?_
  simp only [push_cast, Int.cast_ofNat_Int, Int.reduceLE, Int.reduceLT, Int.reduceToNat, Int.reduceNeg, Int.reduceSub, iv, bv, Nat.reduceBEq, reduceCtorEq, Nat.reduceAdd, Nat.reduceLeDiff, Nat.reduceSub, Nat.reduceLT, Nat.reduceMul]
  repeat refine awp_seq ?_
  refine awp_block ?_
  repeat refine awp_seq ?_
  refine awp_region (by kernel_rfl) ?_
  simp only [push_cast, Int.cast_ofNat_Int, Int.reduceLE, Int.reduceLT, Int.reduceToNat, Int.reduceNeg, Int.reduceSub, iv, bv, Nat.reduceBEq, reduceCtorEq, Nat.reduceAdd, Nat.reduceLeDiff, Nat.reduceSub, Nat.reduceLT, Nat.reduceMul, F.IdxOf_22, F.Ty_3]
  repeat refine awp_seq ?_
  refine awp_region (by kernel_rfl) ?_
  simp only [push_cast, Int.cast_ofNat_Int, Int.reduceLE, Int.reduceLT, Int.reduceToNat, Int.reduceNeg, Int.reduceSub, iv, bv, Nat.reduceBEq, reduceCtorEq, Nat.reduceAdd, Nat.reduceLeDiff, Nat.reduceSub, Nat.reduceLT, Nat.reduceMul]
  refine callG (callC_func (by kernel_rfl) (f36_c ?_))
  have hx0 : (decide (n < 1) || decide (9 < n)) = false := by simp; omega
  simp only [push_cast, Int.cast_ofNat_Int, Int.reduceLE, Int.reduceLT, Int.reduceToNat, Int.reduceNeg, Int.reduceSub, iv, bv, Nat.reduceBEq, reduceCtorEq, Nat.reduceAdd, Nat.reduceLeDiff, Nat.reduceSub, Nat.reduceLT, Nat.reduceMul, hx0]
  repeat refine awp_seq ?_
  refine awp_condS ?_
  simp only [push_cast, Int.cast_ofNat_Int, Int.reduceLE, Int.reduceLT, Int.reduceToNat, Int.reduceNeg, Int.reduceSub, iv, bv, Nat.reduceBEq, reduceCtorEq, Nat.reduceAdd, Nat.reduceLeDiff, Nat.reduceSub, Nat.reduceLT, Nat.reduceMul]
  repeat refine awp_seq ?_
  refine awp_skip ?_
  simp only [push_cast, Int.cast_ofNat_Int, Int.reduceLE, Int.reduceLT, Int.reduceToNat, Int.reduceNeg, Int.reduceSub, iv, bv, Nat.reduceBEq, reduceCtorEq, Nat.reduceAdd, Nat.reduceLeDiff, Nat.reduceSub, Nat.reduceLT, Nat.reduceMul]
  have hwa : IntKind.i64.wrap (0 + 1) = 1 := i64_in _ (by omega)
  have hwb : IntKind.i64.wrap 1 = 1 := i64_in _ (by omega)
  repeat refine awp_seq ?_
  refine awp_region (by kernel_rfl) ?_
  simp only [push_cast, Int.cast_ofNat_Int, Int.reduceLE, Int.reduceLT, Int.reduceToNat, Int.reduceNeg, Int.reduceSub, iv, bv, Nat.reduceBEq, reduceCtorEq, Nat.reduceAdd, Nat.reduceLeDiff, Nat.reduceSub, Nat.reduceLT, Nat.reduceMul, hwa, hwb]
  refine hR _ ⟨by omega, trivial, ?_⟩
  exact (by first | exact round_trim1 (keeps_rfl rfl rfl) (by simp only [push_cast, Int.cast_ofNat_Int, Int.reduceLE, Int.reduceLT, Int.reduceToNat, Int.reduceNeg, Int.reduceSub, iv, bv, Nat.reduceBEq, reduceCtorEq, Nat.reduceAdd, Nat.reduceLeDiff, Nat.reduceSub, Nat.reduceLT, Nat.reduceMul]; simp [exists_wk, Wk.refl]) hHs (by simp [lt_val]) | exact round_trim2 (keeps_rfl rfl rfl) (by simp only [push_cast, Int.cast_ofNat_Int, Int.reduceLE, Int.reduceLT, Int.reduceToNat, Int.reduceNeg, Int.reduceSub, iv, bv, Nat.reduceBEq, reduceCtorEq, Nat.reduceAdd, Nat.reduceLeDiff, Nat.reduceSub, Nat.reduceLT, Nat.reduceMul]; simp [exists_wk, Wk.refl]) hHs (by simp [lt_val]))
 ·
  repeat refine awp_seq ?_
  refine awp_exit ?_
  simp only [push_cast, Int.cast_ofNat_Int, Int.reduceLE, Int.reduceLT, Int.reduceToNat, Int.reduceNeg, Int.reduceSub, iv, bv, Nat.reduceBEq, reduceCtorEq, Nat.reduceAdd, Nat.reduceLeDiff, Nat.reduceSub, Nat.reduceLT, Nat.reduceMul]
  repeat refine awp_seq ?_
  refine awp_region (by kernel_rfl) ?_
  simp only [push_cast, Int.cast_ofNat_Int, Int.reduceLE, Int.reduceLT, Int.reduceToNat, Int.reduceNeg, Int.reduceSub, iv, bv, Nat.reduceBEq, reduceCtorEq, Nat.reduceAdd, Nat.reduceLeDiff, Nat.reduceSub, Nat.reduceLT, Nat.reduceMul, F.FieldOf_27_1, F.Ty_25, F.LenOf_25, shelfL, aBags]
  repeat refine awp_seq ?_
  refine awp_condS ?_
  simp only [push_cast, Int.cast_ofNat_Int, Int.reduceLE, Int.reduceLT, Int.reduceToNat, Int.reduceNeg, Int.reduceSub, iv, bv, Nat.reduceBEq, reduceCtorEq, Nat.reduceAdd, Nat.reduceLeDiff, Nat.reduceSub, Nat.reduceLT, Nat.reduceMul]
  refine ⟨fun h2 => absurd h2 (by omega), fun h2 => ?_⟩
  repeat refine awp_seq ?_
  refine awp_skip ?_
  simp only [push_cast, Int.cast_ofNat_Int, Int.reduceLE, Int.reduceLT, Int.reduceToNat, Int.reduceNeg, Int.reduceSub, iv, bv, Nat.reduceBEq, reduceCtorEq, Nat.reduceAdd, Nat.reduceLeDiff, Nat.reduceSub, Nat.reduceLT, Nat.reduceMul]
  repeat refine awp_seq ?_
  refine awp_region (by kernel_rfl) ?_
  simp only [push_cast, Int.cast_ofNat_Int, Int.reduceLE, Int.reduceLT, Int.reduceToNat, Int.reduceNeg, Int.reduceSub, iv, bv, Nat.reduceBEq, reduceCtorEq, Nat.reduceAdd, Nat.reduceLeDiff, Nat.reduceSub, Nat.reduceLT, Nat.reduceMul, F.FieldOf_27_1, F.Ty_25]
  refine callG (callC_func (by kernel_rfl) (f37_c h5 hh ?_))
  simp only [push_cast, Int.cast_ofNat_Int, Int.reduceLE, Int.reduceLT, Int.reduceToNat, Int.reduceNeg, Int.reduceSub, iv, bv, Nat.reduceBEq, reduceCtorEq, Nat.reduceAdd, Nat.reduceLeDiff, Nat.reduceSub, Nat.reduceLT, Nat.reduceMul]
  repeat refine awp_seq ?_
  refine awp_region (by kernel_rfl) ?_
  simp only [push_cast, Int.cast_ofNat_Int, Int.reduceLE, Int.reduceLT, Int.reduceToNat, Int.reduceNeg, Int.reduceSub, iv, bv, Nat.reduceBEq, reduceCtorEq, Nat.reduceAdd, Nat.reduceLeDiff, Nat.reduceSub, Nat.reduceLT, Nat.reduceMul, F.isIfc_99]
  repeat refine awp_seq ?_
  refine awp_condS ?_
  simp only [push_cast, Int.cast_ofNat_Int, Int.reduceLE, Int.reduceLT, Int.reduceToNat, Int.reduceNeg, Int.reduceSub, iv, bv, Nat.reduceBEq, reduceCtorEq, Nat.reduceAdd, Nat.reduceLeDiff, Nat.reduceSub, Nat.reduceLT, Nat.reduceMul]
  repeat refine awp_seq ?_
  refine awp_skip ?_
  simp only [push_cast, Int.cast_ofNat_Int, Int.reduceLE, Int.reduceLT, Int.reduceToNat, Int.reduceNeg, Int.reduceSub, iv, bv, Nat.reduceBEq, reduceCtorEq, Nat.reduceAdd, Nat.reduceLeDiff, Nat.reduceSub, Nat.reduceLT, Nat.reduceMul]
  repeat refine awp_seq ?_
  refine awp_region (by kernel_rfl) ?_
  simp only [push_cast, Int.cast_ofNat_Int, Int.reduceLE, Int.reduceLT, Int.reduceToNat, Int.reduceNeg, Int.reduceSub, iv, bv, Nat.reduceBEq, reduceCtorEq, Nat.reduceAdd, Nat.reduceLeDiff, Nat.reduceSub, Nat.reduceLT, Nat.reduceMul, F.FieldOf_27_2, F.Ty_22, F.LenOf_22, F.FieldOf_27_1, F.Ty_25, F.LenOf_25, aInts]
  repeat refine awp_seq ?_
  refine awp_condS ?_
  simp only [push_cast, Int.cast_ofNat_Int, Int.reduceLE, Int.reduceLT, Int.reduceToNat, Int.reduceNeg, Int.reduceSub, iv, bv, Nat.reduceBEq, reduceCtorEq, Nat.reduceAdd, Nat.reduceLeDiff, Nat.reduceSub, Nat.reduceLT, Nat.reduceMul]
  refine ⟨fun h3 => absurd h3 (by simp; omega), fun h3 => ?_⟩
  repeat refine awp_seq ?_
  refine awp_skip ?_
  simp only [push_cast, Int.cast_ofNat_Int, Int.reduceLE, Int.reduceLT, Int.reduceToNat, Int.reduceNeg, Int.reduceSub, iv, bv, Nat.reduceBEq, reduceCtorEq, Nat.reduceAdd, Nat.reduceLeDiff, Nat.reduceSub, Nat.reduceLT, Nat.reduceMul]
  repeat refine awp_seq ?_
  refine awp_region (by kernel_rfl) ?_
  simp only [push_cast, Int.cast_ofNat_Int, Int.reduceLE, Int.reduceLT, Int.reduceToNat, Int.reduceNeg, Int.reduceSub, iv, bv, Nat.reduceBEq, reduceCtorEq, Nat.reduceAdd, Nat.reduceLeDiff, Nat.reduceSub, Nat.reduceLT, Nat.reduceMul, F.Ty_27]
  refine callG (callC_func (by kernel_rfl) (f39_c (n := n) (hs := hs) (m := m) ?_))
  simp only [push_cast, Int.cast_ofNat_Int, Int.reduceLE, Int.reduceLT, Int.reduceToNat, Int.reduceNeg, Int.reduceSub, iv, bv, Nat.reduceBEq, reduceCtorEq, Nat.reduceAdd, Nat.reduceLeDiff, Nat.reduceSub, Nat.reduceLT, Nat.reduceMul, List.length_append, List.length_cons, List.length_nil]
  have hG : At1 (fun l => H ++ [.cells (shelfL n hs m) 27, .cells (shelfL n hs m) 27, .obj (.map #[] 0), .cells l 77]) (H.length + 3) 77 (H.length + 4) := by
   have := at1_new (H ++ [.cells (shelfL n hs m) 27, .cells (shelfL n hs m) 27, .obj (.map #[] 0)]) [] 77
   simpa using this
  repeat refine awp_seq ?_
  refine awp_region (by kernel_rfl) ?_
  simp only [push_cast, Int.cast_ofNat_Int, Int.reduceLE, Int.reduceLT, Int.reduceToNat, Int.reduceNeg, Int.reduceSub, iv, bv, Nat.reduceBEq, reduceCtorEq, Nat.reduceAdd, Nat.reduceLeDiff, Nat.reduceSub, Nat.reduceLT, Nat.reduceMul, F.FieldOf_27_2, F.Ty_22, List.append_assoc, List.cons_append, List.nil_append, openO]
  refine callG (callC_func (by kernel_rfl) (f40_c (n := n) (hs := hs) (p := m) (M := H.length + 1 + 1) hG (by omega) hp h5 ⟨hr, hn.2⟩ ?_))
  simp only [push_cast, Int.cast_ofNat_Int, Int.reduceLE, Int.reduceLT, Int.reduceToNat, Int.reduceNeg, Int.reduceSub, iv, bv, Nat.reduceBEq, reduceCtorEq, Nat.reduceAdd, Nat.reduceLeDiff, Nat.reduceSub, Nat.reduceLT, Nat.reduceMul]
  repeat refine awp_seq ?_
  refine awp_region (by kernel_rfl) ?_
  simp only [push_cast, Int.cast_ofNat_Int, Int.reduceLE, Int.reduceLT, Int.reduceToNat, Int.reduceNeg, Int.reduceSub, iv, bv, Nat.reduceBEq, reduceCtorEq, Nat.reduceAdd, Nat.reduceLeDiff, Nat.reduceSub, Nat.reduceLT, Nat.reduceMul, F.isIfc_99]
  repeat refine awp_seq ?_
  refine awp_condS ?_
  simp only [push_cast, Int.cast_ofNat_Int, Int.reduceLE, Int.reduceLT, Int.reduceToNat, Int.reduceNeg, Int.reduceSub, iv, bv, Nat.reduceBEq, reduceCtorEq, Nat.reduceAdd, Nat.reduceLeDiff, Nat.reduceSub, Nat.reduceLT, Nat.reduceMul]
  repeat refine awp_seq ?_
  refine awp_skip ?_
  simp only [push_cast, Int.cast_ofNat_Int, Int.reduceLE, Int.reduceLT, Int.reduceToNat, Int.reduceNeg, Int.reduceSub, iv, bv, Nat.reduceBEq, reduceCtorEq, Nat.reduceAdd, Nat.reduceLeDiff, Nat.reduceSub, Nat.reduceLT, Nat.reduceMul]
  repeat refine awp_seq ?_
  refine awp_region (by kernel_rfl) ?_
  simp only [push_cast, Int.cast_ofNat_Int, Int.reduceLE, Int.reduceLT, Int.reduceToNat, Int.reduceNeg, Int.reduceSub, iv, bv, Nat.reduceBEq, reduceCtorEq, Nat.reduceAdd, Nat.reduceLeDiff, Nat.reduceSub, Nat.reduceLT, Nat.reduceMul]
  repeat refine awp_seq ?_
  refine awp_ret ?_
  simp only [push_cast, Int.cast_ofNat_Int, Int.reduceLE, Int.reduceLT, Int.reduceToNat, Int.reduceNeg, Int.reduceSub, iv, bv, Nat.reduceBEq, reduceCtorEq, Nat.reduceAdd, Nat.reduceLeDiff, Nat.reduceSub, Nat.reduceLT, Nat.reduceMul]
  exact endOf_here hk
theorem f20_c {n : Int} {hs : List Int} {m : Nat} {a b : Int} (hs' : ShOk n hs m) (ha : 0 <= a /\ a < m) (hb : 0 <= b /\ b < m) {e : End} (hk : k (.tup [.op (H.length + 4) 0, iv 0]) (H ++ .cells (shelfL n hs m) 27 :: beginO (H.length + 1) n hs m)) : FnC lv Tryd.prog 20 H [shelfA n hs m, .sl 2 [iv a, iv b] e] k kp := by
 refine fnC_intro (rs := [.tmp 4, .tmp 5]) (nt := 33) F.f20 rfl rfl rfl (by simp) fun hH hA => ?_
 have hmb : m <= 9 := by have := hs'.room; have := hs'.long; omega
 simp only [argsT, Nat.reduceAdd, shelfA]
 repeat refine awp_seq ?_
 refine awp_region (by kernel_rfl) ?_
 simp only [push_cast, Int.cast_ofNat_Int, Int.reduceLE, Int.reduceLT, Int.reduceToNat, Int.reduceNeg, Int.reduceSub, iv, bv, Nat.reduceBEq, reduceCtorEq, Nat.reduceAdd, Nat.reduceLeDiff, Nat.reduceSub, Nat.reduceLT, Nat.reduceMul, shelfL]
 repeat refine awp_seq ?_
 refine awp_region (by kernel_rfl) ?_
 simp only [push_cast, Int.cast_ofNat_Int, Int.reduceLE, Int.reduceLT, Int.reduceToNat, Int.reduceNeg, Int.reduceSub, iv, bv, Nat.reduceBEq, reduceCtorEq, Nat.reduceAdd, Nat.reduceLeDiff, Nat.reduceSub, Nat.reduceLT, Nat.reduceMul, F.Ty_27]
 refine callG (callC_func (by kernel_rfl) (f23_c (n := n) (hs := hs) (m := m) hs' ?_))
 simp only [push_cast, Int.cast_ofNat_Int, Int.reduceLE, Int.reduceLT, Int.reduceToNat, Int.reduceNeg, Int.reduceSub, iv, bv, Nat.reduceBEq, reduceCtorEq, Nat.reduceAdd, Nat.reduceLeDiff, Nat.reduceSub, Nat.reduceLT, Nat.reduceMul, List.length_append, List.length_cons, List.length_nil]
 repeat refine awp_seq ?_
 refine awp_region (by kernel_rfl) ?_
 simp only [push_cast, Int.cast_ofNat_Int, Int.reduceLE, Int.reduceLT, Int.reduceToNat, Int.reduceNeg, Int.reduceSub, iv, bv, Nat.reduceBEq, reduceCtorEq, Nat.reduceAdd, Nat.reduceLeDiff, Nat.reduceSub, Nat.reduceLT, Nat.reduceMul]
 repeat refine awp_seq ?_
 refine awp_condS ?_
 simp only [push_cast, Int.cast_ofNat_Int, Int.reduceLE, Int.reduceLT, Int.reduceToNat, Int.reduceNeg, Int.reduceSub, iv, bv, Nat.reduceBEq, reduceCtorEq, Nat.reduceAdd, Nat.reduceLeDiff, Nat.reduceSub, Nat.reduceLT, Nat.reduceMul]
 repeat refine awp_seq ?_
 refine awp_skip ?_
 simp only [push_cast, Int.cast_ofNat_Int, Int.reduceLE, Int.reduceLT, Int.reduceToNat, Int.reduceNeg, Int.reduceSub, iv, bv, Nat.reduceBEq, reduceCtorEq, Nat.reduceAdd, Nat.reduceLeDiff, Nat.reduceSub, Nat.reduceLT, Nat.reduceMul]
 repeat refine awp_seq ?_
 refine awp_region (by kernel_rfl) ?_
 simp only [push_cast, Int.cast_ofNat_Int, Int.reduceLE, Int.reduceLT, Int.reduceToNat, Int.reduceNeg, Int.reduceSub, iv, bv, Nat.reduceBEq, reduceCtorEq, Nat.reduceAdd, Nat.reduceLeDiff, Nat.reduceSub, Nat.reduceLT, Nat.reduceMul, F.LenOf_22]
 repeat refine awp_seq ?_
 refine awp_block ?_
 refine awp_for 2 (fun i : Nat => [(20, iv i)]) (fun _ => H ++ .cells (shelfL n hs m) 27 :: beginO (H.length + 1) n hs m) (fun i => True) (fun _ _ => rfl) (by simp only [push_cast, Int.cast_ofNat_Int, Int.reduceLE, Int.reduceLT, Int.reduceToNat, Int.reduceNeg, Int.reduceSub, iv, bv, Nat.reduceBEq, reduceCtorEq, Nat.reduceAdd, Nat.reduceLeDiff, Nat.reduceSub, Nat.reduceLT, Nat.reduceMul, List.forall_mem_cons, List.not_mem_nil, false_imp_iff, implies_true, List.forall_mem_nil]; simp [exists_wk, Wk.refl]) rfl (fun _ _ _ => rfl) trivial (fun hHs hLt i hin hi R hR => ?_)
 repeat refine awp_seq ?_
 refine awp_region (by kernel_rfl) ?_
 simp only [push_cast, Int.cast_ofNat_Int, Int.reduceLE, Int.reduceLT, Int.reduceToNat, Int.reduceNeg, Int.reduceSub, iv, bv, Nat.reduceBEq, reduceCtorEq, Nat.reduceAdd, Nat.reduceLeDiff, Nat.reduceSub, Nat.reduceLT, Nat.reduceMul]
 repeat refine awp_seq ?_
 refine awp_condS ?_
 simp only [push_cast, Int.cast_ofNat_Int, Int.reduceLE, Int.reduceLT, Int.reduceToNat, Int.reduceNeg, Int.reduceSub, iv, bv, Nat.reduceBEq, reduceCtorEq, Nat.reduceAdd, Nat.reduceLeDiff, Nat.reduceSub, Nat.reduceLT, Nat.reduceMul]
 refine ⟨fun h => ?_, fun h => ?_⟩
 ·
  have hlt : i < 2 := by omega
  obtain ⟨x, hx⟩ := lt_get (xs := [a, b]) hlt
  have hxm : 0 <= x /\ x < m := by
   have := mem_of_get hx
   simp only [List.mem_cons, List.not_mem_nil, or_false] at this
   rcases this with rfl | rfl <;> assumption
  have hg4 : ∀ L : List AObj, (H ++ L)[H.length + 4]? = L[4]? := fun L => get_at H L 4
  have hsh := sh_ints hx
  simp only [List.map_cons, List.map_nil, iv] at hsh
  have hi1 : IntKind.i64.wrap ((i : Int) + 1) = ((i + 1 : Nat) : Int) := by rw [i64_in _ (by omega)]; rfl
  have hwm : IntKind.i64.wrap ((m : Int) - 1) = m - 1 := i64_in _ (by omega)
  have hx0 : (decide (x < 0) || decide ((m : Int) - 1 < x)) = false := by simp; omega
  have hb2 : (0 <= (i : Int) /\ (i : Int) < 2) = True := by simp; omega
  repeat refine awp_seq ?_
  refine awp_skip ?_
  simp only [push_cast, Int.cast_ofNat_Int, Int.reduceLE, Int.reduceLT, Int.reduceToNat, Int.reduceNeg, Int.reduceSub, iv, bv, Nat.reduceBEq, reduceCtorEq, Nat.reduceAdd, Nat.reduceLeDiff, Nat.reduceSub, Nat.reduceLT, Nat.reduceMul]
  repeat refine awp_seq ?_
  refine awp_block ?_
  repeat refine awp_seq ?_
  refine awp_region (by kernel_rfl) ?_
  simp only [push_cast, Int.cast_ofNat_Int, Int.reduceLE, Int.reduceLT, Int.reduceToNat, Int.reduceNeg, Int.reduceSub, iv, bv, Nat.reduceBEq, reduceCtorEq, Nat.reduceAdd, Nat.reduceLeDiff, Nat.reduceSub, Nat.reduceLT, Nat.reduceMul, F.IdxOf_22, F.Ty_3, hsh, hb2]
  repeat refine awp_seq ?_
  refine awp_region (by kernel_rfl) ?_
  simp only [push_cast, Int.cast_ofNat_Int, Int.reduceLE, Int.reduceLT, Int.reduceToNat, Int.reduceNeg, Int.reduceSub, iv, bv, Nat.reduceBEq, reduceCtorEq, Nat.reduceAdd, Nat.reduceLeDiff, Nat.reduceSub, Nat.reduceLT, Nat.reduceMul, F.FieldOf_77_3, F.Ty_3, beginO, openO, rackL, hwm, hg4, Nat.add_assoc]
  refine callG (callC_func (by kernel_rfl) (f36_c ?_))
  simp only [push_cast, Int.cast_ofNat_Int, Int.reduceLE, Int.reduceLT, Int.reduceToNat, Int.reduceNeg, Int.reduceSub, iv, bv, Nat.reduceBEq, reduceCtorEq, Nat.reduceAdd, Nat.reduceLeDiff, Nat.reduceSub, Nat.reduceLT, Nat.reduceMul, hx0]
  repeat refine awp_seq ?_
  refine awp_condS ?_
  simp only [push_cast, Int.cast_ofNat_Int, Int.reduceLE, Int.reduceLT, Int.reduceToNat, Int.reduceNeg, Int.reduceSub, iv, bv, Nat.reduceBEq, reduceCtorEq, Nat.reduceAdd, Nat.reduceLeDiff, Nat.reduceSub, Nat.reduceLT, Nat.reduceMul]
  repeat refine awp_seq ?_
  refine awp_skip ?_
  simp only [push_cast, Int.cast_ofNat_Int, Int.reduceLE, Int.reduceLT, Int.reduceToNat, Int.reduceNeg, Int.reduceSub, iv, bv, Nat.reduceBEq, reduceCtorEq, Nat.reduceAdd, Nat.reduceLeDiff, Nat.reduceSub, Nat.reduceLT, Nat.reduceMul]
  repeat refine awp_seq ?_
  refine awp_region (by kernel_rfl) ?_
  simp only [push_cast, Int.cast_ofNat_Int, Int.reduceLE, Int.reduceLT, Int.reduceToNat, Int.reduceNeg, Int.reduceSub, iv, bv, Nat.reduceBEq, reduceCtorEq, Nat.reduceAdd, Nat.reduceLeDiff, Nat.reduceSub, Nat.reduceLT, Nat.reduceMul, hi1]
  refine hR _ ⟨hlt, trivial, ?_⟩
  exact (round_keep (keeps_rfl rfl rfl) (by simp only [push_cast, Int.cast_ofNat_Int, Int.reduceLE, Int.reduceLT, Int.reduceToNat, Int.reduceNeg, Int.reduceSub, iv, bv, Nat.reduceBEq, reduceCtorEq, Nat.reduceAdd, Nat.reduceLeDiff, Nat.reduceSub, Nat.reduceLT, Nat.reduceMul]; simp [exists_wk, Wk.refl]))
 ·repeat refine awp_seq ?_
  refine awp_exit ?_
  simp only [push_cast, Int.cast_ofNat_Int, Int.reduceLE, Int.reduceLT, Int.reduceToNat, Int.reduceNeg, Int.reduceSub, iv, bv, Nat.reduceBEq, reduceCtorEq, Nat.reduceAdd, Nat.reduceLeDiff, Nat.reduceSub, Nat.reduceLT, Nat.reduceMul]
  repeat refine awp_seq ?_
  refine awp_region (by kernel_rfl) ?_
  simp only [push_cast, Int.cast_ofNat_Int, Int.reduceLE, Int.reduceLT, Int.reduceToNat, Int.reduceNeg, Int.reduceSub, iv, bv, Nat.reduceBEq, reduceCtorEq, Nat.reduceAdd, Nat.reduceLeDiff, Nat.reduceSub, Nat.reduceLT, Nat.reduceMul]
  repeat refine awp_seq ?_
  refine awp_ret ?_
  simp only [push_cast, Int.cast_ofNat_Int, Int.reduceLE, Int.reduceLT, Int.reduceToNat, Int.reduceNeg, Int.reduceSub, iv, bv, Nat.reduceBEq, reduceCtorEq, Nat.reduceAdd, Nat.reduceLeDiff, Nat.reduceSub, Nat.reduceLT, Nat.reduceMul]
  exact endOf_here hk
theorem dg_rest2 {lv : Bool} {P : Program} {r : Option Nat} {nt : Nat} {ops : Array Oper} {s : AS} {Φ : AEx -> AS -> Prop} {α : Type} {ok : α -> Prop} (st : α -> AS) (rest : ∀ x, ok x -> Φ .normal (st x)) (h : (∀ x, ok x -> Φ .normal (st x)) -> DG lv P r nt ops ops s Φ) : DG lv P r nt ops ops s Φ := h rest
theorem sub_list {T V : List (Nat × AV)} {H H' : List AObj} (hH : H = H') (hv : ∀ p ∈ V, ∃ b, look T p.1 = some b /\ Wk b p.2) : (⟨T, H⟩ : AS).Sub ⟨V, H'⟩ :=
 ⟨fun t a e => hv (t, a) (look_mem e), hH⟩
theorem f22_c {n : Int} {hs : List Int} {R m c M i j : Nat} {a b : Int} (hR : H[R]? = some (.cells (rackL n hs m c M) 77)) (hi : hs[i]? = some a) (hj : hs[j]? = some b) (hij : i < j) (hjm : j < m) (hk : k (.ifc (if b <= a then 96 else 95) (.agg [])) H) : FnC lv Tryd.prog 22 H [.op R 0, iv i, iv j] k kp := by
 refine fnC_intro (rs := [.tmp 6]) (nt := 69) F.f22 rfl rfl rfl (by simp) fun hH hA => ?_
 have hRL : R < H.length := get_lt hR
 have hil := get_lt hi
 have hjl := get_lt hj
 have hgR : ∀ L : List AObj, (H ++ L)[R]? = some (.cells (rackL n hs m c M) 77) := fun L => get_app hR
 have hi0 : (List.replicate m (0 : Int))[i]? = some 0 := by rw [List.getElem?_replicate, if_pos (by omega)]
 have hj0 : (List.replicate m (0 : Int))[j]? = some 0 := by rw [List.getElem?_replicate, if_pos hjm]
 simp only [rackL, aBags] at hR hgR
 simp only [argsT, Nat.reduceAdd]
 repeat refine awp_seq ?_
 refine awp_region (by kernel_rfl) ?_
 simp only [push_cast, Int.cast_ofNat_Int, Int.reduceLE, Int.reduceLT, Int.reduceToNat, Int.reduceNeg, Int.reduceSub, iv, bv, Nat.reduceBEq, reduceCtorEq, Nat.reduceAdd, Nat.reduceLeDiff, Nat.reduceSub, Nat.reduceLT, Nat.reduceMul]
 repeat refine awp_seq ?_
 refine awp_drawS [18, 19, 20, 21] [0, 1, 2, 3, 4, 5, 6, 7, 8, 9, 10, 11, 12, 13, 14, 15, 16, 17, 18, 19, 20, 21] F.mixed (by kernel_rfl) ?_
 refine dg_rest2 (α := Nat × Nat × List AObj) (ok := fun x => x.1 < x.2.2.length + H.length /\ (∀ L, (H ++ (x.2.2 ++ L))[x.1]? = some (.cells [iv a, iv a] 33)) /\ ∀ L, (H ++ (x.2.2 ++ L))[x.2.1]? = some (.cells [iv b, iv b] 33)) (fun x => ⟨[(7, .op x.1 0), (8, .op x.2.1 0), (0, .op R 0), (1, iv i), (2, iv j), (6, .val .nilIface)], H ++ x.2.2⟩) (fun x hx => ?_) (fun rest => ?_)
 ·obtain ⟨A, B, L0⟩ := x
  obtain ⟨_, hA0, hB0⟩ := hx
  have hA1 := hA0 []
  have hB1 := hB0 []
  simp only [List.append_nil] at hA1 hB1
  simp only [push_cast, Int.cast_ofNat_Int, Int.reduceLE, Int.reduceLT, Int.reduceToNat, Int.reduceNeg, Int.reduceSub, iv, bv, Nat.reduceBEq, reduceCtorEq, Nat.reduceAdd, Nat.reduceLeDiff, Nat.reduceSub, Nat.reduceLT, Nat.reduceMul]
  repeat refine awp_seq ?_
  refine awp_block ?_
  have hd : decide ((j : Int) < i) = false := by simp; omega
  have him : i < m := by omega
  repeat refine awp_seq ?_
  refine awp_draw F.mixed 27 (by kernel_rfl) ?_
  simp only [push_cast, Int.cast_ofNat_Int, Int.reduceLE, Int.reduceLT, Int.reduceToNat, Int.reduceNeg, Int.reduceSub, iv, bv, Nat.reduceBEq, reduceCtorEq, Nat.reduceAdd, Nat.reduceLeDiff, Nat.reduceSub, Nat.reduceLT, Nat.reduceMul, F.FieldOf_77_0, F.FieldOf_27_2, F.Ty_22, F.IdxOf_22, F.Ty_3, F.FieldOf_33_0, F.FieldOf_33_1, hd, hgR, hA1, hB1, sh_ints hi0, sh_ints hj0, aInts, List.length_replicate, bnd_nat him, bnd_nat hjm, bne_self_eq_false, ite_ff]
  repeat refine awp_seq ?_
  refine awp_condS ?_
  simp only [push_cast, Int.cast_ofNat_Int, Int.reduceLE, Int.reduceLT, Int.reduceToNat, Int.reduceNeg, Int.reduceSub, iv, bv, Nat.reduceBEq, reduceCtorEq, Nat.reduceAdd, Nat.reduceLeDiff, Nat.reduceSub, Nat.reduceLT, Nat.reduceMul]
  refine ⟨fun h => ?_, fun h => ?_⟩
  ·have hba : b <= a := by simpa using h
   repeat refine awp_seq ?_
   refine awp_region (by kernel_rfl) ?_
   simp only [push_cast, Int.cast_ofNat_Int, Int.reduceLE, Int.reduceLT, Int.reduceToNat, Int.reduceNeg, Int.reduceSub, iv, bv, Nat.reduceBEq, reduceCtorEq, Nat.reduceAdd, Nat.reduceLeDiff, Nat.reduceSub, Nat.reduceLT, Nat.reduceMul, F.BuildOf_96, F.isIfc_96]
   repeat refine awp_seq ?_
   refine awp_ret ?_
   simp only [push_cast, Int.cast_ofNat_Int, Int.reduceLE, Int.reduceLT, Int.reduceToNat, Int.reduceNeg, Int.reduceSub, iv, bv, Nat.reduceBEq, reduceCtorEq, Nat.reduceAdd, Nat.reduceLeDiff, Nat.reduceSub, Nat.reduceLT, Nat.reduceMul]
   rw [if_pos hba] at hk
   exact endA hH (Wk.refl _) (by simp [lt_ifc, lt_agg]) hk
  ·have hba : ¬ b <= a := by simpa using h
   repeat refine awp_seq ?_
   refine awp_region (by kernel_rfl) ?_
   simp only [push_cast, Int.cast_ofNat_Int, Int.reduceLE, Int.reduceLT, Int.reduceToNat, Int.reduceNeg, Int.reduceSub, iv, bv, Nat.reduceBEq, reduceCtorEq, Nat.reduceAdd, Nat.reduceLeDiff, Nat.reduceSub, Nat.reduceLT, Nat.reduceMul, F.FieldOf_33_1, F.Ty_3, F.FieldOf_33_0, hA1, hB1]
   repeat refine awp_seq ?_
   refine awp_condS ?_
   simp only [push_cast, Int.cast_ofNat_Int, Int.reduceLE, Int.reduceLT, Int.reduceToNat, Int.reduceNeg, Int.reduceSub, iv, bv, Nat.reduceBEq, reduceCtorEq, Nat.reduceAdd, Nat.reduceLeDiff, Nat.reduceSub, Nat.reduceLT, Nat.reduceMul]
   refine ⟨fun h2 => ?_, fun h2 => absurd h2 (by simp; omega)⟩
   repeat refine awp_seq ?_
   refine awp_region (by kernel_rfl) ?_
   simp only [push_cast, Int.cast_ofNat_Int, Int.reduceLE, Int.reduceLT, Int.reduceToNat, Int.reduceNeg, Int.reduceSub, iv, bv, Nat.reduceBEq, reduceCtorEq, Nat.reduceAdd, Nat.reduceLeDiff, Nat.reduceSub, Nat.reduceLT, Nat.reduceMul, F.BuildOf_95, F.isIfc_95]
   repeat refine awp_seq ?_
   refine awp_ret ?_
   simp only [push_cast, Int.cast_ofNat_Int, Int.reduceLE, Int.reduceLT, Int.reduceToNat, Int.reduceNeg, Int.reduceSub, iv, bv, Nat.reduceBEq, reduceCtorEq, Nat.reduceAdd, Nat.reduceLeDiff, Nat.reduceSub, Nat.reduceLT, Nat.reduceMul]
   rw [if_neg hba] at hk
   exact endA hH (Wk.refl _) (by simp [lt_ifc, lt_agg]) hk
 refine dg_split 18 19 rfl ?_ ?_
 ·refine dg_leaf (.add .base 18 19) [19, 18, 20, 21] [0, 1, 2, 3, 4, 5, 6, 7, 8, 9, 10, 11, 12, 13, 14, 15, 16, 17, 19, 18, 20, 21] [⟨0, false, [], [([19], [19]), ([19, 18], [19, 18])]⟩, ⟨1, false, [], [([19], [19]), ([19, 18], [19, 18])]⟩, ⟨2, false, [], [([19], [19]), ([19, 18], [19, 18])]⟩, ⟨3, false, [], [([19], [19]), ([19, 18], [19, 18])]⟩, ⟨4, false, [], [([19], [19]), ([19, 18], [19, 18])]⟩, ⟨5, false, [], [([19], [19]), ([19, 18], [19, 18])]⟩, ⟨6, false, [], [([19], [19]), ([19, 18], [19, 18])]⟩, ⟨7, false, [], [([19], [19]), ([19, 18], [19, 18])]⟩, ⟨8, false, [], [([19], [19]), ([19, 18], [19, 18])]⟩, ⟨9, false, [], [([19], [19]), ([19, 18], [19, 18]), ([19, 18, 20], [19, 18, 20])]⟩, ⟨10, false, [], [([19], [19]), ([19, 18], [19, 18]), ([19, 18, 20], [19, 18, 20])]⟩, ⟨11, false, [], [([19], [19]), ([19, 18], [19, 18]), ([19, 18, 20], [19, 18, 20])]⟩, ⟨12, false, [], [([19], [19]), ([19, 18], [19, 18]), ([19, 18, 20], [19, 18, 20])]⟩, ⟨13, false, [], [([19], [19]), ([19, 18], [19, 18]), ([19, 18, 20], [19, 18, 20])]⟩, ⟨14, false, [], [([19], [19]), ([19, 18], [19, 18]), ([19, 18, 20], [19, 18, 20])]⟩, ⟨15, false, [], [([19], [19]), ([19, 18], [19, 18]), ([19, 18, 20], [19, 18, 20])]⟩, ⟨16, false, [], [([19], [19]), ([19, 18], [19, 18]), ([19, 18, 20], [19, 18, 20])]⟩, ⟨17, false, [], [([19], [19]), ([19, 18], [19, 18]), ([19, 18, 20], [19, 18, 20])]⟩, ⟨19, true, [19], []⟩, ⟨18, true, [19, 18], []⟩, ⟨20, true, [19, 18, 20], []⟩, ⟨21, true, [19, 18, 20, 21], []⟩] (fun D => bif isDone 21 D then H ++ [.cells [iv b, iv b] 33, .cells [iv a, iv a] 33] else bif isDone 20 D then H ++ [.cells [iv 0, iv 0] 33, .cells [iv a, iv a] 33] else bif isDone 18 D then H ++ [.cells [iv 0, iv 0] 33, .cells [iv 0, iv 0] 33] else bif isDone 19 D then H ++ [.cells [iv 0, iv 0] 33] else H) (by kernel_rfl) (by kernel_rfl) (by first | rfl | simp only [push_cast, Int.cast_ofNat_Int, Int.reduceLE, Int.reduceLT, Int.reduceToNat, Int.reduceNeg, Int.reduceSub, iv, bv, Nat.reduceBEq, reduceCtorEq, Nat.reduceAdd, Nat.reduceLeDiff, Nat.reduceSub, Nat.reduceLT, Nat.reduceMul]) ?_
  simp only [push_cast, Int.cast_ofNat_Int, Int.reduceLE, Int.reduceLT, Int.reduceToNat, Int.reduceNeg, Int.reduceSub, iv, bv, Nat.reduceBEq, reduceCtorEq, Nat.reduceAdd, Nat.reduceLeDiff, Nat.reduceSub, Nat.reduceLT, Nat.reduceMul, F.FieldOf_77_0, F.FieldOf_27_1, F.Ty_25, F.IdxOf_25, F.FieldOf_35_1, F.Ty_33, F.ZeroOf_33, hR, hgR, sh_bags hi, sh_bags hj, bnd_nat hil, bnd_nat hjl]
  exact awp_weak (sub_list rfl (by simp only [push_cast, Int.cast_ofNat_Int, Int.reduceLE, Int.reduceLT, Int.reduceToNat, Int.reduceNeg, Int.reduceSub, iv, bv, Nat.reduceBEq, reduceCtorEq, Nat.reduceAdd, Nat.reduceLeDiff, Nat.reduceSub, Nat.reduceLT, Nat.reduceMul, List.forall_mem_cons, List.not_mem_nil, false_imp_iff, implies_true, List.forall_mem_nil]; simp [exists_wk, Wk.refl])) (rest (H.length + 1, H.length, [.cells [iv b, iv b] 33, .cells [iv a, iv a] 33]) ⟨by simp <;> omega, fun L => get_at H _ 1, fun L => get_at H _ 0⟩)
 ·refine dg_leaf (.add .base 19 18) [18, 19, 20, 21] [0, 1, 2, 3, 4, 5, 6, 7, 8, 9, 10, 11, 12, 13, 14, 15, 16, 17, 18, 19, 20, 21] [⟨0, false, [], [([18], [18]), ([18, 19], [18, 19])]⟩, ⟨1, false, [], [([18], [18]), ([18, 19], [18, 19])]⟩, ⟨2, false, [], [([18], [18]), ([18, 19], [18, 19])]⟩, ⟨3, false, [], [([18], [18]), ([18, 19], [18, 19])]⟩, ⟨4, false, [], [([18], [18]), ([18, 19], [18, 19])]⟩, ⟨5, false, [], [([18], [18]), ([18, 19], [18, 19])]⟩, ⟨6, false, [], [([18], [18]), ([18, 19], [18, 19])]⟩, ⟨7, false, [], [([18], [18]), ([18, 19], [18, 19])]⟩, ⟨8, false, [], [([18], [18]), ([18, 19], [18, 19])]⟩, ⟨9, false, [], [([18], [18]), ([18, 19], [18, 19]), ([18, 19, 20], [18, 19, 20])]⟩, ⟨10, false, [], [([18], [18]), ([18, 19], [18, 19]), ([18, 19, 20], [18, 19, 20])]⟩, ⟨11, false, [], [([18], [18]), ([18, 19], [18, 19]), ([18, 19, 20], [18, 19, 20])]⟩, ⟨12, false, [], [([18], [18]), ([18, 19], [18, 19]), ([18, 19, 20], [18, 19, 20])]⟩, ⟨13, false, [], [([18], [18]), ([18, 19], [18, 19]), ([18, 19, 20], [18, 19, 20])]⟩, ⟨14, false, [], [([18], [18]), ([18, 19], [18, 19]), ([18, 19, 20], [18, 19, 20])]⟩, ⟨15, false, [], [([18], [18]), ([18, 19], [18, 19]), ([18, 19, 20], [18, 19, 20])]⟩, ⟨16, false, [], [([18], [18]), ([18, 19], [18, 19]), ([18, 19, 20], [18, 19, 20])]⟩, ⟨17, false, [], [([18], [18]), ([18, 19], [18, 19]), ([18, 19, 20], [18, 19, 20])]⟩, ⟨18, true, [18], []⟩, ⟨19, true, [18, 19], []⟩, ⟨20, true, [18, 19, 20], []⟩, ⟨21, true, [18, 19, 20, 21], []⟩] (fun D => bif isDone 21 D then H ++ [.cells [iv a, iv a] 33, .cells [iv b, iv b] 33] else bif isDone 20 D then H ++ [.cells [iv a, iv a] 33, .cells [iv 0, iv 0] 33] else bif isDone 19 D then H ++ [.cells [iv 0, iv 0] 33, .cells [iv 0, iv 0] 33] else bif isDone 18 D then H ++ [.cells [iv 0, iv 0] 33] else H) (by kernel_rfl) (by kernel_rfl) (by first | rfl | simp only [push_cast, Int.cast_ofNat_Int, Int.reduceLE, Int.reduceLT, Int.reduceToNat, Int.reduceNeg, Int.reduceSub, iv, bv, Nat.reduceBEq, reduceCtorEq, Nat.reduceAdd, Nat.reduceLeDiff, Nat.reduceSub, Nat.reduceLT, Nat.reduceMul]) ?_
  simp only [push_cast, Int.cast_ofNat_Int, Int.reduceLE, Int.reduceLT, Int.reduceToNat, Int.reduceNeg, Int.reduceSub, iv, bv, Nat.reduceBEq, reduceCtorEq, Nat.reduceAdd, Nat.reduceLeDiff, Nat.reduceSub, Nat.reduceLT, Nat.reduceMul, F.FieldOf_77_0, F.FieldOf_27_1, F.Ty_25, F.IdxOf_25, F.FieldOf_35_1, F.Ty_33, F.ZeroOf_33, hR, hgR, sh_bags hi, sh_bags hj, bnd_nat hil, bnd_nat hjl]
  exact awp_weak (sub_list rfl (by simp only [push_cast, Int.cast_ofNat_Int, Int.reduceLE, Int.reduceLT, Int.reduceToNat, Int.reduceNeg, Int.reduceSub, iv, bv, Nat.reduceBEq, reduceCtorEq, Nat.reduceAdd, Nat.reduceLeDiff, Nat.reduceSub, Nat.reduceLT, Nat.reduceMul, List.forall_mem_cons, List.not_mem_nil, false_imp_iff, implies_true, List.forall_mem_nil]; simp [exists_wk, Wk.refl])) (rest (H.length, H.length + 1, [.cells [iv a, iv a] 33, .cells [iv b, iv b] 33]) ⟨by simp <;> omega, fun L => get_at H _ 0, fun L => get_at H _ 1⟩)
theorem f84_c (hk : k (iv 1) H) : FnC lv Tryd.prog 84 H [.agg []] k kp := by
 refine fnC_intro (rs := [.tmp 2]) (nt := 3) F.f84 rfl rfl rfl (by simp) fun hH hA => ?_
 simp only [argsT, Nat.reduceAdd]
 repeat refine awp_seq ?_
 refine awp_region (by kernel_rfl) ?_
 simp only [push_cast, Int.cast_ofNat_Int, Int.reduceLE, Int.reduceLT, Int.reduceToNat, Int.reduceNeg, Int.reduceSub, iv, bv, Nat.reduceBEq, reduceCtorEq, Nat.reduceAdd, Nat.reduceLeDiff, Nat.reduceSub, Nat.reduceLT, Nat.reduceMul]
 repeat refine awp_seq ?_
 refine awp_region (by kernel_rfl) ?_
 simp only [push_cast, Int.cast_ofNat_Int, Int.reduceLE, Int.reduceLT, Int.reduceToNat, Int.reduceNeg, Int.reduceSub, iv, bv, Nat.reduceBEq, reduceCtorEq, Nat.reduceAdd, Nat.reduceLeDiff, Nat.reduceSub, Nat.reduceLT, Nat.reduceMul]
 repeat refine awp_seq ?_
 refine awp_ret ?_
 simp only [push_cast, Int.cast_ofNat_Int, Int.reduceLE, Int.reduceLT, Int.reduceToNat, Int.reduceNeg, Int.reduceSub, iv, bv, Nat.reduceBEq, reduceCtorEq, Nat.reduceAdd, Nat.reduceLeDiff, Nat.reduceSub, Nat.reduceLT, Nat.reduceMul]
 exact endV hH hk
theorem f85_c (hk : k (iv 2) H) : FnC lv Tryd.prog 85 H [.agg []] k kp := by
 refine fnC_intro (rs := [.tmp 2]) (nt := 3) F.f85 rfl rfl rfl (by simp) fun hH hA => ?_
 simp only [argsT, Nat.reduceAdd]
 repeat refine awp_seq ?_
 refine awp_region (by kernel_rfl) ?_
 simp only [push_cast, Int.cast_ofNat_Int, Int.reduceLE, Int.reduceLT, Int.reduceToNat, Int.reduceNeg, Int.reduceSub, iv, bv, Nat.reduceBEq, reduceCtorEq, Nat.reduceAdd, Nat.reduceLeDiff, Nat.reduceSub, Nat.reduceLT, Nat.reduceMul]
 repeat refine awp_seq ?_
 refine awp_region (by kernel_rfl) ?_
 simp only [push_cast, Int.cast_ofNat_Int, Int.reduceLE, Int.reduceLT, Int.reduceToNat, Int.reduceNeg, Int.reduceSub, iv, bv, Nat.reduceBEq, reduceCtorEq, Nat.reduceAdd, Nat.reduceLeDiff, Nat.reduceSub, Nat.reduceLT, Nat.reduceMul]
 repeat refine awp_seq ?_
 refine awp_ret ?_
 simp only [push_cast, Int.cast_ofNat_Int, Int.reduceLE, Int.reduceLT, Int.reduceToNat, Int.reduceNeg, Int.reduceSub, iv, bv, Nat.reduceBEq, reduceCtorEq, Nat.reduceAdd, Nat.reduceLeDiff, Nat.reduceSub, Nat.reduceLT, Nat.reduceMul]
 exact endV hH hk
theorem F.val95 : MethOf Tryd.prog 95 "gladstone/shelf.value" 84 := fun v w es => by kernel_rfl
theorem F.val96 : MethOf Tryd.prog 96 "gladstone/shelf.value" 85 := fun v w es => by kernel_rfl
theorem of_agg1 : AV.of (Value.agg #[Value.nilIface]) = .agg [.val .nilIface] := rfl
theorem of_agg0 : AV.of (Value.agg #[]) = .agg [] := rfl
theorem f21_s (hk : k (iv 1) H) : FnC lv Tryd.prog 21 H [.ifc 95 (.agg [])] k kp := by
 refine fnC_intro (rs := [.tmp 2]) (nt := 33) F.f21 rfl rfl rfl (by simp) fun hH hA => ?_
 simp only [argsT, Nat.reduceAdd]
 repeat refine awp_seq ?_
 refine awp_region (by kernel_rfl) ?_
 simp only [push_cast, Int.cast_ofNat_Int, Int.reduceLE, Int.reduceLT, Int.reduceToNat, Int.reduceNeg, Int.reduceSub, iv, bv, Nat.reduceBEq, reduceCtorEq, Nat.reduceAdd, Nat.reduceLeDiff, Nat.reduceSub, Nat.reduceLT, Nat.reduceMul]
 repeat refine awp_seq ?_
 refine awp_region (by kernel_rfl) ?_
 simp only [push_cast, Int.cast_ofNat_Int, Int.reduceLE, Int.reduceLT, Int.reduceToNat, Int.reduceNeg, Int.reduceSub, iv, bv, Nat.reduceBEq, reduceCtorEq, Nat.reduceAdd, Nat.reduceLeDiff, Nat.reduceSub, Nat.reduceLT, Nat.reduceMul]
 repeat refine awp_seq ?_
 refine awp_region (by kernel_rfl) ?_
 simp only [push_cast, Int.cast_ofNat_Int, Int.reduceLE, Int.reduceLT, Int.reduceToNat, Int.reduceNeg, Int.reduceSub, iv, bv, Nat.reduceBEq, reduceCtorEq, Nat.reduceAdd, Nat.reduceLeDiff, Nat.reduceSub, Nat.reduceLT, Nat.reduceMul, F.isIfc_92, F.ZeroOf_92, F.Ty_92, of_agg1, show ¬ (95 : Nat) = 92 by decide, if_false]
 repeat refine awp_seq ?_
 refine awp_region (by kernel_rfl) ?_
 simp only [push_cast, Int.cast_ofNat_Int, Int.reduceLE, Int.reduceLT, Int.reduceToNat, Int.reduceNeg, Int.reduceSub, iv, bv, Nat.reduceBEq, reduceCtorEq, Nat.reduceAdd, Nat.reduceLeDiff, Nat.reduceSub, Nat.reduceLT, Nat.reduceMul]
 repeat refine awp_seq ?_
 refine awp_condS ?_
 simp only [push_cast, Int.cast_ofNat_Int, Int.reduceLE, Int.reduceLT, Int.reduceToNat, Int.reduceNeg, Int.reduceSub, iv, bv, Nat.reduceBEq, reduceCtorEq, Nat.reduceAdd, Nat.reduceLeDiff, Nat.reduceSub, Nat.reduceLT, Nat.reduceMul]
 repeat refine awp_seq ?_
 refine awp_skip ?_
 simp only [push_cast, Int.cast_ofNat_Int, Int.reduceLE, Int.reduceLT, Int.reduceToNat, Int.reduceNeg, Int.reduceSub, iv, bv, Nat.reduceBEq, reduceCtorEq, Nat.reduceAdd, Nat.reduceLeDiff, Nat.reduceSub, Nat.reduceLT, Nat.reduceMul]
 repeat refine awp_seq ?_
 refine awp_region (by kernel_rfl) ?_
 simp only [push_cast, Int.cast_ofNat_Int, Int.reduceLE, Int.reduceLT, Int.reduceToNat, Int.reduceNeg, Int.reduceSub, iv, bv, Nat.reduceBEq, reduceCtorEq, Nat.reduceAdd, Nat.reduceLeDiff, Nat.reduceSub, Nat.reduceLT, Nat.reduceMul]
 repeat refine awp_seq ?_
 refine awp_block ?_
 repeat refine awp_seq ?_
 refine awp_region (by kernel_rfl) ?_
 simp only [push_cast, Int.cast_ofNat_Int, Int.reduceLE, Int.reduceLT, Int.reduceToNat, Int.reduceNeg, Int.reduceSub, iv, bv, Nat.reduceBEq, reduceCtorEq, Nat.reduceAdd, Nat.reduceLeDiff, Nat.reduceSub, Nat.reduceLT, Nat.reduceMul, F.isIfc_95, F.isIfc_96, F.ZeroOf_95, F.ZeroOf_96, of_agg0, show ¬ (95 : Nat) = 96 by decide, if_false, if_true]
 repeat refine awp_seq ?_
 refine awp_condS ?_
 simp only [push_cast, Int.cast_ofNat_Int, Int.reduceLE, Int.reduceLT, Int.reduceToNat, Int.reduceNeg, Int.reduceSub, iv, bv, Nat.reduceBEq, reduceCtorEq, Nat.reduceAdd, Nat.reduceLeDiff, Nat.reduceSub, Nat.reduceLT, Nat.reduceMul]
 repeat refine awp_seq ?_
 refine awp_region (by kernel_rfl) ?_
 simp only [push_cast, Int.cast_ofNat_Int, Int.reduceLE, Int.reduceLT, Int.reduceToNat, Int.reduceNeg, Int.reduceSub, iv, bv, Nat.reduceBEq, reduceCtorEq, Nat.reduceAdd, Nat.reduceLeDiff, Nat.reduceSub, Nat.reduceLT, Nat.reduceMul]
 refine invG (invC F.val95 (by kernel_rfl) (f84_c ?_))
 simp only [push_cast, Int.cast_ofNat_Int, Int.reduceLE, Int.reduceLT, Int.reduceToNat, Int.reduceNeg, Int.reduceSub, iv, bv, Nat.reduceBEq, reduceCtorEq, Nat.reduceAdd, Nat.reduceLeDiff, Nat.reduceSub, Nat.reduceLT, Nat.reduceMul]
 repeat refine awp_seq ?_
 refine awp_ret ?_
 simp only [push_cast, Int.cast_ofNat_Int, Int.reduceLE, Int.reduceLT, Int.reduceToNat, Int.reduceNeg, Int.reduceSub, iv, bv, Nat.reduceBEq, reduceCtorEq, Nat.reduceAdd, Nat.reduceLeDiff, Nat.reduceSub, Nat.reduceLT, Nat.reduceMul]
 exact endV hH hk
theorem f21_n (hk : k (iv 2) H) : FnC lv Tryd.prog 21 H [.ifc 96 (.agg [])] k kp := by
 refine fnC_intro (rs := [.tmp 2]) (nt := 33) F.f21 rfl rfl rfl (by simp) fun hH hA => ?_
 simp only [argsT, Nat.reduceAdd]
 repeat refine awp_seq ?_
 refine awp_region (by kernel_rfl) ?_
 simp only [push_cast, Int.cast_ofNat_Int, Int.reduceLE, Int.reduceLT, Int.reduceToNat, Int.reduceNeg, Int.reduceSub, iv, bv, Nat.reduceBEq, reduceCtorEq, Nat.reduceAdd, Nat.reduceLeDiff, Nat.reduceSub, Nat.reduceLT, Nat.reduceMul]
 repeat refine awp_seq ?_
 refine awp_region (by kernel_rfl) ?_
 simp only [push_cast, Int.cast_ofNat_Int, Int.reduceLE, Int.reduceLT, Int.reduceToNat, Int.reduceNeg, Int.reduceSub, iv, bv, Nat.reduceBEq, reduceCtorEq, Nat.reduceAdd, Nat.reduceLeDiff, Nat.reduceSub, Nat.reduceLT, Nat.reduceMul]
 repeat refine awp_seq ?_
 refine awp_region (by kernel_rfl) ?_
 simp only [push_cast, Int.cast_ofNat_Int, Int.reduceLE, Int.reduceLT, Int.reduceToNat, Int.reduceNeg, Int.reduceSub, iv, bv, Nat.reduceBEq, reduceCtorEq, Nat.reduceAdd, Nat.reduceLeDiff, Nat.reduceSub, Nat.reduceLT, Nat.reduceMul, F.isIfc_92, F.ZeroOf_92, F.Ty_92, of_agg1, show ¬ (96 : Nat) = 92 by decide, if_false]
 repeat refine awp_seq ?_
 refine awp_region (by kernel_rfl) ?_
 simp only [push_cast, Int.cast_ofNat_Int, Int.reduceLE, Int.reduceLT, Int.reduceToNat, Int.reduceNeg, Int.reduceSub, iv, bv, Nat.reduceBEq, reduceCtorEq, Nat.reduceAdd, Nat.reduceLeDiff, Nat.reduceSub, Nat.reduceLT, Nat.reduceMul]
 repeat refine awp_seq ?_
 refine awp_condS ?_
 simp only [push_cast, Int.cast_ofNat_Int, Int.reduceLE, Int.reduceLT, Int.reduceToNat, Int.reduceNeg, Int.reduceSub, iv, bv, Nat.reduceBEq, reduceCtorEq, Nat.reduceAdd, Nat.reduceLeDiff, Nat.reduceSub, Nat.reduceLT, Nat.reduceMul]
 repeat refine awp_seq ?_
 refine awp_skip ?_
 simp only [push_cast, Int.cast_ofNat_Int, Int.reduceLE, Int.reduceLT, Int.reduceToNat, Int.reduceNeg, Int.reduceSub, iv, bv, Nat.reduceBEq, reduceCtorEq, Nat.reduceAdd, Nat.reduceLeDiff, Nat.reduceSub, Nat.reduceLT, Nat.reduceMul]
 repeat refine awp_seq ?_
 refine awp_region (by kernel_rfl) ?_
 simp only [push_cast, Int.cast_ofNat_Int, Int.reduceLE, Int.reduceLT, Int.reduceToNat, Int.reduceNeg, Int.reduceSub, iv, bv, Nat.reduceBEq, reduceCtorEq, Nat.reduceAdd, Nat.reduceLeDiff, Nat.reduceSub, Nat.reduceLT, Nat.reduceMul]
 repeat refine awp_seq ?_
 refine awp_block ?_
 repeat refine awp_seq ?_
 refine awp_region (by kernel_rfl) ?_
 simp only [push_cast, Int.cast_ofNat_Int, Int.reduceLE, Int.reduceLT, Int.reduceToNat, Int.reduceNeg, Int.reduceSub, iv, bv, Nat.reduceBEq, reduceCtorEq, Nat.reduceAdd, Nat.reduceLeDiff, Nat.reduceSub, Nat.reduceLT, Nat.reduceMul, F.isIfc_95, F.isIfc_96, F.ZeroOf_95, F.ZeroOf_96, of_agg0, show ¬ (96 : Nat) = 95 by decide, if_false, if_true]
 repeat refine awp_seq ?_
 refine awp_condS ?_
 simp only [push_cast, Int.cast_ofNat_Int, Int.reduceLE, Int.reduceLT, Int.reduceToNat, Int.reduceNeg, Int.reduceSub, iv, bv, Nat.reduceBEq, reduceCtorEq, Nat.reduceAdd, Nat.reduceLeDiff, Nat.reduceSub, Nat.reduceLT, Nat.reduceMul]
 repeat refine awp_seq ?_
 refine awp_region (by kernel_rfl) ?_
 simp only [push_cast, Int.cast_ofNat_Int, Int.reduceLE, Int.reduceLT, Int.reduceToNat, Int.reduceNeg, Int.reduceSub, iv, bv, Nat.reduceBEq, reduceCtorEq, Nat.reduceAdd, Nat.reduceLeDiff, Nat.reduceSub, Nat.reduceLT, Nat.reduceMul]
 refine invG (invC F.val96 (by kernel_rfl) (f85_c ?_))
 simp only [push_cast, Int.cast_ofNat_Int, Int.reduceLE, Int.reduceLT, Int.reduceToNat, Int.reduceNeg, Int.reduceSub, iv, bv, Nat.reduceBEq, reduceCtorEq, Nat.reduceAdd, Nat.reduceLeDiff, Nat.reduceSub, Nat.reduceLT, Nat.reduceMul]
 repeat refine awp_seq ?_
 refine awp_ret ?_
 simp only [push_cast, Int.cast_ofNat_Int, Int.reduceLE, Int.reduceLT, Int.reduceToNat, Int.reduceNeg, Int.reduceSub, iv, bv, Nat.reduceBEq, reduceCtorEq, Nat.reduceAdd, Nat.reduceLeDiff, Nat.reduceSub, Nat.reduceLT, Nat.reduceMul]
 exact endV hH hk
theorem f7_c {n : Int} {hs : List Int} {m i j : Nat} {a b : Int} (hs' : ShOk n hs m) (hi : hs[i]? = some a) (hj : hs[j]? = some b) (hij : i < j) (hjm : j < m) (hk : k (.tup [iv (if b <= a then 2 else 1), iv 0]) H) : FnC lv Tryd.prog 7 H [shelfA n hs m, iv i, iv j] k kp := by
 refine fnC_intro (rs := [.tmp 6, .tmp 7]) (nt := 29) F.f7 rfl rfl rfl (by simp) fun hH hA => ?_
 simp only [argsT, Nat.reduceAdd, shelfA]
 have hr9 : m <= 9 := by have := hs'.room; have := hs'.long; omega
 have hml : m <= hs.length := hs'.plan
 have h5 := hs'.many
 repeat refine awp_seq ?_
 refine awp_region (by kernel_rfl) ?_
 simp only [push_cast, Int.cast_ofNat_Int, Int.reduceLE, Int.reduceLT, Int.reduceToNat, Int.reduceNeg, Int.reduceSub, iv, bv, Nat.reduceBEq, reduceCtorEq, Nat.reduceAdd, Nat.reduceLeDiff, Nat.reduceSub, Nat.reduceLT, Nat.reduceMul, shelfL]
 repeat refine awp_seq ?_
 refine awp_region (by kernel_rfl) ?_
 simp only [push_cast, Int.cast_ofNat_Int, Int.reduceLE, Int.reduceLT, Int.reduceToNat, Int.reduceNeg, Int.reduceSub, iv, bv, Nat.reduceBEq, reduceCtorEq, Nat.reduceAdd, Nat.reduceLeDiff, Nat.reduceSub, Nat.reduceLT, Nat.reduceMul, F.Ty_27, F.SliceOf_22, zr2, p24_2]
 refine callG (callC_func (by kernel_rfl) (f20_c (n := n) (hs := hs) (m := m) (a := i) (b := j) hs' (by omega) (by omega) ?_))
 simp only [push_cast, Int.cast_ofNat_Int, Int.reduceLE, Int.reduceLT, Int.reduceToNat, Int.reduceNeg, Int.reduceSub, iv, bv, Nat.reduceBEq, reduceCtorEq, Nat.reduceAdd, Nat.reduceLeDiff, Nat.reduceSub, Nat.reduceLT, Nat.reduceMul, List.length_append, List.length_cons, List.length_nil]
 repeat refine awp_seq ?_
 refine awp_region (by kernel_rfl) ?_
 simp only [push_cast, Int.cast_ofNat_Int, Int.reduceLE, Int.reduceLT, Int.reduceToNat, Int.reduceNeg, Int.reduceSub, iv, bv, Nat.reduceBEq, reduceCtorEq, Nat.reduceAdd, Nat.reduceLeDiff, Nat.reduceSub, Nat.reduceLT, Nat.reduceMul]
 repeat refine awp_seq ?_
 refine awp_condS ?_
 simp only [push_cast, Int.cast_ofNat_Int, Int.reduceLE, Int.reduceLT, Int.reduceToNat, Int.reduceNeg, Int.reduceSub, iv, bv, Nat.reduceBEq, reduceCtorEq, Nat.reduceAdd, Nat.reduceLeDiff, Nat.reduceSub, Nat.reduceLT, Nat.reduceMul]
 repeat refine awp_seq ?_
 refine awp_skip ?_
 simp only [push_cast, Int.cast_ofNat_Int, Int.reduceLE, Int.reduceLT, Int.reduceToNat, Int.reduceNeg, Int.reduceSub, iv, bv, Nat.reduceBEq, reduceCtorEq, Nat.reduceAdd, Nat.reduceLeDiff, Nat.reduceSub, Nat.reduceLT, Nat.reduceMul]
 repeat refine awp_seq ?_
 refine awp_region (by kernel_rfl) ?_
 simp only [push_cast, Int.cast_ofNat_Int, Int.reduceLE, Int.reduceLT, Int.reduceToNat, Int.reduceNeg, Int.reduceSub, iv, bv, Nat.reduceBEq, reduceCtorEq, Nat.reduceAdd, Nat.reduceLeDiff, Nat.reduceSub, Nat.reduceLT, Nat.reduceMul]
 repeat refine awp_seq ?_
 refine awp_condS ?_
 simp only [push_cast, Int.cast_ofNat_Int, Int.reduceLE, Int.reduceLT, Int.reduceToNat, Int.reduceNeg, Int.reduceSub, iv, bv, Nat.reduceBEq, reduceCtorEq, Nat.reduceAdd, Nat.reduceLeDiff, Nat.reduceSub, Nat.reduceLT, Nat.reduceMul]
 refine ⟨fun h => absurd h (by omega), fun h => ?_⟩
 repeat refine awp_seq ?_
 refine awp_skip ?_
 simp only [push_cast, Int.cast_ofNat_Int, Int.reduceLE, Int.reduceLT, Int.reduceToNat, Int.reduceNeg, Int.reduceSub, iv, bv, Nat.reduceBEq, reduceCtorEq, Nat.reduceAdd, Nat.reduceLeDiff, Nat.reduceSub, Nat.reduceLT, Nat.reduceMul]
 repeat refine awp_seq ?_
 refine awp_region (by kernel_rfl) ?_
 simp only [push_cast, Int.cast_ofNat_Int, Int.reduceLE, Int.reduceLT, Int.reduceToNat, Int.reduceNeg, Int.reduceSub, iv, bv, Nat.reduceBEq, reduceCtorEq, Nat.reduceAdd, Nat.reduceLeDiff, Nat.reduceSub, Nat.reduceLT, Nat.reduceMul]
 refine callG (callC_func (by kernel_rfl) (f22_c (n := n) (hs := hs) (m := m) (c := m) (M := H.length + 1 + 1 + 1 + 1) (i := i) (j := j) (a := a) (b := b) (get_at H _ 5) hi hj hij hjm ?_))
 simp only [push_cast, Int.cast_ofNat_Int, Int.reduceLE, Int.reduceLT, Int.reduceToNat, Int.reduceNeg, Int.reduceSub, iv, bv, Nat.reduceBEq, reduceCtorEq, Nat.reduceAdd, Nat.reduceLeDiff, Nat.reduceSub, Nat.reduceLT, Nat.reduceMul]
 by_cases hba : b <= a
 ·rw [if_pos hba] at hk ⊢
  refine callG (callC_func (by kernel_rfl) (f21_n ?_))
  simp only [push_cast, Int.cast_ofNat_Int, Int.reduceLE, Int.reduceLT, Int.reduceToNat, Int.reduceNeg, Int.reduceSub, iv, bv, Nat.reduceBEq, reduceCtorEq, Nat.reduceAdd, Nat.reduceLeDiff, Nat.reduceSub, Nat.reduceLT, Nat.reduceMul]
  repeat refine awp_seq ?_
  refine awp_ret ?_
  simp only [push_cast, Int.cast_ofNat_Int, Int.reduceLE, Int.reduceLT, Int.reduceToNat, Int.reduceNeg, Int.reduceSub, iv, bv, Nat.reduceBEq, reduceCtorEq, Nat.reduceAdd, Nat.reduceLeDiff, Nat.reduceSub, Nat.reduceLT, Nat.reduceMul]
  exact endA hH (Wk.refl _) (by simp [lt_tup, lt_val]) hk
 ·rw [if_neg hba] at hk ⊢
  refine callG (callC_func (by kernel_rfl) (f21_s ?_))
  simp only [push_cast, Int.cast_ofNat_Int, Int.reduceLE, Int.reduceLT, Int.reduceToNat, Int.reduceNeg, Int.reduceSub, iv, bv, Nat.reduceBEq, reduceCtorEq, Nat.reduceAdd, Nat.reduceLeDiff, Nat.reduceSub, Nat.reduceLT, Nat.reduceMul]
  repeat refine awp_seq ?_
  refine awp_ret ?_
  simp only [push_cast, Int.cast_ofNat_Int, Int.reduceLE, Int.reduceLT, Int.reduceToNat, Int.reduceNeg, Int.reduceSub, iv, bv, Nat.reduceBEq, reduceCtorEq, Nat.reduceAdd, Nat.reduceLeDiff, Nat.reduceSub, Nat.reduceLT, Nat.reduceMul]
  exact endA hH (Wk.refl _) (by simp [lt_tup, lt_val]) hk
def ltM (a b : Int) (c : Bool) : Int := if a < b /\ c = true then 1 else 0
theorem bit3 {i : Nat} : (3 : Nat).testBit i = decide (i < 2) := by
 match i with
 | 0 => rfl
 | 1 => rfl
 | i + 2 =>
  have : (3 : Nat) < 2 ^ (i + 2) := by rw [Nat.pow_add]; have := Nat.pow_pos (n := i) (a := 2) (by omega); omega
  rw [Nat.testBit_lt_two_pow this]
  simp
theorem f42_c {a b : Int} (hk : k (iv (ltM a b true)) H) : FnC lv Tryd.prog 42 H [uv 3, .agg [iv a, iv b, iv 0, iv 0, iv 0]] k kp := by
 refine fnC_intro (rs := [.tmp 4]) (nt := 40) F.f42 rfl rfl rfl (by simp) fun hH hA => ?_
 simp only [argsT, Nat.reduceAdd]
 repeat refine awp_seq ?_
 refine awp_region (by kernel_rfl) ?_
 simp only [push_cast, Int.cast_ofNat_Int, Int.reduceLE, Int.reduceLT, Int.reduceToNat, Int.reduceNeg, Int.reduceSub, iv, bv, Nat.reduceBEq, reduceCtorEq, Nat.reduceAdd, Nat.reduceLeDiff, Nat.reduceSub, Nat.reduceLT, Nat.reduceMul]
 repeat refine awp_seq ?_
 refine awp_scope1 ?_
 repeat refine awp_seq ?_
 refine awp_region (by kernel_rfl) ?_
 simp only [push_cast, Int.cast_ofNat_Int, Int.reduceLE, Int.reduceLT, Int.reduceToNat, Int.reduceNeg, Int.reduceSub, iv, bv, Nat.reduceBEq, reduceCtorEq, Nat.reduceAdd, Nat.reduceLeDiff, Nat.reduceSub, Nat.reduceLT, Nat.reduceMul]
 repeat refine awp_seq ?_
 refine awp_label ?_
 simp only [push_cast, Int.cast_ofNat_Int, Int.reduceLE, Int.reduceLT, Int.reduceToNat, Int.reduceNeg, Int.reduceSub, iv, bv, Nat.reduceBEq, reduceCtorEq, Nat.reduceAdd, Nat.reduceLeDiff, Nat.reduceSub, Nat.reduceLT, Nat.reduceMul]
 repeat refine awp_seq ?_
 refine awp_region (by kernel_rfl) ?_
 simp only [push_cast, Int.cast_ofNat_Int, Int.reduceLE, Int.reduceLT, Int.reduceToNat, Int.reduceNeg, Int.reduceSub, iv, bv, Nat.reduceBEq, reduceCtorEq, Nat.reduceAdd, Nat.reduceLeDiff, Nat.reduceSub, Nat.reduceLT, Nat.reduceMul]
 repeat refine awp_seq ?_
 refine awp_block ?_
 refine awp_for 5 (fun i : Nat => [(5, iv (ltM a b (decide (1 <= i)))), (8, iv i)]) (fun _ => H ++ [.cells [iv a, iv b, iv 0, iv 0, iv 0] 108]) (fun i => True) (fun _ _ => rfl) (by simp only [push_cast, Int.cast_ofNat_Int, Int.reduceLE, Int.reduceLT, Int.reduceToNat, Int.reduceNeg, Int.reduceSub, iv, bv, Nat.reduceBEq, reduceCtorEq, Nat.reduceAdd, Nat.reduceLeDiff, Nat.reduceSub, Nat.reduceLT, Nat.reduceMul, List.forall_mem_cons, List.not_mem_nil, false_imp_iff, implies_true, List.forall_mem_nil]; simp [exists_wk, Wk.refl]; simp [ltM, Wk.refl]) rfl (fun _ _ _ => rfl) trivial (fun hHs hLt i hin hi R hR => ?_)
 repeat refine awp_seq ?_
 refine awp_region (by kernel_rfl) ?_
 simp only [push_cast, Int.cast_ofNat_Int, Int.reduceLE, Int.reduceLT, Int.reduceToNat, Int.reduceNeg, Int.reduceSub, iv, bv, Nat.reduceBEq, reduceCtorEq, Nat.reduceAdd, Nat.reduceLeDiff, Nat.reduceSub, Nat.reduceLT, Nat.reduceMul]
 repeat refine awp_seq ?_
 refine awp_condS ?_
 simp only [push_cast, Int.cast_ofNat_Int, Int.reduceLE, Int.reduceLT, Int.reduceToNat, Int.reduceNeg, Int.reduceSub, iv, bv, Nat.reduceBEq, reduceCtorEq, Nat.reduceAdd, Nat.reduceLeDiff, Nat.reduceSub, Nat.reduceLT, Nat.reduceMul]
 refine ⟨fun h => ?_, fun h => ?_⟩
 ·
  have hlt : i < 5 := by omega
  have hi1 : IntKind.i64.wrap ((i : Int) + 1) = ((i + 1 : Nat) : Int) := by rw [i64_in _ (by omega)]; rfl
  repeat refine awp_seq ?_
  refine awp_skip ?_
  simp only [push_cast, Int.cast_ofNat_Int, Int.reduceLE, Int.reduceLT, Int.reduceToNat, Int.reduceNeg, Int.reduceSub, iv, bv, Nat.reduceBEq, reduceCtorEq, Nat.reduceAdd, Nat.reduceLeDiff, Nat.reduceSub, Nat.reduceLT, Nat.reduceMul]
  repeat refine awp_seq ?_
  refine awp_block ?_
  repeat refine awp_seq ?_
  refine awp_region (by kernel_rfl) ?_
  simp only [push_cast, Int.cast_ofNat_Int, Int.reduceLE, Int.reduceLT, Int.reduceToNat, Int.reduceNeg, Int.reduceSub, iv, bv, Nat.reduceBEq, reduceCtorEq, Nat.reduceAdd, Nat.reduceLeDiff, Nat.reduceSub, Nat.reduceLT, Nat.reduceMul]
  repeat refine awp_seq ?_
  refine awp_region (by kernel_rfl) ?_
  simp only [push_cast, Int.cast_ofNat_Int, Int.reduceLE, Int.reduceLT, Int.reduceToNat, Int.reduceNeg, Int.reduceSub, iv, bv, Nat.reduceBEq, reduceCtorEq, Nat.reduceAdd, Nat.reduceLeDiff, Nat.reduceSub, Nat.reduceLT, Nat.reduceMul]
  refine callG (callC_func (by kernel_rfl) (f43_c (by decide) ?_))
  simp only [push_cast, Int.cast_ofNat_Int, Int.reduceLE, Int.reduceLT, Int.reduceToNat, Int.reduceNeg, Int.reduceSub, iv, bv, Nat.reduceBEq, reduceCtorEq, Nat.reduceAdd, Nat.reduceLeDiff, Nat.reduceSub, Nat.reduceLT, Nat.reduceMul, bit3]
  repeat refine awp_seq ?_
  refine awp_condS ?_
  simp only [push_cast, Int.cast_ofNat_Int, Int.reduceLE, Int.reduceLT, Int.reduceToNat, Int.reduceNeg, Int.reduceSub, iv, bv, Nat.reduceBEq, reduceCtorEq, Nat.reduceAdd, Nat.reduceLeDiff, Nat.reduceSub, Nat.reduceLT, Nat.reduceMul]
  refine ⟨fun h2 => ?_, fun h2 => ?_⟩
  ·have hi2 : 2 <= i := by simpa using h2
   repeat refine awp_seq ?_
   refine awp_exit ?_
   simp only [push_cast, Int.cast_ofNat_Int, Int.reduceLE, Int.reduceLT, Int.reduceToNat, Int.reduceNeg, Int.reduceSub, iv, bv, Nat.reduceBEq, reduceCtorEq, Nat.reduceAdd, Nat.reduceLeDiff, Nat.reduceSub, Nat.reduceLT, Nat.reduceMul]
   repeat refine awp_seq ?_
   refine awp_region (by kernel_rfl) ?_
   simp only [push_cast, Int.cast_ofNat_Int, Int.reduceLE, Int.reduceLT, Int.reduceToNat, Int.reduceNeg, Int.reduceSub, iv, bv, Nat.reduceBEq, reduceCtorEq, Nat.reduceAdd, Nat.reduceLeDiff, Nat.reduceSub, Nat.reduceLT, Nat.reduceMul, hi1]
   refine hR _ ⟨hlt, trivial, ?_⟩
   have e : ltM a b (decide (1 <= i + 1)) = ltM a b (decide (1 <= i)) := by rw [decide_eq_true (by omega), decide_eq_true (by omega)]
   rw [e]
   exact (round_keep (keeps_rfl rfl rfl) (by simp only [push_cast, Int.cast_ofNat_Int, Int.reduceLE, Int.reduceLT, Int.reduceToNat, Int.reduceNeg, Int.reduceSub, iv, bv, Nat.reduceBEq, reduceCtorEq, Nat.reduceAdd, Nat.reduceLeDiff, Nat.reduceSub, Nat.reduceLT, Nat.reduceMul]; simp [exists_wk, Wk.refl]))
  ·have hi2 : i < 2 := by simpa using h2
   repeat refine awp_seq ?_
   refine awp_skip ?_
   simp only [push_cast, Int.cast_ofNat_Int, Int.reduceLE, Int.reduceLT, Int.reduceToNat, Int.reduceNeg, Int.reduceSub, iv, bv, Nat.reduceBEq, reduceCtorEq, Nat.reduceAdd, Nat.reduceLeDiff, Nat.reduceSub, Nat.reduceLT, Nat.reduceMul]
   repeat refine awp_seq ?_
   refine awp_region (by kernel_rfl) ?_
   simp only [push_cast, Int.cast_ofNat_Int, Int.reduceLE, Int.reduceLT, Int.reduceToNat, Int.reduceNeg, Int.reduceSub, iv, bv, Nat.reduceBEq, reduceCtorEq, Nat.reduceAdd, Nat.reduceLeDiff, Nat.reduceSub, Nat.reduceLT, Nat.reduceMul]
   repeat refine awp_seq ?_
   refine awp_block ?_
   refine awp_for 5 (fun j : Nat => [(5, iv (ltM a b (decide (1 <= i) || decide (2 <= j)))), (15, iv j)]) (fun _ => H ++ [.cells [iv a, iv b, iv 0, iv 0, iv 0] 108]) (fun i => True) (fun _ _ => rfl) (by simp only [push_cast, Int.cast_ofNat_Int, Int.reduceLE, Int.reduceLT, Int.reduceToNat, Int.reduceNeg, Int.reduceSub, iv, bv, Nat.reduceBEq, reduceCtorEq, Nat.reduceAdd, Nat.reduceLeDiff, Nat.reduceSub, Nat.reduceLT, Nat.reduceMul, List.forall_mem_cons, List.not_mem_nil, false_imp_iff, implies_true, List.forall_mem_nil]; simp [exists_wk, Wk.refl]) rfl (fun _ _ _ => rfl) trivial (fun hHs2 hLt2 j hjn hj R2 hR2 => ?_)
   repeat refine awp_seq ?_
   refine awp_region (by kernel_rfl) ?_
   simp only [push_cast, Int.cast_ofNat_Int, Int.reduceLE, Int.reduceLT, Int.reduceToNat, Int.reduceNeg, Int.reduceSub, iv, bv, Nat.reduceBEq, reduceCtorEq, Nat.reduceAdd, Nat.reduceLeDiff, Nat.reduceSub, Nat.reduceLT, Nat.reduceMul]
   repeat refine awp_seq ?_
   refine awp_condS ?_
   simp only [push_cast, Int.cast_ofNat_Int, Int.reduceLE, Int.reduceLT, Int.reduceToNat, Int.reduceNeg, Int.reduceSub, iv, bv, Nat.reduceBEq, reduceCtorEq, Nat.reduceAdd, Nat.reduceLeDiff, Nat.reduceSub, Nat.reduceLT, Nat.reduceMul]
   refine ⟨fun h3 => ?_, fun h3 => ?_⟩
   ·have hjl : j < 5 := by omega
    have hj1 : IntKind.i64.wrap ((j : Int) + 1) = ((j + 1 : Nat) : Int) := by rw [i64_in _ (by omega)]; rfl
    repeat refine awp_seq ?_
    refine awp_skip ?_
    simp only [push_cast, Int.cast_ofNat_Int, Int.reduceLE, Int.reduceLT, Int.reduceToNat, Int.reduceNeg, Int.reduceSub, iv, bv, Nat.reduceBEq, reduceCtorEq, Nat.reduceAdd, Nat.reduceLeDiff, Nat.reduceSub, Nat.reduceLT, Nat.reduceMul]
    repeat refine awp_seq ?_
    refine awp_block ?_
    repeat refine awp_seq ?_
    refine awp_region (by kernel_rfl) ?_
    simp only [push_cast, Int.cast_ofNat_Int, Int.reduceLE, Int.reduceLT, Int.reduceToNat, Int.reduceNeg, Int.reduceSub, iv, bv, Nat.reduceBEq, reduceCtorEq, Nat.reduceAdd, Nat.reduceLeDiff, Nat.reduceSub, Nat.reduceLT, Nat.reduceMul]
    by_cases hji : i < j
    ·have hd : decide ((j : Int) > i) = true := by simp; omega
     repeat refine awp_seq ?_
     refine awp_draw F.mixed 16 (by kernel_rfl) ?_
     simp only [push_cast, Int.cast_ofNat_Int, Int.reduceLE, Int.reduceLT, Int.reduceToNat, Int.reduceNeg, Int.reduceSub, iv, bv, Nat.reduceBEq, reduceCtorEq, Nat.reduceAdd, Nat.reduceLeDiff, Nat.reduceSub, Nat.reduceLT, Nat.reduceMul, F.IdxOf_108, F.Ty_3, hd]
     refine qCall (bv (decide (j < 2))) (callC_func (by kernel_rfl) (f43_c (by decide) (by rw [bit3]; exact ⟨rfl, rfl⟩))) ?_
     by_cases hj2 : j < 2
     ·have hi0 : i = 0 := by omega
      have hj0 : j = 1 := by omega
      subst hi0
      subst hj0
      have hw2 : IntKind.i64.wrap 2 = 2 := i64_in _ (by omega)
      have hw2' : IntKind.i64.wrap (1 + 1) = 2 := i64_in _ (by omega)
      have hw1 : IntKind.i64.wrap (0 + 1) = 1 := i64_in _ (by omega)
      have hw1' : IntKind.i64.wrap 1 = 1 := i64_in _ (by omega)
      have ef : ltM a b false = 0 := by simp [ltM]
      simp only [push_cast, Int.cast_ofNat_Int, Int.reduceLE, Int.reduceLT, Int.reduceToNat, Int.reduceNeg, Int.reduceSub, iv, bv, Nat.reduceBEq, reduceCtorEq, Nat.reduceAdd, Nat.reduceLeDiff, Nat.reduceSub, Nat.reduceLT, Nat.reduceMul, decide_true, if_true, F.IdxOf_108, F.Ty_3]
      repeat refine awp_seq ?_
      refine awp_condS ?_
      simp only [push_cast, Int.cast_ofNat_Int, Int.reduceLE, Int.reduceLT, Int.reduceToNat, Int.reduceNeg, Int.reduceSub, iv, bv, Nat.reduceBEq, reduceCtorEq, Nat.reduceAdd, Nat.reduceLeDiff, Nat.reduceSub, Nat.reduceLT, Nat.reduceMul]
      refine ⟨fun h4 => ?_, fun h4 => ?_⟩
      ·have hab : a < b := by simpa using h4
       have e0 : ltM a b (decide (1 <= 0) || decide (2 <= 1)) = 0 := by simp [ltM]
       have e1 : ltM a b (decide (1 <= 0) || decide (2 <= 1 + 1)) = 1 := by simp [ltM, hab]
       repeat refine awp_seq ?_
       refine awp_region (by kernel_rfl) ?_
       simp only [push_cast, Int.cast_ofNat_Int, Int.reduceLE, Int.reduceLT, Int.reduceToNat, Int.reduceNeg, Int.reduceSub, iv, bv, Nat.reduceBEq, reduceCtorEq, Nat.reduceAdd, Nat.reduceLeDiff, Nat.reduceSub, Nat.reduceLT, Nat.reduceMul]
       repeat refine awp_seq ?_
       refine awp_region (by kernel_rfl) ?_
       simp only [push_cast, Int.cast_ofNat_Int, Int.reduceLE, Int.reduceLT, Int.reduceToNat, Int.reduceNeg, Int.reduceSub, iv, bv, Nat.reduceBEq, reduceCtorEq, Nat.reduceAdd, Nat.reduceLeDiff, Nat.reduceSub, Nat.reduceLT, Nat.reduceMul, hw2, hw2']
       refine hR2 _ ⟨hjl, trivial, ?_⟩
       simp only [e1]
       exact round_keep (keeps_rfl rfl rfl) (by simp only [push_cast, Int.cast_ofNat_Int, Int.reduceLE, Int.reduceLT, Int.reduceToNat, Int.reduceNeg, Int.reduceSub, iv, bv, Nat.reduceBEq, reduceCtorEq, Nat.reduceAdd, Nat.reduceLeDiff, Nat.reduceSub, Nat.reduceLT, Nat.reduceMul]; simp [exists_wk, Wk.refl]; rw [ef, hw1]; exact Wk.refl _)
      ·have hab : ¬ a < b := by simpa using h4
       have e0 : ∀ c, ltM a b c = 0 := fun c => by simp [ltM, hab]
       repeat refine awp_seq ?_
       refine awp_skip ?_
       simp only [push_cast, Int.cast_ofNat_Int, Int.reduceLE, Int.reduceLT, Int.reduceToNat, Int.reduceNeg, Int.reduceSub, iv, bv, Nat.reduceBEq, reduceCtorEq, Nat.reduceAdd, Nat.reduceLeDiff, Nat.reduceSub, Nat.reduceLT, Nat.reduceMul]
       repeat refine awp_seq ?_
       refine awp_region (by kernel_rfl) ?_
       simp only [push_cast, Int.cast_ofNat_Int, Int.reduceLE, Int.reduceLT, Int.reduceToNat, Int.reduceNeg, Int.reduceSub, iv, bv, Nat.reduceBEq, reduceCtorEq, Nat.reduceAdd, Nat.reduceLeDiff, Nat.reduceSub, Nat.reduceLT, Nat.reduceMul, hw2, hw2']
       refine hR2 _ ⟨hjl, trivial, ?_⟩
       simp only [e0]
       exact (round_keep (keeps_rfl rfl rfl) (by simp only [push_cast, Int.cast_ofNat_Int, Int.reduceLE, Int.reduceLT, Int.reduceToNat, Int.reduceNeg, Int.reduceSub, iv, bv, Nat.reduceBEq, reduceCtorEq, Nat.reduceAdd, Nat.reduceLeDiff, Nat.reduceSub, Nat.reduceLT, Nat.reduceMul]; simp [exists_wk, Wk.refl]))
     ·have hj2' : decide (j < 2) = false := by simp; omega
      have e : (decide (1 <= i) || decide (2 <= j + 1)) = (decide (1 <= i) || decide (2 <= j)) := by rw [Bool.eq_iff_iff]; simp; omega
      simp only [push_cast, Int.cast_ofNat_Int, Int.reduceLE, Int.reduceLT, Int.reduceToNat, Int.reduceNeg, Int.reduceSub, iv, bv, Nat.reduceBEq, reduceCtorEq, Nat.reduceAdd, Nat.reduceLeDiff, Nat.reduceSub, Nat.reduceLT, Nat.reduceMul, hj2']
      repeat refine awp_seq ?_
      refine awp_condS ?_
      simp only [push_cast, Int.cast_ofNat_Int, Int.reduceLE, Int.reduceLT, Int.reduceToNat, Int.reduceNeg, Int.reduceSub, iv, bv, Nat.reduceBEq, reduceCtorEq, Nat.reduceAdd, Nat.reduceLeDiff, Nat.reduceSub, Nat.reduceLT, Nat.reduceMul]
      repeat refine awp_seq ?_
      refine awp_skip ?_
      simp only [push_cast, Int.cast_ofNat_Int, Int.reduceLE, Int.reduceLT, Int.reduceToNat, Int.reduceNeg, Int.reduceSub, iv, bv, Nat.reduceBEq, reduceCtorEq, Nat.reduceAdd, Nat.reduceLeDiff, Nat.reduceSub, Nat.reduceLT, Nat.reduceMul]
      repeat refine awp_seq ?_
      refine awp_region (by kernel_rfl) ?_
      simp only [push_cast, Int.cast_ofNat_Int, Int.reduceLE, Int.reduceLT, Int.reduceToNat, Int.reduceNeg, Int.reduceSub, iv, bv, Nat.reduceBEq, reduceCtorEq, Nat.reduceAdd, Nat.reduceLeDiff, Nat.reduceSub, Nat.reduceLT, Nat.reduceMul, hj1]
      refine hR2 _ ⟨hjl, trivial, ?_⟩
      simp only [e]
      exact (round_keep (keeps_rfl rfl rfl) (by simp only [push_cast, Int.cast_ofNat_Int, Int.reduceLE, Int.reduceLT, Int.reduceToNat, Int.reduceNeg, Int.reduceSub, iv, bv, Nat.reduceBEq, reduceCtorEq, Nat.reduceAdd, Nat.reduceLeDiff, Nat.reduceSub, Nat.reduceLT, Nat.reduceMul]; simp [exists_wk, Wk.refl]))
    ·have hd : decide ((j : Int) > i) = false := by simp; omega
     have e : (decide (1 <= i) || decide (2 <= j + 1)) = (decide (1 <= i) || decide (2 <= j)) := by rw [Bool.eq_iff_iff]; simp; omega
     repeat refine awp_seq ?_
     refine awp_draw F.mixed 16 (by kernel_rfl) ?_
     simp only [push_cast, Int.cast_ofNat_Int, Int.reduceLE, Int.reduceLT, Int.reduceToNat, Int.reduceNeg, Int.reduceSub, iv, bv, Nat.reduceBEq, reduceCtorEq, Nat.reduceAdd, Nat.reduceLeDiff, Nat.reduceSub, Nat.reduceLT, Nat.reduceMul, F.IdxOf_108, F.Ty_3, hd]
     repeat refine awp_seq ?_
     refine awp_condS ?_
     simp only [push_cast, Int.cast_ofNat_Int, Int.reduceLE, Int.reduceLT, Int.reduceToNat, Int.reduceNeg, Int.reduceSub, iv, bv, Nat.reduceBEq, reduceCtorEq, Nat.reduceAdd, Nat.reduceLeDiff, Nat.reduceSub, Nat.reduceLT, Nat.reduceMul]
     repeat refine awp_seq ?_
     refine awp_skip ?_
     simp only [push_cast, Int.cast_ofNat_Int, Int.reduceLE, Int.reduceLT, Int.reduceToNat, Int.reduceNeg, Int.reduceSub, iv, bv, Nat.reduceBEq, reduceCtorEq, Nat.reduceAdd, Nat.reduceLeDiff, Nat.reduceSub, Nat.reduceLT, Nat.reduceMul]
     repeat refine awp_seq ?_
     refine awp_region (by kernel_rfl) ?_
     simp only [push_cast, Int.cast_ofNat_Int, Int.reduceLE, Int.reduceLT, Int.reduceToNat, Int.reduceNeg, Int.reduceSub, iv, bv, Nat.reduceBEq, reduceCtorEq, Nat.reduceAdd, Nat.reduceLeDiff, Nat.reduceSub, Nat.reduceLT, Nat.reduceMul, hj1]
     refine hR2 _ ⟨hjl, trivial, ?_⟩
     simp only [e]
     exact (round_keep (keeps_rfl rfl rfl) (by simp only [push_cast, Int.cast_ofNat_Int, Int.reduceLE, Int.reduceLT, Int.reduceToNat, Int.reduceNeg, Int.reduceSub, iv, bv, Nat.reduceBEq, reduceCtorEq, Nat.reduceAdd, Nat.reduceLeDiff, Nat.reduceSub, Nat.reduceLT, Nat.reduceMul]; simp [exists_wk, Wk.refl]))
   ·have hj5 : j = 5 := by omega
    subst hj5
    repeat refine awp_seq ?_
    refine awp_exit ?_
    simp only [push_cast, Int.cast_ofNat_Int, Int.reduceLE, Int.reduceLT, Int.reduceToNat, Int.reduceNeg, Int.reduceSub, iv, bv, Nat.reduceBEq, reduceCtorEq, Nat.reduceAdd, Nat.reduceLeDiff, Nat.reduceSub, Nat.reduceLT, Nat.reduceMul]
    repeat refine awp_seq ?_
    refine awp_region (by kernel_rfl) ?_
    simp only [push_cast, Int.cast_ofNat_Int, Int.reduceLE, Int.reduceLT, Int.reduceToNat, Int.reduceNeg, Int.reduceSub, iv, bv, Nat.reduceBEq, reduceCtorEq, Nat.reduceAdd, Nat.reduceLeDiff, Nat.reduceSub, Nat.reduceLT, Nat.reduceMul, hi1]
    refine hR _ ⟨hlt, trivial, ?_⟩
    have e : (decide (1 <= i) || decide (2 <= 5)) = decide (1 <= i + 1) := by simp
    simp only [e]
    exact (round_keep (keeps_rfl rfl rfl) (by simp only [push_cast, Int.cast_ofNat_Int, Int.reduceLE, Int.reduceLT, Int.reduceToNat, Int.reduceNeg, Int.reduceSub, iv, bv, Nat.reduceBEq, reduceCtorEq, Nat.reduceAdd, Nat.reduceLeDiff, Nat.reduceSub, Nat.reduceLT, Nat.reduceMul]; simp [exists_wk, Wk.refl]))
 ·have hi5 : i = 5 := by omega
  subst hi5
  repeat refine awp_seq ?_
  refine awp_exit ?_
  simp only [push_cast, Int.cast_ofNat_Int, Int.reduceLE, Int.reduceLT, Int.reduceToNat, Int.reduceNeg, Int.reduceSub, iv, bv, Nat.reduceBEq, reduceCtorEq, Nat.reduceAdd, Nat.reduceLeDiff, Nat.reduceSub, Nat.reduceLT, Nat.reduceMul]
  repeat refine awp_seq ?_
  refine awp_region (by kernel_rfl) ?_
  simp only [push_cast, Int.cast_ofNat_Int, Int.reduceLE, Int.reduceLT, Int.reduceToNat, Int.reduceNeg, Int.reduceSub, iv, bv, Nat.reduceBEq, reduceCtorEq, Nat.reduceAdd, Nat.reduceLeDiff, Nat.reduceSub, Nat.reduceLT, Nat.reduceMul]
  repeat refine awp_seq ?_
  refine awp_ret ?_
  simp only [push_cast, Int.cast_ofNat_Int, Int.reduceLE, Int.reduceLT, Int.reduceToNat, Int.reduceNeg, Int.reduceSub, iv, bv, Nat.reduceBEq, reduceCtorEq, Nat.reduceAdd, Nat.reduceLeDiff, Nat.reduceSub, Nat.reduceLT, Nat.reduceMul]
  exact endA hH (Wk.refl _) (by simp [lt_val]) hk
end
theorem parts_ints (bs : List Int) : (aInts bs).parts = some [aInts bs] := rfl
structure FromF (lv : Bool) (n a b : Int) (M R l y h rb fr N : Nat) (yv : AV) (Gf : Bool -> List Int -> List AObj) : Prop where
 len : ∀ q xs, (Gf q xs).length = N
 gl : ∀ q xs L, (Gf q xs ++ L)[l]? = some (.cells [aInts [0, 1]] 22)
 gy : ∀ q xs L, (Gf q xs ++ L)[y]? = some (.cells [yv] 127)
 gb : ∀ q xs L, (Gf q xs ++ L)[rb]? = some (.cells [.op R 0] 61)
 gR : ∀ q xs L, (Gf q xs ++ L)[R]? = some (.cells (rackL n [a, b] 2 2 M) 77)
 gf : ∀ q xs L, (Gf q xs ++ L)[fr]? = some (.cells [.fn (.func 53) [] [.op l 0, .op y 0, .op h 0, .op rb 0, .op fr 0]] 60)
 gh : ∀ q xs L, (Gf q xs ++ L)[h]? = some (.cells (xs.map iv) 108)
 sh : ∀ q xs ys L, (Gf q xs ++ L).set h (.cells (ys.map iv) 108) = Gf q ys ++ L
 ok : ∀ m q xs q' xs', (∀ z ∈ Gf q xs, OLt m z) -> ∀ z ∈ Gf q' xs', OLt m z
 yield : ∀ L k kp, k (bv true) (Gf true [a, b, 0, 0, 0] ++ L) -> CallC lv Tryd.prog yv (Gf false [a, b, 0, 0, 0] ++ L) [.agg [iv a, iv b, iv 0, iv 0, iv 0]] k kp
section
variable {lv : Bool} {n a b : Int} {M R l y h rb fr N : Nat} {yv : AV} {Gf : Bool -> List Int -> List AObj} {k kp : AV -> List AObj -> Prop}
theorem FromF.n0 (hF : FromF lv n a b M R l y h rb fr N yv Gf) (q : Bool) (xs : List Int) (L : List AObj) : (Gf q xs ++ L)[N]? = L[0]? := by have := app_get (Gf q xs) L 0; rwa [hF.len] at this
theorem FromF.hok (hF : FromF lv n a b M R l y h rb fr N yv Gf) {q q' : Bool} {xs ys : List Int} {L : List AObj} (hH : HOk (Gf q xs ++ L)) : HOk (Gf q' ys ++ L) := fun z hz => by
 have e : (Gf q' ys ++ L).length = (Gf q xs ++ L).length := by simp [hF.len]
 rw [e]
 rcases List.mem_append.1 hz with hz | hz
 ·exact hF.ok _ _ _ _ _ (fun w hw => hH w (List.mem_append_left _ hw)) z hz
 ·exact hH z (List.mem_append_right _ hz)
theorem f53_2 (hF : FromF lv n a b M R l y h rb fr N yv Gf) (L : List AObj) (hk : k (bv true) (Gf true [a, b, 0, 0, 0] ++ L)) : FnC lv Tryd.prog 53 (Gf false [a, b, 0, 0, 0] ++ L) [iv 2, .op l 0, .op y 0, .op h 0, .op rb 0, .op fr 0] k kp := by
 refine fnC_intro (rs := [.tmp 7]) (nt := 53) F.f53 rfl rfl rfl (by simp) fun hH hA => ?_
 simp only [argsT, Nat.reduceAdd]
 repeat refine awp_seq ?_
 refine awp_region (by kernel_rfl) ?_
 simp only [push_cast, Int.cast_ofNat_Int, Int.reduceLE, Int.reduceLT, Int.reduceToNat, Int.reduceNeg, Int.reduceSub, iv, bv, Nat.reduceBEq, reduceCtorEq, Nat.reduceAdd, Nat.reduceLeDiff, Nat.reduceSub, Nat.reduceLT, Nat.reduceMul]
 repeat refine awp_seq ?_
 refine awp_region (by kernel_rfl) ?_
 simp only [push_cast, Int.cast_ofNat_Int, Int.reduceLE, Int.reduceLT, Int.reduceToNat, Int.reduceNeg, Int.reduceSub, iv, bv, Nat.reduceBEq, reduceCtorEq, Nat.reduceAdd, Nat.reduceLeDiff, Nat.reduceSub, Nat.reduceLT, Nat.reduceMul, F.Ty_22, F.LenOf_22, hF.gl, aInts]
 repeat refine awp_seq ?_
 refine awp_condS ?_
 simp only [push_cast, Int.cast_ofNat_Int, Int.reduceLE, Int.reduceLT, Int.reduceToNat, Int.reduceNeg, Int.reduceSub, iv, bv, Nat.reduceBEq, reduceCtorEq, Nat.reduceAdd, Nat.reduceLeDiff, Nat.reduceSub, Nat.reduceLT, Nat.reduceMul]
 refine ⟨?_, fun h => absurd h (by decide)⟩
 repeat refine awp_seq ?_
 refine awp_region (by kernel_rfl) ?_
 simp only [push_cast, Int.cast_ofNat_Int, Int.reduceLE, Int.reduceLT, Int.reduceToNat, Int.reduceNeg, Int.reduceSub, iv, bv, Nat.reduceBEq, reduceCtorEq, Nat.reduceAdd, Nat.reduceLeDiff, Nat.reduceSub, Nat.reduceLT, Nat.reduceMul, F.Ty_127, F.Ty_108, hF.gy, hF.gh]
 refine callG (hF.yield L _ _ ?_)
 simp only [push_cast, Int.cast_ofNat_Int, Int.reduceLE, Int.reduceLT, Int.reduceToNat, Int.reduceNeg, Int.reduceSub, iv, bv, Nat.reduceBEq, reduceCtorEq, Nat.reduceAdd, Nat.reduceLeDiff, Nat.reduceSub, Nat.reduceLT, Nat.reduceMul]
 repeat refine awp_seq ?_
 refine awp_ret ?_
 simp only [push_cast, Int.cast_ofNat_Int, Int.reduceLE, Int.reduceLT, Int.reduceToNat, Int.reduceNeg, Int.reduceSub, iv, bv, Nat.reduceBEq, reduceCtorEq, Nat.reduceAdd, Nat.reduceLeDiff, Nat.reduceSub, Nat.reduceLT, Nat.reduceMul]
 refine endOf_cut (H' := Gf true [a, b, 0, 0, 0] ++ L) (G := []) (Wk.refl _) (by simp) (by simp [hF.len]) (hF.hok hH) (.val _) hk
theorem f53_s {i : Nat} {x : Int} {xs : List Int} (hF : FromF lv n a b M R l y h rb fr N yv Gf) (hi : i < 2) (hx : [a, b][i]? = some x) (hb : 0 <= x /\ x <= 6) (h5 : xs.length = 5) (ih : ∀ (L : List AObj) (k kp : AV -> List AObj -> Prop), k (bv true) (Gf true [a, b, 0, 0, 0] ++ L) -> FnC lv Tryd.prog 53 (Gf false (xs.set i x) ++ L) [iv ((i + 1 : Nat) : Int), .op l 0, .op y 0, .op h 0, .op rb 0, .op fr 0] k kp)
  (L : List AObj) (hk : k (bv true) (Gf true [a, b, 0, 0, 0] ++ L)) : FnC lv Tryd.prog 53 (Gf false xs ++ L) [iv i, .op l 0, .op y 0, .op h 0, .op rb 0, .op fr 0] k kp := by
 refine fnC_intro (rs := [.tmp 7]) (nt := 53) F.f53 rfl rfl rfl (by simp) fun hH hA => ?_
 simp only [argsT, Nat.reduceAdd]
 have hx01 : ([0, 1] : List Int)[i]? = some (i : Int) := by match i, hi with | 0, _ => rfl | 1, _ => rfl
 have hb2 : (0 <= (i : Int) /\ (i : Int) < 2) = True := by simp; omega
 have hsh := sh_ints hx01
 simp only [List.map_cons, List.map_nil, iv] at hsh
 have hbg := sh_bags hx
 have hgB0 : ∀ q ys (z : AObj), (Gf q ys ++ (L ++ [z]))[N + L.length]? = some z := fun q ys z => by
  have := app_get (Gf q ys) (L ++ [z]) L.length
  rw [hF.len] at this
  rw [this, List.getElem?_append_right (Nat.le_refl _)]; simp
 have hsB : ∀ q ys (z w : AObj), (Gf q ys ++ (L ++ [z])).set (N + L.length) w = Gf q ys ++ (L ++ [w]) := fun q ys z w => by
  have := app_set (Gf q ys) (L ++ [z]) L.length w
  rw [hF.len] at this
  rw [this, List.set_append_right _ _ (Nat.le_refl _)]; simp
 repeat refine awp_seq ?_
 refine awp_region (by kernel_rfl) ?_
 simp only [push_cast, Int.cast_ofNat_Int, Int.reduceLE, Int.reduceLT, Int.reduceToNat, Int.reduceNeg, Int.reduceSub, iv, bv, Nat.reduceBEq, reduceCtorEq, Nat.reduceAdd, Nat.reduceLeDiff, Nat.reduceSub, Nat.reduceLT, Nat.reduceMul]
 repeat refine awp_seq ?_
 refine awp_region (by kernel_rfl) ?_
 simp only [push_cast, Int.cast_ofNat_Int, Int.reduceLE, Int.reduceLT, Int.reduceToNat, Int.reduceNeg, Int.reduceSub, iv, bv, Nat.reduceBEq, reduceCtorEq, Nat.reduceAdd, Nat.reduceLeDiff, Nat.reduceSub, Nat.reduceLT, Nat.reduceMul, F.Ty_22, F.LenOf_22, hF.gl, aInts]
 repeat refine awp_seq ?_
 refine awp_condS ?_
 simp only [push_cast, Int.cast_ofNat_Int, Int.reduceLE, Int.reduceLT, Int.reduceToNat, Int.reduceNeg, Int.reduceSub, iv, bv, Nat.reduceBEq, reduceCtorEq, Nat.reduceAdd, Nat.reduceLeDiff, Nat.reduceSub, Nat.reduceLT, Nat.reduceMul]
 refine ⟨fun h => absurd h (by omega), fun _ => ?_⟩
 repeat refine awp_seq ?_
 refine awp_skip ?_
 simp only [push_cast, Int.cast_ofNat_Int, Int.reduceLE, Int.reduceLT, Int.reduceToNat, Int.reduceNeg, Int.reduceSub, iv, bv, Nat.reduceBEq, reduceCtorEq, Nat.reduceAdd, Nat.reduceLeDiff, Nat.reduceSub, Nat.reduceLT, Nat.reduceMul]
 repeat refine awp_seq ?_
 refine awp_drawB [12, 13] [0, 1, 2, 3, 4, 5, 6, 7, 8, 9, 10, 11, 12, 13] [⟨0, false, [], [([12], [12])]⟩, ⟨1, false, [], [([12], [12])]⟩, ⟨2, false, [], [([12], [12])]⟩, ⟨3, false, [], [([12], [12])]⟩, ⟨4, false, [], [([12], [12])]⟩, ⟨5, false, [], [([12], [12])]⟩, ⟨6, false, [], [([12], [12])]⟩, ⟨7, false, [], [([12], [12])]⟩, ⟨8, false, [], [([12], [12])]⟩, ⟨9, false, [], [([12], [12])]⟩, ⟨10, false, [], [([12], [12])]⟩, ⟨11, false, [], [([12], [12])]⟩, ⟨12, true, [12], []⟩, ⟨13, true, [12, 13], []⟩] (fun D => bif isDone 13 D then Gf false xs ++ L ++ [.cells [iv x, iv x] 33] else bif isDone 12 D then Gf false xs ++ L ++ [.cells [iv 0, iv 0] 33] else Gf false xs ++ L) F.mixed (by kernel_rfl) (by kernel_rfl) (by first | rfl | simp only [push_cast, Int.cast_ofNat_Int, Int.reduceLE, Int.reduceLT, Int.reduceToNat, Int.reduceNeg, Int.reduceSub, iv, bv, Nat.reduceBEq, reduceCtorEq, Nat.reduceAdd, Nat.reduceLeDiff, Nat.reduceSub, Nat.reduceLT, Nat.reduceMul]) ?_
 simp only [push_cast, Int.cast_ofNat_Int, Int.reduceLE, Int.reduceLT, Int.reduceToNat, Int.reduceNeg, Int.reduceSub, iv, bv, Nat.reduceBEq, reduceCtorEq, Nat.reduceAdd, Nat.reduceLeDiff, Nat.reduceSub, Nat.reduceLT, Nat.reduceMul, F.Ty_61, F.FieldOf_77_0, F.FieldOf_27_1, F.Ty_25, F.Ty_22, F.IdxOf_22, F.Ty_3, F.IdxOf_25, F.FieldOf_35_1, F.Ty_33, F.ZeroOf_33, hF.gl, hF.gb, hF.gR, hF.len, rackL, aBags, aInts, hsh, hb2, hbg, hgB0, hsB]
 have hw1 : IntKind.i64.wrap (x - x) = 0 := by rw [Int.sub_self]; exact i64_in _ (by omega)
 have hw2 : IntKind.i64.wrap (0 + 1) = 1 := i64_in _ (by omega)
 repeat refine awp_seq ?_
 refine awp_region (by kernel_rfl) ?_
 simp only [push_cast, Int.cast_ofNat_Int, Int.reduceLE, Int.reduceLT, Int.reduceToNat, Int.reduceNeg, Int.reduceSub, iv, bv, Nat.reduceBEq, reduceCtorEq, Nat.reduceAdd, Nat.reduceLeDiff, Nat.reduceSub, Nat.reduceLT, Nat.reduceMul, F.FieldOf_33_1, F.Ty_3, F.FieldOf_33_0, hgB0, hw1, hw2]
 repeat refine awp_seq ?_
 refine awp_block ?_
 refine awp_for 1 (fun j : Nat => [(35, iv j)]) (fun j => if j = 0 then Gf false xs ++ (L ++ [.cells [iv x, iv x] 33]) else Gf true [a, b, 0, 0, 0] ++ (L ++ [.cells [iv x, iv x] 33])) (fun i => True) (fun _ _ => rfl) (by simp only [push_cast, Int.cast_ofNat_Int, Int.reduceLE, Int.reduceLT, Int.reduceToNat, Int.reduceNeg, Int.reduceSub, iv, bv, Nat.reduceBEq, reduceCtorEq, Nat.reduceAdd, Nat.reduceLeDiff, Nat.reduceSub, Nat.reduceLT, Nat.reduceMul, List.forall_mem_cons, List.not_mem_nil, false_imp_iff, implies_true, List.forall_mem_nil]; simp [exists_wk, Wk.refl]) rfl (fun j _ _ => by split <;> simp [hF.len]) trivial (fun hHs hLt j hjn hj R2 hR2 => ?_)
 repeat refine awp_seq ?_
 refine awp_region (by kernel_rfl) ?_
 simp only [push_cast, Int.cast_ofNat_Int, Int.reduceLE, Int.reduceLT, Int.reduceToNat, Int.reduceNeg, Int.reduceSub, iv, bv, Nat.reduceBEq, reduceCtorEq, Nat.reduceAdd, Nat.reduceLeDiff, Nat.reduceSub, Nat.reduceLT, Nat.reduceMul]
 repeat refine awp_seq ?_
 refine awp_condS ?_
 simp only [push_cast, Int.cast_ofNat_Int, Int.reduceLE, Int.reduceLT, Int.reduceToNat, Int.reduceNeg, Int.reduceSub, iv, bv, Nat.reduceBEq, reduceCtorEq, Nat.reduceAdd, Nat.reduceLeDiff, Nat.reduceSub, Nat.reduceLT, Nat.reduceMul]
 refine ⟨fun h => ?_, fun h => ?_⟩
 ·have hj0 : j = 0 := by omega
  subst hj0
  repeat refine awp_seq ?_
  refine awp_skip ?_
  simp only [push_cast, Int.cast_ofNat_Int, Int.reduceLE, Int.reduceLT, Int.reduceToNat, Int.reduceNeg, Int.reduceSub, iv, bv, Nat.reduceBEq, reduceCtorEq, Nat.reduceAdd, Nat.reduceLeDiff, Nat.reduceSub, Nat.reduceLT, Nat.reduceMul]
  repeat refine awp_seq ?_
  refine awp_block ?_
  repeat refine awp_seq ?_
  refine awp_region (by kernel_rfl) ?_
  simp only [push_cast, Int.cast_ofNat_Int, Int.reduceLE, Int.reduceLT, Int.reduceToNat, Int.reduceNeg, Int.reduceSub, iv, bv, Nat.reduceBEq, reduceCtorEq, Nat.reduceAdd, Nat.reduceLeDiff, Nat.reduceSub, Nat.reduceLT, Nat.reduceMul]
  have hwx : IntKind.i64.wrap (x + 0) = x := by rw [Int.add_zero]; exact i64_in _ (by omega)
  have hb5 : (0 <= (i : Int) /\ (i : Int) < 5) = True := by simp; omega
  have hle : (i + 1 <= xs.length) = True := by simp; omega
  have hwi : IntKind.i64.wrap ((i : Int) + 1) = ((i + 1 : Nat) : Int) := by rw [i64_in _ (by omega)]; rfl
  repeat refine awp_seq ?_
  refine awp_draw F.mixed 8 (by kernel_rfl) ?_
  simp only [push_cast, Int.cast_ofNat_Int, Int.reduceLE, Int.reduceLT, Int.reduceToNat, Int.reduceNeg, Int.reduceSub, iv, bv, Nat.reduceBEq, reduceCtorEq, Nat.reduceAdd, Nat.reduceLeDiff, Nat.reduceSub, Nat.reduceLT, Nat.reduceMul, F.Ty_22, F.IdxOf_22, F.Ty_3, F.FieldOf_33_0, F.IdxOf_108, if_true, hF.gl, hF.gh, hF.sh, hgB0, hsh, hb2, aInts, hwx, hb5, hle, List.length_map, set_ints (show i < xs.length by omega)]
  repeat refine awp_seq ?_
  refine awp_region (by kernel_rfl) ?_
  simp only [push_cast, Int.cast_ofNat_Int, Int.reduceLE, Int.reduceLT, Int.reduceToNat, Int.reduceNeg, Int.reduceSub, iv, bv, Nat.reduceBEq, reduceCtorEq, Nat.reduceAdd, Nat.reduceLeDiff, Nat.reduceSub, Nat.reduceLT, Nat.reduceMul, F.Ty_60, hF.gf, hwi]
  refine callG (callC_func (by kernel_rfl) (ih (L ++ [.cells [iv x, iv x] 33]) _ _ ?_))
  simp only [push_cast, Int.cast_ofNat_Int, Int.reduceLE, Int.reduceLT, Int.reduceToNat, Int.reduceNeg, Int.reduceSub, iv, bv, Nat.reduceBEq, reduceCtorEq, Nat.reduceAdd, Nat.reduceLeDiff, Nat.reduceSub, Nat.reduceLT, Nat.reduceMul]
  repeat refine awp_seq ?_
  refine awp_condS ?_
  simp only [push_cast, Int.cast_ofNat_Int, Int.reduceLE, Int.reduceLT, Int.reduceToNat, Int.reduceNeg, Int.reduceSub, iv, bv, Nat.reduceBEq, reduceCtorEq, Nat.reduceAdd, Nat.reduceLeDiff, Nat.reduceSub, Nat.reduceLT, Nat.reduceMul]
  repeat refine awp_seq ?_
  refine awp_skip ?_
  simp only [push_cast, Int.cast_ofNat_Int, Int.reduceLE, Int.reduceLT, Int.reduceToNat, Int.reduceNeg, Int.reduceSub, iv, bv, Nat.reduceBEq, reduceCtorEq, Nat.reduceAdd, Nat.reduceLeDiff, Nat.reduceSub, Nat.reduceLT, Nat.reduceMul]
  repeat refine awp_seq ?_
  refine awp_region (by kernel_rfl) ?_
  simp only [push_cast, Int.cast_ofNat_Int, Int.reduceLE, Int.reduceLT, Int.reduceToNat, Int.reduceNeg, Int.reduceSub, iv, bv, Nat.reduceBEq, reduceCtorEq, Nat.reduceAdd, Nat.reduceLeDiff, Nat.reduceSub, Nat.reduceLT, Nat.reduceMul, hw2]
  refine hR2 _ ⟨by omega, trivial, ?_⟩
  rw [if_neg (by omega)]
  exact (round_keep (keeps_rfl rfl rfl) (by simp only [push_cast, Int.cast_ofNat_Int, Int.reduceLE, Int.reduceLT, Int.reduceToNat, Int.reduceNeg, Int.reduceSub, iv, bv, Nat.reduceBEq, reduceCtorEq, Nat.reduceAdd, Nat.reduceLeDiff, Nat.reduceSub, Nat.reduceLT, Nat.reduceMul]; simp [exists_wk, Wk.refl]))
 ·have hj1 : j = 1 := by omega
  subst hj1
  rw [if_neg (by omega)]
  repeat refine awp_seq ?_
  refine awp_exit ?_
  simp only [push_cast, Int.cast_ofNat_Int, Int.reduceLE, Int.reduceLT, Int.reduceToNat, Int.reduceNeg, Int.reduceSub, iv, bv, Nat.reduceBEq, reduceCtorEq, Nat.reduceAdd, Nat.reduceLeDiff, Nat.reduceSub, Nat.reduceLT, Nat.reduceMul]
  repeat refine awp_seq ?_
  refine awp_region (by kernel_rfl) ?_
  simp only [push_cast, Int.cast_ofNat_Int, Int.reduceLE, Int.reduceLT, Int.reduceToNat, Int.reduceNeg, Int.reduceSub, iv, bv, Nat.reduceBEq, reduceCtorEq, Nat.reduceAdd, Nat.reduceLeDiff, Nat.reduceSub, Nat.reduceLT, Nat.reduceMul]
  repeat refine awp_seq ?_
  refine awp_ret ?_
  simp only [push_cast, Int.cast_ofNat_Int, Int.reduceLE, Int.reduceLT, Int.reduceToNat, Int.reduceNeg, Int.reduceSub, iv, bv, Nat.reduceBEq, reduceCtorEq, Nat.reduceAdd, Nat.reduceLeDiff, Nat.reduceSub, Nat.reduceLT, Nat.reduceMul]
  refine endOf_cut (H' := Gf true [a, b, 0, 0, 0] ++ L) (G := [.cells [iv x, iv x] 33]) (Wk.refl _) (by simp) (by simp [hF.len]) (hF.hok hH) (.val _) hk
structure OutF (lv : Bool) (n a b : Int) (M R sb rb N : Nat) (yv : AV) (G0 : Bool -> List AObj) : Prop where
 len : ∀ q, (G0 q).length = N
 gs : ∀ q L, (G0 q ++ L)[sb]? = some (.cells [uv 3] 69)
 gb : ∀ q L, (G0 q ++ L)[rb]? = some (.cells [.op R 0] 61)
 gR : ∀ q L, (G0 q ++ L)[R]? = some (.cells (rackL n [a, b] 2 2 M) 77)
 ok : ∀ m q q', (∀ z ∈ G0 q, OLt m z) -> ∀ z ∈ G0 q', OLt m z
 yield : ∀ L k kp, k (bv true) (G0 true ++ L) -> CallC lv Tryd.prog yv (G0 false ++ L) [.agg [iv a, iv b, iv 0, iv 0, iv 0]] k kp
theorem f52_c {sb : Nat} {G0 : Bool -> List AObj} (hO : OutF lv n a b M R sb rb N yv G0) (hsy : yv.sure = true) (hparts : yv.parts = some [yv]) (hleaf : yv.leaf = true) (ha : 0 <= a /\ a <= 6) (hb : 0 <= b /\ b <= 6) (hk : k (.tup []) (G0 true)) : FnC lv Tryd.prog 52 (G0 false) [yv, .op sb 0, .op rb 0] k kp := by
 have hn : ∀ q (L : List AObj) i, (G0 q ++ L)[N + i]? = L[i]? := fun q L i => by have := app_get (G0 q) L i; rwa [hO.len] at this
 have hs : ∀ q (L : List AObj) i x, (G0 q ++ L).set (N + i) x = G0 q ++ L.set i x := fun q L i x => by have := app_set (G0 q) L i x; rwa [hO.len] at this
 have hF : FromF lv n a b M R (N + 2) N (N + 1) rb (N + 3) (N + 4) yv (fun q xs => G0 q ++ [.cells [yv] 127, .cells (xs.map iv) 108, .cells [aInts [0, 1]] 22, .cells [.fn (.func 53) [] [.op (N + 2) 0, .op N 0, .op (N + 1) 0, .op rb 0, .op (N + 3) 0]] 60]) := {
  len := fun q xs => by simp [hO.len]
  gl := fun q xs L => by rw [List.append_assoc, hn]; rfl
  gy := fun q xs L => by rw [List.append_assoc]; exact hn _ _ 0
  gb := fun q xs L => by rw [List.append_assoc]; exact hO.gb _ _
  gR := fun q xs L => by rw [List.append_assoc]; exact hO.gR _ _
  gf := fun q xs L => by rw [List.append_assoc, hn]; rfl
  gh := fun q xs L => by rw [List.append_assoc, hn]; rfl
  sh := fun q xs ys L => by rw [List.append_assoc, hs, List.append_assoc]; rfl
  ok := fun m q xs q' xs' h z hz => by
   rcases List.mem_append.1 hz with hz | hz
   ·exact hO.ok m q q' (fun w hw => h w (List.mem_append_left _ hw)) z hz
   ·simp only [List.mem_cons, List.not_mem_nil, or_false] at hz
    rcases hz with rfl | rfl | rfl | rfl
    ·exact h _ (List.mem_append_right _ (by simp))
    ·intro v hv
     obtain ⟨w, _, rfl⟩ := List.mem_map.1 hv
     exact .val _
    ·exact h _ (List.mem_append_right _ (by simp))
    ·exact h _ (List.mem_append_right _ (by simp))
  yield := fun L k kp hk => by
   rw [List.append_assoc] at hk ⊢
   exact hO.yield _ _ _ hk }
 refine fnC_intro (rs := []) (nt := 12) F.f52 rfl rfl rfl (by simp) fun hH hA => ?_
 simp only [argsT, Nat.reduceAdd]
 have hg0 : ∀ q (L : List AObj), (G0 q ++ L)[N]? = L[0]? := fun q L => hn q L 0
 repeat refine awp_seq ?_
 refine awp_region (by kernel_rfl) ?_
 simp only [push_cast, Int.cast_ofNat_Int, Int.reduceLE, Int.reduceLT, Int.reduceToNat, Int.reduceNeg, Int.reduceSub, iv, bv, Nat.reduceBEq, reduceCtorEq, Nat.reduceAdd, Nat.reduceLeDiff, Nat.reduceSub, Nat.reduceLT, Nat.reduceMul, hparts]
 repeat refine awp_seq ?_
 refine awp_region (by kernel_rfl) ?_
 simp only [push_cast, Int.cast_ofNat_Int, Int.reduceLE, Int.reduceLT, Int.reduceToNat, Int.reduceNeg, Int.reduceSub, iv, bv, Nat.reduceBEq, reduceCtorEq, Nat.reduceAdd, Nat.reduceLeDiff, Nat.reduceSub, Nat.reduceLT, Nat.reduceMul, F.ZeroOf_108, hO.len]
 repeat refine awp_seq ?_
 refine awp_region (by kernel_rfl) ?_
 simp only [push_cast, Int.cast_ofNat_Int, Int.reduceLE, Int.reduceLT, Int.reduceToNat, Int.reduceNeg, Int.reduceSub, iv, bv, Nat.reduceBEq, reduceCtorEq, Nat.reduceAdd, Nat.reduceLeDiff, Nat.reduceSub, Nat.reduceLT, Nat.reduceMul, F.Ty_69, hO.gs]
 refine callG (callC_func (by kernel_rfl) (f26_c (m := 3) (by decide) ?_))
 rw [show bitsTo 3 8 = [0, 1] by decide +kernel]
 have hi : ∀ q (L : List AObj), (G0 q ++ L)[N + 1 + 1]? = L[2]? := fun q L => hn q L 2
 have hi3 : ∀ q (L : List AObj), (G0 q ++ L)[N + 1 + 1 + 1]? = L[3]? := fun q L => hn q L 3
 have hj : ∀ q (L : List AObj) x, (G0 q ++ L).set (N + 1 + 1) x = G0 q ++ L.set 2 x := fun q L x => hs q L 2 x
 have hj3 : ∀ q (L : List AObj) x, (G0 q ++ L).set (N + 1 + 1 + 1) x = G0 q ++ L.set 3 x := fun q L x => hs q L 3 x
 simp only [push_cast, Int.cast_ofNat_Int, Int.reduceLE, Int.reduceLT, Int.reduceToNat, Int.reduceNeg, Int.reduceSub, iv, bv, Nat.reduceBEq, reduceCtorEq, Nat.reduceAdd, Nat.reduceLeDiff, Nat.reduceSub, Nat.reduceLT, Nat.reduceMul, F.ZeroOf_22, F.Ty_22, hO.len, hi, hj, parts_ints]
 repeat refine awp_seq ?_
 refine awp_region (by kernel_rfl) ?_
 simp only [push_cast, Int.cast_ofNat_Int, Int.reduceLE, Int.reduceLT, Int.reduceToNat, Int.reduceNeg, Int.reduceSub, iv, bv, Nat.reduceBEq, reduceCtorEq, Nat.reduceAdd, Nat.reduceLeDiff, Nat.reduceSub, Nat.reduceLT, Nat.reduceMul, F.ZeroOf_60, hO.len]
 repeat refine awp_seq ?_
 refine awp_region (by kernel_rfl) ?_
 simp only [push_cast, Int.cast_ofNat_Int, Int.reduceLE, Int.reduceLT, Int.reduceToNat, Int.reduceNeg, Int.reduceSub, iv, bv, Nat.reduceBEq, reduceCtorEq, Nat.reduceAdd, Nat.reduceLeDiff, Nat.reduceSub, Nat.reduceLT, Nat.reduceMul, F.Ty_60, List.mapM_cons, List.mapM_nil, Option.pure_def, Option.bind_eq_bind, hO.len, hi3, hj3]
 repeat refine awp_seq ?_
 refine awp_region (by kernel_rfl) ?_
 simp only [push_cast, Int.cast_ofNat_Int, Int.reduceLE, Int.reduceLT, Int.reduceToNat, Int.reduceNeg, Int.reduceSub, iv, bv, Nat.reduceBEq, reduceCtorEq, Nat.reduceAdd, Nat.reduceLeDiff, Nat.reduceSub, Nat.reduceLT, Nat.reduceMul, F.Ty_60, hi3]
 have go : ∀ (k kp : AV -> List AObj -> Prop), k (bv true) (G0 true ++ [.cells [yv] 127, .cells [iv a, iv b, iv 0, iv 0, iv 0] 108, .cells [aInts [0, 1]] 22, .cells [.fn (.func 53) [] [.op (N + 2) 0, .op N 0, .op (N + 1) 0, .op rb 0, .op (N + 3) 0]] 60]) -> FnC lv Tryd.prog 53 (G0 false ++ [.cells [yv] 127, .cells [iv 0, iv 0, iv 0, iv 0, iv 0] 108, .cells [aInts [0, 1]] 22, .cells [.fn (.func 53) [] [.op (N + 2) 0, .op N 0, .op (N + 1) 0, .op rb 0, .op (N + 3) 0]] 60]) [iv 0, .op (N + 2) 0, .op N 0, .op (N + 1) 0, .op rb 0, .op (N + 3) 0] k kp := fun k kp hk => by
  have := f53_s (i := 0) (x := a) (xs := [0, 0, 0, 0, 0]) (k := k) (kp := kp) hF (by omega) rfl ha rfl (fun L k kp hk => f53_s (i := 1) (x := b) (xs := [a, 0, 0, 0, 0]) hF (by omega) rfl hb rfl (fun L k kp hk => f53_2 hF L hk) L hk) [] (by rw [List.append_nil]; exact hk)
  rwa [List.append_nil] at this
 refine callG (callC_func (by kernel_rfl) (go _ _ ?_))
 simp only [push_cast, Int.cast_ofNat_Int, Int.reduceLE, Int.reduceLT, Int.reduceToNat, Int.reduceNeg, Int.reduceSub, iv, bv, Nat.reduceBEq, reduceCtorEq, Nat.reduceAdd, Nat.reduceLeDiff, Nat.reduceSub, Nat.reduceLT, Nat.reduceMul]
 refine endOf_cut (H' := G0 true) (Wk.refl _) rfl (by rw [hO.len]; exact Nat.le_refl _) ?_ (by simp [lt_tup]) hk
 intro z hz
 rw [hO.len]
 exact hO.ok _ false _ (fun w hw => by have := hH w hw; rwa [hO.len] at this) z hz
end
theorem F.u69 : Tryd.prog.underlying 69 = some (.int .u8) := by kernel_rfl
theorem set_at (Hs L : List AObj) (i : Nat) (x : AObj) : (Hs ++ L).set (Hs.length + i) x = Hs ++ L.set i x := by rw [List.set_append_right _ _ (by omega)]; congr 2; omega
def laneG (H : List AObj) (l fn R : Nat) (T0 : List (Nat × AV)) (asg body : Code) (v : Int) (q : Bool) : List AObj :=
 H ++ [.cells [uv 3] 69, .cells [iv 0, iv 0] 71, .cells [iv 0, iv 0] 71, .cells [iv (bif q then v else 0), iv (bif q then v else 0)] 71, .cells [bv q] 4, .cells [.op R 0] 61, .cells [uv 3] 69, .obj (.deferred (some [])), .loop l .ready none fn T0 51 #[26] asg body (H.length + 7)]
theorem laneG_len (H : List AObj) (l fn R : Nat) (T0 : List (Nat × AV)) (asg body : Code) (v : Int) (q : Bool) : (laneG H l fn R T0 asg body v q).length = H.length + 9 := by simp [laneG]
theorem laneG_ok {H : List AObj} {l fn R : Nat} {T0 : List (Nat × AV)} {asg body : Code} {v : Int} {m : Nat} {q q' : Bool} (h : ∀ z ∈ laneG H l fn R T0 asg body v q, OLt m z) : ∀ z ∈ laneG H l fn R T0 asg body v q', OLt m z := fun z hz => by
 unfold laneG at h hz
 rcases List.mem_append.1 hz with hz | hz
 ·exact h z (List.mem_append_left _ hz)
 ·simp only [List.mem_cons, List.not_mem_nil, or_false] at hz
  rcases hz with rfl | rfl | rfl | rfl | rfl | rfl | rfl | rfl | rfl
  ·exact h _ (List.mem_append_right _ (by simp))
  ·exact h _ (List.mem_append_right _ (by simp))
  ·exact h _ (List.mem_append_right _ (by simp))
  ·intro v hv
   simp only [List.mem_cons, List.not_mem_nil, or_false] at hv
   rcases hv with rfl | rfl <;> exact .val _
  ·intro v hv
   rw [List.mem_singleton.1 hv]; exact .val _
  ·exact h _ (List.mem_append_right _ (by simp))
  ·exact h _ (List.mem_append_right _ (by simp))
  ·exact h _ (List.mem_append_right _ (by simp))
  ·exact h _ (List.mem_append_right _ (by simp))
theorem laneG_hok {H L : List AObj} {l fn R : Nat} {T0 : List (Nat × AV)} {asg body : Code} {v : Int} {q q' : Bool} (h : HOk (laneG H l fn R T0 asg body v q ++ L)) : HOk (laneG H l fn R T0 asg body v q' ++ L) := fun z hz => by
 have e : (laneG H l fn R T0 asg body v q' ++ L).length = (laneG H l fn R T0 asg body v q ++ L).length := by simp [laneG_len]
 rw [e]
 rcases List.mem_append.1 hz with hz | hz
 ·exact laneG_ok (q := q) (fun w hw => h w (List.mem_append_left _ hw)) z hz
 ·exact h z (List.mem_append_right _ hz)
section
variable {lv : Bool} {n a b : Int} {M R : Nat} {H : List AObj} {k kp : AV -> List AObj -> Prop}
theorem f41_c {R : Nat} (hk : k (.fn (.func 52) [] [.op (H.length + 1) 0, .op H.length 0]) (H ++ [.cells [.op R 0] 61, .cells [uv 3] 69])) : FnC lv Tryd.prog 41 H [.op R 0, uv 3] k kp := by
 refine fnC_intro (rs := [.tmp 4]) (nt := 6) F.f41 rfl rfl rfl (by simp) fun hH hA => ?_
 simp only [argsT, Nat.reduceAdd]
 repeat refine awp_seq ?_
 refine awp_region (by kernel_rfl) ?_
 simp only [push_cast, Int.cast_ofNat_Int, Int.reduceLE, Int.reduceLT, Int.reduceToNat, Int.reduceNeg, Int.reduceSub, iv, bv, Nat.reduceBEq, reduceCtorEq, Nat.reduceAdd, Nat.reduceLeDiff, Nat.reduceSub, Nat.reduceLT, Nat.reduceMul]
 repeat refine awp_seq ?_
 refine awp_region (by kernel_rfl) ?_
 simp only [push_cast, Int.cast_ofNat_Int, Int.reduceLE, Int.reduceLT, Int.reduceToNat, Int.reduceNeg, Int.reduceSub, iv, bv, Nat.reduceBEq, reduceCtorEq, Nat.reduceAdd, Nat.reduceLeDiff, Nat.reduceSub, Nat.reduceLT, Nat.reduceMul, List.mapM_cons, List.mapM_nil, Option.pure_def, Option.bind_eq_bind]
 repeat refine awp_seq ?_
 refine awp_ret ?_
 simp only [push_cast, Int.cast_ofNat_Int, Int.reduceLE, Int.reduceLT, Int.reduceToNat, Int.reduceNeg, Int.reduceSub, iv, bv, Nat.reduceBEq, reduceCtorEq, Nat.reduceAdd, Nat.reduceLeDiff, Nat.reduceSub, Nat.reduceLT, Nat.reduceMul]
 exact endOf_here hk
theorem f24_c (hR : H[R]? = some (.cells (rackL n [a, b] 2 2 M) 77)) (hM : H[M]? = some (.obj (.map #[] 0))) (ha : 0 <= a /\ a <= 6) (hb : 0 <= b /\ b <= 6) (hk : ∀ es ck, k (.agg [iv (ltM a b true), iv (ltM a b true)]) (H.set M (.obj (.map es ck)))) : FnC lv Tryd.prog 24 H [.op R 0, uv 3] k kp := by
 refine fnC_introM (rs := [.cell 4 71]) (nt := 51) F.f24 rfl rfl rfl (by simp) fun hH hA => ?_
 simp only [argsT, Nat.reduceAdd]
 have hRl := get_lt hR
 have hMl := get_lt hM
 have hgR : ∀ L : List AObj, (H ++ L)[R]? = some (.cells (rackL n [a, b] 2 2 M) 77) := fun L => get_app hR
 have hgM : ∀ L : List AObj, (H ++ L)[M]? = some (.obj (.map #[] 0)) := fun L => get_app hM
 refine awpm_seq1 ?_
 refine awp_region (by kernel_rfl) ?_
 simp only [push_cast, Int.cast_ofNat_Int, Int.reduceLE, Int.reduceLT, Int.reduceToNat, Int.reduceNeg, Int.reduceSub, iv, bv, Nat.reduceBEq, reduceCtorEq, Nat.reduceAdd, Nat.reduceLeDiff, Nat.reduceSub, Nat.reduceLT, Nat.reduceMul, F.ZeroOf_71]
 refine awpm_seq1 ?_
 repeat refine awp_seq ?_
 refine awp_drawB [9, 10] [0, 1, 2, 3, 4, 5, 6, 7, 8, 9, 10, 11] [⟨0, false, [], [([9], [9])]⟩, ⟨1, false, [], [([9], [9])]⟩, ⟨2, false, [], [([9], [9])]⟩, ⟨3, false, [], [([9], [9])]⟩, ⟨4, false, [], [([9], [9])]⟩, ⟨5, false, [], [([9], [9])]⟩, ⟨6, false, [], [([9], [9])]⟩, ⟨7, false, [], [([9], [9])]⟩, ⟨8, false, [], [([9], [9]), ([9, 10], [9, 10])]⟩, ⟨9, true, [9], []⟩, ⟨10, true, [9, 10], []⟩, ⟨11, false, [9, 10], []⟩] (fun D => bif isDone 10 D then H ++ [.cells [uv 3] 69, .cells [iv 0, iv 0] 71, .cells [iv 0, iv 0] 71] else bif isDone 9 D then H ++ [.cells [uv 3] 69, .cells [iv 0, iv 0] 71, .cells [iv 0, iv 0] 71] else H ++ [.cells [uv 3] 69, .cells [iv 0, iv 0] 71]) F.mixed (by kernel_rfl) (by kernel_rfl) (by first | rfl | simp only [push_cast, Int.cast_ofNat_Int, Int.reduceLE, Int.reduceLT, Int.reduceToNat, Int.reduceNeg, Int.reduceSub, iv, bv, Nat.reduceBEq, reduceCtorEq, Nat.reduceAdd, Nat.reduceLeDiff, Nat.reduceSub, Nat.reduceLT, Nat.reduceMul]) ?_
 simp only [push_cast, Int.cast_ofNat_Int, Int.reduceLE, Int.reduceLT, Int.reduceToNat, Int.reduceNeg, Int.reduceSub, iv, bv, Nat.reduceBEq, reduceCtorEq, Nat.reduceAdd, Nat.reduceLeDiff, Nat.reduceSub, Nat.reduceLT, Nat.reduceMul, F.FieldOf_77_4, F.Ty_75, F.Ty_69, F.MapOf_75, F.ZeroOf_71, F.Ty_71, hgR, hgM, rackL]
 have hck : ∀ b, Sure Tryd.prog (Instr.checkKey b 10000 69 (.int .u8 3)) () := fun b => sure_keyInt (d := 9999) F.u69
 have hfd : Sure Tryd.prog (Instr.findKey 69 (.int .u8 3) []) none := by
  unfold Instr.findKey
  exact sure_underlying F.u69 (sure_pure _)
 refine ⟨rfl, one1_i rfl ⟨hck _, none, hfd, one1_i rfl ⟨hck _, none, hfd, rfl⟩, ?_⟩⟩
 have of2 : AV.of (Value.agg #[.int .i64 0, .int .i64 0]) = .agg [iv 0, iv 0] := rfl
 simp only [push_cast, Int.cast_ofNat_Int, Int.reduceLE, Int.reduceLT, Int.reduceToNat, Int.reduceNeg, Int.reduceSub, iv, bv, Nat.reduceBEq, reduceCtorEq, Nat.reduceAdd, Nat.reduceLeDiff, Nat.reduceSub, Nat.reduceLT, Nat.reduceMul, of2, found_n]
 refine ⟨rfl, rfl, ?_⟩
 repeat refine awp_seq ?_
 refine awp_region (by kernel_rfl) ?_
 simp only [push_cast, Int.cast_ofNat_Int, Int.reduceLE, Int.reduceLT, Int.reduceToNat, Int.reduceNeg, Int.reduceSub, iv, bv, Nat.reduceBEq, reduceCtorEq, Nat.reduceAdd, Nat.reduceLeDiff, Nat.reduceSub, Nat.reduceLT, Nat.reduceMul]
 repeat refine awp_seq ?_
 refine awp_condS ?_
 simp only [push_cast, Int.cast_ofNat_Int, Int.reduceLE, Int.reduceLT, Int.reduceToNat, Int.reduceNeg, Int.reduceSub, iv, bv, Nat.reduceBEq, reduceCtorEq, Nat.reduceAdd, Nat.reduceLeDiff, Nat.reduceSub, Nat.reduceLT, Nat.reduceMul]
 repeat refine awp_seq ?_
 refine awp_skip ?_
 simp only [push_cast, Int.cast_ofNat_Int, Int.reduceLE, Int.reduceLT, Int.reduceToNat, Int.reduceNeg, Int.reduceSub, iv, bv, Nat.reduceBEq, reduceCtorEq, Nat.reduceAdd, Nat.reduceLeDiff, Nat.reduceSub, Nat.reduceLT, Nat.reduceMul]
 refine awpm_seq1 ?_
 repeat refine awp_seq ?_
 refine awp_region (by kernel_rfl) ?_
 simp only [push_cast, Int.cast_ofNat_Int, Int.reduceLE, Int.reduceLT, Int.reduceToNat, Int.reduceNeg, Int.reduceSub, iv, bv, Nat.reduceBEq, reduceCtorEq, Nat.reduceAdd, Nat.reduceLeDiff, Nat.reduceSub, Nat.reduceLT, Nat.reduceMul, F.BuildOf_71, F.ZeroOf_71, F.ZeroOf_4, F.Ty_71, F.Ty_4]
 refine awpm_seq ?_
 refine awpm_seq1 ?_
 repeat refine awp_seq ?_
 refine awp_region (by kernel_rfl) ?_
 simp only [push_cast, Int.cast_ofNat_Int, Int.reduceLE, Int.reduceLT, Int.reduceToNat, Int.reduceNeg, Int.reduceSub, iv, bv, Nat.reduceBEq, reduceCtorEq, Nat.reduceAdd, Nat.reduceLeDiff, Nat.reduceSub, Nat.reduceLT, Nat.reduceMul, F.Ty_69]
 refine callG (callC_func (by kernel_rfl) ?_); refine f41_c (R := R) ?_
 simp only [push_cast, Int.cast_ofNat_Int, Int.reduceLE, Int.reduceLT, Int.reduceToNat, Int.reduceNeg, Int.reduceSub, iv, bv, Nat.reduceBEq, reduceCtorEq, Nat.reduceAdd, Nat.reduceLeDiff, Nat.reduceSub, Nat.reduceLT, Nat.reduceMul]
 refine awpm_block ?_
 refine awpm_range (by rfl) fun l fn => ?_
 simp only [push_cast, Int.cast_ofNat_Int, Int.reduceLE, Int.reduceLT, Int.reduceToNat, Int.reduceNeg, Int.reduceSub, iv, bv, Nat.reduceBEq, reduceCtorEq, Nat.reduceAdd, Nat.reduceLeDiff, Nat.reduceSub, Nat.reduceLT, Nat.reduceMul]
 have hget : ∀ (L : List AObj) i, (H ++ L)[H.length + i]? = L[i]? := fun L i => get_at H L i
 refine callC_func (by kernel_rfl) (f52_c (n := n) (a := a) (b := b) (M := M) (R := R) (sb := H.length + 6) (rb := H.length + 5) (N := H.length + 9) (G0 := laneG H l fn R _ _ _ (ltM a b true)) (yv := .fn (.yield l) [] []) ?_ rfl rfl rfl ha hb ?_)
 refine ⟨fun q => by simp [laneG], fun q L => ?_, fun q L => ?_, fun q L => ?_, fun m q q' h z hz => ?_, fun L k kp hk => ?_⟩
 ·unfold laneG; rw [List.append_assoc, hget]; rfl
 ·unfold laneG; rw [List.append_assoc, hget]; rfl
 ·unfold laneG; rw [List.append_assoc]; exact hgR _
 ·exact laneG_ok h z hz
 ·unfold laneG at hk ⊢
  have hget : ∀ (L : List AObj) i, (H ++ L)[H.length + i]? = L[i]? := fun L i => get_at H L i
  refine callC_yield (id := H.length + 8) (by rw [List.append_assoc, hget]; rfl) rfl (by kernel_rfl) fun hHk hAk => ?_
  simp only [zipT]
  have hgz : ∀ o0 o1 o2 o3 o4 o5 o6 o7 o8 z : AObj, (H ++ (o0 :: o1 :: o2 :: o3 :: o4 :: o5 :: o6 :: o7 :: o8 :: (L ++ [z])))[H.length + (L.length + 1 + 1 + 1 + 1 + 1 + 1 + 1 + 1 + 1)]? = some z := by intros; rw [get_at]; simp
  have hg0 : ∀ L : List AObj, (H ++ L)[H.length]? = L[0]? := fun L => get_at H L 0
  have hg3 : ∀ L : List AObj, (H ++ L)[H.length + 3]? = L[3]? := fun L => get_at H L 3
  have hg4 : ∀ L : List AObj, (H ++ L)[H.length + 3 + 1]? = L[4]? := fun L => get_at H L 4
  have hs3 : ∀ (L : List AObj) x, (H ++ L).set (H.length + 3) x = H ++ L.set 3 x := fun L x => set_at H L 3 x
  have hs4 : ∀ (L : List AObj) x, (H ++ L).set (H.length + 3 + 1) x = H ++ L.set 4 x := fun L x => set_at H L 4 x
  repeat refine awp_seq ?_
  refine awp_region (by kernel_rfl) ?_
  simp only [push_cast, Int.cast_ofNat_Int, Int.reduceLE, Int.reduceLT, Int.reduceToNat, Int.reduceNeg, Int.reduceSub, iv, bv, Nat.reduceBEq, reduceCtorEq, Nat.reduceAdd, Nat.reduceLeDiff, Nat.reduceSub, Nat.reduceLT, Nat.reduceMul, F.ZeroOf_108, F.Ty_108]
  unfold RoundB
  refine ⟨none, fn, _, 51, #[26], _, _, _, by rw [get_at]; rfl, ?_⟩
  dsimp only
  rw [set_at]
  simp only [List.set_cons_succ, List.set_cons_zero]
  repeat refine awp_seq ?_
  refine awp_block ?_
  repeat refine awp_seq ?_
  refine awp_region (by kernel_rfl) ?_
  simp only [push_cast, Int.cast_ofNat_Int, Int.reduceLE, Int.reduceLT, Int.reduceToNat, Int.reduceNeg, Int.reduceSub, iv, bv, Nat.reduceBEq, reduceCtorEq, Nat.reduceAdd, Nat.reduceLeDiff, Nat.reduceSub, Nat.reduceLT, Nat.reduceMul, F.Ty_69, F.Ty_108, hgz, hg0]
  refine callG (callC_func (by kernel_rfl) (f42_c (a := a) (b := b) ?_))
  generalize ltM a b true = v at hk ⊢
  simp only [push_cast, Int.cast_ofNat_Int, Int.reduceLE, Int.reduceLT, Int.reduceToNat, Int.reduceNeg, Int.reduceSub, iv, bv, Nat.reduceBEq, reduceCtorEq, Nat.reduceAdd, Nat.reduceLeDiff, Nat.reduceSub, Nat.reduceLT, Nat.reduceMul]
  repeat refine awp_seq ?_
  refine awp_region (by kernel_rfl) ?_
  simp only [push_cast, Int.cast_ofNat_Int, Int.reduceLE, Int.reduceLT, Int.reduceToNat, Int.reduceNeg, Int.reduceSub, iv, bv, Nat.reduceBEq, reduceCtorEq, Nat.reduceAdd, Nat.reduceLeDiff, Nat.reduceSub, Nat.reduceLT, Nat.reduceMul, F.Ty_4, hg4]
  repeat refine awp_seq ?_
  refine awp_condS ?_
  simp only [push_cast, Int.cast_ofNat_Int, Int.reduceLE, Int.reduceLT, Int.reduceToNat, Int.reduceNeg, Int.reduceSub, iv, bv, Nat.reduceBEq, reduceCtorEq, Nat.reduceAdd, Nat.reduceLeDiff, Nat.reduceSub, Nat.reduceLT, Nat.reduceMul]
  repeat refine awp_seq ?_
  refine awp_region (by kernel_rfl) ?_
  simp only [push_cast, Int.cast_ofNat_Int, Int.reduceLE, Int.reduceLT, Int.reduceToNat, Int.reduceNeg, Int.reduceSub, iv, bv, Nat.reduceBEq, reduceCtorEq, Nat.reduceAdd, Nat.reduceLeDiff, Nat.reduceSub, Nat.reduceLT, Nat.reduceMul, F.BuildOf_71, F.Ty_71, F.Ty_4, hg3, hg4, hs3, hs4]
  repeat refine awp_seq ?_
  refine awp_region (by kernel_rfl) ?_
  simp only [push_cast, Int.cast_ofNat_Int, Int.reduceLE, Int.reduceLT, Int.reduceToNat, Int.reduceNeg, Int.reduceSub, iv, bv, Nat.reduceBEq, reduceCtorEq, Nat.reduceAdd, Nat.reduceLeDiff, Nat.reduceSub, Nat.reduceLT, Nat.reduceMul, F.FieldOf_71_0, F.FieldOf_71_1, F.Ty_3, F.BuildOf_71, F.Ty_71, hg3, hs3, ite_self]
  unfold RoundE
  refine ⟨_, _, _, _, _, _, _, _, _, _, by rw [get_at]; rfl, ?_⟩
  dsimp only
  rw [set_at]
  simp only [List.set_cons_succ, List.set_cons_zero]
  refine endOf_cut (G := [.cells [iv a, iv b, iv 0, iv 0, iv 0] 108]) (Wk.refl _) ?_ ?_ ?_ (.val _) hk
  ·simp
  ·simp
  ·exact laneG_hok (q := false) hHk
 ·refine ⟨.ready, none, _, _, _, _, _, _, _, by unfold laneG; exact (hget _ 8).trans rfl, by simp, ?_⟩
  unfold laneG
  rw [show H.length + 7 + 1 = H.length + 8 from rfl, set_at]
  simp only [List.set_cons_succ, List.set_cons_zero]
  unfold PendQ
  simp only [push_cast, Int.cast_ofNat_Int, Int.reduceLE, Int.reduceLT, Int.reduceToNat, Int.reduceNeg, Int.reduceSub, iv, bv, Nat.reduceBEq, reduceCtorEq, Nat.reduceAdd, Nat.reduceLeDiff, Nat.reduceSub, Nat.reduceLT, Nat.reduceMul]
  have hg0 : ∀ L : List AObj, (H ++ L)[H.length]? = L[0]? := fun L => get_at H L 0
  have hg1 : ∀ L : List AObj, (H ++ L)[H.length + 1]? = L[1]? := fun L => get_at H L 1
  have hg3 : ∀ L : List AObj, (H ++ L)[H.length + 3]? = L[3]? := fun L => get_at H L 3
  have hs1 : ∀ (L : List AObj) x, (H ++ L).set (H.length + 1) x = H ++ L.set 1 x := fun L x => set_at H L 1 x
  generalize ltM a b true = v at hk ⊢
  refine awpm_seq1 ?_
  repeat refine awp_seq ?_
  refine awp_draw F.mixed 6 (by kernel_rfl) ?_
  simp only [push_cast, Int.cast_ofNat_Int, Int.reduceLE, Int.reduceLT, Int.reduceToNat, Int.reduceNeg, Int.reduceSub, iv, bv, Nat.reduceBEq, reduceCtorEq, Nat.reduceAdd, Nat.reduceLeDiff, Nat.reduceSub, Nat.reduceLT, Nat.reduceMul, F.FieldOf_77_4, F.Ty_75, F.Ty_69, F.Ty_71, F.MapOf_75, hgR, hgM, rackL, hg0, hg3]
  refine one1_i (a := .int .u8 3) rfl (one1_i (a := .agg #[.int .i64 v, .int .i64 v]) rfl ⟨hck false, none, hfd, by simp, ?_⟩)
  rw [List.set_append_left _ _ hMl]
  obtain ⟨H', hH'⟩ : ∃ H', H.set M (.obj (putMap #[] 0 (.int .u8 3) (.agg #[.int .i64 v, .int .i64 v]) none)) = H' := ⟨_, rfl⟩
  have hl' : H'.length = H.length := by rw [<- hH', List.length_set]
  have hok' : HOk H' := fun z hz => by
   rw [hl']
   rw [<- hH'] at hz
   rcases List.mem_or_eq_of_mem_set hz with hz | rfl
   ·exact hH z hz
   ·trivial
  have hkk : k (.agg [iv v, iv v]) H' := by rw [<- hH']; exact hk _ _
  have hG : ∀ (L : List AObj) i, (H' ++ L)[H.length + i]? = L[i]? := fun L i => by rw [<- hl']; exact get_at H' L i
  have hS : ∀ (L : List AObj) i x, (H' ++ L).set (H.length + i) x = H' ++ L.set i x := fun L i x => by rw [<- hl']; exact set_at H' L i x
  have hg1' : ∀ L : List AObj, (H' ++ L)[H.length + 1]? = L[1]? := fun L => hG L 1
  have hg3' : ∀ L : List AObj, (H' ++ L)[H.length + 3]? = L[3]? := fun L => hG L 3
  have hs1' : ∀ (L : List AObj) x, (H' ++ L).set (H.length + 1) x = H' ++ L.set 1 x := fun L x => hS L 1 x
  refine awpm_seq1 ?_
  rw [hH']
  repeat refine awp_seq ?_
  refine awp_region (by kernel_rfl) ?_
  simp only [push_cast, Int.cast_ofNat_Int, Int.reduceLE, Int.reduceLT, Int.reduceToNat, Int.reduceNeg, Int.reduceSub, iv, bv, Nat.reduceBEq, reduceCtorEq, Nat.reduceAdd, Nat.reduceLeDiff, Nat.reduceSub, Nat.reduceLT, Nat.reduceMul, F.Ty_71, hg1', hg3', hs1']
  refine awpm_of (awp_ret ?_)
  simp only [fnEndM_ret]
  rw [goneL_cons (by rw [hG]; rfl), goneL_nil, hS]
  simp only [push_cast, Int.cast_ofNat_Int, Int.reduceLE, Int.reduceLT, Int.reduceToNat, Int.reduceNeg, Int.reduceSub, iv, bv, Nat.reduceBEq, reduceCtorEq, Nat.reduceAdd, Nat.reduceLeDiff, Nat.reduceSub, Nat.reduceLT, Nat.reduceMul, F.Ty_71, hg1']
  refine endOf_cut (H' := H') (Wk.refl _) rfl (by omega) hok' (by simp [lt_agg, lt_val]) hkk
end
section
variable {P : Program}
def EqOne (P : Program) (d : Nat) (t : TypeId) : Prop := (∃ u, P.underlying t = some u /\ aggDesc u = false) /\ ∀ x y : Int, Sure P (Op.equalIn d t (.int .i64 x) (.int .i64 y)) (x == y)
def EqRec (P : Program) (d : Nat) (t : TypeId) (n : Nat) : Prop := (∃ u, P.underlying t = some u /\ aggDesc u = true) /\ (∃ i, P.info? t = some i /\ i.size = n) /\ ∀ xs ys : List Int, xs.length = n -> ys.length = n -> Sure P (Op.equalIn d t (.agg (xs.map (Value.int .i64)).toArray) (.agg (ys.map (Value.int .i64)).toArray)) (xs == ys)
inductive Fields (P : Program) (d : Nat) : Nat -> List Field -> Nat -> Prop
 | nil (o : Nat) : Fields P d o [] o
 | one {o n : Nat} {f : Field} {fs : List Field} (hn : f.name ≠ "_") (ho : f.offset = o) (h : EqOne P d f.type) (t : Fields P d (o + 1) fs n) : Fields P d o (f :: fs) n
 | sub {o m n : Nat} {f : Field} {fs : List Field} (hn : f.name ≠ "_") (ho : f.offset = o) (h : EqRec P d f.type m) (t : Fields P d (o + m) fs n) : Fields P d o (f :: fs) n
theorem Fields.le {d o n : Nat} {fs : List Field} (h : Fields P d o fs n) : o <= n := by
 induction h with
 | nil => exact Nat.le_refl _
 | one _ _ _ _ ih => omega
 | sub _ _ _ _ ih => omega
theorem ext_ints (xs : List Int) (o m : Nat) : (xs.map (Value.int .i64)).toArray.extract o (o + m) = (((xs.drop o).take m).map (Value.int .i64)).toArray := by
 simp [List.extract_eq_take_drop, List.map_take, List.map_drop]
theorem sure_fields {d n N : Nat} {xs ys : List Int} {body : Field -> Option Bool × Unit -> Sem (ForInStep (Option Bool × Unit))} (hx : xs.length = N) (hy : ys.length = N) (hb : ∀ f s, body f s = (if f.name ≠ "_" then (do
   let a <- part f.type (xs.map (Value.int .i64)).toArray f.offset
   let b <- part f.type (ys.map (Value.int .i64)).toArray f.offset
   let r <- Op.equalIn d f.type a b
   if (!r) = true then pure (.done (some false, ())) else pure (.yield (none, ()))) else pure (.yield (none, ())))) :
  ∀ {o : Nat} {fs : List Field}, Fields P d o fs n -> n <= N -> Sure P (forIn fs (none, ()) body) (if (xs.drop o).take (n - o) == (ys.drop o).take (n - o) then (none, ()) else (some false, ())) := by
 intro o fs h hn
 induction h with
 | nil o => simpa using sure_pure (none, ())
 | @one o n f fs hname ho h t ih =>
  have hle := t.le
  have hox : o < xs.length := by omega
  have hoy : o < ys.length := by omega
  obtain ⟨⟨u, hu, hua⟩, he⟩ := h
  rw [List.forIn_cons, hb, if_pos hname, ho]
  refine sure_bind (a := if xs[o] == ys[o] then .yield (none, ()) else .done (some false, ())) ?_ ?_
  ·refine sure_part hu hua (v := .int .i64 xs[o]) (by simp [hox]) ?_
   refine sure_part hu hua (v := .int .i64 ys[o]) (by simp [hoy]) ?_
   refine sure_bind (he _ _) ?_
   cases hq : xs[o] == ys[o] <;> exact sure_pure _
  ·have e : ((xs.drop o).take (n - o) == (ys.drop o).take (n - o)) = ((xs[o] == ys[o]) && ((xs.drop (o + 1)).take (n - (o + 1)) == (ys.drop (o + 1)).take (n - (o + 1)))) := by
    rw [List.drop_eq_getElem_cons hox, List.drop_eq_getElem_cons hoy, show n - o = (n - (o + 1)) + 1 by omega, List.take_succ_cons, List.take_succ_cons]; rfl
   rw [e]
   cases hq : xs[o] == ys[o] with
   | true => simp only [if_true, Bool.true_and]; exact ih hn
   | false => simp only [Bool.false_eq_true, if_false, Bool.false_and]; exact sure_pure _
 | @sub o m n f fs hname ho h t ih =>
  have hle := t.le
  obtain ⟨⟨u, hu, hua⟩, ⟨i, hi, his⟩, he⟩ := h
  rw [List.forIn_cons, hb, if_pos hname, ho]
  refine sure_bind (a := if (xs.drop o).take m == (ys.drop o).take m then .yield (none, ()) else .done (some false, ())) ?_ ?_
  ·refine sure_partAgg hu hua hi ?_
   refine sure_partAgg hu hua hi ?_
   rw [his, ext_ints, ext_ints]
   refine sure_bind (he _ _ (by rw [List.length_take, List.length_drop]; omega) (by rw [List.length_take, List.length_drop]; omega)) ?_
   cases hq : (xs.drop o).take m == (ys.drop o).take m <;> exact sure_pure _
  ·have e : ((xs.drop o).take (n - o) == (ys.drop o).take (n - o)) = (((xs.drop o).take m == (ys.drop o).take m) && ((xs.drop (o + m)).take (n - (o + m)) == (ys.drop (o + m)).take (n - (o + m)))) := by
    have hs : ∀ zs : List Int, (zs.drop o).take (n - o) = (zs.drop o).take m ++ (zs.drop (o + m)).take (n - (o + m)) := fun zs => by
     rw [show n - o = m + (n - (o + m)) by omega, List.take_add, List.drop_drop]
    rw [hs, hs, Bool.eq_iff_iff, Bool.and_eq_true, beq_iff_eq, beq_iff_eq, beq_iff_eq]
    exact ⟨fun h => List.append_inj h (by simp [List.length_take, List.length_drop]; omega), fun h => by rw [h.1, h.2]⟩
   rw [e]
   cases hq : (xs.drop o).take m == (ys.drop o).take m with
   | true => simp only [if_true, Bool.true_and]; exact ih hn
   | false => simp only [Bool.false_eq_true, if_false, Bool.false_and]; exact sure_pure _
theorem eqRec {t : TypeId} {fs : Array Field} {d n : Nat} {i : TypeInfo} (ht : P.underlying t = some (.struct fs)) (hs : P.stoodInHeld t = false) (hi : P.info? t = some i) (his : i.size = n) (hf : Fields P d 0 fs.toList n) : EqRec P (d + 1) t n := by
 refine ⟨⟨_, ht, rfl⟩, ⟨i, hi, his⟩, fun xs ys hx hy => ?_⟩
 rw [Op.equalIn]
 refine sure_underlying ht ?_
 dsimp only
 refine sure_prog ?_
 rw [hs]
 simp only [Bool.false_eq_true, if_false]
 rw [<- Array.forIn_toList]
 refine sure_bind (a := if (xs == ys) then (none, ()) else (some false, ())) ?_ (by cases xs == ys <;> exact sure_pure _)
 have := sure_fields (body := fun f (_ : Option Bool × Unit) => if f.name ≠ "_" then (do
   let a <- part f.type (xs.map (Value.int .i64)).toArray f.offset
   let b <- part f.type (ys.map (Value.int .i64)).toArray f.offset
   let r <- Op.equalIn d f.type a b
   if (!r) = true then pure (ForInStep.done (some false, ())) else pure (ForInStep.yield (none, ()))) else pure (ForInStep.yield (none, ()))) hx hy (fun f s => rfl) hf (Nat.le_refl _)
 simp only [List.drop_zero, Nat.sub_zero] at this
 rw [List.take_of_length_le (by omega), List.take_of_length_le (by omega)] at this
 exact this
theorem eqOne {t : TypeId} {k0 : IntKind} {d : Nat} (ht : P.underlying t = some (.int k0)) : EqOne P (d + 1) t := ⟨⟨_, ht, rfl⟩, fun _ _ => sure_int ht⟩
def flatF (g : TypeId -> Option (Option Nat)) : List Field -> Nat -> Option Nat
 | [], o => some o
 | f :: fs, o => if f.name ≠ "_" /\ f.offset = o then (match g f.type with
  | some none => flatF g fs (o + 1)
  | some (some m) => flatF g fs (o + m)
  | none => none) else none
def flatB (P : Program) : Nat -> TypeId -> Option (Option Nat)
 | 0, _ => none
 | d + 1, t => match P.underlying t with
  | some (.int _) => some none
  | some (.struct fs) => if P.stoodInHeld t then none else (match flatF (flatB P d) fs.toList 0, P.info? t with
   | some n, some i => if i.size = n then some (some n) else none
   | _, _ => none)
  | _ => none
theorem flatF_ok {d n : Nat} {g : TypeId -> Option (Option Nat)} (h1 : ∀ t, g t = some none -> EqOne P d t) (h2 : ∀ t m, g t = some (some m) -> EqRec P d t m) : ∀ (fs : List Field) (o : Nat), flatF g fs o = some n -> Fields P d o fs n
 | [], o, h => by cases h; exact .nil _
 | f :: fs, o, h => by
  rw [flatF] at h
  split at h
  ·rename_i hc
   split at h
   ·rename_i hg; exact .one hc.1 hc.2 (h1 _ hg) (flatF_ok h1 h2 fs _ h)
   ·rename_i m hg; exact .sub hc.1 hc.2 (h2 _ _ hg) (flatF_ok h1 h2 fs _ h)
   ·cases h
  ·cases h
theorem flatB_ok : ∀ (d : Nat) (t : TypeId), (flatB P d t = some none -> EqOne P d t) /\ ∀ n, flatB P d t = some (some n) -> EqRec P d t n
 | 0, t => ⟨fun h => by simp [flatB] at h, fun n h => by simp [flatB] at h⟩
 | d + 1, t => by
  have ih := fun t => flatB_ok d t
  rw [flatB]
  split
  ·rename_i k0 hu
   exact ⟨fun _ => eqOne hu, fun n h => by cases h⟩
  ·rename_i fs hu
   split
   ·exact ⟨fun h => (by cases h), fun n h => by cases h⟩
   ·rename_i hs
    split
    ·rename_i n i hf hi
     split
     ·rename_i his
      refine ⟨fun h => (by cases h), fun m h => ?_⟩
      cases h
      exact eqRec hu (by simpa using hs) hi his (flatF_ok (fun t => (ih t).1) (fun t => (ih t).2) _ _ hf)
     ·exact ⟨fun h => (by cases h), fun n h => by cases h⟩
    ·exact ⟨fun h => (by cases h), fun n h => by cases h⟩
  ·exact ⟨fun h => (by cases h), fun n h => by cases h⟩
theorem abin_rec {t : TypeId} {n : Nat} {xs ys : List Int} (h : flatB P 10000 t = some (some n)) (hg : P.eqGuardType P.depth t = false) (hx : xs.length = n) (hy : ys.length = n) (k : AV -> Prop) : ABin P .eql t (.agg (xs.map iv)) (.agg (ys.map iv)) k = k (bv (xs == ys)) := by
 have hsure : Sure P (Op.equal t (.agg (xs.map (Value.int .i64)).toArray) (.agg (ys.map (Value.int .i64)).toArray)) (xs == ys) := ((flatB_ok 10000 t).2 n h).2.2 xs ys hx hy
 have e : ABin P .eql t (.agg (xs.map iv)) (.agg (ys.map iv)) k = ((BinOp.eql = .eql \/ BinOp.eql = .neq) /\ one1 (AV.raw (.agg (xs.map iv))) fun X => one1 (AV.raw (.agg (ys.map iv))) fun Y => eqKind X Y = true /\ P.eqGuardType P.depth t = false /\ ∃ e, Sure P (Op.equal t X Y) e /\ k (.val (.bool (if BinOp.eql == .neq then !e else e)))) := rfl
 rw [e, raw_ints, raw_ints, one1_some, one1_some]
 apply propext
 constructor
 ·rintro ⟨_, _, _, b, h1, h2⟩
  rw [hsure.uniq h1]; exact h2
 ·intro h
  exact ⟨.inl rfl, rfl, hg, _, hsure, h⟩
end
theorem F.rec71 : flatB Tryd.prog 10000 71 = some (some 2) := by kernel_rfl
theorem F.eqg71 : Tryd.prog.eqGuardType Tryd.prog.depth 71 = false := by kernel_rfl
section
variable {lv : Bool} {H : List AObj} {k kp : AV -> List AObj -> Prop}
theorem f8_c {a b : Int} (ha : 0 <= a /\ a <= 6) (hb : 0 <= b /\ b <= 6) (hk : k (.tup [aInts (if a < b then [] else [0]), iv 0]) H) : FnC lv Tryd.prog 8 H [shelfA 9 [a, b] 2] k kp := by
 have hs : ShOk 9 [a, b] 2 := ⟨by omega, by simp, fun h hh => by simp at hh; rcases hh with rfl | rfl <;> assumption, by simp, by omega⟩
 refine fnC_intro (rs := [.tmp 2, .tmp 3]) (nt := 39) F.f8 rfl rfl rfl (by simp) fun hH hA => ?_
 simp only [argsT, Nat.reduceAdd, shelfA]
 repeat refine awp_seq ?_
 refine awp_region (by kernel_rfl) ?_
 simp only [push_cast, Int.cast_ofNat_Int, Int.reduceLE, Int.reduceLT, Int.reduceToNat, Int.reduceNeg, Int.reduceSub, iv, bv, Nat.reduceBEq, reduceCtorEq, Nat.reduceAdd, Nat.reduceLeDiff, Nat.reduceSub, Nat.reduceLT, Nat.reduceMul, shelfL]
 repeat refine awp_seq ?_
 refine awp_region (by kernel_rfl) ?_
 simp only [push_cast, Int.cast_ofNat_Int, Int.reduceLE, Int.reduceLT, Int.reduceToNat, Int.reduceNeg, Int.reduceSub, iv, bv, Nat.reduceBEq, reduceCtorEq, Nat.reduceAdd, Nat.reduceLeDiff, Nat.reduceSub, Nat.reduceLT, Nat.reduceMul, F.Ty_27]
 refine callG (callC_func (by kernel_rfl) (f23_c (n := 9) (hs := [a, b]) (m := 2) hs ?_))
 simp only [push_cast, Int.cast_ofNat_Int, Int.reduceLE, Int.reduceLT, Int.reduceToNat, Int.reduceNeg, Int.reduceSub, iv, bv, Nat.reduceBEq, reduceCtorEq, Nat.reduceAdd, Nat.reduceLeDiff, Nat.reduceSub, Nat.reduceLT, Nat.reduceMul, List.length_append, List.length_cons, List.length_nil]
 repeat refine awp_seq ?_
 refine awp_region (by kernel_rfl) ?_
 simp only [push_cast, Int.cast_ofNat_Int, Int.reduceLE, Int.reduceLT, Int.reduceToNat, Int.reduceNeg, Int.reduceSub, iv, bv, Nat.reduceBEq, reduceCtorEq, Nat.reduceAdd, Nat.reduceLeDiff, Nat.reduceSub, Nat.reduceLT, Nat.reduceMul]
 repeat refine awp_seq ?_
 refine awp_condS ?_
 simp only [push_cast, Int.cast_ofNat_Int, Int.reduceLE, Int.reduceLT, Int.reduceToNat, Int.reduceNeg, Int.reduceSub, iv, bv, Nat.reduceBEq, reduceCtorEq, Nat.reduceAdd, Nat.reduceLeDiff, Nat.reduceSub, Nat.reduceLT, Nat.reduceMul]
 repeat refine awp_seq ?_
 refine awp_skip ?_
 simp only [push_cast, Int.cast_ofNat_Int, Int.reduceLE, Int.reduceLT, Int.reduceToNat, Int.reduceNeg, Int.reduceSub, iv, bv, Nat.reduceBEq, reduceCtorEq, Nat.reduceAdd, Nat.reduceLeDiff, Nat.reduceSub, Nat.reduceLT, Nat.reduceMul]
 repeat refine awp_seq ?_
 refine awp_region (by kernel_rfl) ?_
 simp only [push_cast, Int.cast_ofNat_Int, Int.reduceLE, Int.reduceLT, Int.reduceToNat, Int.reduceNeg, Int.reduceSub, iv, bv, Nat.reduceBEq, reduceCtorEq, Nat.reduceAdd, Nat.reduceLeDiff, Nat.reduceSub, Nat.reduceLT, Nat.reduceMul]
 have hget : ∀ (L : List AObj) i, (H ++ L)[H.length + i]? = L[i]? := fun L i => get_at H L i
 have hg0 : ∀ L : List AObj, (H ++ L)[H.length]? = L[0]? := fun L => get_at H L 0
 have hg4 : ∀ L : List AObj, (H ++ L)[H.length + 4]? = L[4]? := fun L => get_at H L 4
 repeat refine awp_seq ?_
 refine awp_region (by kernel_rfl) ?_
 simp only [push_cast, Int.cast_ofNat_Int, Int.reduceLE, Int.reduceLT, Int.reduceToNat, Int.reduceNeg, Int.reduceSub, iv, bv, Nat.reduceBEq, reduceCtorEq, Nat.reduceAdd, Nat.reduceLeDiff, Nat.reduceSub, Nat.reduceLT, Nat.reduceMul, F.FieldOf_27_0, F.Ty_22, F.LenOf_22, aInts, List.length_cons, List.length_nil]
 repeat refine awp_seq ?_
 refine awp_block ?_
 refine awp_loopG (measure fun m : Nat × Array MapEntry × Nat => 1 - m.1).wf (fun m => [(6, uv (if m.1 = 0 \/ a < b then 0 else 1)), (19, iv m.1)]) (fun m => H ++ [.cells (shelfL 9 [a, b] 2) 27, .cells (shelfL 9 [a, b] 2) 27, .cells (shelfL 9 [a, b] 2) 27, .obj (.map m.2.1 m.2.2), .cells (rackL 9 [a, b] 2 2 (H.length + 1 + 1 + 1)) 77]) (fun m => m.1 <= 1 /\ (m.1 = 0 -> m.2 = (#[], 0))) (0, #[], 0) (fun _ _ => rfl) (by simp only [push_cast, Int.cast_ofNat_Int, Int.reduceLE, Int.reduceLT, Int.reduceToNat, Int.reduceNeg, Int.reduceSub, iv, bv, Nat.reduceBEq, reduceCtorEq, Nat.reduceAdd, Nat.reduceLeDiff, Nat.reduceSub, Nat.reduceLT, Nat.reduceMul, List.forall_mem_cons, List.not_mem_nil, false_imp_iff, implies_true, List.forall_mem_nil]; simp [exists_wk, Wk.refl]; exact Wk.refl _) rfl (fun _ _ => by simp [beginO, openO]) ⟨by omega, fun _ => rfl⟩ (fun hHs hLt m hok R hR => ?_)
 obtain ⟨i, es, ck⟩ := m
 obtain ⟨hi1, hi0⟩ := hok
 simp only at hi1 hi0
 repeat refine awp_seq ?_
 refine awp_region (by kernel_rfl) ?_
 simp only [push_cast, Int.cast_ofNat_Int, Int.reduceLE, Int.reduceLT, Int.reduceToNat, Int.reduceNeg, Int.reduceSub, iv, bv, Nat.reduceBEq, reduceCtorEq, Nat.reduceAdd, Nat.reduceLeDiff, Nat.reduceSub, Nat.reduceLT, Nat.reduceMul]
 repeat refine awp_seq ?_
 refine awp_condS ?_
 simp only [push_cast, Int.cast_ofNat_Int, Int.reduceLE, Int.reduceLT, Int.reduceToNat, Int.reduceNeg, Int.reduceSub, iv, bv, Nat.reduceBEq, reduceCtorEq, Nat.reduceAdd, Nat.reduceLeDiff, Nat.reduceSub, Nat.reduceLT, Nat.reduceMul]
 refine ⟨fun h => ?_, fun h => ?_⟩
 ·have hi : i = 0 := by omega
  subst hi
  obtain ⟨rfl, rfl⟩ : es = #[] /\ ck = 0 := by have := hi0 rfl; simpa using this
  repeat refine awp_seq ?_
  refine awp_skip ?_
  simp only [push_cast, Int.cast_ofNat_Int, Int.reduceLE, Int.reduceLT, Int.reduceToNat, Int.reduceNeg, Int.reduceSub, iv, bv, Nat.reduceBEq, reduceCtorEq, Nat.reduceAdd, Nat.reduceLeDiff, Nat.reduceSub, Nat.reduceLT, Nat.reduceMul]
  repeat refine awp_seq ?_
  refine awp_block ?_
  repeat refine awp_seq ?_
  refine awp_region (by kernel_rfl) ?_
  simp only [push_cast, Int.cast_ofNat_Int, Int.reduceLE, Int.reduceLT, Int.reduceToNat, Int.reduceNeg, Int.reduceSub, iv, bv, Nat.reduceBEq, reduceCtorEq, Nat.reduceAdd, Nat.reduceLeDiff, Nat.reduceSub, Nat.reduceLT, Nat.reduceMul]
  have hg13 : ∀ L : List AObj, (H ++ L)[H.length + 1 + 3]? = L[4]? := fun L => get_at H L 4
  repeat refine awp_seq ?_
  refine awp_region (by kernel_rfl) ?_
  simp only [push_cast, Int.cast_ofNat_Int, Int.reduceLE, Int.reduceLT, Int.reduceToNat, Int.reduceNeg, Int.reduceSub, iv, bv, Nat.reduceBEq, reduceCtorEq, Nat.reduceAdd, Nat.reduceLeDiff, Nat.reduceSub, Nat.reduceLT, Nat.reduceMul, F.FieldOf_77_2, F.IdxOf_74, F.Ty_69, F.BuildOf_71, hg13, rackL]
  refine callG (callC_func (by kernel_rfl) (f24_c (n := 9) (a := a) (b := b) (M := H.length + 3) (R := H.length + 4) (get_at H _ 4) (get_at H _ 3) ha hb fun es ck => ?_))
  rw [set_at]
  simp only [List.set_cons_succ, List.set_cons_zero]
  have hv : ltM a b true = if a < b then 1 else 0 := by unfold ltM; simp
  generalize ltM a b true = v at hv ⊢
  have heq := abin_rec (xs := [v, v]) (ys := [0, 0]) F.rec71 F.eqg71 rfl rfl
  simp only [List.map_cons, List.map_nil, iv] at heq
  simp only [push_cast, Int.cast_ofNat_Int, Int.reduceLE, Int.reduceLT, Int.reduceToNat, Int.reduceNeg, Int.reduceSub, iv, bv, Nat.reduceBEq, reduceCtorEq, Nat.reduceAdd, Nat.reduceLeDiff, Nat.reduceSub, Nat.reduceLT, Nat.reduceMul, F.BuildOf_71, heq]
  repeat refine awp_seq ?_
  refine awp_condS ?_
  simp only [push_cast, Int.cast_ofNat_Int, Int.reduceLE, Int.reduceLT, Int.reduceToNat, Int.reduceNeg, Int.reduceSub, iv, bv, Nat.reduceBEq, reduceCtorEq, Nat.reduceAdd, Nat.reduceLeDiff, Nat.reduceSub, Nat.reduceLT, Nat.reduceMul]
  refine ⟨fun h2 => ?_, fun h2 => ?_⟩
  ·have hv0 : v = 0 := by simpa using h2
   have hab : ¬ a < b := fun h => by rw [if_pos h] at hv; omega
   repeat refine awp_seq ?_
   refine awp_region (by kernel_rfl) ?_
   simp only [push_cast, Int.cast_ofNat_Int, Int.reduceLE, Int.reduceLT, Int.reduceToNat, Int.reduceNeg, Int.reduceSub, iv, bv, Nat.reduceBEq, reduceCtorEq, Nat.reduceAdd, Nat.reduceLeDiff, Nat.reduceSub, Nat.reduceLT, Nat.reduceMul]
   refine callG (callC_func (by kernel_rfl) (f25_c (m := 0) (n := 0) (by decide) (by decide) ?_))
   simp only [push_cast, Int.cast_ofNat_Int, Int.reduceLE, Int.reduceLT, Int.reduceToNat, Int.reduceNeg, Int.reduceSub, iv, bv, Nat.reduceBEq, reduceCtorEq, Nat.reduceAdd, Nat.reduceLeDiff, Nat.reduceSub, Nat.reduceLT, Nat.reduceMul]
   repeat refine awp_seq ?_
   refine awp_region (by kernel_rfl) ?_
   simp only [push_cast, Int.cast_ofNat_Int, Int.reduceLE, Int.reduceLT, Int.reduceToNat, Int.reduceNeg, Int.reduceSub, iv, bv, Nat.reduceBEq, reduceCtorEq, Nat.reduceAdd, Nat.reduceLeDiff, Nat.reduceSub, Nat.reduceLT, Nat.reduceMul, show IntKind.i64.wrap (0 + 1) = 1 from i64_in _ (by omega), show IntKind.i64.wrap 1 = 1 from i64_in _ (by omega)]
   refine hR _ ⟨(1, es, ck), by show 1 - 1 < 1 - 0; omega, ⟨Nat.le_refl _, fun h => absurd h (by simp)⟩, ?_⟩
   have e : (if (1 : Nat) = 0 \/ a < b then 0 else 1) = 1 := by rw [if_neg (by simp; omega)]
   simp only [e]
   exact (round_keep (keeps_rfl rfl rfl) (by simp only [push_cast, Int.cast_ofNat_Int, Int.reduceLE, Int.reduceLT, Int.reduceToNat, Int.reduceNeg, Int.reduceSub, iv, bv, Nat.reduceBEq, reduceCtorEq, Nat.reduceAdd, Nat.reduceLeDiff, Nat.reduceSub, Nat.reduceLT, Nat.reduceMul]; simp [exists_wk, Wk.refl]))
  ·have hab : a < b := Classical.byContradiction fun hn => by rw [if_neg hn] at hv; simp [hv] at h2
   repeat refine awp_seq ?_
   refine awp_skip ?_
   simp only [push_cast, Int.cast_ofNat_Int, Int.reduceLE, Int.reduceLT, Int.reduceToNat, Int.reduceNeg, Int.reduceSub, iv, bv, Nat.reduceBEq, reduceCtorEq, Nat.reduceAdd, Nat.reduceLeDiff, Nat.reduceSub, Nat.reduceLT, Nat.reduceMul]
   repeat refine awp_seq ?_
   refine awp_region (by kernel_rfl) ?_
   simp only [push_cast, Int.cast_ofNat_Int, Int.reduceLE, Int.reduceLT, Int.reduceToNat, Int.reduceNeg, Int.reduceSub, iv, bv, Nat.reduceBEq, reduceCtorEq, Nat.reduceAdd, Nat.reduceLeDiff, Nat.reduceSub, Nat.reduceLT, Nat.reduceMul, show IntKind.i64.wrap (0 + 1) = 1 from i64_in _ (by omega), show IntKind.i64.wrap 1 = 1 from i64_in _ (by omega)]
   refine hR _ ⟨(1, es, ck), by show 1 - 1 < 1 - 0; omega, ⟨Nat.le_refl _, fun h => absurd h (by simp)⟩, ?_⟩
   have e : (if (1 : Nat) = 0 \/ a < b then 0 else 1) = 0 := by rw [if_pos (.inr hab)]
   simp only [e]
   exact (round_keep (keeps_rfl rfl rfl) (by simp only [push_cast, Int.cast_ofNat_Int, Int.reduceLE, Int.reduceLT, Int.reduceToNat, Int.reduceNeg, Int.reduceSub, iv, bv, Nat.reduceBEq, reduceCtorEq, Nat.reduceAdd, Nat.reduceLeDiff, Nat.reduceSub, Nat.reduceLT, Nat.reduceMul]; simp [exists_wk, Wk.refl]))
 ·have hi : i = 1 := by omega
  subst hi
  repeat refine awp_seq ?_
  refine awp_exit ?_
  simp only [push_cast, Int.cast_ofNat_Int, Int.reduceLE, Int.reduceLT, Int.reduceToNat, Int.reduceNeg, Int.reduceSub, iv, bv, Nat.reduceBEq, reduceCtorEq, Nat.reduceAdd, Nat.reduceLeDiff, Nat.reduceSub, Nat.reduceLT, Nat.reduceMul]
  by_cases hab : a < b
  ·rw [if_pos hab] at hk
   have hu : IntKind.u8.wrap ((BitVec.ofInt IntKind.u8.bits 0 &&& BitVec.ofInt IntKind.u8.bits 7).toNat : Int) = 0 := by decide
   rw [if_pos hab]
   repeat refine awp_seq ?_
   refine awp_region (by kernel_rfl) ?_
   simp only [push_cast, Int.cast_ofNat_Int, Int.reduceLE, Int.reduceLT, Int.reduceToNat, Int.reduceNeg, Int.reduceSub, iv, bv, Nat.reduceBEq, reduceCtorEq, Nat.reduceAdd, Nat.reduceLeDiff, Nat.reduceSub, Nat.reduceLT, Nat.reduceMul, abin_and, hu]
   refine callG (callC_func (by kernel_rfl) (f26_c (m := 0) (by decide) ?_))
   rw [show bitsTo 0 8 = [] by decide +kernel]
   simp only [push_cast, Int.cast_ofNat_Int, Int.reduceLE, Int.reduceLT, Int.reduceToNat, Int.reduceNeg, Int.reduceSub, iv, bv, Nat.reduceBEq, reduceCtorEq, Nat.reduceAdd, Nat.reduceLeDiff, Nat.reduceSub, Nat.reduceLT, Nat.reduceMul]
   repeat refine awp_seq ?_
   refine awp_ret ?_
   simp only [push_cast, Int.cast_ofNat_Int, Int.reduceLE, Int.reduceLT, Int.reduceToNat, Int.reduceNeg, Int.reduceSub, iv, bv, Nat.reduceBEq, reduceCtorEq, Nat.reduceAdd, Nat.reduceLeDiff, Nat.reduceSub, Nat.reduceLT, Nat.reduceMul]
   exact endA hH (Wk.refl _) (by simp [lt_tup, lt_ints, lt_val]) hk
  ·rw [if_neg hab] at hk
   have hu : IntKind.u8.wrap ((BitVec.ofInt IntKind.u8.bits 1 &&& BitVec.ofInt IntKind.u8.bits 7).toNat : Int) = 1 := by decide
   rw [if_neg hab]
   repeat refine awp_seq ?_
   refine awp_region (by kernel_rfl) ?_
   simp only [push_cast, Int.cast_ofNat_Int, Int.reduceLE, Int.reduceLT, Int.reduceToNat, Int.reduceNeg, Int.reduceSub, iv, bv, Nat.reduceBEq, reduceCtorEq, Nat.reduceAdd, Nat.reduceLeDiff, Nat.reduceSub, Nat.reduceLT, Nat.reduceMul, abin_and, hu]
   refine callG (callC_func (by kernel_rfl) (f26_c (m := 1) (by decide) ?_))
   rw [show bitsTo 1 8 = [0] by decide +kernel]
   simp only [push_cast, Int.cast_ofNat_Int, Int.reduceLE, Int.reduceLT, Int.reduceToNat, Int.reduceNeg, Int.reduceSub, iv, bv, Nat.reduceBEq, reduceCtorEq, Nat.reduceAdd, Nat.reduceLeDiff, Nat.reduceSub, Nat.reduceLT, Nat.reduceMul]
   repeat refine awp_seq ?_
   refine awp_ret ?_
   simp only [push_cast, Int.cast_ofNat_Int, Int.reduceLE, Int.reduceLT, Int.reduceToNat, Int.reduceNeg, Int.reduceSub, iv, bv, Nat.reduceBEq, reduceCtorEq, Nat.reduceAdd, Nat.reduceLeDiff, Nat.reduceSub, Nat.reduceLT, Nat.reduceMul]
   exact endA hH (Wk.refl _) (by simp [lt_tup, lt_ints, lt_val]) hk
theorem abin_bools {P : Program} {t : TypeId} {op : BinOp} (hop : op = .eql \/ op = .neq) (ht : P.underlying t = some .bool) (hg : P.eqGuardType P.depth t = false) (x y : Bool) (k : AV -> Prop) : ABin P op t (.val (.bool x)) (.val (.bool y)) k = k (.val (.bool (if op == .neq then !(x == y) else (x == y)))) := by
 have hsure : Sure P (Op.equal t (.bool x) (.bool y)) (x == y) := sure_bool (d := 9999) ht
 have e : ABin P op t (.val (.bool x)) (.val (.bool y)) k = ((op = .eql \/ op = .neq) /\ one1 (AV.raw (.val (.bool x))) fun X => one1 (AV.raw (.val (.bool y))) fun Y => eqKind X Y = true /\ P.eqGuardType P.depth t = false /\ ∃ e, Sure P (Op.equal t X Y) e /\ k (.val (.bool (if op == .neq then !e else e)))) := rfl
 rw [e]
 apply propext
 constructor
 ·rintro ⟨_, _, _, b, h1, h2⟩
  rw [hsure.uniq h1]; exact h2
 ·intro h
  exact ⟨hop, rfl, hg, _, hsure, h⟩
theorem F.u4 : Tryd.prog.underlying 4 = some .bool := by kernel_rfl
theorem F.g4 : Tryd.prog.eqGuardType Tryd.prog.depth 4 = false := by kernel_rfl
theorem B4.eql (x y : Bool) (k : AV -> Prop) : ABin Tryd.prog .eql 4 (.val (.bool x)) (.val (.bool y)) k = k (.val (.bool (x == y))) := abin_bools (.inl rfl) F.u4 F.g4 x y k
theorem B4.neq (x y : Bool) (k : AV -> Prop) : ABin Tryd.prog .neq 4 (.val (.bool x)) (.val (.bool y)) k = k (.val (.bool (x != y))) := abin_bools (.inr rfl) F.u4 F.g4 x y k
attribute [push_cast] B4.eql B4.neq
structure Par.Ok (p : Par) : Prop where
 w : 1 <= p.w /\ p.w <= 12
 b : 0 <= p.b /\ p.b <= 30
theorem hasbit : ∀ (m : Fin 256) (n : Fin 5), (IntKind.u8.wrap ((BitVec.ofInt IntKind.u8.bits (m.1 : Int) &&& BitVec.ofInt IntKind.u8.bits ((2 : Int) ^ n.1)).toNat : Int) != 0) = m.1.testBit n.1 := by decide +kernel
theorem withbit : ∀ (m : Fin 256) (n : Fin 5), IntKind.u8.wrap ((BitVec.ofInt IntKind.u8.bits (m.1 : Int) ||| BitVec.ofInt IntKind.u8.bits ((2 : Int) ^ n.1)).toNat : Int) = ((m.1 ||| 2 ^ n.1 : Nat) : Int) := by decide +kernel
theorem f46_c {n lo hi : Int} (hk : k (bv (decide (lo <= n) && decide (n <= hi))) H) : FnC lv Tryd.prog 46 H [iv n, iv lo, iv hi] k kp := by
 refine fnC_intro (rs := [.tmp 6]) (nt := 15) F.f46 rfl rfl rfl (by simp) fun hH hA => ?_
 simp only [argsT, Nat.reduceAdd]
 repeat refine awp_seq ?_
 refine awp_region (by kernel_rfl) ?_
 simp only [push_cast, Int.cast_ofNat_Int, Int.reduceLE, Int.reduceLT, Int.reduceToNat, Int.reduceNeg, Int.reduceSub, iv, bv, Nat.reduceBEq, reduceCtorEq, Nat.reduceAdd, Nat.reduceLeDiff, Nat.reduceSub, Nat.reduceLT, Nat.reduceMul]
 repeat refine awp_seq ?_
 refine awp_region (by kernel_rfl) ?_
 simp only [push_cast, Int.cast_ofNat_Int, Int.reduceLE, Int.reduceLT, Int.reduceToNat, Int.reduceNeg, Int.reduceSub, iv, bv, Nat.reduceBEq, reduceCtorEq, Nat.reduceAdd, Nat.reduceLeDiff, Nat.reduceSub, Nat.reduceLT, Nat.reduceMul]
 refine guardI (fun h => ?_) (fun h => ?_)
 ·simp only [push_cast, Int.cast_ofNat_Int, Int.reduceLE, Int.reduceLT, Int.reduceToNat, Int.reduceNeg, Int.reduceSub, iv, bv, Nat.reduceBEq, reduceCtorEq, Nat.reduceAdd, Nat.reduceLeDiff, Nat.reduceSub, Nat.reduceLT, Nat.reduceMul]
  repeat refine awp_seq ?_
  refine awp_ret ?_
  simp only [push_cast, Int.cast_ofNat_Int, Int.reduceLE, Int.reduceLT, Int.reduceToNat, Int.reduceNeg, Int.reduceSub, iv, bv, Nat.reduceBEq, reduceCtorEq, Nat.reduceAdd, Nat.reduceLeDiff, Nat.reduceSub, Nat.reduceLT, Nat.reduceMul]
  refine endOf_here ?_
  simpa [h] using hk
 ·simp only [push_cast, Int.cast_ofNat_Int, Int.reduceLE, Int.reduceLT, Int.reduceToNat, Int.reduceNeg, Int.reduceSub, iv, bv, Nat.reduceBEq, reduceCtorEq, Nat.reduceAdd, Nat.reduceLeDiff, Nat.reduceSub, Nat.reduceLT, Nat.reduceMul]
  repeat refine awp_seq ?_
  refine awp_ret ?_
  simp only [push_cast, Int.cast_ofNat_Int, Int.reduceLE, Int.reduceLT, Int.reduceToNat, Int.reduceNeg, Int.reduceSub, iv, bv, Nat.reduceBEq, reduceCtorEq, Nat.reduceAdd, Nat.reduceLeDiff, Nat.reduceSub, Nat.reduceLT, Nat.reduceMul]
  refine endOf_here ?_
  simpa [h] using hk
theorem f46_t {n lo hi : Int} (h : lo <= n /\ n <= hi) (hk : k (bv true) H) : FnC lv Tryd.prog 46 H [iv n, iv lo, iv hi] k kp := f46_c (by rw [show (decide (lo <= n) && decide (n <= hi)) = true by simp; omega]; exact hk)
theorem f45_c {p : Par} (hp : p.Ok) (hk : k (iv 0) H) : FnC lv Tryd.prog 45 H [.agg p.l] k kp := by
 obtain ⟨hw, hb⟩ := hp
 refine fnC_intro (rs := [.tmp 2]) (nt := 32) F.f45 rfl rfl rfl (by simp) fun hH hA => ?_
 simp only [argsT, Nat.reduceAdd, Par.l]
 repeat refine awp_seq ?_
 refine awp_region (by kernel_rfl) ?_
 simp only [push_cast, Int.cast_ofNat_Int, Int.reduceLE, Int.reduceLT, Int.reduceToNat, Int.reduceNeg, Int.reduceSub, iv, bv, Nat.reduceBEq, reduceCtorEq, Nat.reduceAdd, Nat.reduceLeDiff, Nat.reduceSub, Nat.reduceLT, Nat.reduceMul]
 repeat refine awp_seq ?_
 refine awp_region (by kernel_rfl) ?_
 simp only [push_cast, Int.cast_ofNat_Int, Int.reduceLE, Int.reduceLT, Int.reduceToNat, Int.reduceNeg, Int.reduceSub, iv, bv, Nat.reduceBEq, reduceCtorEq, Nat.reduceAdd, Nat.reduceLeDiff, Nat.reduceSub, Nat.reduceLT, Nat.reduceMul, F.FieldOf_37_0, F.FieldOf_33_0, F.Ty_3]
 refine callG (callC_func (by kernel_rfl) (f46_t hw ?_))
 simp only [push_cast, Int.cast_ofNat_Int, Int.reduceLE, Int.reduceLT, Int.reduceToNat, Int.reduceNeg, Int.reduceSub, iv, bv, Nat.reduceBEq, reduceCtorEq, Nat.reduceAdd, Nat.reduceLeDiff, Nat.reduceSub, Nat.reduceLT, Nat.reduceMul, F.FieldOf_37_0, F.FieldOf_33_1, F.Ty_3]
 refine callG (callC_func (by kernel_rfl) (f46_t hw ?_))
 simp only [push_cast, Int.cast_ofNat_Int, Int.reduceLE, Int.reduceLT, Int.reduceToNat, Int.reduceNeg, Int.reduceSub, iv, bv, Nat.reduceBEq, reduceCtorEq, Nat.reduceAdd, Nat.reduceLeDiff, Nat.reduceSub, Nat.reduceLT, Nat.reduceMul]
 repeat refine awp_seq ?_
 refine awp_condS ?_
 simp only [push_cast, Int.cast_ofNat_Int, Int.reduceLE, Int.reduceLT, Int.reduceToNat, Int.reduceNeg, Int.reduceSub, iv, bv, Nat.reduceBEq, reduceCtorEq, Nat.reduceAdd, Nat.reduceLeDiff, Nat.reduceSub, Nat.reduceLT, Nat.reduceMul]
 repeat refine awp_seq ?_
 refine awp_skip ?_
 simp only [push_cast, Int.cast_ofNat_Int, Int.reduceLE, Int.reduceLT, Int.reduceToNat, Int.reduceNeg, Int.reduceSub, iv, bv, Nat.reduceBEq, reduceCtorEq, Nat.reduceAdd, Nat.reduceLeDiff, Nat.reduceSub, Nat.reduceLT, Nat.reduceMul]
 repeat refine awp_seq ?_
 refine awp_region (by kernel_rfl) ?_
 simp only [push_cast, Int.cast_ofNat_Int, Int.reduceLE, Int.reduceLT, Int.reduceToNat, Int.reduceNeg, Int.reduceSub, iv, bv, Nat.reduceBEq, reduceCtorEq, Nat.reduceAdd, Nat.reduceLeDiff, Nat.reduceSub, Nat.reduceLT, Nat.reduceMul, F.FieldOf_37_0, F.FieldOf_33_0, F.FieldOf_33_1, F.Ty_3]
 repeat refine awp_seq ?_
 refine awp_condS ?_
 simp only [push_cast, Int.cast_ofNat_Int, Int.reduceLE, Int.reduceLT, Int.reduceToNat, Int.reduceNeg, Int.reduceSub, iv, bv, Nat.reduceBEq, reduceCtorEq, Nat.reduceAdd, Nat.reduceLeDiff, Nat.reduceSub, Nat.reduceLT, Nat.reduceMul]
 refine ⟨fun h => absurd h (by simp), fun h => ?_⟩
 repeat refine awp_seq ?_
 refine awp_skip ?_
 simp only [push_cast, Int.cast_ofNat_Int, Int.reduceLE, Int.reduceLT, Int.reduceToNat, Int.reduceNeg, Int.reduceSub, iv, bv, Nat.reduceBEq, reduceCtorEq, Nat.reduceAdd, Nat.reduceLeDiff, Nat.reduceSub, Nat.reduceLT, Nat.reduceMul]
 repeat refine awp_seq ?_
 refine awp_region (by kernel_rfl) ?_
 simp only [push_cast, Int.cast_ofNat_Int, Int.reduceLE, Int.reduceLT, Int.reduceToNat, Int.reduceNeg, Int.reduceSub, iv, bv, Nat.reduceBEq, reduceCtorEq, Nat.reduceAdd, Nat.reduceLeDiff, Nat.reduceSub, Nat.reduceLT, Nat.reduceMul, F.FieldOf_37_1, F.Ty_3]
 refine callG (callC_func (by kernel_rfl) (f46_t hb ?_))
 simp only [push_cast, Int.cast_ofNat_Int, Int.reduceLE, Int.reduceLT, Int.reduceToNat, Int.reduceNeg, Int.reduceSub, iv, bv, Nat.reduceBEq, reduceCtorEq, Nat.reduceAdd, Nat.reduceLeDiff, Nat.reduceSub, Nat.reduceLT, Nat.reduceMul, F.FieldOf_37_2, F.Ty_3]
 refine callG (callC_func (by kernel_rfl) (f46_t (by omega) ?_))
 simp only [push_cast, Int.cast_ofNat_Int, Int.reduceLE, Int.reduceLT, Int.reduceToNat, Int.reduceNeg, Int.reduceSub, iv, bv, Nat.reduceBEq, reduceCtorEq, Nat.reduceAdd, Nat.reduceLeDiff, Nat.reduceSub, Nat.reduceLT, Nat.reduceMul]
 repeat refine awp_seq ?_
 refine awp_condS ?_
 simp only [push_cast, Int.cast_ofNat_Int, Int.reduceLE, Int.reduceLT, Int.reduceToNat, Int.reduceNeg, Int.reduceSub, iv, bv, Nat.reduceBEq, reduceCtorEq, Nat.reduceAdd, Nat.reduceLeDiff, Nat.reduceSub, Nat.reduceLT, Nat.reduceMul]
 repeat refine awp_seq ?_
 refine awp_skip ?_
 simp only [push_cast, Int.cast_ofNat_Int, Int.reduceLE, Int.reduceLT, Int.reduceToNat, Int.reduceNeg, Int.reduceSub, iv, bv, Nat.reduceBEq, reduceCtorEq, Nat.reduceAdd, Nat.reduceLeDiff, Nat.reduceSub, Nat.reduceLT, Nat.reduceMul]
 repeat refine awp_seq ?_
 refine awp_region (by kernel_rfl) ?_
 simp only [push_cast, Int.cast_ofNat_Int, Int.reduceLE, Int.reduceLT, Int.reduceToNat, Int.reduceNeg, Int.reduceSub, iv, bv, Nat.reduceBEq, reduceCtorEq, Nat.reduceAdd, Nat.reduceLeDiff, Nat.reduceSub, Nat.reduceLT, Nat.reduceMul]
 repeat refine awp_seq ?_
 refine awp_ret ?_
 simp only [push_cast, Int.cast_ofNat_Int, Int.reduceLE, Int.reduceLT, Int.reduceToNat, Int.reduceNeg, Int.reduceSub, iv, bv, Nat.reduceBEq, reduceCtorEq, Nat.reduceAdd, Nat.reduceLeDiff, Nat.reduceSub, Nat.reduceLT, Nat.reduceMul]
 exact endA hH (Wk.refl _) (by simp [lt_val]) hk
theorem f32_c {ps : List Par} (hl : ps.length <= 5) (hp : ∀ p ∈ ps, p.Ok) (hk : k (iv 0) H) : FnC lv Tryd.prog 32 H [yardA ps] k kp := by
 refine fnC_intro (rs := [.tmp 2]) (nt := 27) F.f32 rfl rfl rfl (by simp) fun hH hA => ?_
 simp only [argsT, Nat.reduceAdd, yardA, yardL]
 repeat refine awp_seq ?_
 refine awp_region (by kernel_rfl) ?_
 simp only [push_cast, Int.cast_ofNat_Int, Int.reduceLE, Int.reduceLT, Int.reduceToNat, Int.reduceNeg, Int.reduceSub, iv, bv, Nat.reduceBEq, reduceCtorEq, Nat.reduceAdd, Nat.reduceLeDiff, Nat.reduceSub, Nat.reduceLT, Nat.reduceMul]
 repeat refine awp_seq ?_
 refine awp_region (by kernel_rfl) ?_
 simp only [push_cast, Int.cast_ofNat_Int, Int.reduceLE, Int.reduceLT, Int.reduceToNat, Int.reduceNeg, Int.reduceSub, iv, bv, Nat.reduceBEq, reduceCtorEq, Nat.reduceAdd, Nat.reduceLeDiff, Nat.reduceSub, Nat.reduceLT, Nat.reduceMul, F.FieldOf_30_0, F.Ty_28, F.LenOf_28, aPars]
 repeat refine awp_seq ?_
 refine awp_condS ?_
 simp only [push_cast, Int.cast_ofNat_Int, Int.reduceLE, Int.reduceLT, Int.reduceToNat, Int.reduceNeg, Int.reduceSub, iv, bv, Nat.reduceBEq, reduceCtorEq, Nat.reduceAdd, Nat.reduceLeDiff, Nat.reduceSub, Nat.reduceLT, Nat.reduceMul]
 refine ⟨fun h => absurd h (by omega), fun h => ?_⟩
 repeat refine awp_seq ?_
 refine awp_skip ?_
 simp only [push_cast, Int.cast_ofNat_Int, Int.reduceLE, Int.reduceLT, Int.reduceToNat, Int.reduceNeg, Int.reduceSub, iv, bv, Nat.reduceBEq, reduceCtorEq, Nat.reduceAdd, Nat.reduceLeDiff, Nat.reduceSub, Nat.reduceLT, Nat.reduceMul]
 repeat refine awp_seq ?_
 refine awp_region (by kernel_rfl) ?_
 simp only [push_cast, Int.cast_ofNat_Int, Int.reduceLE, Int.reduceLT, Int.reduceToNat, Int.reduceNeg, Int.reduceSub, iv, bv, Nat.reduceBEq, reduceCtorEq, Nat.reduceAdd, Nat.reduceLeDiff, Nat.reduceSub, Nat.reduceLT, Nat.reduceMul, F.FieldOf_30_0, F.Ty_28, F.LenOf_28]
 repeat refine awp_seq ?_
 refine awp_block ?_
 refine awp_for ps.length (fun i : Nat => [(13, iv i)]) (fun _ => H ++ [.cells [.sl ps.length (ps.flatMap Par.l) .shut, iv 2] 30]) (fun i => True) (fun _ _ => rfl) (by simp only [push_cast, Int.cast_ofNat_Int, Int.reduceLE, Int.reduceLT, Int.reduceToNat, Int.reduceNeg, Int.reduceSub, iv, bv, Nat.reduceBEq, reduceCtorEq, Nat.reduceAdd, Nat.reduceLeDiff, Nat.reduceSub, Nat.reduceLT, Nat.reduceMul, List.forall_mem_cons, List.not_mem_nil, false_imp_iff, implies_true, List.forall_mem_nil]; simp [exists_wk, Wk.refl]) rfl (fun _ _ _ => rfl) trivial (fun hHs hLt i hin hi R hR => ?_)
 repeat refine awp_seq ?_
 refine awp_region (by kernel_rfl) ?_
 simp only [push_cast, Int.cast_ofNat_Int, Int.reduceLE, Int.reduceLT, Int.reduceToNat, Int.reduceNeg, Int.reduceSub, iv, bv, Nat.reduceBEq, reduceCtorEq, Nat.reduceAdd, Nat.reduceLeDiff, Nat.reduceSub, Nat.reduceLT, Nat.reduceMul]
 repeat refine awp_seq ?_
 refine awp_condS ?_
 simp only [push_cast, Int.cast_ofNat_Int, Int.reduceLE, Int.reduceLT, Int.reduceToNat, Int.reduceNeg, Int.reduceSub, iv, bv, Nat.reduceBEq, reduceCtorEq, Nat.reduceAdd, Nat.reduceLeDiff, Nat.reduceSub, Nat.reduceLT, Nat.reduceMul]
 refine ⟨fun h => ?_, fun h => ?_⟩
 ·
  have hlt : i < ps.length := by omega
  obtain ⟨x, hx⟩ := lt_get hlt
  have hi1 : IntKind.i64.wrap ((i : Int) + 1) = ((i + 1 : Nat) : Int) := by rw [i64_in _ (by omega)]; rfl
  repeat refine awp_seq ?_
  refine awp_skip ?_
  simp only [push_cast, Int.cast_ofNat_Int, Int.reduceLE, Int.reduceLT, Int.reduceToNat, Int.reduceNeg, Int.reduceSub, iv, bv, Nat.reduceBEq, reduceCtorEq, Nat.reduceAdd, Nat.reduceLeDiff, Nat.reduceSub, Nat.reduceLT, Nat.reduceMul]
  repeat refine awp_seq ?_
  refine awp_block ?_
  repeat refine awp_seq ?_
  refine awp_region (by kernel_rfl) ?_
  simp only [push_cast, Int.cast_ofNat_Int, Int.reduceLE, Int.reduceLT, Int.reduceToNat, Int.reduceNeg, Int.reduceSub, iv, bv, Nat.reduceBEq, reduceCtorEq, Nat.reduceAdd, Nat.reduceLeDiff, Nat.reduceSub, Nat.reduceLT, Nat.reduceMul, F.IdxOf_28, F.Ty_37, F.ZeroOf_37, sh_pars hx, bnd_nat hlt]
  repeat refine awp_seq ?_
  refine awp_region (by kernel_rfl) ?_
  simp only [push_cast, Int.cast_ofNat_Int, Int.reduceLE, Int.reduceLT, Int.reduceToNat, Int.reduceNeg, Int.reduceSub, iv, bv, Nat.reduceBEq, reduceCtorEq, Nat.reduceAdd, Nat.reduceLeDiff, Nat.reduceSub, Nat.reduceLT, Nat.reduceMul, F.Ty_37]
  refine callG (callC_func (by kernel_rfl) (f45_c (p := x) (hp x (mem_of_get hx)) ?_))
  simp only [push_cast, Int.cast_ofNat_Int, Int.reduceLE, Int.reduceLT, Int.reduceToNat, Int.reduceNeg, Int.reduceSub, iv, bv, Nat.reduceBEq, reduceCtorEq, Nat.reduceAdd, Nat.reduceLeDiff, Nat.reduceSub, Nat.reduceLT, Nat.reduceMul]
  repeat refine awp_seq ?_
  refine awp_region (by kernel_rfl) ?_
  simp only [push_cast, Int.cast_ofNat_Int, Int.reduceLE, Int.reduceLT, Int.reduceToNat, Int.reduceNeg, Int.reduceSub, iv, bv, Nat.reduceBEq, reduceCtorEq, Nat.reduceAdd, Nat.reduceLeDiff, Nat.reduceSub, Nat.reduceLT, Nat.reduceMul]
  repeat refine awp_seq ?_
  refine awp_condS ?_
  simp only [push_cast, Int.cast_ofNat_Int, Int.reduceLE, Int.reduceLT, Int.reduceToNat, Int.reduceNeg, Int.reduceSub, iv, bv, Nat.reduceBEq, reduceCtorEq, Nat.reduceAdd, Nat.reduceLeDiff, Nat.reduceSub, Nat.reduceLT, Nat.reduceMul]
  repeat refine awp_seq ?_
  refine awp_skip ?_
  simp only [push_cast, Int.cast_ofNat_Int, Int.reduceLE, Int.reduceLT, Int.reduceToNat, Int.reduceNeg, Int.reduceSub, iv, bv, Nat.reduceBEq, reduceCtorEq, Nat.reduceAdd, Nat.reduceLeDiff, Nat.reduceSub, Nat.reduceLT, Nat.reduceMul]
  repeat refine awp_seq ?_
  refine awp_region (by kernel_rfl) ?_
  simp only [push_cast, Int.cast_ofNat_Int, Int.reduceLE, Int.reduceLT, Int.reduceToNat, Int.reduceNeg, Int.reduceSub, iv, bv, Nat.reduceBEq, reduceCtorEq, Nat.reduceAdd, Nat.reduceLeDiff, Nat.reduceSub, Nat.reduceLT, Nat.reduceMul, hi1]
  refine hR _ ⟨hlt, trivial, ?_⟩
  exact (by first | exact round_trim1 (keeps_rfl rfl rfl) (by simp only [push_cast, Int.cast_ofNat_Int, Int.reduceLE, Int.reduceLT, Int.reduceToNat, Int.reduceNeg, Int.reduceSub, iv, bv, Nat.reduceBEq, reduceCtorEq, Nat.reduceAdd, Nat.reduceLeDiff, Nat.reduceSub, Nat.reduceLT, Nat.reduceMul]; simp [exists_wk, Wk.refl]) hHs (by simp [lt_val]) | exact round_trim2 (keeps_rfl rfl rfl) (by simp only [push_cast, Int.cast_ofNat_Int, Int.reduceLE, Int.reduceLT, Int.reduceToNat, Int.reduceNeg, Int.reduceSub, iv, bv, Nat.reduceBEq, reduceCtorEq, Nat.reduceAdd, Nat.reduceLeDiff, Nat.reduceSub, Nat.reduceLT, Nat.reduceMul]; simp [exists_wk, Wk.refl]) hHs (by simp [lt_val]))
 ·
  repeat refine awp_seq ?_
  refine awp_exit ?_
  simp only [push_cast, Int.cast_ofNat_Int, Int.reduceLE, Int.reduceLT, Int.reduceToNat, Int.reduceNeg, Int.reduceSub, iv, bv, Nat.reduceBEq, reduceCtorEq, Nat.reduceAdd, Nat.reduceLeDiff, Nat.reduceSub, Nat.reduceLT, Nat.reduceMul]
  repeat refine awp_seq ?_
  refine awp_region (by kernel_rfl) ?_
  simp only [push_cast, Int.cast_ofNat_Int, Int.reduceLE, Int.reduceLT, Int.reduceToNat, Int.reduceNeg, Int.reduceSub, iv, bv, Nat.reduceBEq, reduceCtorEq, Nat.reduceAdd, Nat.reduceLeDiff, Nat.reduceSub, Nat.reduceLT, Nat.reduceMul, F.FieldOf_30_1, F.Ty_3]
  refine callG (callC_func (by kernel_rfl) (f46_t (by omega) ?_))
  simp only [push_cast, Int.cast_ofNat_Int, Int.reduceLE, Int.reduceLT, Int.reduceToNat, Int.reduceNeg, Int.reduceSub, iv, bv, Nat.reduceBEq, reduceCtorEq, Nat.reduceAdd, Nat.reduceLeDiff, Nat.reduceSub, Nat.reduceLT, Nat.reduceMul]
  repeat refine awp_seq ?_
  refine awp_condS ?_
  simp only [push_cast, Int.cast_ofNat_Int, Int.reduceLE, Int.reduceLT, Int.reduceToNat, Int.reduceNeg, Int.reduceSub, iv, bv, Nat.reduceBEq, reduceCtorEq, Nat.reduceAdd, Nat.reduceLeDiff, Nat.reduceSub, Nat.reduceLT, Nat.reduceMul]
  repeat refine awp_seq ?_
  refine awp_skip ?_
  simp only [push_cast, Int.cast_ofNat_Int, Int.reduceLE, Int.reduceLT, Int.reduceToNat, Int.reduceNeg, Int.reduceSub, iv, bv, Nat.reduceBEq, reduceCtorEq, Nat.reduceAdd, Nat.reduceLeDiff, Nat.reduceSub, Nat.reduceLT, Nat.reduceMul]
  repeat refine awp_seq ?_
  refine awp_region (by kernel_rfl) ?_
  simp only [push_cast, Int.cast_ofNat_Int, Int.reduceLE, Int.reduceLT, Int.reduceToNat, Int.reduceNeg, Int.reduceSub, iv, bv, Nat.reduceBEq, reduceCtorEq, Nat.reduceAdd, Nat.reduceLeDiff, Nat.reduceSub, Nat.reduceLT, Nat.reduceMul]
  repeat refine awp_seq ?_
  refine awp_ret ?_
  simp only [push_cast, Int.cast_ofNat_Int, Int.reduceLE, Int.reduceLT, Int.reduceToNat, Int.reduceNeg, Int.reduceSub, iv, bv, Nat.reduceBEq, reduceCtorEq, Nat.reduceAdd, Nat.reduceLeDiff, Nat.reduceSub, Nat.reduceLT, Nat.reduceMul]
  exact endA hH (Wk.refl _) (by simp [lt_val]) hk
theorem f35_c {n : Nat} (hn : n < 5) (hk : k (uv (2 ^ n)) H) : FnC lv Tryd.prog 35 H [iv n] k kp := by
 refine fnC_intro (rs := [.tmp 2]) (nt := 6) F.f35 rfl rfl rfl (by simp) fun hH hA => ?_
 simp only [argsT, Nat.reduceAdd]
 repeat refine awp_seq ?_
 refine awp_region (by kernel_rfl) ?_
 simp only [push_cast, Int.cast_ofNat_Int, Int.reduceLE, Int.reduceLT, Int.reduceToNat, Int.reduceNeg, Int.reduceSub, iv, bv, Nat.reduceBEq, reduceCtorEq, Nat.reduceAdd, Nat.reduceLeDiff, Nat.reduceSub, Nat.reduceLT, Nat.reduceMul]
 repeat refine awp_seq ?_
 refine awp_region (by kernel_rfl) ?_
 simp only [push_cast, Int.cast_ofNat_Int, Int.reduceLE, Int.reduceLT, Int.reduceToNat, Int.reduceNeg, Int.reduceSub, iv, bv, Nat.reduceBEq, reduceCtorEq, Nat.reduceAdd, Nat.reduceLeDiff, Nat.reduceSub, Nat.reduceLT, Nat.reduceMul, F.BuildOf_122, F.ElemOf_122]
 refine ⟨by omega, ?_⟩
 have hcut : AV.cut [.val (.int .u8 1), .val (.int .u8 2), .val (.int .u8 4), .val (.int .u8 8), .val (.int .u8 16)] n 1 false = some (uv (2 ^ n)) := by
  match n, hn with
  | 0, _ => rfl
  | 1, _ => rfl
  | 2, _ => rfl
  | 3, _ => rfl
  | 4, _ => rfl
 rw [hcut, one1_some]
 repeat refine awp_seq ?_
 refine awp_ret ?_
 simp only [push_cast, Int.cast_ofNat_Int, Int.reduceLE, Int.reduceLT, Int.reduceToNat, Int.reduceNeg, Int.reduceSub, iv, bv, Nat.reduceBEq, reduceCtorEq, Nat.reduceAdd, Nat.reduceLeDiff, Nat.reduceSub, Nat.reduceLT, Nat.reduceMul]
 exact endOf_here hk
theorem f18_c {m n : Nat} (hm : m < 256) (hn : n < 5) (hk : k (bv (m.testBit n)) H) : FnC lv Tryd.prog 18 H [uv m, iv n] k kp := by
 refine fnC_intro (rs := [.tmp 4]) (nt := 10) F.f18 rfl rfl rfl (by simp) fun hH hA => ?_
 simp only [argsT, Nat.reduceAdd]
 repeat refine awp_seq ?_
 refine awp_region (by kernel_rfl) ?_
 simp only [push_cast, Int.cast_ofNat_Int, Int.reduceLE, Int.reduceLT, Int.reduceToNat, Int.reduceNeg, Int.reduceSub, iv, bv, Nat.reduceBEq, reduceCtorEq, Nat.reduceAdd, Nat.reduceLeDiff, Nat.reduceSub, Nat.reduceLT, Nat.reduceMul]
 repeat refine awp_seq ?_
 refine awp_region (by kernel_rfl) ?_
 simp only [push_cast, Int.cast_ofNat_Int, Int.reduceLE, Int.reduceLT, Int.reduceToNat, Int.reduceNeg, Int.reduceSub, iv, bv, Nat.reduceBEq, reduceCtorEq, Nat.reduceAdd, Nat.reduceLeDiff, Nat.reduceSub, Nat.reduceLT, Nat.reduceMul]
 refine callG (callC_func (by kernel_rfl) (f35_c hn ?_))
 simp only [push_cast, Int.cast_ofNat_Int, Int.reduceLE, Int.reduceLT, Int.reduceToNat, Int.reduceNeg, Int.reduceSub, iv, bv, Nat.reduceBEq, reduceCtorEq, Nat.reduceAdd, Nat.reduceLeDiff, Nat.reduceSub, Nat.reduceLT, Nat.reduceMul, abin_and]
 repeat refine awp_seq ?_
 refine awp_ret ?_
 simp only [push_cast, Int.cast_ofNat_Int, Int.reduceLE, Int.reduceLT, Int.reduceToNat, Int.reduceNeg, Int.reduceSub, iv, bv, Nat.reduceBEq, reduceCtorEq, Nat.reduceAdd, Nat.reduceLeDiff, Nat.reduceSub, Nat.reduceLT, Nat.reduceMul]
 refine endOf_here ?_
 have := hasbit ⟨m, hm⟩ ⟨n, hn⟩
 simp only at this
 rw [this]; exact hk
theorem f34_c {m n : Nat} (hm : m < 256) (hn : n < 5) (hk : k (uv (m ||| 2 ^ n)) H) : FnC lv Tryd.prog 34 H [uv m, iv n] k kp := by
 refine fnC_intro (rs := [.tmp 4]) (nt := 9) F.f34 rfl rfl rfl (by simp) fun hH hA => ?_
 simp only [argsT, Nat.reduceAdd]
 repeat refine awp_seq ?_
 refine awp_region (by kernel_rfl) ?_
 simp only [push_cast, Int.cast_ofNat_Int, Int.reduceLE, Int.reduceLT, Int.reduceToNat, Int.reduceNeg, Int.reduceSub, iv, bv, Nat.reduceBEq, reduceCtorEq, Nat.reduceAdd, Nat.reduceLeDiff, Nat.reduceSub, Nat.reduceLT, Nat.reduceMul]
 repeat refine awp_seq ?_
 refine awp_region (by kernel_rfl) ?_
 simp only [push_cast, Int.cast_ofNat_Int, Int.reduceLE, Int.reduceLT, Int.reduceToNat, Int.reduceNeg, Int.reduceSub, iv, bv, Nat.reduceBEq, reduceCtorEq, Nat.reduceAdd, Nat.reduceLeDiff, Nat.reduceSub, Nat.reduceLT, Nat.reduceMul]
 refine callG (callC_func (by kernel_rfl) (f35_c hn ?_))
 simp only [push_cast, Int.cast_ofNat_Int, Int.reduceLE, Int.reduceLT, Int.reduceToNat, Int.reduceNeg, Int.reduceSub, iv, bv, Nat.reduceBEq, reduceCtorEq, Nat.reduceAdd, Nat.reduceLeDiff, Nat.reduceSub, Nat.reduceLT, Nat.reduceMul, abin_or]
 repeat refine awp_seq ?_
 refine awp_ret ?_
 simp only [push_cast, Int.cast_ofNat_Int, Int.reduceLE, Int.reduceLT, Int.reduceToNat, Int.reduceNeg, Int.reduceSub, iv, bv, Nat.reduceBEq, reduceCtorEq, Nat.reduceAdd, Nat.reduceLeDiff, Nat.reduceSub, Nat.reduceLT, Nat.reduceMul]
 refine endOf_here ?_
 have := withbit ⟨m, hm⟩ ⟨n, hn⟩
 simp only at this
 rw [this]; exact hk
theorem f48_c {e : Int} (hk : k (.tup []) H) : FnC lv Tryd.prog 48 H [bv true, iv e] k kp := by
 refine fnC_intro (rs := []) (nt := 9) F.f48 rfl rfl rfl (by simp) fun hH hA => ?_
 simp only [argsT, Nat.reduceAdd]
 repeat refine awp_seq ?_
 refine awp_region (by kernel_rfl) ?_
 simp only [push_cast, Int.cast_ofNat_Int, Int.reduceLE, Int.reduceLT, Int.reduceToNat, Int.reduceNeg, Int.reduceSub, iv, bv, Nat.reduceBEq, reduceCtorEq, Nat.reduceAdd, Nat.reduceLeDiff, Nat.reduceSub, Nat.reduceLT, Nat.reduceMul]
 repeat refine awp_seq ?_
 refine awp_condS ?_
 simp only [push_cast, Int.cast_ofNat_Int, Int.reduceLE, Int.reduceLT, Int.reduceToNat, Int.reduceNeg, Int.reduceSub, iv, bv, Nat.reduceBEq, reduceCtorEq, Nat.reduceAdd, Nat.reduceLeDiff, Nat.reduceSub, Nat.reduceLT, Nat.reduceMul]
 repeat refine awp_seq ?_
 refine awp_skip ?_
 simp only [push_cast, Int.cast_ofNat_Int, Int.reduceLE, Int.reduceLT, Int.reduceToNat, Int.reduceNeg, Int.reduceSub, iv, bv, Nat.reduceBEq, reduceCtorEq, Nat.reduceAdd, Nat.reduceLeDiff, Nat.reduceSub, Nat.reduceLT, Nat.reduceMul]
 exact endOf_here hk
theorem f49_c {a b : Int} {e : End} (ha : 0 <= a /\ a <= 1000) (hb : 0 <= b /\ b <= 1000) (hk : k (iv (a + b)) H) : FnC lv Tryd.prog 49 H [.sl 2 [iv a, iv b] e] k kp := by
 refine fnC_intro (rs := [.tmp 2]) (nt := 17) F.f49 rfl rfl rfl (by simp) fun hH hA => ?_
 simp only [argsT, Nat.reduceAdd]
 repeat refine awp_seq ?_
 refine awp_region (by kernel_rfl) ?_
 simp only [push_cast, Int.cast_ofNat_Int, Int.reduceLE, Int.reduceLT, Int.reduceToNat, Int.reduceNeg, Int.reduceSub, iv, bv, Nat.reduceBEq, reduceCtorEq, Nat.reduceAdd, Nat.reduceLeDiff, Nat.reduceSub, Nat.reduceLT, Nat.reduceMul]
 repeat refine awp_seq ?_
 refine awp_region (by kernel_rfl) ?_
 simp only [push_cast, Int.cast_ofNat_Int, Int.reduceLE, Int.reduceLT, Int.reduceToNat, Int.reduceNeg, Int.reduceSub, iv, bv, Nat.reduceBEq, reduceCtorEq, Nat.reduceAdd, Nat.reduceLeDiff, Nat.reduceSub, Nat.reduceLT, Nat.reduceMul]
 repeat refine awp_seq ?_
 refine awp_region (by kernel_rfl) ?_
 simp only [push_cast, Int.cast_ofNat_Int, Int.reduceLE, Int.reduceLT, Int.reduceToNat, Int.reduceNeg, Int.reduceSub, iv, bv, Nat.reduceBEq, reduceCtorEq, Nat.reduceAdd, Nat.reduceLeDiff, Nat.reduceSub, Nat.reduceLT, Nat.reduceMul, F.LenOf_22]
 repeat refine awp_seq ?_
 refine awp_block ?_
 refine awp_for 2 (fun i : Nat => [(3, iv ([a, b].take i).sum), (8, iv i)]) (fun _ => H) (fun i => True) (fun _ _ => rfl) (by simp only [push_cast, Int.cast_ofNat_Int, Int.reduceLE, Int.reduceLT, Int.reduceToNat, Int.reduceNeg, Int.reduceSub, iv, bv, Nat.reduceBEq, reduceCtorEq, Nat.reduceAdd, Nat.reduceLeDiff, Nat.reduceSub, Nat.reduceLT, Nat.reduceMul, List.forall_mem_cons, List.not_mem_nil, false_imp_iff, implies_true, List.forall_mem_nil]; simp [exists_wk, Wk.refl]) rfl (fun _ _ _ => rfl) trivial (fun hHs hLt i hin hi R hR => ?_)
 repeat refine awp_seq ?_
 refine awp_region (by kernel_rfl) ?_
 simp only [push_cast, Int.cast_ofNat_Int, Int.reduceLE, Int.reduceLT, Int.reduceToNat, Int.reduceNeg, Int.reduceSub, iv, bv, Nat.reduceBEq, reduceCtorEq, Nat.reduceAdd, Nat.reduceLeDiff, Nat.reduceSub, Nat.reduceLT, Nat.reduceMul]
 repeat refine awp_seq ?_
 refine awp_condS ?_
 simp only [push_cast, Int.cast_ofNat_Int, Int.reduceLE, Int.reduceLT, Int.reduceToNat, Int.reduceNeg, Int.reduceSub, iv, bv, Nat.reduceBEq, reduceCtorEq, Nat.reduceAdd, Nat.reduceLeDiff, Nat.reduceSub, Nat.reduceLT, Nat.reduceMul]
 refine ⟨fun h => ?_, fun h => ?_⟩
 ·have hlt : i < 2 := by omega
  obtain ⟨x, hx⟩ := lt_get (xs := [a, b]) hlt
  have hsh := sh_ints hx
  simp only [List.map_cons, List.map_nil, iv] at hsh
  have hi1 : IntKind.i64.wrap ((i : Int) + 1) = ((i + 1 : Nat) : Int) := by rw [i64_in _ (by omega)]; rfl
  have hb2 : (0 <= (i : Int) /\ (i : Int) < 2) = True := by simp; omega
  have hsm : IntKind.i64.wrap (([a, b].take i).sum + x) = ([a, b].take (i + 1)).sum := by
   match i, hlt with
   | 0, _ => cases hx; simp; exact i64_in _ (by omega)
   | 1, _ => cases hx; simp; exact i64_in _ (by omega)
  repeat refine awp_seq ?_
  refine awp_skip ?_
  simp only [push_cast, Int.cast_ofNat_Int, Int.reduceLE, Int.reduceLT, Int.reduceToNat, Int.reduceNeg, Int.reduceSub, iv, bv, Nat.reduceBEq, reduceCtorEq, Nat.reduceAdd, Nat.reduceLeDiff, Nat.reduceSub, Nat.reduceLT, Nat.reduceMul]
  repeat refine awp_seq ?_
  refine awp_block ?_
  repeat refine awp_seq ?_
  refine awp_region (by kernel_rfl) ?_
  simp only [push_cast, Int.cast_ofNat_Int, Int.reduceLE, Int.reduceLT, Int.reduceToNat, Int.reduceNeg, Int.reduceSub, iv, bv, Nat.reduceBEq, reduceCtorEq, Nat.reduceAdd, Nat.reduceLeDiff, Nat.reduceSub, Nat.reduceLT, Nat.reduceMul, F.IdxOf_22, F.Ty_3, hsh, hb2]
  repeat refine awp_seq ?_
  refine awp_region (by kernel_rfl) ?_
  simp only [push_cast, Int.cast_ofNat_Int, Int.reduceLE, Int.reduceLT, Int.reduceToNat, Int.reduceNeg, Int.reduceSub, iv, bv, Nat.reduceBEq, reduceCtorEq, Nat.reduceAdd, Nat.reduceLeDiff, Nat.reduceSub, Nat.reduceLT, Nat.reduceMul, hsm]
  repeat refine awp_seq ?_
  refine awp_region (by kernel_rfl) ?_
  simp only [push_cast, Int.cast_ofNat_Int, Int.reduceLE, Int.reduceLT, Int.reduceToNat, Int.reduceNeg, Int.reduceSub, iv, bv, Nat.reduceBEq, reduceCtorEq, Nat.reduceAdd, Nat.reduceLeDiff, Nat.reduceSub, Nat.reduceLT, Nat.reduceMul, hi1]
  refine hR _ ⟨hlt, trivial, ?_⟩
  exact (round_keep (keeps_rfl rfl rfl) (by simp only [push_cast, Int.cast_ofNat_Int, Int.reduceLE, Int.reduceLT, Int.reduceToNat, Int.reduceNeg, Int.reduceSub, iv, bv, Nat.reduceBEq, reduceCtorEq, Nat.reduceAdd, Nat.reduceLeDiff, Nat.reduceSub, Nat.reduceLT, Nat.reduceMul]; simp [exists_wk, Wk.refl]))
 ·have hi2 : i = 2 := by omega
  subst hi2
  repeat refine awp_seq ?_
  refine awp_exit ?_
  simp only [push_cast, Int.cast_ofNat_Int, Int.reduceLE, Int.reduceLT, Int.reduceToNat, Int.reduceNeg, Int.reduceSub, iv, bv, Nat.reduceBEq, reduceCtorEq, Nat.reduceAdd, Nat.reduceLeDiff, Nat.reduceSub, Nat.reduceLT, Nat.reduceMul]
  repeat refine awp_seq ?_
  refine awp_region (by kernel_rfl) ?_
  simp only [push_cast, Int.cast_ofNat_Int, Int.reduceLE, Int.reduceLT, Int.reduceToNat, Int.reduceNeg, Int.reduceSub, iv, bv, Nat.reduceBEq, reduceCtorEq, Nat.reduceAdd, Nat.reduceLeDiff, Nat.reduceSub, Nat.reduceLT, Nat.reduceMul]
  repeat refine awp_seq ?_
  refine awp_ret ?_
  simp only [push_cast, Int.cast_ofNat_Int, Int.reduceLE, Int.reduceLT, Int.reduceToNat, Int.reduceNeg, Int.reduceSub, iv, bv, Nat.reduceBEq, reduceCtorEq, Nat.reduceAdd, Nat.reduceLeDiff, Nat.reduceSub, Nat.reduceLT, Nat.reduceMul]
  refine endOf_here ?_
  simpa using hk
def bitsL (xs : List Int) : Nat := xs.foldl (fun m x => m ||| 2 ^ x.toNat) 0
theorem bitsL_snoc (xs : List Int) (x : Int) : bitsL (xs ++ [x]) = bitsL xs ||| 2 ^ x.toNat := by simp [bitsL]
theorem bitsL_bit (xs : List Int) (n : Nat) : (bitsL xs).testBit n = xs.any fun x => decide (x.toNat = n) := by
 have : ∀ (l : List Int) (m : Nat), (l.foldl (fun m x => m ||| 2 ^ x.toNat) m).testBit n = (m.testBit n || l.any fun x => decide (x.toNat = n)) := by
  intro l
  induction l with
  | nil => intro m; simp
  | cons x l ih =>
   intro m
   rw [List.foldl_cons, ih, Nat.testBit_or, Nat.testBit_two_pow, List.any_cons, Bool.or_assoc]
 have := this xs 0
 simpa [bitsL] using this
theorem bitsL_lt {xs : List Int} (h : ∀ x ∈ xs, x.toNat < 5) : bitsL xs < 256 := by
 have : bitsL xs < 2 ^ 5 := Nat.lt_pow_two_of_testBit _ fun i hi => by
  rw [bitsL_bit, List.any_eq_false]
  intro x hx
  have := h x hx
  simp; omega
 omega
theorem take_snoc {xs : List Int} {i : Nat} {x : Int} (h : xs[i]? = some x) : xs.take (i + 1) = xs.take i ++ [x] := by rw [List.take_succ, h]; rfl
structure PileOk (ps : List Par) (xs : List Int) : Prop where
 yard : ps.length <= 5
 par : ∀ p ∈ ps, p.Ok
 many : xs.length <= 2
 piece : ∀ x ∈ xs, 0 <= x /\ x < ps.length
 once : xs.Nodup
theorem f47_d0 {H : List AObj} {kr kp : List AObj -> Prop} {r : Nat} (h : ∀ L, kr (H ++ L)) : DefA lv Tryd.prog (.fn (.func 47) [] [.op r 0], []) H none kr kp := by
 refine defA_recoverL (nt := 11) (by kernel_rfl) F.f47 rfl rfl rfl rfl rfl rfl rfl rfl (by kernel_rfl) (by simp) ?_
 simp only [argsT, Nat.reduceAdd, List.nil_append, Option.getD_none]
 simp only [push_cast, Int.cast_ofNat_Int, Int.reduceLE, Int.reduceLT, Int.reduceToNat, Int.reduceNeg, Int.reduceSub, iv, bv, Nat.reduceBEq, reduceCtorEq, Nat.reduceAdd, Nat.reduceLeDiff, Nat.reduceSub, Nat.reduceLT, Nat.reduceMul, F.isIfc_118, F.ZeroOf_118, F.Ty_118, show AV.of (Value.agg #[Value.int IntKind.i64 0]) = .agg [iv 0] from rfl]
 repeat refine awp_seq ?_
 refine awp_region (by kernel_rfl) ?_
 simp only [push_cast, Int.cast_ofNat_Int, Int.reduceLE, Int.reduceLT, Int.reduceToNat, Int.reduceNeg, Int.reduceSub, iv, bv, Nat.reduceBEq, reduceCtorEq, Nat.reduceAdd, Nat.reduceLeDiff, Nat.reduceSub, Nat.reduceLT, Nat.reduceMul]
 repeat refine awp_seq ?_
 refine awp_condS ?_
 simp only [push_cast, Int.cast_ofNat_Int, Int.reduceLE, Int.reduceLT, Int.reduceToNat, Int.reduceNeg, Int.reduceSub, iv, bv, Nat.reduceBEq, reduceCtorEq, Nat.reduceAdd, Nat.reduceLeDiff, Nat.reduceSub, Nat.reduceLT, Nat.reduceMul]
 refine awp_skip ?_
 exact .inl (h _)
theorem f33_c {ps : List Par} {xs : List Int} {e : End} (hp : PileOk ps xs) (hk : k (iv 0) H) : FnC lv Tryd.prog 33 H [yardA ps, .sl xs.length (xs.map iv) e] k kp := by
 obtain ⟨h5, hpar, h2, hpc, hnd⟩ := hp
 refine fnC_introD (rs := [.cell 4 38]) (nt := 49) F.f33 rfl rfl rfl (by simp) fun hH hA => ?_
 simp only [argsT, Nat.reduceAdd, yardA, yardL]
 refine awpd_seq1 ?_
 repeat refine awp_seq ?_
 refine awp_region (by kernel_rfl) ?_
 simp only [push_cast, Int.cast_ofNat_Int, Int.reduceLE, Int.reduceLT, Int.reduceToNat, Int.reduceNeg, Int.reduceSub, iv, bv, Nat.reduceBEq, reduceCtorEq, Nat.reduceAdd, Nat.reduceLeDiff, Nat.reduceSub, Nat.reduceLT, Nat.reduceMul, F.ZeroOf_38]
 refine awpd_seq ?_
 refine awpd_defer0 (n := 1) rfl rfl rfl rfl rfl rfl (by kernel_rfl) ?_
 simp only [push_cast, Int.cast_ofNat_Int, Int.reduceLE, Int.reduceLT, Int.reduceToNat, Int.reduceNeg, Int.reduceSub, iv, bv, Nat.reduceBEq, reduceCtorEq, Nat.reduceAdd, Nat.reduceLeDiff, Nat.reduceSub, Nat.reduceLT, Nat.reduceMul, List.mapM_cons, List.mapM_nil, Option.pure_def, Option.bind_eq_bind]
 refine ⟨⟨_, _, _, rfl⟩, ?_⟩
 refine awpd_of ?_
 repeat refine awp_seq ?_
 refine awp_region (by kernel_rfl) ?_
 simp only [push_cast, Int.cast_ofNat_Int, Int.reduceLE, Int.reduceLT, Int.reduceToNat, Int.reduceNeg, Int.reduceSub, iv, bv, Nat.reduceBEq, reduceCtorEq, Nat.reduceAdd, Nat.reduceLeDiff, Nat.reduceSub, Nat.reduceLT, Nat.reduceMul]
 repeat refine awp_seq ?_
 refine awp_region (by kernel_rfl) ?_
 simp only [push_cast, Int.cast_ofNat_Int, Int.reduceLE, Int.reduceLT, Int.reduceToNat, Int.reduceNeg, Int.reduceSub, iv, bv, Nat.reduceBEq, reduceCtorEq, Nat.reduceAdd, Nat.reduceLeDiff, Nat.reduceSub, Nat.reduceLT, Nat.reduceMul]
 repeat refine awp_seq ?_
 refine awp_region (by kernel_rfl) ?_
 simp only [push_cast, Int.cast_ofNat_Int, Int.reduceLE, Int.reduceLT, Int.reduceToNat, Int.reduceNeg, Int.reduceSub, iv, bv, Nat.reduceBEq, reduceCtorEq, Nat.reduceAdd, Nat.reduceLeDiff, Nat.reduceSub, Nat.reduceLT, Nat.reduceMul, F.LenOf_22]
 repeat refine awp_seq ?_
 refine awp_block ?_
 refine awp_for xs.length (fun i : Nat => [(5, uv (bitsL (xs.take i))), (6, iv i), (12, iv i)]) (fun _ => H ++ [.cells [aPars ps, iv 2] 53, .cells [iv 0] 38]) (fun i => True) (fun _ _ => rfl) (by simp only [push_cast, Int.cast_ofNat_Int, Int.reduceLE, Int.reduceLT, Int.reduceToNat, Int.reduceNeg, Int.reduceSub, iv, bv, Nat.reduceBEq, reduceCtorEq, Nat.reduceAdd, Nat.reduceLeDiff, Nat.reduceSub, Nat.reduceLT, Nat.reduceMul, List.forall_mem_cons, List.not_mem_nil, false_imp_iff, implies_true, List.forall_mem_nil]; simp [exists_wk, Wk.refl]; exact Wk.refl _) rfl (fun _ _ _ => rfl) trivial (fun hHs hLt i hin hi R hR => ?_)
 repeat refine awp_seq ?_
 refine awp_region (by kernel_rfl) ?_
 simp only [push_cast, Int.cast_ofNat_Int, Int.reduceLE, Int.reduceLT, Int.reduceToNat, Int.reduceNeg, Int.reduceSub, iv, bv, Nat.reduceBEq, reduceCtorEq, Nat.reduceAdd, Nat.reduceLeDiff, Nat.reduceSub, Nat.reduceLT, Nat.reduceMul]
 repeat refine awp_seq ?_
 refine awp_condS ?_
 simp only [push_cast, Int.cast_ofNat_Int, Int.reduceLE, Int.reduceLT, Int.reduceToNat, Int.reduceNeg, Int.reduceSub, iv, bv, Nat.reduceBEq, reduceCtorEq, Nat.reduceAdd, Nat.reduceLeDiff, Nat.reduceSub, Nat.reduceLT, Nat.reduceMul]
 refine ⟨fun h => ?_, fun h => ?_⟩
 ·
  have hlt : i < xs.length := by omega
  obtain ⟨x, hx⟩ := lt_get hlt
  have hxb := hpc x (mem_of_get hx)
  obtain ⟨q, rfl⟩ : ∃ q : Nat, x = q := ⟨x.toNat, by omega⟩
  have hi1 : IntKind.i64.wrap ((i : Int) + 1) = ((i + 1 : Nat) : Int) := by rw [i64_in _ (by omega)]; rfl
  have hwl : IntKind.i64.wrap ((ps.length : Int) - 1) = ps.length - 1 := i64_in _ (by omega)
  have hm : bitsL (xs.take i) < 256 := bitsL_lt fun x hx => by have := hpc x (List.mem_of_mem_take hx); omega
  have hq5 : q < 5 := by omega
  have hnh : (bitsL (xs.take i)).testBit q = false := by
   rw [bitsL_bit, List.any_eq_false]
   intro y hy
   have hyb := hpc y (List.mem_of_mem_take hy)
   simp only [decide_eq_true_eq]
   intro e
   have hyq : y = (q : Int) := by omega
   have hd : xs = xs.take i ++ (q : Int) :: xs.drop (i + 1) := by
    rw [List.getElem?_eq_getElem hlt] at hx
    have : xs[i] = (q : Int) := Option.some.inj hx
    rw [<- this, <- List.drop_eq_getElem_cons hlt, List.take_append_drop]
   rw [hd] at hnd
   exact (List.nodup_append.1 hnd).2.2 y hy q (List.mem_cons_self ..) hyq
  repeat refine awp_seq ?_
  refine awp_skip ?_
  simp only [push_cast, Int.cast_ofNat_Int, Int.reduceLE, Int.reduceLT, Int.reduceToNat, Int.reduceNeg, Int.reduceSub, iv, bv, Nat.reduceBEq, reduceCtorEq, Nat.reduceAdd, Nat.reduceLeDiff, Nat.reduceSub, Nat.reduceLT, Nat.reduceMul]
  repeat refine awp_seq ?_
  refine awp_block ?_
  repeat refine awp_seq ?_
  refine awp_region (by kernel_rfl) ?_
  simp only [push_cast, Int.cast_ofNat_Int, Int.reduceLE, Int.reduceLT, Int.reduceToNat, Int.reduceNeg, Int.reduceSub, iv, bv, Nat.reduceBEq, reduceCtorEq, Nat.reduceAdd, Nat.reduceLeDiff, Nat.reduceSub, Nat.reduceLT, Nat.reduceMul, F.IdxOf_22, F.Ty_3, sh_ints hx, bnd_nat hlt]
  repeat refine awp_seq ?_
  refine awp_region (by kernel_rfl) ?_
  simp only [push_cast, Int.cast_ofNat_Int, Int.reduceLE, Int.reduceLT, Int.reduceToNat, Int.reduceNeg, Int.reduceSub, iv, bv, Nat.reduceBEq, reduceCtorEq, Nat.reduceAdd, Nat.reduceLeDiff, Nat.reduceSub, Nat.reduceLT, Nat.reduceMul, F.FieldOf_53_0, F.FieldOf_30_0, F.Ty_28, F.LenOf_28, aPars, hwl]
  refine callG (callC_func (by kernel_rfl) (f46_t (by omega) ?_))
  simp only [push_cast, Int.cast_ofNat_Int, Int.reduceLE, Int.reduceLT, Int.reduceToNat, Int.reduceNeg, Int.reduceSub, iv, bv, Nat.reduceBEq, reduceCtorEq, Nat.reduceAdd, Nat.reduceLeDiff, Nat.reduceSub, Nat.reduceLT, Nat.reduceMul]
  refine callG (callC_func (by kernel_rfl) (f48_c ?_))
  simp only [push_cast, Int.cast_ofNat_Int, Int.reduceLE, Int.reduceLT, Int.reduceToNat, Int.reduceNeg, Int.reduceSub, iv, bv, Nat.reduceBEq, reduceCtorEq, Nat.reduceAdd, Nat.reduceLeDiff, Nat.reduceSub, Nat.reduceLT, Nat.reduceMul]
  repeat refine awp_seq ?_
  refine awp_region (by kernel_rfl) ?_
  simp only [push_cast, Int.cast_ofNat_Int, Int.reduceLE, Int.reduceLT, Int.reduceToNat, Int.reduceNeg, Int.reduceSub, iv, bv, Nat.reduceBEq, reduceCtorEq, Nat.reduceAdd, Nat.reduceLeDiff, Nat.reduceSub, Nat.reduceLT, Nat.reduceMul]
  refine callG (callC_func (by kernel_rfl) (f18_c hm hq5 ?_))
  simp only [push_cast, Int.cast_ofNat_Int, Int.reduceLE, Int.reduceLT, Int.reduceToNat, Int.reduceNeg, Int.reduceSub, iv, bv, Nat.reduceBEq, reduceCtorEq, Nat.reduceAdd, Nat.reduceLeDiff, Nat.reduceSub, Nat.reduceLT, Nat.reduceMul, hnh]
  refine callG (callC_func (by kernel_rfl) (f48_c ?_))
  simp only [push_cast, Int.cast_ofNat_Int, Int.reduceLE, Int.reduceLT, Int.reduceToNat, Int.reduceNeg, Int.reduceSub, iv, bv, Nat.reduceBEq, reduceCtorEq, Nat.reduceAdd, Nat.reduceLeDiff, Nat.reduceSub, Nat.reduceLT, Nat.reduceMul]
  repeat refine awp_seq ?_
  refine awp_region (by kernel_rfl) ?_
  simp only [push_cast, Int.cast_ofNat_Int, Int.reduceLE, Int.reduceLT, Int.reduceToNat, Int.reduceNeg, Int.reduceSub, iv, bv, Nat.reduceBEq, reduceCtorEq, Nat.reduceAdd, Nat.reduceLeDiff, Nat.reduceSub, Nat.reduceLT, Nat.reduceMul]
  refine callG (callC_func (by kernel_rfl) (f34_c hm hq5 ?_))
  simp only [push_cast, Int.cast_ofNat_Int, Int.reduceLE, Int.reduceLT, Int.reduceToNat, Int.reduceNeg, Int.reduceSub, iv, bv, Nat.reduceBEq, reduceCtorEq, Nat.reduceAdd, Nat.reduceLeDiff, Nat.reduceSub, Nat.reduceLT, Nat.reduceMul]
  obtain ⟨p, hpq⟩ := lt_get (xs := ps) (i := q) (by omega)
  have hqb : (0 <= (q : Int) /\ (q : Int) < ps.length) = True := by simp; omega
  repeat refine awp_seq ?_
  refine awp_region (by kernel_rfl) ?_
  simp only [push_cast, Int.cast_ofNat_Int, Int.reduceLE, Int.reduceLT, Int.reduceToNat, Int.reduceNeg, Int.reduceSub, iv, bv, Nat.reduceBEq, reduceCtorEq, Nat.reduceAdd, Nat.reduceLeDiff, Nat.reduceSub, Nat.reduceLT, Nat.reduceMul, F.FieldOf_53_0, F.FieldOf_30_0, F.Ty_28, F.IdxOf_28, F.FieldOf_37_2, F.Ty_3, F.SliceOf_22, sh_pars hpq, hqb, zr2, p24_2]
  refine callG (callC_func (by kernel_rfl) (f49_c (by omega) (by omega) ?_))
  simp only [push_cast, Int.cast_ofNat_Int, Int.reduceLE, Int.reduceLT, Int.reduceToNat, Int.reduceNeg, Int.reduceSub, iv, bv, Nat.reduceBEq, reduceCtorEq, Nat.reduceAdd, Nat.reduceLeDiff, Nat.reduceSub, Nat.reduceLT, Nat.reduceMul]
  repeat refine awp_seq ?_
  refine awp_region (by kernel_rfl) ?_
  simp only [push_cast, Int.cast_ofNat_Int, Int.reduceLE, Int.reduceLT, Int.reduceToNat, Int.reduceNeg, Int.reduceSub, iv, bv, Nat.reduceBEq, reduceCtorEq, Nat.reduceAdd, Nat.reduceLeDiff, Nat.reduceSub, Nat.reduceLT, Nat.reduceMul, hi1]
  refine hR _ ⟨hlt, trivial, ?_⟩
  rw [take_snoc hx, bitsL_snoc]
  exact (round_keep (keeps_rfl rfl rfl) (by simp only [push_cast, Int.cast_ofNat_Int, Int.reduceLE, Int.reduceLT, Int.reduceToNat, Int.reduceNeg, Int.reduceSub, iv, bv, Nat.reduceBEq, reduceCtorEq, Nat.reduceAdd, Nat.reduceLeDiff, Nat.reduceSub, Nat.reduceLT, Nat.reduceMul]; simp [exists_wk, Wk.refl]))
 ·have hi : i = xs.length := by omega
  subst hi
  repeat refine awp_seq ?_
  refine awp_exit ?_
  simp only [push_cast, Int.cast_ofNat_Int, Int.reduceLE, Int.reduceLT, Int.reduceToNat, Int.reduceNeg, Int.reduceSub, iv, bv, Nat.reduceBEq, reduceCtorEq, Nat.reduceAdd, Nat.reduceLeDiff, Nat.reduceSub, Nat.reduceLT, Nat.reduceMul]
  have hle : decide ((xs.length : Int) <= 2) = true := by simp; omega
  repeat refine awp_seq ?_
  refine awp_region (by kernel_rfl) ?_
  simp only [push_cast, Int.cast_ofNat_Int, Int.reduceLE, Int.reduceLT, Int.reduceToNat, Int.reduceNeg, Int.reduceSub, iv, bv, Nat.reduceBEq, reduceCtorEq, Nat.reduceAdd, Nat.reduceLeDiff, Nat.reduceSub, Nat.reduceLT, Nat.reduceMul, F.FieldOf_53_0, F.FieldOf_30_1, F.Ty_3, hle]
  refine callG (callC_func (by kernel_rfl) (f48_c ?_))
  simp only [push_cast, Int.cast_ofNat_Int, Int.reduceLE, Int.reduceLT, Int.reduceToNat, Int.reduceNeg, Int.reduceSub, iv, bv, Nat.reduceBEq, reduceCtorEq, Nat.reduceAdd, Nat.reduceLeDiff, Nat.reduceSub, Nat.reduceLT, Nat.reduceMul]
  repeat refine awp_seq ?_
  refine awp_region (by kernel_rfl) ?_
  simp only [push_cast, Int.cast_ofNat_Int, Int.reduceLE, Int.reduceLT, Int.reduceToNat, Int.reduceNeg, Int.reduceSub, iv, bv, Nat.reduceBEq, reduceCtorEq, Nat.reduceAdd, Nat.reduceLeDiff, Nat.reduceSub, Nat.reduceLT, Nat.reduceMul, F.Ty_38]
  refine awp_ret ?_
  simp only [fnEndD_ret1]
  refine f47_d0 fun L => ?_
  simp only [push_cast, Int.cast_ofNat_Int, Int.reduceLE, Int.reduceLT, Int.reduceToNat, Int.reduceNeg, Int.reduceSub, iv, bv, Nat.reduceBEq, reduceCtorEq, Nat.reduceAdd, Nat.reduceLeDiff, Nat.reduceSub, Nat.reduceLT, Nat.reduceMul, F.Ty_38, List.append_assoc, List.cons_append, List.nil_append]
  exact endA hH (Wk.refl _) (by simp [lt_val]) hk
theorem f13_c {ps : List Par} {xs : List Int} {e : End} (hp : PileOk ps xs) (hk : k (.tup [yardA ps, iv 0]) H) : FnC lv Tryd.prog 13 H [yardA ps, .sl xs.length (xs.map iv) e] k kp := by
 refine fnC_intro (rs := [.cell 4 53, .tmp 5]) (nt := 20) F.f13 rfl rfl rfl (by simp) fun hH hA => ?_
 simp only [argsT, Nat.reduceAdd, yardA, yardL]
 repeat refine awp_seq ?_
 refine awp_region (by kernel_rfl) ?_
 simp only [push_cast, Int.cast_ofNat_Int, Int.reduceLE, Int.reduceLT, Int.reduceToNat, Int.reduceNeg, Int.reduceSub, iv, bv, Nat.reduceBEq, reduceCtorEq, Nat.reduceAdd, Nat.reduceLeDiff, Nat.reduceSub, Nat.reduceLT, Nat.reduceMul, F.ZeroOf_53]
 repeat refine awp_seq ?_
 refine awp_region (by kernel_rfl) ?_
 simp only [push_cast, Int.cast_ofNat_Int, Int.reduceLE, Int.reduceLT, Int.reduceToNat, Int.reduceNeg, Int.reduceSub, iv, bv, Nat.reduceBEq, reduceCtorEq, Nat.reduceAdd, Nat.reduceLeDiff, Nat.reduceSub, Nat.reduceLT, Nat.reduceMul, F.Ty_30]
 refine callG (callC_func (by kernel_rfl) (f32_c (ps := ps) hp.yard hp.par ?_))
 simp only [push_cast, Int.cast_ofNat_Int, Int.reduceLE, Int.reduceLT, Int.reduceToNat, Int.reduceNeg, Int.reduceSub, iv, bv, Nat.reduceBEq, reduceCtorEq, Nat.reduceAdd, Nat.reduceLeDiff, Nat.reduceSub, Nat.reduceLT, Nat.reduceMul]
 repeat refine awp_seq ?_
 refine awp_region (by kernel_rfl) ?_
 simp only [push_cast, Int.cast_ofNat_Int, Int.reduceLE, Int.reduceLT, Int.reduceToNat, Int.reduceNeg, Int.reduceSub, iv, bv, Nat.reduceBEq, reduceCtorEq, Nat.reduceAdd, Nat.reduceLeDiff, Nat.reduceSub, Nat.reduceLT, Nat.reduceMul]
 repeat refine awp_seq ?_
 refine awp_condS ?_
 simp only [push_cast, Int.cast_ofNat_Int, Int.reduceLE, Int.reduceLT, Int.reduceToNat, Int.reduceNeg, Int.reduceSub, iv, bv, Nat.reduceBEq, reduceCtorEq, Nat.reduceAdd, Nat.reduceLeDiff, Nat.reduceSub, Nat.reduceLT, Nat.reduceMul]
 repeat refine awp_seq ?_
 refine awp_skip ?_
 simp only [push_cast, Int.cast_ofNat_Int, Int.reduceLE, Int.reduceLT, Int.reduceToNat, Int.reduceNeg, Int.reduceSub, iv, bv, Nat.reduceBEq, reduceCtorEq, Nat.reduceAdd, Nat.reduceLeDiff, Nat.reduceSub, Nat.reduceLT, Nat.reduceMul]
 repeat refine awp_seq ?_
 refine awp_region (by kernel_rfl) ?_
 simp only [push_cast, Int.cast_ofNat_Int, Int.reduceLE, Int.reduceLT, Int.reduceToNat, Int.reduceNeg, Int.reduceSub, iv, bv, Nat.reduceBEq, reduceCtorEq, Nat.reduceAdd, Nat.reduceLeDiff, Nat.reduceSub, Nat.reduceLT, Nat.reduceMul, F.Ty_30, F.BuildOf_53, F.ZeroOf_53, F.Ty_53, show (aPars ps).leaf = true from rfl]
 repeat refine awp_seq ?_
 refine awp_draw F.mixed 4 (by kernel_rfl) ?_
 simp only [push_cast, Int.cast_ofNat_Int, Int.reduceLE, Int.reduceLT, Int.reduceToNat, Int.reduceNeg, Int.reduceSub, iv, bv, Nat.reduceBEq, reduceCtorEq, Nat.reduceAdd, Nat.reduceLeDiff, Nat.reduceSub, Nat.reduceLT, Nat.reduceMul, F.Ty_53]
 refine qCall (iv 0) (callC_func (by kernel_rfl) (f33_c (ps := ps) hp ⟨rfl, rfl⟩)) ?_
 simp only [push_cast, Int.cast_ofNat_Int, Int.reduceLE, Int.reduceLT, Int.reduceToNat, Int.reduceNeg, Int.reduceSub, iv, bv, Nat.reduceBEq, reduceCtorEq, Nat.reduceAdd, Nat.reduceLeDiff, Nat.reduceSub, Nat.reduceLT, Nat.reduceMul, F.Ty_53, show (aPars ps).leaf = true from rfl]
 repeat refine awp_seq ?_
 refine awp_ret ?_
 simp only [push_cast, Int.cast_ofNat_Int, Int.reduceLE, Int.reduceLT, Int.reduceToNat, Int.reduceNeg, Int.reduceSub, iv, bv, Nat.reduceBEq, reduceCtorEq, Nat.reduceAdd, Nat.reduceLeDiff, Nat.reduceSub, Nat.reduceLT, Nat.reduceMul, F.Ty_53]
 exact endA hH (Wk.refl _) (by simp [lt_tup, lt_agg, lt_pars, lt_val]) hk
theorem f16_c {ps : List Par} (hl : ps.length <= 5) (hk : k (aInts (belowM ps.length)) H) : FnC lv Tryd.prog 16 H [yardA ps] k kp := by
 refine fnC_intro (rs := [.tmp 2]) (nt := 18) F.f16 rfl rfl rfl (by simp) fun hH hA => ?_
 simp only [argsT, Nat.reduceAdd, yardA, yardL]
 repeat refine awp_seq ?_
 refine awp_region (by kernel_rfl) ?_
 simp only [push_cast, Int.cast_ofNat_Int, Int.reduceLE, Int.reduceLT, Int.reduceToNat, Int.reduceNeg, Int.reduceSub, iv, bv, Nat.reduceBEq, reduceCtorEq, Nat.reduceAdd, Nat.reduceLeDiff, Nat.reduceSub, Nat.reduceLT, Nat.reduceMul]
 repeat refine awp_seq ?_
 refine awp_region (by kernel_rfl) ?_
 simp only [push_cast, Int.cast_ofNat_Int, Int.reduceLE, Int.reduceLT, Int.reduceToNat, Int.reduceNeg, Int.reduceSub, iv, bv, Nat.reduceBEq, reduceCtorEq, Nat.reduceAdd, Nat.reduceLeDiff, Nat.reduceSub, Nat.reduceLT, Nat.reduceMul]
 (repeat refine awp_seq ?_); refine awp_tail (t := 3) (sz := 1) (el := 3) (by simp only [push_cast, Int.cast_ofNat_Int, Int.reduceLE, Int.reduceLT, Int.reduceToNat, Int.reduceNeg, Int.reduceSub, iv, bv, Nat.reduceBEq, reduceCtorEq, Nat.reduceAdd, Nat.reduceLeDiff, Nat.reduceSub, Nat.reduceLT, Nat.reduceMul] <;> rfl) ?_
 simp only [push_cast, Int.cast_ofNat_Int, Int.reduceLE, Int.reduceLT, Int.reduceToNat, Int.reduceNeg, Int.reduceSub, iv, bv, Nat.reduceBEq, reduceCtorEq, Nat.reduceAdd, Nat.reduceLeDiff, Nat.reduceSub, Nat.reduceLT, Nat.reduceMul]
 repeat refine awp_seq ?_
 refine awp_region (by kernel_rfl) ?_
 simp only [push_cast, Int.cast_ofNat_Int, Int.reduceLE, Int.reduceLT, Int.reduceToNat, Int.reduceNeg, Int.reduceSub, iv, bv, Nat.reduceBEq, reduceCtorEq, Nat.reduceAdd, Nat.reduceLeDiff, Nat.reduceSub, Nat.reduceLT, Nat.reduceMul, F.FieldOf_53_0, F.FieldOf_30_0, F.Ty_28, F.LenOf_28, aPars]
 repeat refine awp_seq ?_
 refine awp_block ?_
 refine awp_for ps.length (fun i : Nat => [(3, .sl i ((belowM i).map iv) (.opn (H.length + 1))), (9, iv i)]) (fun i => H ++ [.cells [.sl ps.length (ps.flatMap Par.l) .shut, iv 2] 53, .tail i 1 3]) (fun i => True) (fun _ _ => rfl) (by simp only [push_cast, Int.cast_ofNat_Int, Int.reduceLE, Int.reduceLT, Int.reduceToNat, Int.reduceNeg, Int.reduceSub, iv, bv, Nat.reduceBEq, reduceCtorEq, Nat.reduceAdd, Nat.reduceLeDiff, Nat.reduceSub, Nat.reduceLT, Nat.reduceMul, List.forall_mem_cons, List.not_mem_nil, false_imp_iff, implies_true, List.forall_mem_nil]; simp [exists_wk, Wk.refl]; exact Wk.refl _) rfl (fun _ _ _ => by simp) trivial (fun hHs hLt i hin hi R hR => ?_)
 repeat refine awp_seq ?_
 refine awp_region (by kernel_rfl) ?_
 simp only [push_cast, Int.cast_ofNat_Int, Int.reduceLE, Int.reduceLT, Int.reduceToNat, Int.reduceNeg, Int.reduceSub, iv, bv, Nat.reduceBEq, reduceCtorEq, Nat.reduceAdd, Nat.reduceLeDiff, Nat.reduceSub, Nat.reduceLT, Nat.reduceMul]
 repeat refine awp_seq ?_
 refine awp_condS ?_
 simp only [push_cast, Int.cast_ofNat_Int, Int.reduceLE, Int.reduceLT, Int.reduceToNat, Int.reduceNeg, Int.reduceSub, iv, bv, Nat.reduceBEq, reduceCtorEq, Nat.reduceAdd, Nat.reduceLeDiff, Nat.reduceSub, Nat.reduceLT, Nat.reduceMul]
 refine ⟨fun h => ?_, fun h => ?_⟩
 ·have hlt : i < ps.length := by omega
  have hi1 : IntKind.i64.wrap ((i : Int) + 1) = ((i + 1 : Nat) : Int) := by rw [i64_in _ (by omega)]; rfl
  have hbl := belowM_len i
  repeat refine awp_seq ?_
  refine awp_skip ?_
  simp only [push_cast, Int.cast_ofNat_Int, Int.reduceLE, Int.reduceLT, Int.reduceToNat, Int.reduceNeg, Int.reduceSub, iv, bv, Nat.reduceBEq, reduceCtorEq, Nat.reduceAdd, Nat.reduceLeDiff, Nat.reduceSub, Nat.reduceLT, Nat.reduceMul]
  repeat refine awp_seq ?_
  refine awp_block ?_
  repeat refine awp_seq ?_
  refine awp_region (by kernel_rfl) ?_
  simp only [push_cast, Int.cast_ofNat_Int, Int.reduceLE, Int.reduceLT, Int.reduceToNat, Int.reduceNeg, Int.reduceSub, iv, bv, Nat.reduceBEq, reduceCtorEq, Nat.reduceAdd, Nat.reduceLeDiff, Nat.reduceSub, Nat.reduceLT, Nat.reduceMul]
  repeat refine awp_seq ?_
  refine awp_region (by kernel_rfl) ?_
  simp only [push_cast, Int.cast_ofNat_Int, Int.reduceLE, Int.reduceLT, Int.reduceToNat, Int.reduceNeg, Int.reduceSub, iv, bv, Nat.reduceBEq, reduceCtorEq, Nat.reduceAdd, Nat.reduceLeDiff, Nat.reduceSub, Nat.reduceLT, Nat.reduceMul, F.SliceOf_22, F.AppOf_22_22, z1, p24_1, List.length_map, hbl]
  refine ⟨by omega, ?_⟩
  repeat refine awp_seq ?_
  refine awp_region (by kernel_rfl) ?_
  simp only [push_cast, Int.cast_ofNat_Int, Int.reduceLE, Int.reduceLT, Int.reduceToNat, Int.reduceNeg, Int.reduceSub, iv, bv, Nat.reduceBEq, reduceCtorEq, Nat.reduceAdd, Nat.reduceLeDiff, Nat.reduceSub, Nat.reduceLT, Nat.reduceMul, hi1]
  refine hR _ ⟨hlt, trivial, ?_⟩
  rw [belowM_succ]
  exact (round_keep (keeps_rfl rfl rfl) (by simp only [push_cast, Int.cast_ofNat_Int, Int.reduceLE, Int.reduceLT, Int.reduceToNat, Int.reduceNeg, Int.reduceSub, iv, bv, Nat.reduceBEq, reduceCtorEq, Nat.reduceAdd, Nat.reduceLeDiff, Nat.reduceSub, Nat.reduceLT, Nat.reduceMul]; simp [exists_wk, Wk.refl]))
 ·have hi : i = ps.length := by omega
  subst hi
  repeat refine awp_seq ?_
  refine awp_exit ?_
  simp only [push_cast, Int.cast_ofNat_Int, Int.reduceLE, Int.reduceLT, Int.reduceToNat, Int.reduceNeg, Int.reduceSub, iv, bv, Nat.reduceBEq, reduceCtorEq, Nat.reduceAdd, Nat.reduceLeDiff, Nat.reduceSub, Nat.reduceLT, Nat.reduceMul]
  repeat refine awp_seq ?_
  refine awp_region (by kernel_rfl) ?_
  simp only [push_cast, Int.cast_ofNat_Int, Int.reduceLE, Int.reduceLT, Int.reduceToNat, Int.reduceNeg, Int.reduceSub, iv, bv, Nat.reduceBEq, reduceCtorEq, Nat.reduceAdd, Nat.reduceLeDiff, Nat.reduceSub, Nat.reduceLT, Nat.reduceMul]
  repeat refine awp_seq ?_
  refine awp_ret ?_
  simp only [push_cast, Int.cast_ofNat_Int, Int.reduceLE, Int.reduceLT, Int.reduceToNat, Int.reduceNeg, Int.reduceSub, iv, bv, Nat.reduceBEq, reduceCtorEq, Nat.reduceAdd, Nat.reduceLeDiff, Nat.reduceSub, Nat.reduceLT, Nat.reduceMul]
  have hw : Wk (.sl ps.length ((belowM ps.length).map iv) (.opn (H.length + 1))) (aInts (belowM ps.length)) := by
   unfold aInts; rw [belowM_len]; exact wk_shut _ _ _
  exact endA hH hw (by simp [lt_ints]) hk
theorem f14_c {xs : List Int} {e : End} (hx : ∀ x ∈ xs, 0 <= x /\ x < 5) (hl : xs.length <= 5) (hk : k (uv (bitsL xs)) H) : FnC lv Tryd.prog 14 H [.sl xs.length (xs.map iv) e] k kp := by
 refine fnC_intro (rs := [.tmp 2]) (nt := 19) F.f14 rfl rfl rfl (by simp) fun hH hA => ?_
 simp only [argsT, Nat.reduceAdd]
 repeat refine awp_seq ?_
 refine awp_region (by kernel_rfl) ?_
 simp only [push_cast, Int.cast_ofNat_Int, Int.reduceLE, Int.reduceLT, Int.reduceToNat, Int.reduceNeg, Int.reduceSub, iv, bv, Nat.reduceBEq, reduceCtorEq, Nat.reduceAdd, Nat.reduceLeDiff, Nat.reduceSub, Nat.reduceLT, Nat.reduceMul]
 repeat refine awp_seq ?_
 refine awp_region (by kernel_rfl) ?_
 simp only [push_cast, Int.cast_ofNat_Int, Int.reduceLE, Int.reduceLT, Int.reduceToNat, Int.reduceNeg, Int.reduceSub, iv, bv, Nat.reduceBEq, reduceCtorEq, Nat.reduceAdd, Nat.reduceLeDiff, Nat.reduceSub, Nat.reduceLT, Nat.reduceMul]
 repeat refine awp_seq ?_
 refine awp_region (by kernel_rfl) ?_
 simp only [push_cast, Int.cast_ofNat_Int, Int.reduceLE, Int.reduceLT, Int.reduceToNat, Int.reduceNeg, Int.reduceSub, iv, bv, Nat.reduceBEq, reduceCtorEq, Nat.reduceAdd, Nat.reduceLeDiff, Nat.reduceSub, Nat.reduceLT, Nat.reduceMul]
 repeat refine awp_seq ?_
 refine awp_region (by kernel_rfl) ?_
 simp only [push_cast, Int.cast_ofNat_Int, Int.reduceLE, Int.reduceLT, Int.reduceToNat, Int.reduceNeg, Int.reduceSub, iv, bv, Nat.reduceBEq, reduceCtorEq, Nat.reduceAdd, Nat.reduceLeDiff, Nat.reduceSub, Nat.reduceLT, Nat.reduceMul, F.LenOf_22]
 repeat refine awp_seq ?_
 refine awp_block ?_
 refine awp_for xs.length (fun i : Nat => [(3, uv (bitsL (xs.take i))), (9, iv i)]) (fun _ => H) (fun i => True) (fun _ _ => rfl) (by simp only [push_cast, Int.cast_ofNat_Int, Int.reduceLE, Int.reduceLT, Int.reduceToNat, Int.reduceNeg, Int.reduceSub, iv, bv, Nat.reduceBEq, reduceCtorEq, Nat.reduceAdd, Nat.reduceLeDiff, Nat.reduceSub, Nat.reduceLT, Nat.reduceMul, List.forall_mem_cons, List.not_mem_nil, false_imp_iff, implies_true, List.forall_mem_nil]; simp [exists_wk, Wk.refl]; exact Wk.refl _) rfl (fun _ _ _ => rfl) trivial (fun hHs hLt i hin hi R hR => ?_)
 repeat refine awp_seq ?_
 refine awp_region (by kernel_rfl) ?_
 simp only [push_cast, Int.cast_ofNat_Int, Int.reduceLE, Int.reduceLT, Int.reduceToNat, Int.reduceNeg, Int.reduceSub, iv, bv, Nat.reduceBEq, reduceCtorEq, Nat.reduceAdd, Nat.reduceLeDiff, Nat.reduceSub, Nat.reduceLT, Nat.reduceMul]
 repeat refine awp_seq ?_
 refine awp_condS ?_
 simp only [push_cast, Int.cast_ofNat_Int, Int.reduceLE, Int.reduceLT, Int.reduceToNat, Int.reduceNeg, Int.reduceSub, iv, bv, Nat.reduceBEq, reduceCtorEq, Nat.reduceAdd, Nat.reduceLeDiff, Nat.reduceSub, Nat.reduceLT, Nat.reduceMul]
 refine ⟨fun h => ?_, fun h => ?_⟩
 ·have hlt : i < xs.length := by omega
  obtain ⟨x, hxx⟩ := lt_get hlt
  have hxb := hx x (mem_of_get hxx)
  obtain ⟨q, rfl⟩ : ∃ q : Nat, x = q := ⟨x.toNat, by omega⟩
  have hi1 : IntKind.i64.wrap ((i : Int) + 1) = ((i + 1 : Nat) : Int) := by rw [i64_in _ (by omega)]; rfl
  have hm : bitsL (xs.take i) < 256 := bitsL_lt fun x h => by have := hx x (List.mem_of_mem_take h); omega
  repeat refine awp_seq ?_
  refine awp_skip ?_
  simp only [push_cast, Int.cast_ofNat_Int, Int.reduceLE, Int.reduceLT, Int.reduceToNat, Int.reduceNeg, Int.reduceSub, iv, bv, Nat.reduceBEq, reduceCtorEq, Nat.reduceAdd, Nat.reduceLeDiff, Nat.reduceSub, Nat.reduceLT, Nat.reduceMul]
  repeat refine awp_seq ?_
  refine awp_block ?_
  repeat refine awp_seq ?_
  refine awp_region (by kernel_rfl) ?_
  simp only [push_cast, Int.cast_ofNat_Int, Int.reduceLE, Int.reduceLT, Int.reduceToNat, Int.reduceNeg, Int.reduceSub, iv, bv, Nat.reduceBEq, reduceCtorEq, Nat.reduceAdd, Nat.reduceLeDiff, Nat.reduceSub, Nat.reduceLT, Nat.reduceMul, F.IdxOf_22, F.Ty_3, sh_ints hxx, bnd_nat hlt]
  repeat refine awp_seq ?_
  refine awp_region (by kernel_rfl) ?_
  simp only [push_cast, Int.cast_ofNat_Int, Int.reduceLE, Int.reduceLT, Int.reduceToNat, Int.reduceNeg, Int.reduceSub, iv, bv, Nat.reduceBEq, reduceCtorEq, Nat.reduceAdd, Nat.reduceLeDiff, Nat.reduceSub, Nat.reduceLT, Nat.reduceMul]
  refine callG (callC_func (by kernel_rfl) (f34_c hm (by omega) ?_))
  simp only [push_cast, Int.cast_ofNat_Int, Int.reduceLE, Int.reduceLT, Int.reduceToNat, Int.reduceNeg, Int.reduceSub, iv, bv, Nat.reduceBEq, reduceCtorEq, Nat.reduceAdd, Nat.reduceLeDiff, Nat.reduceSub, Nat.reduceLT, Nat.reduceMul]
  repeat refine awp_seq ?_
  refine awp_region (by kernel_rfl) ?_
  simp only [push_cast, Int.cast_ofNat_Int, Int.reduceLE, Int.reduceLT, Int.reduceToNat, Int.reduceNeg, Int.reduceSub, iv, bv, Nat.reduceBEq, reduceCtorEq, Nat.reduceAdd, Nat.reduceLeDiff, Nat.reduceSub, Nat.reduceLT, Nat.reduceMul, hi1]
  refine hR _ ⟨hlt, trivial, ?_⟩
  rw [take_snoc hxx, bitsL_snoc]
  exact (round_keep (keeps_rfl rfl rfl) (by simp only [push_cast, Int.cast_ofNat_Int, Int.reduceLE, Int.reduceLT, Int.reduceToNat, Int.reduceNeg, Int.reduceSub, iv, bv, Nat.reduceBEq, reduceCtorEq, Nat.reduceAdd, Nat.reduceLeDiff, Nat.reduceSub, Nat.reduceLT, Nat.reduceMul]; simp [exists_wk, Wk.refl]))
 ·have hi : i = xs.length := by omega
  subst hi
  repeat refine awp_seq ?_
  refine awp_exit ?_
  simp only [push_cast, Int.cast_ofNat_Int, Int.reduceLE, Int.reduceLT, Int.reduceToNat, Int.reduceNeg, Int.reduceSub, iv, bv, Nat.reduceBEq, reduceCtorEq, Nat.reduceAdd, Nat.reduceLeDiff, Nat.reduceSub, Nat.reduceLT, Nat.reduceMul]
  repeat refine awp_seq ?_
  refine awp_region (by kernel_rfl) ?_
  simp only [push_cast, Int.cast_ofNat_Int, Int.reduceLE, Int.reduceLT, Int.reduceToNat, Int.reduceNeg, Int.reduceSub, iv, bv, Nat.reduceBEq, reduceCtorEq, Nat.reduceAdd, Nat.reduceLeDiff, Nat.reduceSub, Nat.reduceLT, Nat.reduceMul]
  repeat refine awp_seq ?_
  refine awp_ret ?_
  simp only [push_cast, Int.cast_ofNat_Int, Int.reduceLE, Int.reduceLT, Int.reduceToNat, Int.reduceNeg, Int.reduceSub, iv, bv, Nat.reduceBEq, reduceCtorEq, Nat.reduceAdd, Nat.reduceLeDiff, Nat.reduceSub, Nat.reduceLT, Nat.reduceMul]
  rw [List.take_length]
  exact endOf_here hk
end
end Go.Gg
