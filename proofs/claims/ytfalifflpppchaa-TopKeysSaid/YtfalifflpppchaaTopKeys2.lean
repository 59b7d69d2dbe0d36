/- A part of the proof. -/
import Derived.Test.YtfalifflpppchaaTopKeys1
import Derived.Orders
set_option linter.all false
set_option maxRecDepth 4000
set_option maxHeartbeats 1000000
namespace Go.Gg
open Go.Conc
structure Kept2 (X Y : Prop) : Type where
 n : Nat
def zlU (b want : Bool) (X Y : Prop) (_t : Kept2 X Y) : Prop:=(b = want -> X) /\ (b = !want -> Y)
theorem znD {b want : Bool} {X Y : Prop} {t : Kept2 X Y} (h1 : b = want -> X) (h2 : b = !want -> Y) : zlU b want X Y t:=⟨h1,h2⟩
theorem zpL (X Y : Prop) (t : Kept2 X Y) : zlU true true X Y t = X:=by simp [zlU]
theorem zpM (X Y : Prop) (t : Kept2 X Y) : zlU true false X Y t = Y:=by simp [zlU]
theorem zpN (X Y : Prop) (t : Kept2 X Y) : zlU false true X Y t = Y:=by simp [zlU]
theorem zpO (X Y : Prop) (t : Kept2 X Y) : zlU false false X Y t = X:=by simp [zlU]
section
variable (lv : Bool) (P : Program)
def AppOwn (H : List AObj) (k : AV -> List AObj -> Prop) (id off n c0 m sz : Nat) (elem : TypeId) (l' : List AV) : Prop:=off = 0 /\ c0 < n /\ l'.length = m * sz /\ n + m <= 2 ^ 30 /\ (∀ a ∈ l',a.leaf = true) /\ match H[id]? with
 | some (.own sz' l el) => sz' = sz /\ el = elem /\ l.length = n * sz /\ k (.osl H.length 0 (n + m) 0) (H.set id .gone ++ [.own sz (l ++ l') elem])
 | _ => False
def AV.asRow (a : AV) (kO : Nat -> Nat -> Nat -> Nat -> Prop) (k : Nat -> List AV -> End -> Prop) : Prop:=match a with
 | .osl id off n c => kO id off n c
 | .sl n l e => k n l e
 | _ => False
theorem zm2 {a : AV} {kO : Nat -> Nat -> Nat -> Nat -> Prop} {k : Nat -> List AV -> End -> Prop} (h : a.asRow kO k) : (∃ id off n c,a = .osl id off n c /\ kO id off n c) \/ ∃ n l e,a = .sl n l e /\ k n l e:=by
 unfold AV.asRow at h;split at h
 ·exact .inl ⟨_,_,_,_,rfl,h⟩
 ·exact .inr ⟨_,_,_,rfl,h⟩
 ·exact h.elim
def AStep (s : AS) (o : Oper) (next : AS -> Prop) (bad : AV -> AS -> Prop) : Prop:=match o.op with
 | .box t x => one1 (s.ev x) fun a => one1 a.parts fun l => next ((⟨s.T,s.H ++ [.cells l t]⟩ : AS).put o.dst (.op s.H.length 0))
 | .alloc t => one1 (zh2 P t) fun z => next ((⟨s.T,s.H ++ [.cells (zmj z) t]⟩ : AS).put o.dst (.op s.H.length 0))
 | .store t x y => one1 (s.ev x) fun p => one1 (s.ev y) fun a => one1 a.parts fun lp => p.asOp fun id off => match s.H[id]? with
  | some (.cells l el) => (one1 (Ty P t) fun x => lp.length = x.1) /\ off + lp.length <= l.length /\ (∀ a ∈ lp,a.leaf = true) /\ next ((⟨s.T,s.H.set id (.cells (putAt l off lp) el)⟩ : AS).put o.dst (.val undef))
  | some (.part p l el) => p <= off /\ (one1 (Ty P t) fun x => lp.length = x.1) /\ off + lp.length <= l.length /\ (∀ a ∈ lp,a.leaf = true) /\ next ((⟨s.T,s.H.set id (.part p (putAt l off lp) el)⟩ : AS).put o.dst (.val undef))
  | some (.own p l el) => (one1 (Ty P t) fun x => lp.length = x.1) /\ off + lp.length <= l.length /\ (∀ a ∈ lp,a.leaf = true) /\ next ((⟨s.T,s.H.set id (.own p (putAt l off lp) el)⟩ : AS).put o.dst (.val undef))
  | _ => False
 | .makeMap _ none => next ((⟨s.T,s.H ++ [.obj (.map #[] 0)]⟩ : AS).put o.dst (.mp s.H.length))
 | .makeSlice t x y => one1 (znK P t) fun (e,sz,z) => one1 (s.ev x) fun a => one1 (s.ev y) fun b => a.asInt fun _ n => b.asInt fun _ n' => n' = n /\ 0 <= n /\ n <= 2 ^ 30 /\ next ((⟨s.T,s.H ++ [.cells (zfA z (n.toNat * sz)) e]⟩ : AS).put o.dst (.osl s.H.length 0 n.toNat n.toNat))
 | .mapUpdate t m k x => one1 (znb P t) fun (kt,_) => one1 (s.ev m) fun p => one1 (s.ev k) fun a => one1 (s.ev x) fun b => one1 a.raw fun K => one1 b.raw fun X => p.asMp fun id => match s.H[id]? with
  | some (.obj (.map es ck)) => Sure P (Instr.checkKey false 10000 kt K) () /\ ∃ fd,Sure P (Instr.findKey kt K es.toList) fd /\ (∀ i v,fd = some (i,v) -> Instr.sameBits 10000 (((es[i]?).map (·.key)).getD K) K = true) /\ next ((⟨s.T,s.H.set id (.obj (zne es ck K X fd))⟩ : AS).put o.dst (.val undef))
  | _ => False
 | .range t x => one1 (znb P t) fun _ => one1 (s.ev x) fun p => p.asMp fun m => match s.H[m]? with
  | some (.obj (.map _ ck)) => next ((⟨s.T,s.H ++ [.iter m ck #[] ck]⟩ : AS).put o.dst (.op s.H.length 0))
  | _ => False
 | .next it false => one1 (s.ev it) fun p => p.asOp fun id off => off = 0 /\ match s.H[id]? with
  | some (.iter m since seen stepped) => match s.H[m]? with
   | some (.obj (.map es ck)) => (es.all (fun e => decide (e.born >= stepped)) = false \/ es.isEmpty = true \/ seen.isEmpty = true) /\
    (∀ e ∈ es,e.born ∉ seen -> next ((⟨s.T,s.H.set id (.iter m since (seen.push e.born) ck)⟩ : AS).put o.dst (.tup [.val (.bool true),AV.of e.key,AV.of e.val]))) /\
    ((∀ e ∈ es,e.born < since -> e.born ∈ seen) -> next (s.put o.dst (.tup [.val (.bool false)])))
   | _ => False
  | _ => False
 | .panic x => one1 (s.ev x) fun a => match a with
  | .ifc t av => bad (.ifc t av) s
  | _ => False
 | .binOp op t x (.const (.slice none 0 0)) _ => (op = .eql \/ op = .neq) /\ one1 (zgX P t) fun _ => one1 (s.ev x) fun a => one1 a.len fun n => ∀ b : Bool,(0 < n -> b = false) -> next (s.put o.dst (.val (.bool (if op == .neq then !b else b))))
 | .call c => match c.callee with
  | .builtin .append => match c.args.toList,c.argTypes.toList with
   | [x,y],[t,t'] => one1 (AppOf P t t') fun (elem,sz,_) => one1 (s.ev x) fun a => one1 (s.ev y) fun b => a.asRow (fun id off n c0 => one1 (s.src sz b) fun (m,l') => AppOwn s.H (fun b H' => next ((⟨s.T,H'⟩ : AS).put o.dst b)) id off n c0 m sz elem l') fun n l e => one1 (s.src sz b) fun (m,l') => l.length = n * sz /\ l'.length = m * sz /\ n + m <= 2 ^ 30 /\ zm6 s o.dst next n m sz elem l l' e
   | _,_ => False
  | .builtin .copy => match c.args.toList,c.argTypes.toList with
   | [x,y],[t,_] => one1 (zgX P t) fun (_,sz) => one1 (s.ev x) fun a => one1 (s.ev y) fun b => match a with
    | .osl id off n _ => match s.H[id]? with
     | some (.cells l el) => one1 (s.src sz b) fun (m,l') => l'.length = m * sz /\ off + min m n * sz <= l.length /\ (∀ a ∈ l',a.leaf = true) /\ next ((⟨s.T,s.H.set id (.cells (putAt l off (l'.take (min m n * sz))) el)⟩ : AS).put o.dst (.val (.int .i64 (min m n : Nat))))
     | _ => False
    | _ => False
   | _,_ => False
  | .builtin .delete => match c.args.toList,c.argTypes.toList with
   | [m,k],[t,_] => one1 (znb P t) fun (kt,_) => one1 (s.ev m) fun p => one1 (s.ev k) fun a => one1 a.raw fun K => p.asMp fun id => match s.H[id]? with
    | some (.obj (.map es ck)) => Sure P (Instr.checkKey es.isEmpty 10000 kt K) () /\ ∃ fd,Sure P (Instr.findKey kt K es.toList) fd /\ next ((⟨s.T,s.H.set id (.obj (.map (znk es fd) ck))⟩ : AS).put o.dst (.val undef))
    | _ => False
   | _,_ => False
  | .value x => one1 (s.ev x) fun f => one1 (evs s c.args.toList) fun zas => zr6 lv P f s.H zas (fun b H' => next ((⟨s.T,H'⟩ : AS).put o.dst b)) (fun pv H' => bad pv ⟨s.T,H'⟩) ⟨0⟩
  | .invoke x name => one1 (s.ev x) fun f => one1 (evs s c.args.toList) fun zas => InvG lv P f name s.H zas (fun b H' => next ((⟨s.T,H'⟩ : AS).put o.dst b)) (fun pv H' => bad pv ⟨s.T,H'⟩) ⟨0⟩
  | _ => AOp P s o fun av => next (s.put o.dst av)
 | _ => AOp P s o fun av => next (s.put o.dst av)
def AOps (all : Array Oper) : List Oper -> AS -> (AS -> Prop) -> (AV -> AS -> Prop) -> Prop
 | [],s,next,_ => next s
 | o :: rest,s,next,bad => match o.guard with
  | none => AStep lv P s o (fun s' => AOps all rest s' next bad) bad
  | some (j,want) => one1 ((all[j]?).bind (·.dst)) fun d => one1 (look s.T d) fun a => a.asBool fun b => zlU b want (AStep lv P ⟨(d,.val (.bool want)) :: s.T,s.H⟩ o (fun s' => AOps all rest s' next bad) bad) (AOps all rest ((⟨(d,.val (.bool !want)) :: s.T,s.H⟩ : AS).put o.dst (.val undef)) next bad) ⟨0⟩
end
section
variable {lv : Bool} {P : Program} {r : Option Nat} {s : AS}
theorem zmt {c : Call} {x y : TypeId} (h : c.argTypes.toList = [x,y]) : c.argTypes = #[x,y]:=by
 apply Array.ext'; simpa using h
theorem AStep.sound {o : Oper} {next : AS -> Prop} {bad : AV -> AS -> Prop} (h : AStep lv P s o next bad) : Step lv P r o s next bad:=by
 have quiet : (AOp P s o fun av => next (s.put o.dst av)) -> Step lv P r o s next bad:=fun h => by
  obtain ⟨av,h1,h2⟩:=h.sound (lv:=lv) (r:=r);exact h1.step h2
 unfold AStep at h;split at h
 ·rename_i t x ho;obtain ⟨a,h1,h⟩:=h.out;obtain ⟨l,h2,h⟩:=h.out;exact zh4 ho h1 h2 h
 ·rename_i t ho;obtain ⟨z,h1,h⟩:=h.out;exact ze6 ho h1 h
 ·rename_i t x y ho;obtain ⟨p,h1,hA⟩:=h.out;obtain ⟨a,h2,hB⟩:=hA.out;obtain ⟨lp,h3,hC⟩:=hB.out;obtain ⟨id,off,e1,hD⟩:=zdx hC;clear h hA hB hC;subst e1;split at hD
  ·rename_i l el hk;obtain ⟨q1,q2,q3,q4⟩:=hD;obtain ⟨⟨n,g⟩,q5,q6⟩:=q1.out;exact ze5 ho q5 h1 hk h2 h3 q6 q2 q3 q4
  ·rename_i p l el hk;obtain ⟨q0,q1,q2,q3,q4⟩:=hD;obtain ⟨⟨n,g⟩,q5,q6⟩:=q1.out;exact zg9 ho q5 h1 hk q0 h2 h3 q6 q2 q3 q4
  ·rename_i p l el hk;obtain ⟨q1,q2,q3,q4⟩:=hD;obtain ⟨⟨n,g⟩,q5,q6⟩:=q1.out;exact zmU ho q5 h1 hk h2 h3 q6 q2 q3 q4
  ·exact hD.elim
 ·rename_i t ho;exact zgf ho h
 ·rename_i t x y ho;obtain ⟨⟨e,sz,z⟩,h1,hA⟩:=h.out;obtain ⟨a,h2,hB⟩:=hA.out;obtain ⟨b,h3,hC⟩:=hB.out;obtain ⟨j,n,e1,hD⟩:=zbg hC;obtain ⟨j',n',e2,hE⟩:=zbg hD;clear h hA hB hC hD;subst e1 e2;obtain ⟨e3,h4,h5,h6⟩:=hE;subst e3;obtain ⟨m,rfl⟩ : ∃ m : Nat,n' = m:=⟨n'.toNat,by omega⟩;exact zeY ho h1 h2 h3 (by omega) (by simpa using h6)
 ·rename_i t m k x ho;obtain ⟨⟨kt,et⟩,h1,hA⟩:=h.out;obtain ⟨p,h2,hB⟩:=hA.out;obtain ⟨a,h3,hC⟩:=hB.out;obtain ⟨b,h4,hD⟩:=hC.out;obtain ⟨K,h5,hE⟩:=hD.out;obtain ⟨X,h6,hF⟩:=hE.out;obtain ⟨id,e1,hG⟩:=zfX hF;clear h hA hB hC hD hE hF;subst e1;split at hG
  ·rename_i es ck hH;obtain ⟨q1,fd,q2,q3,q4⟩:=hG;exact zeX (.inl ho) h1 h2 h3 h4 h5 h6 hH q1 q2 q3 q4
  ·exact hG.elim
 ·rename_i t x ho;obtain ⟨⟨kt,et⟩,h1,hA⟩:=h.out;obtain ⟨p,h2,hB⟩:=hA.out;obtain ⟨m,e1,hC⟩:=zfX hB;clear h hA hB;subst e1;split at hC
  ·rename_i es ck hH;exact ziG ho h1 h2 hH hC
  ·exact hC.elim
 ·rename_i it ho;obtain ⟨p,h1,hA⟩:=h.out;obtain ⟨id,off,e1,hB⟩:=zdx hA;clear h hA;subst e1;obtain ⟨e1,hC⟩:=hB;subst e1;split at hC
  ·rename_i m since seen stepped hI;split at hC
   ·rename_i es ck hM;exact zj0 ho h1 hI hM hC.1 hC.2.1 hC.2.2
   ·exact hC.elim
  ·exact hC.elim
 ·rename_i x ho;obtain ⟨a,h1,hA⟩:=h.out;split at hA
  ·exact ziH ho h1 hA
  ·exact hA.elim
 ·rename_i op t x yt ho;obtain ⟨hop,hA⟩:=h;obtain ⟨d,h1,hB⟩:=hA.out;obtain ⟨a,h2,hC⟩:=hB.out;obtain ⟨n,e1,hD⟩:=hC.out;exact ziF ho hop h2 e1 h1 hD
 ·rename_i c ho;split at h
  ·rename_i hcl;split at h
   ·rename_i x y t t' ha ht;obtain ⟨⟨elem,sz,z⟩,h1,hA⟩:=h.out;obtain ⟨a,h2,hB⟩:=hA.out;obtain ⟨b,h3,hC⟩:=hB.out;rcases zm2 hC with ⟨id,off,n,c0,e1,hD⟩ | ⟨n,l,e,e1,hD⟩
    ·clear h hA hB hC;subst e1;obtain ⟨⟨m,l'⟩,h4,rfl,g2,g3,g4,g5,hE⟩:=hD.out;split at hE
     ·rename_i hk;obtain ⟨rfl,rfl,g6,g7⟩:=hE;exact zmN ho hcl (zmI ha) (zmt ht) h1 h2 g2 hk rfl h3 h4 g6 g3 g4 g5 g7
     ·exact hE.elim
    ·clear h hA hB hC;subst e1;obtain ⟨⟨m,l'⟩,h4,h5,h6,h7,h8⟩:=hD.out;exact zcc ho hcl (zmI ha) (zmt ht) h1 h2 h3 h4 h5 h6 h7 h8
   ·exact h.elim
  ·rename_i hcl;split at h
   ·rename_i x y t t' ha ht;obtain ⟨⟨elem,sz⟩,h1,hA⟩:=h.out;obtain ⟨a,h2,hB⟩:=hA.out;obtain ⟨b,h3,hC⟩:=hB.out;clear h hA hB;split at hC
    ·split at hC
     ·rename_i hk;obtain ⟨⟨m,l'⟩,h4,h5,h6,h7,h8⟩:=hC.out;exact zj1 ho hcl (zmI ha) (zmt ht) h1 h2 hk h3 h4 h5 h6 h7 h8
     ·exact hC.elim
    ·exact hC.elim
   ·exact h.elim
  ·rename_i hcl;split at h
   ·rename_i m k t t' ha ht;obtain ⟨⟨kt,et⟩,h1,hA⟩:=h.out;obtain ⟨p,h2,hB⟩:=hA.out;obtain ⟨a,h3,hC⟩:=hB.out;obtain ⟨K,h4,hD⟩:=hC.out;obtain ⟨id,e1,hE⟩:=zfX hD;clear h hA hB hC hD;subst e1;split at hE
    ·rename_i es ck hH;obtain ⟨q1,fd,q2,q3⟩:=hE;exact zha ho hcl (zmI ha) (zmt ht) h1 h2 h3 h4 hH q1 q2 q3
    ·exact hE.elim
   ·exact h.elim
  ·rename_i x hcl;obtain ⟨f,h1,hA⟩:=h.out;obtain ⟨zas,h2,hB⟩:=hA.out;exact zgg ho hcl h1 h2 hB
  ·rename_i x name hcl;obtain ⟨f,h1,hA⟩:=h.out;obtain ⟨zas,h2,hB⟩:=hA.out;exact zh3 ho hcl h1 h2 hB
  ·exact quiet h
 ·exact quiet h
structure At (E : Env) (V : View) (s : AS) (a : Act) (nt : Nat) : Prop where
 conc : Conc E V s.H
 tok : TOk E s.T a.tmps
 size : a.tmps.size = nt
theorem Kept.refl (E : Env) (V : View) (a : Act) : Kept E E V V a a:=⟨Env.Le.refl E,rfl,rfl,rfl,rfl⟩
theorem Kept.trans {E E' E'' : Env} {V V' V'' : View} {a a' a'' : Act} (h : Kept E E' V V' a a') (k : Kept E' E'' V' V'' a' a'') : Kept E E'' V V'' a a'' :=
 ⟨h.le.trans k.le,k.size.trans h.size,k.defers.trans h.defers,k.role.trans h.role,k.deaf.trans h.deaf⟩
inductive AEx where
 | normal
 | exit (id : Nat)
 | goto (l : Nat)
 | ret
 | panic (pv : AV)
def ExDen (E : Env) : AEx -> Ex -> Prop
 | .normal,.normal => True
 | .exit i,.exit j => i = j
 | .goto i,.goto j => i = j
 | .ret,.ret => True
 | .panic pv,.panic ch => ∃ v,ch = [{ v,recovered:=false }] /\ Den E pv v
 | _,_ => False
def AWP (lv : Bool) (P : Program) (r : Option Nat) (nt : Nat) (c : Code) (s : AS) (Φ : AEx -> AS -> Prop) : Prop :=
 ∀ (E : Env) (V : View) (a : Act) (Q : Ex -> Act -> View -> Prop),At E V s a nt -> (∀ ae e E' V' a' s',Kept E E' V V' a a' -> At E' V' s' a' nt -> ExDen E' ae e -> Φ ae s' -> Q e a' V') -> WP lv P r c Q a V
theorem zb3 {nt : Nat} {all : Array Oper} {Φ : AEx -> AS -> Prop} (hdst : ∀ o ∈ all,∀ d,o.dst = some d -> d < nt) (hdef : ∀ o ∈ all,r = none \/ zk9 o.op = false) : ∀ (n k : Nat) (s : AS),k + n = all.size -> AOps lv P all (all.toList.drop k) s (Φ .normal) (fun pv s => Φ (.panic pv) s) ->
  ∀ (E : Env) (V : View) (a : Act) (Q : Ex -> Act -> View -> Prop),At E V s a nt -> (∀ ae e E' V' a' s',Kept E E' V V' a a' -> At E' V' s' a' nt -> ExDen E' ae e -> Φ ae s' -> Q e a' V') -> zie lv P r all Q (List.range' k n) a V
 | 0,k,s,hk,h,E,V,a,Q,hat,hQ => by
  have : all.toList.drop k = []:=by simp; omega
  rw [this] at h;exact hQ .normal .normal E V a s (Kept.refl E V a) hat trivial h
 | n + 1,k,s,hk,h,E,V,a,Q,hat,hQ => by
  have hlt : k < all.size:=by omega
  have hd : all.toList.drop k = all[k] :: all.toList.drop (k + 1):=by
   rw [List.drop_eq_getElem_cons (by simpa using hlt)]; simp
  rw [hd] at h;have hmem : all[k] ∈ all:=Array.getElem_mem hlt;have ho : all[k]? = some all[k]:=Array.getElem?_eq_getElem hlt;simp only [List.range'_succ,zie,ho];have go : ∀ s : AS,At E V s a nt -> AStep lv P s all[k] (fun s' => AOps lv P all (all.toList.drop (k + 1)) s' (Φ .normal) (fun pv s => Φ (.panic pv) s)) (fun pv s => Φ (.panic pv) s) -> OpWP lv P r all[k] a V (zie lv P r all Q (List.range' (k + 1) n)) Q:=fun s hat h => by
   refine h.sound (lv:=lv) (r:=r) E V a _ Q hat.conc hat.tok (fun d e => by rw [hat.size]; exact hdst _ hmem d e) (hdef _ hmem) (fun E' V' a' s' hk' hc' ht' hn => ?_) (fun E' V' s' pv v hk' hc' ht' hden hb => ?_)
   ·exact zb3 hdst hdef n (k + 1) s' (by omega) hn E' V' a' Q ⟨hc',ht',hk'.size.trans hat.size⟩ (fun ae e E'' V'' a'' s'' hk'' hat'' he hΦ => hQ ae e E'' V'' a'' s'' (hk'.trans hk'') hat'' he hΦ)
   ·exact hQ (.panic pv) (.panic _) E' V' a s' hk' ⟨hc',ht',hat.size⟩ ⟨v,rfl,hden⟩ hb
  simp only [AOps] at h;split at h
  ·rename_i hg;have hw : Region.wanted all[k] (yielded all a.tmps) = true:=(by unfold Region.wanted; rw [hg]);rw [if_pos hw];exact .inl (go s hat h)
  ·rename_i j want hg;obtain ⟨d,hdj,h⟩:=h.out;obtain ⟨av,h1,h⟩:=h.out;obtain ⟨b,rfl,h2,h3⟩:=zbJ h;have hv:=(hat.tok d _ h1).2;have hy : yielded all a.tmps j = some b:=by
    obtain ⟨oj,hoj,hdd⟩:=Option.bind_eq_some_iff.1 hdj;generalize hx : a.tmps.getD d undef = x at hv;cases hv;have hlt' : d < a.tmps.size:=(hat.tok d _ h1).1;rw [Array.getD_eq_getD_getElem?,Array.getElem?_eq_getElem hlt'] at hx;simp only [Option.getD_some] at hx;simp [yielded,hoj,hdd,Array.getElem?_eq_getElem hlt',hx]
   have know : ∀ b',b = b' -> At E V ⟨(d,.val (.bool b')) :: s.T,s.H⟩ a nt:=fun b' hb' => by
    subst hb';refine ⟨hat.conc,fun t x e => ?_,hat.size⟩;simp only [look] at e;split at e
    ·rename_i e'; subst e'; cases e; exact hat.tok d _ h1
    ·exact hat.tok t x e
   by_cases hb : b = want
   ·have hw : Region.wanted all[k] (yielded all a.tmps) = true:=(by unfold Region.wanted; rw [hg]; simp [hy,hb]);rw [if_pos hw];exact .inl (go _ (know want hb) (h2 hb))
   ·have hw : ¬ Region.wanted all[k] (yielded all a.tmps) = true:=(by unfold Region.wanted; rw [hg]; simp [hy,hb]);rw [if_neg hw];have hb' : b = !want:=(by cases b <;> cases want <;> simp_all);have h3':=h3 hb';have hat:=know _ hb';exact zb3 hdst hdef n (k + 1) ((⟨(d,.val (.bool !want)) :: s.T,s.H⟩ : AS).put all[k].dst (.val undef)) (by omega) h3' E V (a.put all[k].dst undef) Q
     ⟨by rw [zbx]; exact hat.conc,hat.tok.putd (fun d e => by rw [hat.size]; exact hdst _ hmem d e) (.val undef),by rw [zaA]; exact hat.size⟩
     (fun ae e E'' V'' a'' s'' hk'' hat'' he hΦ => hQ ae e E'' V'' a'' s'' ⟨hk''.le,hk''.size.trans (zaA _ _ _),hk''.defers.trans (zaw _ _ _),hk''.role,hk''.deaf⟩ hat'' he hΦ)
def dstsOk (nt : Nat) (ops : Array Oper) : Bool:=ops.all fun o => (o.dst.all (· < nt)) && !zk9 o.op
theorem dstsOk.out {nt : Nat} {ops : Array Oper} (hd : dstsOk nt ops = true) {o : Oper} (ho : o ∈ ops) : (∀ d,o.dst = some d -> d < nt) /\ zk9 o.op = false:=by
 have:=(Array.all_eq_true_iff_forall_mem.1 hd) o ho;simp only [Bool.and_eq_true,Bool.not_eq_true'] at this;exact ⟨fun d e => by have h1:=this.1; rw [e] at h1; simpa using h1,this.2⟩
theorem zab {nt id : Nat} {ops : Array Oper} {Φ : AEx -> AS -> Prop} (hd : dstsOk nt ops = true) (h : AOps lv P ops ops.toList s (Φ .normal) (fun pv s => Φ (.panic pv) s)) : AWP lv P r nt (.region id ops false) s Φ:=by
 intro E V a Q hat hQ;refine zda ?_;rw [List.range_eq_range'];exact zb3 (Φ:=Φ) (fun o ho d e => (dstsOk.out hd ho).1 d e) (fun o ho => .inr (dstsOk.out hd ho).2) ops.size 0 s (by omega) (by simpa using h) E V a Q hat hQ
theorem zah {nt : Nat} {Φ : AEx -> AS -> Prop} (h : Φ .normal s) : AWP lv P r nt .skip s Φ:=fun E V a _ hat hQ => zfm (hQ .normal _ E V a s (Kept.refl E V a) hat trivial h)
theorem zbQ {nt l : Nat} {Φ : AEx -> AS -> Prop} (h : Φ .normal s) : AWP lv P r nt (.label l) s Φ:=fun E V a _ hat hQ => zoR (hQ .normal _ E V a s (Kept.refl E V a) hat trivial h)
theorem zaq {nt id : Nat} {Φ : AEx -> AS -> Prop} (h : Φ (.exit id) s) : AWP lv P r nt (.exit id) s Φ:=fun E V a _ hat hQ => zfn (hQ (.exit id) _ E V a s (Kept.refl E V a) hat rfl h)
theorem zai {nt : Nat} {Φ : AEx -> AS -> Prop} (h : Φ .ret s) : AWP lv P r nt .ret s Φ:=fun E V a _ hat hQ => zqt (hQ .ret _ E V a s (Kept.refl E V a) hat trivial h)
def AEx.then (next : AS -> Prop) (Φ : AEx -> AS -> Prop) : AEx -> AS -> Prop
 | .normal,s => next s
 | e,s => Φ e s
theorem ExDen.mono {E E' : Env} (h : E.Le E') {ae : AEx} {e : Ex} (k : ExDen E ae e) : ExDen E' ae e:=by
 cases ae <;> cases e <;> first | exact k | (obtain ⟨v,h1,h2⟩:=k; exact ⟨v,h1,h2.mono h⟩)
theorem zaa {nt : Nat} {x y : Code} {Φ : AEx -> AS -> Prop} (h : AWP lv P r nt x s (AEx.then (fun s' => AWP lv P r nt y s' Φ) Φ)) : AWP lv P r nt (.seq x y) s Φ:=by
 intro E V a Q hat hQ;refine zaV (h E V a _ hat fun ae e E' V' a' s' hk hat' he hΦ => ?_);cases ae <;> cases e <;> first
  | exact he.elim
  | exact hΦ E' V' a' Q hat' fun ae e E'' V'' a'' s'' hk' hat'' he' hΦ' => hQ ae e E'' V'' a'' s'' (hk.trans hk') hat'' he' hΦ'
  | exact hQ _ _ E' V' a' s' hk hat' he hΦ
theorem zp4 {nt : Nat} {c : Operand} {x y : Code} {b : Bool} {Φ : AEx -> AS -> Prop} (hc : s.ev c = some (.val (.bool b))) (h1 : b = true -> AWP lv P r nt x s Φ) (h2 : b = false -> AWP lv P r nt y s Φ) : AWP lv P r nt (.cond c x y) s Φ:=by
 intro E V a Q hat hQ;have hv:=Den.ev hat.tok hc;generalize hx : a.eval c = v at hv;cases hv;refine zjN hx ?_;cases b with
 | true => exact h1 rfl E V a Q hat hQ
 | false => exact h2 rfl E V a Q hat hQ
def AEx.inBlock (id : Nat) (Φ : AEx -> AS -> Prop) : AEx -> AS -> Prop
 | .exit id',s => if id' = id then Φ .normal s else Φ (.exit id') s
 | e,s => Φ e s
theorem zag {nt id : Nat} {c : Code} {Φ : AEx -> AS -> Prop} (h : AWP lv P r nt c s (AEx.inBlock id Φ)) : AWP lv P r nt (.block id c) s Φ:=by
 intro E V a Q hat hQ;refine zbS (h E V a _ hat fun ae e E' V' a' s' hk hat' he hΦ => ?_);cases ae <;> cases e <;> first
  | exact he.elim
  |(rename_i i j
    have e : i = j:=he;subst e;by_cases hid : i = id
    ·simp only [Ex.inBlock,hid,if_true]; simp only [AEx.inBlock,hid,if_true] at hΦ; exact hQ .normal _ E' V' a' s' hk hat' trivial hΦ
    ·simp only [Ex.inBlock,hid,if_false]; simp only [AEx.inBlock,hid,if_false] at hΦ; exact hQ (.exit i) _ E' V' a' s' hk hat' rfl hΦ)
  | exact hQ _ _ E' V' a' s' hk hat' he hΦ
theorem AWP.mono {nt : Nat} {c : Code} {Φ Φ' : AEx -> AS -> Prop} (h : AWP lv P r nt c s Φ) (hm : ∀ e s,Φ e s -> Φ' e s) : AWP lv P r nt c s Φ':=fun E V a Q hat hQ =>
 h E V a Q hat fun ae e E' V' a' s' hk hat' he hΦ => hQ ae e E' V' a' s' hk hat' he (hm _ _ hΦ)
def Wk (b a : AV) : Prop:=∀ E v,Den E b v -> Den E a v
theorem Wk.refl (a : AV) : Wk a a:=fun _ _ h => h
theorem zaK (n : Nat) (l : List AV) (e : End) : Wk (.sl n l e) (.sl n l .shut):=fun _ _ h => by
 cases h with
 | sl b o cap f hc he h1 h2 => exact .sl b o cap f hc trivial h1 h2
 | nil he => exact .nil trivial
structure AS.Sub (s s' : AS) : Prop where
 tok : ∀ t a,look s'.T t = some a -> ∃ b,look s.T t = some b /\ Wk b a
 H : s.H = s'.H
theorem At.sub {E : Env} {V : View} {s s' : AS} {a : Act} {nt : Nat} (h : At E V s a nt) (hl : s.Sub s') : At E V s' a nt :=
 ⟨by rw [<- hl.H]; exact h.conc,fun t x e => by obtain ⟨b,h1,h2⟩:=hl.tok t x e; exact ⟨(h.tok t b h1).1,h2 _ _ (h.tok t b h1).2⟩,h.size⟩
theorem ziu {lv : Bool} {P : Program} {r : Option Nat} {nt : Nat} {c : Code} {s s' : AS} {Φ : AEx -> AS -> Prop} (hl : s.Sub s') (h : AWP lv P r nt c s' Φ) : AWP lv P r nt c s Φ:=fun E V a Q hat hQ => h E V a Q (hat.sub hl) hQ
inductive Lt (n : Nat) : AV -> Prop
 | val (x : Value) : Lt n (.val x)
 | agg {l : List AV} (h : ∀ a ∈ l,Lt n a) : Lt n (.agg l)
 | tup {l : List AV} (h : ∀ a ∈ l,Lt n a) : Lt n (.tup l)
 | sl {m : Nat} {l : List AV} {e : End} (he : ∀ k,e = .opn k -> k < n) (h : ∀ a ∈ l,Lt n a) : Lt n (.sl m l e)
 | osl {id off m cap : Nat} (h : id < n) : Lt n (.osl id off m cap)
 | rp {l : List AV} (h : ∀ a ∈ l,Lt n a) : Lt n (.rp l)
 | op {id off : Nat} (h : id < n) : Lt n (.op id off)
 | fn {f : Fn} {first caps : List AV} (h1 : ∀ a ∈ first,Lt n a) (h2 : ∀ a ∈ caps,Lt n a) : Lt n (.fn f first caps)
 | ifc {t : TypeId} {x : AV} (h : Lt n x) : Lt n (.ifc t x)
 | mp {id : Nat} (h : id < n) : Lt n (.mp id)
theorem zbF {l : List AV} {a : AV} (h : a ∈ l) : ∃ i : Nat,l[i]? = some a:=List.mem_iff_getElem?.1 h
theorem Den.lt {E : Env} {a : AV} {v : Value} (d : Den E a v) : Lt E.n a:=by
 induction d with
 | val x => exact .val x
 | agg hs _ ih => exact .agg fun a h => (zbF h).elim fun i hi => ih i a hi
 | tup hs _ ih => exact .tup fun a h => (zbF h).elim fun i hi => ih i a hi
 | sl b o cap f hc he h1 _ ih => exact .sl (fun k e => by subst e; exact he.1) fun a h => (zbF h).elim fun i hi => ih i a hi
 | nil he => exact .sl (fun k e => by subst e; exact he.1) (by simp)
 | osl hi _ => exact .osl hi
 | rp b o f h1 _ ih => exact .rp fun a h => (zbF h).elim fun i hi => ih i a hi
 | op hi => exact .op hi
 | fn hs1 hs2 _ _ ih1 ih2 => exact .fn (fun a h => (zbF h).elim fun i hi => ih1 i a hi) (fun a h => (zbF h).elim fun i hi => ih2 i a hi)
 | ifc _ ih => exact .ifc ih
 | mp hi => exact .mp hi
theorem Lt.mono {n m : Nat} (h : n <= m) {a : AV} (d : Lt n a) : Lt m a:=by
 induction d with
 | val x => exact .val x
 | agg _ ih => exact .agg ih
 | tup _ ih => exact .tup ih
 | sl he _ ih => exact .sl (fun k e => Nat.lt_of_lt_of_le (he k e) h) ih
 | osl hi => exact .osl (Nat.lt_of_lt_of_le hi h)
 | rp _ ih => exact .rp ih
 | op hi => exact .op (Nat.lt_of_lt_of_le hi h)
 | fn _ _ ih1 ih2 => exact .fn ih1 ih2
 | ifc _ ih => exact .ifc ih
 | mp hi => exact .mp (Nat.lt_of_lt_of_le hi h)
theorem EndOk.trim {E : Env} {e : End} {a : Option Addr} {m cap n : Nat} (h : EndOk E e a m cap) (hk : ∀ k,e = .opn k -> k < n) : EndOk { E with n:=n } e a m cap:=by
 cases e with
 | exact => exact h
 | shut => trivial
 | opn k => exact ⟨hk k rfl,h.2⟩
theorem zcy {l : List AV} {i : Nat} {a : AV} (h : l[i]? = some a) : a ∈ l:=List.mem_iff_getElem?.2 ⟨i,h⟩
theorem Den.trim {E : Env} {a : AV} {v : Value} (d : Den E a v) {n : Nat} (h : Lt n a) : Den { E with n:=n } a v:=by
 induction d with
 | val x => exact .val x
 | agg hs _ ih => cases h with | agg h => exact .agg hs fun i a e => ih i a e (h a (zcy e))
 | tup hs _ ih => cases h with | tup h => exact .tup hs fun i a e => ih i a e (h a (zcy e))
 | sl b o cap f hc he h1 _ ih => cases h with | sl hk h => exact .sl b o cap f hc (he.trim hk) h1 fun i a e => ih i a e (h a (zcy e))
 | nil he => cases h with | sl hk h => exact .nil (he.trim hk)
 | osl hi hcap => cases h with | osl h => exact .osl (E:={ E with n:=n }) h hcap
 | rp b o f h1 _ ih => cases h with | rp h => exact .rp b o f h1 fun i a e => ih i a e (h a (zcy e))
 | op hi => cases h with | op h => exact .op (E:={ E with n:=n }) h
 | fn hs1 hs2 _ _ ih1 ih2 => cases h with | fn h1 h2 => exact .fn hs1 hs2 (fun i a e => ih1 i a e (h1 a (zcy e))) fun i a e => ih2 i a e (h2 a (zcy e))
 | ifc _ ih => cases h with | ifc h => exact .ifc (ih h)
 | mp hi => cases h with | mp h => exact .mp (E:={ E with n:=n }) h
def OLt (n : Nat) : AObj -> Prop
 | .cells l _ | .part _ l _ | .own _ l _ => ∀ a ∈ l,Lt n a
 | .iter m _ _ _ => m < n
 | .loop _ _ _ _ T _ _ _ _ df => (∀ t a,look T t = some a -> Lt n a) /\ df < n
 | _ => True
theorem OLt.mono {n m : Nat} (h : n <= m) {x : AObj} (k : OLt n x) : OLt m x:=by
 cases x with
 | cells l el => exact fun a ha => (k a ha).mono h
 | part p l el => exact fun a ha => (k a ha).mono h
 | own p l el => exact fun a ha => (k a ha).mono h
 | iter => exact Nat.lt_of_lt_of_le k h
 | loop => exact ⟨fun t a e => (k.1 t a e).mono h,Nat.lt_of_lt_of_le k.2 h⟩
 | _ => trivial
theorem ObjOk.olt {E : Env} {V : View} {k : Nat} {x : AObj} (h : ObjOk E V k x) : OLt E.n x:=by
 cases x with
 | cells l el => obtain ⟨⟨cs,_,h2⟩,_⟩:=h; exact fun a ha => (zbF ha).elim fun i hi => (h2.2 i a hi).lt
 | part p l el => obtain ⟨⟨cs,_,h2,_⟩,_⟩:=h; exact fun a ha => (zbF ha).elim fun i hi => (h2.2 i a hi).lt
 | own p l el => obtain ⟨⟨cs,_,h2,_⟩,_⟩:=h; exact fun a ha => (zbF ha).elim fun i hi => (h2.2 i a hi).lt
 | iter m a b c => exact h.1
 | loop => obtain ⟨⟨tmps,_,_,h2⟩,h3,_⟩:=h; exact ⟨fun t a e => (h2 t a e).2.lt,h3⟩
 | _ => trivial
theorem ObjOk.trim {E : Env} {V : View} {k n : Nat} {x : AObj} (h : ObjOk E V k x) (hl : OLt n x) : ObjOk { E with n:=n } V k x:=by
 cases x with
 | cells l el => obtain ⟨⟨cs,h1,h2⟩,h3⟩:=h; exact ⟨⟨cs,h1,h2.1,fun i a e => (h2.2 i a e).trim (hl a (zcy e))⟩,h3⟩
 | part p l el => obtain ⟨⟨cs,h1,h2,h4⟩,h3⟩:=h; exact ⟨⟨cs,h1,⟨h2.1,fun i a e => (h2.2 i a e).trim (hl a (zcy e))⟩,h4⟩,h3⟩
 | own p l el => obtain ⟨⟨cs,h1,h2,h4⟩,h3⟩:=h; exact ⟨⟨cs,h1,⟨h2.1,fun i a e => (h2.2 i a e).trim (hl a (zcy e))⟩,h4⟩,h3⟩
 | iter m a b c => exact ⟨hl,h.2⟩
 | tail m sz el => exact h
 | obj x => exact h
 | loop => obtain ⟨⟨tmps,h1,h2,h3⟩,h4,h5⟩:=h; exact ⟨⟨tmps,h1,h2,fun t a e => ⟨(h3 t a e).1,(h3 t a e).2.trim (hl.1 t a e)⟩⟩,hl.2,h5⟩
 | gone => trivial
 | main => exact h
def HOk (H : List AObj) : Prop:=∀ x ∈ H,OLt H.length x
theorem Conc.hok {E : Env} {V : View} {H : List AObj} (h : Conc E V H) : HOk H:=fun x hx => by
 obtain ⟨i,hi⟩:=List.mem_iff_getElem?.1 hx;rw [<- h.n]; exact (h.obj i x hi).olt
theorem zcP (E : Env) (n k : Nat) (x : AObj) : zfE { E with n:=n } k x = zfE E k x:=by cases x <;> rfl
theorem Conc.trim {E : Env} {V : View} {H G : List AObj} (h : Conc E V (H ++ G)) (hl : HOk H) : Conc { E with n:=H.length } V H:=by
 have hg : ∀ (k : Nat) x,H[k]? = some x -> (H ++ G)[k]? = some x:=fun k x e => by rw [List.getElem?_append_left (List.getElem?_eq_some_iff.1 e).1]; exact e
 refine ⟨h.I,rfl,fun k x e => (h.obj k x (hg k x e)).trim (hl x (List.mem_of_getElem? e)),fun i j x y b h1 h2 h3 h4 => ?_,fun g hgr => ?_,fun g hgr => ?_,h.top,fun b y hgr => ?_⟩
 ·rw [zcP] at h3 h4; exact h.inj i j x y b (hg i x h1) (hg j y h2) h3 h4
 ·obtain ⟨q0,q1,q2⟩:=h.group g hgr;exact ⟨q0,q1,fun k x e => by rw [zcP]; exact q2 k x (hg k x e)⟩
 ·obtain ⟨q0,q1,q2⟩:=h.chan g hgr;exact ⟨q0,q1,fun k x e => by rw [zcP]; exact q2 k x (hg k x e)⟩
 ·obtain ⟨q0,q1,q2⟩:=h.fr b y hgr;exact ⟨q0,q1,fun k x e => by rw [zcP]; exact q2 k x (hg k x e)⟩
structure AS.Cut (s s' : AS) : Prop where
 tok : ∀ t a,look s'.T t = some a -> ∃ b,look s.T t = some b /\ Wk b a /\ Lt s'.H.length a
 H : ∃ G,s.H = s'.H ++ G
 ok : HOk s'.H
theorem zfp {E : Env} {n m : Nat} (h1 : m <= n) (h2 : n <= E.n) {E0 : Env} (h : E0.Le E) (h0 : E0.n = m) : E0.Le { E with n:=n }:=⟨h.I,by show E0.n <= n; omega,h.blk,h.ver,h.room,h.fr,h.main⟩
theorem At.cut {E : Env} {V : View} {s s' : AS} {a : Act} {nt : Nat} (h : At E V s a nt) (hl : s.Cut s') : At { E with n:=s'.H.length } V s' a nt:=by
 obtain ⟨G,hG⟩:=hl.H;have hc:=h.conc;rw [hG] at hc;refine ⟨hc.trim hl.ok,fun t x e => ?_,h.size⟩;obtain ⟨b,h1,h2,h3⟩:=hl.tok t x e;exact ⟨(h.tok t b h1).1,(h2 _ _ (h.tok t b h1).2).trim h3⟩
theorem zp3 {nt : Nat} {α : Type} {lt : α -> α -> Prop} (wf : WellFounded lt) {c : Code} {Φ : AEx -> AS -> Prop} (inv : α -> AS) (ok : α -> Prop) (m : α) (h0 : s.Sub (inv m)) (hm : ok m) (hn : ∀ m,ok m -> s.H.length <= (inv m).H.length)
  (h : ∀ m,ok m -> AWP lv P r nt c (inv m) (AEx.then (fun s' => ∃ m',lt m' m /\ ok m' /\ (s'.Sub (inv m') \/ s'.Cut (inv m'))) Φ)) : AWP lv P r nt (.loop c) s Φ:=by
 intro E V a Q hat hQ;refine ze3 wf (I:=fun m a' V' => ok m /\ ∃ E',Kept E E' V V' a a' /\ At E' V' (inv m) a' nt) m ⟨hm,E,Kept.refl E V a,hat.sub h0⟩ fun m a' V' hI => ?_;obtain ⟨hok,E',hk,hat'⟩:=hI;refine h m hok E' V' a' _ hat' fun ae e E'' V'' a'' s'' hk' hat'' he hΦ => ?_;cases ae <;> cases e <;> first
  | exact he.elim
  |(obtain ⟨m',h1,h2,h3⟩:=hΦ
    rcases h3 with h3 | h3
    ·exact ⟨m',h1,h2,E'',hk.trans hk',hat''.sub h3⟩
    ·refine ⟨m',h1,h2,_,?_,hat''.cut h3⟩;have hk2:=hk.trans hk';obtain ⟨G,hG⟩:=h3.H;exact ⟨zfp (hn m' h2) (by rw [hat''.conc.n,hG]; simp) hk2.le hat.conc.n,hk2.size,hk2.defers,hk2.role,hk2.deaf⟩)
  | exact hQ _ _ E'' V'' a'' s'' (hk.trans hk') hat'' he hΦ
theorem zgZ {nt : Nat} {c : Code} {Φ : AEx -> AS -> Prop} (inv : Nat -> Nat -> AS -> Prop)
  (start : ∃ n : Nat,AWP lv P r nt c s (fun e s' => match e with
   | .goto l => ∃ rest,findLabel c l = some rest /\ ∃ m,m < n /\ inv l m s'
   | e => Φ e s'))
  (back : ∀ l rest m s',findLabel c l = some rest -> inv l m s' -> AWP lv P r nt rest s' (fun e s'' => match e with
   | .goto l' => ∃ rest',findLabel c l' = some rest' /\ ∃ m',m' < m /\ inv l' m' s''
   | e => Φ e s'')) : AWP lv P r nt (.scope c) s Φ:=by
 intro E V a Q hat hQ;refine zhV (fun l m a' V' => ∃ E' s',Kept E E' V V' a a' /\ At E' V' s' a' nt /\ inv l m s') ?_ ?_
 ·obtain ⟨n,hn⟩:=start;refine ⟨n,hn E V a _ hat fun ae e E' V' a' s' hk hat' he hΦ => ?_⟩;cases ae <;> cases e <;> first
   | exact he.elim
   |(have e : _ = _:=he
     subst e;obtain ⟨rest,h1,m,h2,h3⟩:=hΦ;exact ⟨rest,h1,m,h2,E',s',hk,hat',h3⟩)
   | exact hQ _ _ E' V' a' s' hk hat' he hΦ
 ·intro l rest m a' V' hf ⟨E',s',hk,hat',hi⟩;refine back l rest m s' hf hi E' V' a' _ hat' fun ae e E'' V'' a'' s'' hk' hat'' he hΦ => ?_;cases ae <;> cases e <;> first
   | exact he.elim
   |(have e : _ = _:=he
     subst e;obtain ⟨rest',h1,m',h2,h3⟩:=hΦ;exact ⟨rest',h1,m',h2,E'',s'',hk.trans hk',hat'',h3⟩)
   | exact hQ _ _ E'' V'' a'' s'' (hk.trans hk') hat'' he hΦ
end
def zf5 : Nat -> List AV -> List (Nat × AV)
 | _,[] => []
 | i,a :: l => (i,a) :: zf5 (i + 1) l
theorem zdN : ∀ (l : List AV) (i t : Nat) (a : AV),look (zf5 i l) t = some a -> i <= t /\ l[t - i]? = some a
 | [],_,_,_,h => by cases h
 | b :: l,i,t,a,h => by
  simp only [zf5,look] at h;split at h
  ·rename_i e; subst e; cases h; exact ⟨Nat.le_refl _,by simp⟩
  ·obtain ⟨h1,h2⟩:=zdN l (i + 1) t a h;refine ⟨by omega,?_⟩;have : t - i = (t - (i + 1)) + 1:=(by omega);rw [this,List.getElem?_cons_succ]; exact h2
def zob (P : Program) (s : AS) : ResultVar -> Option AV
 | .tmp t => look s.T t
 | .cell a t => (look s.T a).bind fun p => (s.at p).bind fun l => (Ty P t).bind fun x => if x.2 then (if x.1 <= l.length then some (.agg (l.take x.1)) else none) else l[0]?
def resAll (P : Program) (s : AS) : List ResultVar -> Option (List AV)
 | [] => some []
 | x :: l => match zob P s x,resAll P s l with
  | some a,some zas => some (a :: zas)
  | _,_ => none
def resTup : List AV -> AV
 | [a] => a
 | l => .tup l
theorem zq3 {P : Program} {E : Env} {V : View} {s : AS} {a : Act} {nt : Nat} (hat : At E V s a nt) {x : ResultVar} {av : AV} (h : zob P s x = some av) :
  ∃ v,Den E av v /\ ∀ {K : Value -> View -> Prop} {Kp : Value -> View -> Prop},K v V -> SemOk P V (match x with | .tmp t => pure (a.tmps.getD t undef) | .cell b t => do loadVar t (<- asAddr (a.tmps.getD b undef))) K Kp:=by
 cases x with
 | tmp t => exact ⟨_,(hat.tok t av h).2,fun hK => zbq hK⟩
 | cell b t =>
  unfold zob at h;obtain ⟨p,h1,h⟩:=Option.bind_eq_some_iff.1 h;obtain ⟨l,h2,h⟩:=Option.bind_eq_some_iff.1 h;obtain ⟨⟨n,g⟩,h3,h⟩:=Option.bind_eq_some_iff.1 h;obtain ⟨i,d,t1,t2,rfl,t4⟩:=Ty.out h3;obtain ⟨bb,off,f,hv,hg,hgr,hd⟩:=hat.conc.at (hat.tok b p h1).2 h2;dsimp only;rw [hv];cases g with
  | true =>
   simp only [if_true] at h;split at h
   ·rename_i hlen;cases h;refine ⟨_,zfS hlen hd,fun hK => ?_⟩;refine zac ?_;unfold asAddr;refine zbq ?_;unfold loadVar;refine zbK t2 ?_;rw [t4];simp only [if_true];refine zav t1 ?_;exact zac (zcd (f:=f) (fun h => hgr (by omega)) (fun j hj => hg j (by omega)) (zbq hK))
   ·cases h
  | false =>
   simp only [Bool.false_eq_true,if_false] at h;have hlen : 0 < l.length:=(List.getElem?_eq_some_iff.1 h).1;have hg0:=hg 0 hlen;rw [Nat.add_zero] at hg0;refine ⟨_,hd 0 av h,fun hK => ?_⟩;refine zac ?_;unfold asAddr;refine zbq ?_;unfold loadVar;refine zbK t2 ?_;rw [t4];simp only [Bool.false_eq_true,if_false];exact zdH hg0 (.inl (hgr hlen)) (zan hK)
theorem zcf {P : Program} {E : Env} {V : View} {s : AS} {a : Act} {nt : Nat} (hat : At E V s a nt) : ∀ (rs : List ResultVar) (l : List AV),resAll P s rs = some l -> ∃ vs : List Value,vs.length = l.length /\ (∀ (i : Nat) x,l[i]? = some x -> Den E x (vs.getD i undef)) /\
  ∀ {K : List Value -> View -> Prop} {Kp : Value -> View -> Prop},K vs V -> SemOk P V (rs.mapM fun x => (match x with | .tmp t => pure (a.tmps.getD t undef) | .cell b t => do loadVar t (<- asAddr (a.tmps.getD b undef)) : Sem Value)) K Kp
 | [],l,h => by
  cases h;refine ⟨[],rfl,by simp,fun hK => ?_⟩;rw [List.mapM_nil];exact zbq hK
 | x :: rs,l,h => by
  simp only [resAll] at h;split at h
  ·rename_i av avs h1 h2;cases h;obtain ⟨v,hv,hs⟩:=zq3 hat h1;obtain ⟨vs,hl,hvs,hss⟩:=zcf hat rs avs h2;refine ⟨v :: vs,by simp [hl],fun i x hx => ?_,fun hK => ?_⟩
   ·cases i with
    | zero => cases hx; simpa using hv
    | succ i => simpa using hvs i x (by simpa using hx)
   ·rw [List.mapM_cons];exact zac (hs (zac (hss (zbq hK))))
  ·cases h
attribute [seval] Int.natCast_pow Int.natCast_mul Int.natCast_shiftLeft Int.natCast_emod Int.ofNat_sub Int.natCast_shiftRight Int.natCast_add_one Int.natCast_add Int.cast_id Int.natCast_sub Int.natCast_ediv Int.natCast_succ
def zly (n0 : Nat) (H : List AObj) (a : AV) (k : AV -> List AObj -> Prop) : Prop :=
 ∃ b,Wk a b /\ (k b H \/ ∃ H' G,H = H' ++ G /\ n0 <= H'.length /\ HOk H' /\ Lt H'.length b /\ k b H')
def znL (P : Program) (rs : List ResultVar) (n0 : Nat) (k kp : AV -> List AObj -> Prop) : AEx -> AS -> Prop
 | .normal,s | .ret,s => one1 (resAll P s rs) fun l => zly n0 s.H (resTup l) k
 | .panic pv,s => zly n0 s.H pv kp
 | _,_ => False
theorem zao {n0 : Nat} {H : List AObj} {a : AV} {k : AV -> List AObj -> Prop} (h : k a H) : zly n0 H a k:=⟨a,Wk.refl a,.inl h⟩
theorem zaJ {H H' G : List AObj} {a b : AV} {k : AV -> List AObj -> Prop} {n0 : Nat} (hw : Wk a b) (hH : H = H' ++ G) (hn : n0 <= H'.length) (hok : HOk H') (hl : Lt H'.length b) (h : k b H') : zly n0 H a k:=⟨b,hw,.inr ⟨H',G,hH,hn,hok,hl,h⟩⟩
theorem zbP {n0 : Nat} {E0 E : Env} {V' : View} {H : List AObj} {a : AV} {v : Value} {k : AV -> List AObj -> Prop} (h : zly n0 H a k) (hc : Conc E V' H) (hd : Den E a v) (hle : E0.Le E) (hn : E0.n = n0) : ∃ b E' H',E0.Le E' /\ Den E' b v /\ Conc E' V' H' /\ k b H':=by
 obtain ⟨b,hw,h | ⟨H',G,rfl,h1,h2,h3,h4⟩⟩:=h
 ·exact ⟨b,E,H,hle,hw _ _ hd,hc,h⟩
 ·refine ⟨b,{ E with n:=H'.length },H',zfp h1 (by rw [hc.n]; simp) hle hn,(hw _ _ hd).trim h3,hc.trim h2,h4⟩
theorem zak {lv : Bool} {P : Program} {f : FuncId} {fn : Func} {c : Code} {rs : List ResultVar} {nt : Nat} {H : List AObj} {args : List AV} {k kp : AV -> List AObj -> Prop} (hf : P.funcs[f]? = some fn) (hb : fn.body = some c) (hr : fn.results = rs.toArray) (hn : fn.ntmps = nt) (hargs : args.length <= nt)
  (h : HOk H -> (∀ a ∈ args,Lt H.length a) -> AWP lv P none nt c ⟨zf5 0 args,H⟩ (znL P rs H.length k kp)) : FnC lv P f H args k kp:=by
 intro E V vs hc hd;have hsz : (vs ++ Array.replicate (fn.ntmps - vs.size) undef).size = nt:=by simp [hd.1]; omega
 have hlt : ∀ a ∈ args,Lt H.length a:=fun a ha => by
  obtain ⟨i,hi⟩:=zbF ha;rw [<- hc.n]; exact (hd.2 i a hi).lt
 refine zfh (by simp) hf hb (h hc.hok hlt E V _ _ ⟨hc,fun q a e => ?_,hsz⟩ fun ae e E' V' a' s' hk hat he hΦ => ?_)
 ·obtain ⟨_,e⟩:=zdN args 0 q a e;simp only [Nat.sub_zero] at e;have hq : q < args.length:=(List.getElem?_eq_some_iff.1 e).1;have hq' : q < vs.size:=by rw [hd.1]; exact hq
  refine ⟨by rw [hsz]; omega,?_⟩;have:=hd.2 q a e;rw [Array.getD_eq_getD_getElem?,Array.getElem?_append_left hq'];rwa [Array.getD_eq_getD_getElem?] at this
 ·have fin : (one1 (resAll P s' rs) fun l => zly H.length s'.H (resTup l) k) -> a'.defers = [] /\ ∃ v,SemOk P V' (results fn a'.tmps) (fun x V'' => x = v /\ V'' = V') (fun _ _ => False) /\ RetC E V k kp (.ret v) V':=by
   intro hΦ;obtain ⟨l,h1,h2⟩:=hΦ.out;have hres : ∃ v,Den E' (resTup l) v /\ SemOk P V' (results fn a'.tmps) (fun x V'' => x = v /\ V'' = V') (fun _ _ => False):=by
    obtain ⟨vs,hl,hvs,hone⟩:=zcf hat rs l h1;refine ⟨if h : vs.length = 1 then vs[0] else .tuple vs.toArray,?_,?_⟩
    ·match l,vs,hl,hvs with
     | [x],[v],_,hvs => exact hvs 0 x rfl
     | [],[],_,hvs => exact .tup rfl (by simp)
     | x :: y :: l,v :: w :: vs,hl,hvs => exact .tup (by simpa using hl) (fun i z hz => by simpa [Array.getD_eq_getD_getElem?,List.getD_eq_getElem?_getD] using hvs i z hz)
    ·unfold results;rw [hr,List.mapM_toArray];refine zac ?_;refine zac (hone ?_);refine zbq (zbq ⟨?_,rfl⟩);simp
   obtain ⟨v,hden,hsem⟩:=hres;obtain ⟨b,E'',H',q1,q2,q3,q4⟩:=zbP h2 hat.conc hden hk.le hc.n;exact ⟨hk.defers,v,hsem,b,E'',H',q1,hk.role,hk.deaf,q2,q3,q4⟩
  cases ae <;> cases e <;> first
   | exact he.elim
   | exact fin hΦ
   |(obtain ⟨v,rfl,hden⟩:=he
     obtain ⟨b,E'',H',q1,q2,q3,q4⟩:=zbP hΦ hat.conc hden hk.le hc.n;exact ⟨hk.defers,b,v,E'',H',rfl,q1,hk.role,hk.deaf,q2,q3,q4⟩)
   | exact hΦ.elim
theorem zpx (k : Nat) (a : AV) (l : List (Nat × AV)) : look ((k,a) :: l) k = some a:=by simp [look]
theorem zkx (k t : Nat) (a : AV) (l : List (Nat × AV)) (h : (k == t) = false) : look ((k,a) :: l) t = look l t:=by
 have : ¬ k = t:=by simpa using h
 simp [look,this]
theorem zet {α : Type} (a : α) (k : α -> Prop) : one1 (some a) k = k a:=by rw [one1]
theorem zjE (b : Bool) (k : Bool -> Prop) : AV.asBool (.val (.bool b)) k = k b:=by rw [AV.asBool]
theorem zlm (j : IntKind) (n : Int) (k : IntKind -> Int -> Prop) : AV.asInt (.val (.int j n)) k = k j n:=by rw [AV.asInt]
theorem zlk (l : List AV) (k : List AV -> Prop) : AV.asTup (.tup l) k = k l:=by rw [AV.asTup]
theorem zlo (l : List AV) (k : List AV -> Prop) : AV.asAgg (.agg l) k = k l:=by rw [AV.asAgg]
theorem zrP (i j : Nat) (k : Nat -> Nat -> Prop) : AV.asOp (.op i j) k = k i j:=by rw [AV.asOp]
theorem zrQ (i : Nat) (k : Nat -> Prop) : AV.asMp (.mp i) k = k i:=by rw [AV.asMp]
theorem zrO (n : Nat) (l : List AV) (e : End) (k : Nat -> List AV -> End -> Prop) : AV.asSl (.sl n l e) k = k n l e:=by rw [AV.asSl]
theorem zqn (P : Program) (xt : TypeId) (j : IntKind) (m n : Int) (k : AV -> Prop) : ABin P .add xt (.val (.int j m)) (.val (.int j n)) k = k (.val (.int j (j.wrap (m + n)))):=by simp [ABin,zks,zlK,one1]
theorem zqf (P : Program) (xt : TypeId) (j : IntKind) (m n : Int) (k : AV -> Prop) : ABin P .sub xt (.val (.int j m)) (.val (.int j n)) k = k (.val (.int j (j.wrap (m - n)))):=by simp [ABin,zks,zlK,one1]
theorem zcQ (P : Program) (xt : TypeId) (j : IntKind) (m n : Int) (k : AV -> Prop) : ABin P .mul xt (.val (.int j m)) (.val (.int j n)) k = k (.val (.int j (j.wrap (m * n)))):=by simp [ABin,zks,zlK,one1]
theorem zqm (P : Program) (xt : TypeId) (j : IntKind) (m n : Int) (k : AV -> Prop) : ABin P .eql xt (.val (.int j m)) (.val (.int j n)) k = k (.val (.bool (m == n))):=by simp [ABin,zks,zlK,one1]
theorem zqh (P : Program) (xt : TypeId) (j : IntKind) (m n : Int) (k : AV -> Prop) : ABin P .neq xt (.val (.int j m)) (.val (.int j n)) k = k (.val (.bool (m != n))):=by simp [ABin,zks,zlK,one1]
theorem zqi (P : Program) (xt : TypeId) (j : IntKind) (m n : Int) (k : AV -> Prop) : ABin P .lss xt (.val (.int j m)) (.val (.int j n)) k = k (.val (.bool (decide (m < n)))):=by simp [ABin,zks,zlK,one1]
theorem zqj (P : Program) (xt : TypeId) (j : IntKind) (m n : Int) (k : AV -> Prop) : ABin P .leq xt (.val (.int j m)) (.val (.int j n)) k = k (.val (.bool (decide (m <= n)))):=by simp [ABin,zks,zlK,one1]
theorem zqk (P : Program) (xt : TypeId) (j : IntKind) (m n : Int) (k : AV -> Prop) : ABin P .gtr xt (.val (.int j m)) (.val (.int j n)) k = k (.val (.bool (decide (m > n)))):=by simp [ABin,zks,zlK,one1]
theorem zql (P : Program) (xt : TypeId) (j : IntKind) (m n : Int) (k : AV -> Prop) : ABin P .geq xt (.val (.int j m)) (.val (.int j n)) k = k (.val (.bool (decide (m >= n)))):=by simp [ABin,zks,zlK,one1]
theorem zn2 (P : Program) (xt : TypeId) (j : IntKind) (m n : Int) (k : AV -> Prop) : ABin P .and xt (.val (.int j m)) (.val (.int j n)) k = k (.val (.int j (j.wrap (BitVec.ofInt j.bits m &&& BitVec.ofInt j.bits n).toNat))):=by simp [ABin,zks,zlK,one1]
theorem zlp (P : Program) (xt : TypeId) (j : IntKind) (m n : Int) (k : AV -> Prop) : ABin P .or xt (.val (.int j m)) (.val (.int j n)) k = k (.val (.int j (j.wrap (BitVec.ofInt j.bits m ||| BitVec.ofInt j.bits n).toNat))):=by simp [ABin,zks,zlK,one1]
theorem zdy (P : Program) (xt : TypeId) (j : IntKind) (m n : Int) (k : AV -> Prop) : ABin P .xor xt (.val (.int j m)) (.val (.int j n)) k = k (.val (.int j (j.wrap (BitVec.ofInt j.bits m ^^^ BitVec.ofInt j.bits n).toNat))):=by simp [ABin,zks,zlK,one1]
theorem zqg (P : Program) (xt : TypeId) (j : IntKind) (m n : Int) (k : AV -> Prop) : ABin P .rem xt (.val (.int j m)) (.val (.int j n)) k = one1 (if n = 0 then none else some (.int j (m.tmod n))) fun v => k (.val v):=by simp [ABin,zks,zlK]
theorem ziv (P : Program) (xt : TypeId) (j j' : IntKind) (m n : Int) (k : AV -> Prop) : ABin P .shl xt (.val (.int j m)) (.val (.int j' n)) k = one1 (if n < 0 then none else some (.int j (j.wrap (m * 2 ^ (min n.toNat j.bits))))) fun v => k (.val v):=by simp [ABin,zks,zmq]
theorem zdz (P : Program) (xt : TypeId) (j j' : IntKind) (m n : Int) (k : AV -> Prop) : ABin P .shr xt (.val (.int j m)) (.val (.int j' n)) k = one1 (if n < 0 then none else some (.int j (m.fdiv (2 ^ (min n.toNat j.bits))))) fun v => k (.val v):=by simp [ABin,zks,zmq]
theorem ev_tmp (T : List (Nat × AV)) (H : List AObj) (t : Nat) : AS.ev ⟨T,H⟩ (.tmp t) = look T t:=by rw [AS.ev]
theorem zrH (s : AS) (b : Bool) : s.ev (.const (.bool b)) = some (.val (.bool b)):=by rw [AS.ev,AV.of] <;> (intros; simp_all)
theorem ev_int (s : AS) (k : IntKind) (n : Int) : s.ev (.const (.int k n)) = some (.val (.int k n)):=by rw [AS.ev,AV.of] <;> (intros; simp_all)
theorem zrG (s : AS) (f : FuncId) : s.ev (.func f) = some (.fn (.func f) [] []):=by rw [AS.ev]
theorem zpS (s : AS) : s.ev (.const (.slice none 0 0)) = some (.sl 0 [] .exact):=by rw [AS.ev,AV.of]
theorem zkM (s : AS) : s.ev (.const (.map none)) = some (.val (.map none)):=by rw [AS.ev,AV.of] <;> (intros; simp_all)
theorem zkL (s : AS) : s.ev (.const (.pointer none)) = some (.val (.pointer none)):=by rw [AS.ev,AV.of] <;> (intros; simp_all)
theorem zpV (s : AS) : s.ev (.const .nilFunc) = some (.val .nilFunc):=by rw [AS.ev,AV.of] <;> (intros; simp_all)
theorem zpU (s : AS) : s.ev (.const .nilIface) = some (.val .nilIface):=by rw [AS.ev,AV.of] <;> (intros; simp_all)
theorem zpd (T : List (Nat × AV)) (H : List AObj) (d : Nat) (a : AV) : AS.put ⟨T,H⟩ (some d) a = ⟨(d,a) :: T,H⟩:=by rw [AS.put]
theorem zpe (s : AS) (a : AV) : AS.put s none a = s:=by rw [AS.put]
theorem zg6 (n : AS -> Prop) (Φ : AEx -> AS -> Prop) (s : AS) : AEx.then n Φ .normal s = n s:=by rw [AEx.then]
theorem zoX (n : AS -> Prop) (Φ : AEx -> AS -> Prop) (s : AS) : AEx.then n Φ .ret s = Φ .ret s:=by rw [AEx.then]; intro h; cases h
theorem zjV (n : AS -> Prop) (Φ : AEx -> AS -> Prop) (i : Nat) (s : AS) : AEx.then n Φ (.exit i) s = Φ (.exit i) s:=by rw [AEx.then]; intro h; cases h
theorem zjU (n : AS -> Prop) (Φ : AEx -> AS -> Prop) (i : Nat) (s : AS) : AEx.then n Φ (.goto i) s = Φ (.goto i) s:=by rw [AEx.then]; intro h; cases h
theorem ziD (n : AS -> Prop) (Φ : AEx -> AS -> Prop) (a : AV) (s : AS) : AEx.then n Φ (.panic a) s = Φ (.panic a) s:=by rw [AEx.then]; intro h; cases h
theorem zgW (i : Nat) (Φ : AEx -> AS -> Prop) (s : AS) : AEx.inBlock i Φ .normal s = Φ .normal s:=by rw [AEx.inBlock]; intro h h'; cases h'
theorem zla (i : Nat) (Φ : AEx -> AS -> Prop) (s : AS) : AEx.inBlock i Φ .ret s = Φ .ret s:=by rw [AEx.inBlock]; intro h h'; cases h'
theorem zjv (i l : Nat) (Φ : AEx -> AS -> Prop) (s : AS) : AEx.inBlock i Φ (.goto l) s = Φ (.goto l) s:=by rw [AEx.inBlock]; intro h h'; cases h'
theorem zhP (i : Nat) (Φ : AEx -> AS -> Prop) (a : AV) (s : AS) : AEx.inBlock i Φ (.panic a) s = Φ (.panic a) s:=by rw [AEx.inBlock]; intro h h'; cases h'
theorem zlb (i : Nat) (Φ : AEx -> AS -> Prop) (s : AS) : AEx.inBlock i Φ (.exit i) s = Φ .normal s:=by rw [AEx.inBlock,if_pos rfl]
theorem zju (i j : Nat) (Φ : AEx -> AS -> Prop) (s : AS) (h : (j == i) = false) : AEx.inBlock i Φ (.exit j) s = Φ (.exit j) s:=by
 have : ¬ j = i:=by simpa using h
 rw [AEx.inBlock,if_neg this]
theorem zkJ (P : Program) (rs : List ResultVar) (n : Nat) (k kp : AV -> List AObj -> Prop) (s : AS) : znL P rs n k kp .ret s = one1 (resAll P s rs) fun l => zly n s.H (resTup l) k:=by rw [znL]
theorem zgG (P : Program) (rs : List ResultVar) (n : Nat) (k kp : AV -> List AObj -> Prop) (s : AS) : znL P rs n k kp .normal s = one1 (resAll P s rs) fun l => zly n s.H (resTup l) k:=by rw [znL]
theorem zhD (P : Program) (rs : List ResultVar) (n : Nat) (k kp : AV -> List AObj -> Prop) (a : AV) (s : AS) : znL P rs n k kp (.panic a) s = zly n s.H a kp:=by rw [znL]
theorem zq2 (P : Program) (T : List (Nat × AV)) (H : List AObj) (t : Nat) : zob P ⟨T,H⟩ (.tmp t) = look T t:=by rw [zob]
theorem at_rp (s : AS) (l : List AV) : s.at (.rp l) = some l:=by rw [AS.at]
theorem zo2 (n i off : Nat) : AV.shift n (.op i off) = some (.op i (off + n)):=by rw [AV.shift]
theorem zd7 (n : Nat) (l : List AV) (h : n <= l.length) : AV.shift n (.rp l) = some (.rp (l.drop n)):=by rw [AV.shift,if_pos h]
theorem zdg (l : List AV) : AV.shift 0 (.rp l) = some (.rp l):=by rw [AV.shift,if_pos (Nat.zero_le _),List.drop_zero]
theorem zdf (n : Nat) (a : AV) (l : List AV) : AV.shift (n + 1) (.rp (a :: l)) = AV.shift n (.rp l):=by simp [AV.shift]
theorem row_sl (n : Nat) (l : List AV) (e : End) : AV.row (.sl n l e) = some (n,.rp l):=by rw [AV.row]
theorem zq1 (i off n cap : Nat) : AV.row (.osl i off n cap) = some (n,.op i off):=by rw [AV.row]
theorem zr0 (P : Program) (s : AS) {t : TypeId} (n : Nat) (l : List AV) (e : End) (k : AV -> Prop) (h : zl3 P t = some .slice) : ALen P s t (.sl n l e) k = k (.val (.int .i64 n)):=by unfold ALen; rw [h]
theorem zqp (P : Program) (s : AS) {t : TypeId} (i off n cap : Nat) (k : AV -> Prop) (h : zl3 P t = some .slice) : ALen P s t (.osl i off n cap) k = k (.val (.int .i64 n)):=by unfold ALen; rw [h]
theorem zaf {a b : AV} : (∃ c,some b = some c /\ Wk c a) <-> Wk b a:=⟨fun ⟨_,h,k⟩ => by cases h; exact k,fun h => ⟨_,rfl,h⟩⟩
abbrev iv (n : Int) : AV:=.val (.int .i64 n)
abbrev bv (b : Bool) : AV:=.val (.bool b)
theorem zae {lv : Bool} {P : Program} {r : Option Nat} {s : AS} {nt : Nat} {c : Operand} {x y : Code} {Φ : AEx -> AS -> Prop} (h : one1 (s.ev c) fun a => a.asBool fun b => (b = true -> AWP lv P r nt x s Φ) /\ (b = false -> AWP lv P r nt y s Φ)) : AWP lv P r nt (.cond c x y) s Φ:=by
 obtain ⟨a,h1,h2⟩:=h.out;obtain ⟨b,rfl,h3,h4⟩:=zbJ h2;exact zp4 h1 h3 h4
theorem zgL {α β : Type} {f : α -> List β} {m : Nat} (hf : ∀ x,(f x).length = m) : ∀ {xs : List α} {i : Nat} {x : α},xs[i]? = some x -> (xs.flatMap f).drop (i * m) = f x ++ (xs.drop (i + 1)).flatMap f
 | y :: xs,0,x,h => by cases h; simp
 | y :: xs,i + 1,x,h => by
  have ih:=zgL hf (xs:=xs) (i:=i) (x:=x) (by simpa using h);rw [List.flatMap_cons,Nat.add_mul,Nat.one_mul,Nat.add_comm (i * m) m,<- List.drop_drop];have : (f y ++ xs.flatMap f).drop m = xs.flatMap f:=by rw [<- hf y]; simp
  rw [this,ih]; simp
 | [],i,x,h => by simp at h
theorem zpA {α β : Type} {f : α -> List β} {m : Nat} (hf : ∀ x,(f x).length = m) (xs : List α) : (xs.flatMap f).length = xs.length * m:=by
 induction xs with
 | nil => simp
 | cons x xs ih => rw [List.flatMap_cons,List.length_append,hf,ih,List.length_cons,Nat.add_mul]; omega
theorem zcG {α : Type} {f : α -> List AV} {m : Nat} (hf : ∀ x,(f x).length = m) {xs : List α} {i : Nat} {x : α} (h : xs[i]? = some x) : AV.shift (i * m) (.rp (xs.flatMap f)) = some (.rp (f x ++ (xs.drop (i + 1)).flatMap f)):=by
 have hi : i < xs.length:=(List.getElem?_eq_some_iff.1 h).1;rw [zd7 _ _ (by rw [zpA hf]; exact Nat.mul_le_mul_right _ (by omega)),zgL hf h]
theorem zeo {α : Type} {f : α -> AV} {xs : List α} {i : Nat} {x : α} (h : xs[i]? = some x) : AV.shift (i * 1) (.rp (xs.map f)) = some (.rp (f x :: (xs.drop (i + 1)).map f)):=by
 have hi : i < xs.length:=(List.getElem?_eq_some_iff.1 h).1;rw [Nat.mul_one,zd7 _ _ (by simp; omega)];congr 2;rw [<- List.map_drop,List.drop_eq_getElem_cons hi,List.map_cons];congr 2;rw [List.getElem?_eq_getElem hi] at h; exact Option.some.inj h
theorem zaz {i n : Nat} (h : i < n) : (0 <= (i : Int) /\ (i : Int) < (n : Int)) = True:=by simp; exact h
theorem get_lt {α : Type} {xs : List α} {i : Nat} {x : α} (h : xs[i]? = some x) : i < xs.length:=(List.getElem?_eq_some_iff.1 h).1
theorem zaE {α : Type} {xs : List α} {i : Nat} (h : i < xs.length) : ∃ x,xs[i]? = some x:=⟨_,List.getElem?_eq_getElem h⟩
theorem zco (H L : List AObj) (i : Nat) : (H ++ L)[H.length + i]? = L[i]?:=by rw [List.getElem?_append_right (by omega)]; congr 1; omega
theorem zqc (H L : List AObj) : (H ++ L)[H.length]? = L[0]?:=by have:=zco H L 0; simpa using this
theorem zbR (H L : List AObj) (i : Nat) (x : AObj) : (H ++ L).set (H.length + i) x = H ++ L.set i x:=by
 rw [List.set_append_right _ _ (by omega)]; congr 2; omega
theorem zp9 (H L : List AObj) (x : AObj) : (H ++ L).set H.length x = H ++ L.set 0 x:=by have:=zbR H L 0 x; simpa using this
theorem zrT (H L M : List AObj) : (H ++ L) ++ M = H ++ (L ++ M):=List.append_assoc ..
theorem zrS (H L : List AObj) : (H ++ L).length = H.length + L.length:=List.length_append
theorem zap (n : Nat) (x : Value) : Lt n (.val x) = True:=by simp [Lt.val]
theorem lt_op (n i o : Nat) : Lt n (.op i o) = (i < n):=propext ⟨fun h => by cases h with | op h => exact h,.op⟩
theorem zqB (n i o m c : Nat) : Lt n (.osl i o m c) = (i < n):=propext ⟨fun h => by cases h with | osl h => exact h,.osl⟩
theorem zfa (n : Nat) (l : List AV) : Lt n (.agg l) = ∀ a ∈ l,Lt n a:=propext ⟨fun h => by cases h with | agg h => exact h,.agg⟩
theorem zaD (n : Nat) (l : List AV) : Lt n (.tup l) = ∀ a ∈ l,Lt n a:=propext ⟨fun h => by cases h with | tup h => exact h,.tup⟩
theorem zey (n : Nat) (t : TypeId) (a : AV) : Lt n (.ifc t a) = Lt n a:=propext ⟨fun h => by cases h with | ifc h => exact h,.ifc⟩
theorem za3 (n m : Nat) (l : List AV) : Lt n (.sl m l .shut) = ∀ a ∈ l,Lt n a:=propext ⟨fun h => by cases h with | sl _ h => exact h,fun h => .sl (by simp) h⟩
theorem zbh (n m : Nat) (l : List AV) : Lt n (.sl m l .exact) = ∀ a ∈ l,Lt n a:=propext ⟨fun h => by cases h with | sl _ h => exact h,fun h => .sl (by simp) h⟩
theorem zdq (n m k : Nat) (l : List AV) : Lt n (.sl m l (.opn k)) = (k < n /\ ∀ a ∈ l,Lt n a):=propext ⟨fun h => by cases h with | sl h' h => exact ⟨h' k rfl,h⟩,fun h => .sl (fun k' e => by cases e; exact h.1) h.2⟩
theorem zi9 (n : Nat) (l : List AV) : Lt n (.rp l) = ∀ a ∈ l,Lt n a:=propext ⟨fun h => by cases h with | rp h => exact h,.rp⟩
def zeh (o : Oper) : List Nat:=o.after.toList.filterMap fun e => if Region.binds .any e then some e.on else none
inductive Sched (ops : Array Oper) : List Nat -> List Nat -> Prop
 | nil (X : List Nat) (h : ∀ i,i < ops.size -> i ∈ X) : Sched ops X []
 | cons {X : List Nat} {i : Nat} {l : List Nat} (o : Oper) (ho : ops[i]? = some o) (hn : i ∉ X) (hd : ∀ j ∈ zeh o,j ∈ X) (h : Sched ops (i :: X) l) : Sched ops X (i :: l)
theorem zcg {o : Oper} {j : Nat} : j ∈ zeh o <-> ∃ e ∈ o.after,Region.binds .any e = true /\ e.on = j:=by
 unfold zeh;rw [List.mem_filterMap];constructor
 ·rintro ⟨e,he,h⟩
  split at h
  ·rename_i hb; cases h; exact ⟨e,by simpa using he,hb,rfl⟩
  ·cases h
 ·rintro ⟨e,he,hb,rfl⟩
  exact ⟨e,by simpa using he,by rw [if_pos hb]⟩
theorem znl {l : List Nat} {i : Nat} (hi : i ∈ l) {p q : Nat -> Bool} (hpq : ∀ k,q k = true -> p k = true) (hp : p i = true) (hq : q i = false) : l.countP q < l.countP p:=by
 induction l with
 | nil => cases hi
 | cons x l ih =>
  have hle : l.countP q <= l.countP p:=List.countP_mono_left fun k _ h => hpq k h;rcases List.mem_cons.1 hi with rfl | hi
  ·rw [List.countP_cons_of_neg (by simp [hq]),List.countP_cons_of_pos hp]; omega
  ·have:=ih hi;by_cases hx : q x = true
   ·rw [List.countP_cons_of_pos hx,List.countP_cons_of_pos (hpq x hx)]; omega
   ·rw [List.countP_cons_of_neg hx];by_cases hx' : p x = true
    ·rw [List.countP_cons_of_pos hx']; omega
    ·rw [List.countP_cons_of_neg hx']; exact this
structure Rep (ops : Array Oper) (L : Array Bool) (X : List Nat) : Prop where
 size : L.size = ops.size
 mem : ∀ i,i < ops.size -> (L[i]? = some true <-> i ∈ X)
theorem zeA {ops : Array Oper} (hlow : ∀ (i : Nat) o,ops[i]? = some o -> ∀ j ∈ zeh o,j < i) : ∀ (fuel t : Nat) (L : Array Bool) (X : List Nat),Rep ops L X -> (List.range ops.size).countP (fun i => !X.contains i) <= fuel -> Sched ops X (Region.linearise.go .any ops fuel t L [])
 | 0,t,L,X,hr,hc => by
  simp only [Region.linearise.go,List.reverse_nil];refine .nil X fun i hi => ?_;have : (List.range ops.size).countP (fun i => !X.contains i) = 0:=by omega
  have:=List.countP_eq_zero.1 this i (by simpa using hi);simpa using this
 | fuel + 1,t,L,X,hr,hc => by
  have hready : ∀ i,i ∈ ((List.range ops.size).filter fun i => !L.getD i true && ((ops[i]?).map (·.after.all fun e => !Region.binds .any e || L.getD e.on false)).getD false) <-> ∃ o,ops[i]? = some o /\ i ∉ X /\ ∀ j ∈ zeh o,j ∈ X:=by
   intro i;simp only [List.mem_filter,List.mem_range,Bool.and_eq_true,Bool.not_eq_true'];constructor
   ·rintro ⟨hi,h1,h2⟩
    have ho:=Array.getElem?_eq_getElem hi;refine ⟨ops[i],ho,fun hx => ?_,fun j hj => ?_⟩
    ·have:=(hr.mem i hi).2 hx;rw [Array.getD_eq_getD_getElem?,this] at h1; cases h1
    ·obtain ⟨e,he,hb,rfl⟩:=zcg.1 hj;rw [ho] at h2;simp only [Option.map_some,Option.getD_some,Array.all_eq_true_iff_forall_mem] at h2;have:=h2 e he;rw [hb] at this;simp only [Bool.not_true,Bool.false_or] at this;have hlt : e.on < ops.size:=Nat.lt_trans (hlow i _ ho _ hj) hi;refine (hr.mem _ hlt).1 ?_;rw [Array.getD_eq_getD_getElem?] at this;cases hx : L[e.on]? with
     | none => rw [hx] at this; cases this
     | some b => rw [hx] at this; cases b; cases this; rfl
   ·rintro ⟨o,ho,h1,h2⟩
    have hi : i < ops.size:=(Array.getElem?_eq_some_iff.1 ho).1;refine ⟨hi,?_,?_⟩
    ·rw [Array.getD_eq_getD_getElem?,Array.getElem?_eq_getElem (by rw [hr.size]; exact hi)];simp only [Option.getD_some];cases hb : L[i]'(by rw [hr.size]; exact hi) with
     | false => rfl
     | true => exact absurd ((hr.mem i hi).1 (by rw [Array.getElem?_eq_getElem (by rw [hr.size]; exact hi),hb])) h1
    ·rw [ho];simp only [Option.map_some,Option.getD_some,Array.all_eq_true_iff_forall_mem];intro e he;cases hb : Region.binds .any e with
     | false => rfl
     | true =>
      have hj:=zcg.2 ⟨e,he,hb,rfl⟩;have hlt : e.on < ops.size:=Nat.lt_trans (hlow i _ ho _ hj) hi;have:=(hr.mem _ hlt).2 (h2 _ hj);simp [Array.getD_eq_getD_getElem?,this]
  simp only [Region.linearise.go];generalize hrs : ((List.range ops.size).filter fun i => !L.getD i true && ((ops[i]?).map (·.after.all fun e => !Region.binds .any e || L.getD e.on false)).getD false) = rs at hready;cases hi : rs[t % rs.length]? with
  | none =>
   have hnil : rs = []:=by
    cases rs with
    | nil => rfl
    | cons x xs =>
     have hlt : t % (x :: xs).length < (x :: xs).length:=Nat.mod_lt _ (by simp);rw [List.getElem?_eq_none_iff] at hi; omega
   simp only [List.reverse_nil];refine .nil X fun i => ?_;induction i using Nat.strongRecOn with
   | _ i ih =>
    intro hlt;apply Classical.byContradiction;intro hx;have : i ∈ rs:=(hready i).2 ⟨ops[i],Array.getElem?_eq_getElem hlt,hx,fun j hj => ih j (hlow i _ (Array.getElem?_eq_getElem hlt) j hj) (Nat.lt_trans (hlow i _ (Array.getElem?_eq_getElem hlt) j hj) hlt)⟩;rw [hnil] at this; cases this
  | some i =>
   simp only [];obtain ⟨o,ho,h1,h2⟩:=(hready i).1 (List.mem_of_getElem? hi);have hlt : i < ops.size:=(Array.getElem?_eq_some_iff.1 ho).1;rw [linearise_go_acc,List.reverse_singleton,List.singleton_append];refine .cons o ho h1 h2 (zeA hlow fuel _ _ (i :: X) ⟨by simp [hr.size],fun k hk => ?_⟩ ?_)
   ·by_cases hki : k = i
    ·subst hki; simp [Array.getElem?_setIfInBounds_self_of_lt (by rw [hr.size]; exact hlt)]
    ·rw [Array.getElem?_setIfInBounds_ne (Ne.symm hki),hr.mem k hk];simp [hki]
   ·have hmem : i ∈ (List.range ops.size):=(by simpa using hlt);have : (List.range ops.size).countP (fun k => !(i :: X).contains k) < (List.range ops.size).countP (fun k => !X.contains k):=by
     exact znl hmem (fun k hk => by simp only [Bool.not_eq_true',List.contains_eq_mem,decide_eq_false_iff_not] at hk ⊢; exact fun h => hk (List.mem_cons_of_mem _ h)) (by simpa using h1) (by simp)
    omega
structure KeptQ (k : AV -> Prop) : Type where
 n : Nat
def QCall (lv : Bool) (P : Program) (f : AV) (H : List AObj) (zas : List AV) (k : AV -> Prop) (_t : KeptQ k) : Prop:=∃ av,CallC lv P f H zas (fun b H' => b = av /\ H' = H) (fun _ _ => False) /\ k av
def QInv (lv : Bool) (P : Program) (f : AV) (name : String) (H : List AObj) (zas : List AV) (k : AV -> Prop) (_t : KeptQ k) : Prop:=∃ av,InvC lv P f name H zas (fun b H' => b = av /\ H' = H) (fun _ _ => False) /\ k av
theorem zod {lv : Bool} {P : Program} {f : AV} {H : List AObj} {zas : List AV} {k : AV -> Prop} {t : KeptQ k} (av : AV) (h : CallC lv P f H zas (fun b H' => b = av /\ H' = H) (fun _ _ => False)) (hk : k av) : QCall lv P f H zas k t:=⟨av,h,hk⟩
theorem qInv {lv : Bool} {P : Program} {f : AV} {name : String} {H : List AObj} {zas : List AV} {k : AV -> Prop} {t : KeptQ k} (av : AV) (h : InvC lv P f name H zas (fun b H' => b = av /\ H' = H) (fun _ _ => False)) (hk : k av) : QInv lv P f name H zas k t:=⟨av,h,hk⟩
section
variable (lv : Bool) (P : Program)
def AQ (s : AS) (o : Oper) (k : AV -> Prop) : Prop:=match o.op with
 | .call c => match c.callee with
  | .value x => one1 (s.ev x) fun f => one1 (evs s c.args.toList) fun zas => QCall lv P f s.H zas k ⟨0⟩
  | .invoke x name => one1 (s.ev x) fun f => one1 (evs s c.args.toList) fun zas => QInv lv P f name s.H zas k ⟨0⟩
  | .builtin .append => match c.args.toList,c.argTypes.toList with
   | [x,y],[t,t'] => one1 (AppOf P t t') fun (_,sz,_) => one1 (s.ev x) fun a => one1 (s.ev y) fun b => a.asSl fun n l e => e = .exact /\ one1 (s.src sz b) fun (m,l') => l.length = n * sz /\ l'.length = m * sz /\ n + m <= 2 ^ 30 /\ k (.sl (n + m) (l ++ l') .shut)
   | _,_ => False
  | _ => AOp P s o k
 | _ => AOp P s o k
def QOps (all : Array Oper) : List Oper -> AS -> (AS -> Prop) -> Prop
 | [],s,K => K s
 | o :: rest,s,K => match o.guard with
  | none => AQ lv P s o fun av => QOps all rest (s.put o.dst av) K
  | some (j,want) => one1 ((all[j]?).bind (·.dst)) fun d => one1 (look s.T d) fun a => a.asBool fun b => zlU b want (AQ lv P ⟨(d,.val (.bool want)) :: s.T,s.H⟩ o fun av => QOps all rest ((⟨(d,.val (.bool want)) :: s.T,s.H⟩ : AS).put o.dst av) K) (QOps all rest ((⟨(d,.val (.bool !want)) :: s.T,s.H⟩ : AS).put o.dst (.val undef)) K) ⟨0⟩
end
section
variable {lv : Bool} {P : Program} {r : Option Nat} {o : Oper} {s : AS}
theorem qcall {a : Act} {E : Env} {V : View} {av : AV} {N : Act -> View -> Prop} {Q : Ex -> Act -> View -> Prop} (h1 : ∀ E' V' v,E.Le E' -> V'.role = V.role -> V'.deaf = V.deaf -> Conc E' V' s.H -> Den E' av v -> N (a.put o.dst v) V') :
  (∀ nx V',Nx lv P (RetC E V (fun b H' => b = av /\ H' = s.H) (fun _ _ => False)) nx V' -> Upon lv P r o a N Q nx V') /\ (∀ v V',RetC E V (fun b H' => b = av /\ H' = s.H) (fun _ _ => False) (.panic [{ v,recovered:=false }]) V' -> Q (.panic [{ v,recovered:=false }]) a V'):=by
 have hv : ∀ v V',RetC E V (fun b H' => b = av /\ H' = s.H) (fun _ _ => False) (.ret v) V' -> N (a.put o.dst v) V':=fun v V' ⟨b,E',H',hle,hro,hde,hden,hc',e1,e2⟩ => by
  subst e1 e2; exact h1 E' V' v hle hro hde hc' hden
 have hp : ∀ ch V',RetC E V (fun b H' => b = av /\ H' = s.H) (fun _ _ => False) (.panic ch) V' -> Q (.panic ch) a V':=fun ch V' ⟨pv,v,E',H',hch,hle,hro,hde,hden,hc',hk⟩ => hk.elim;refine ⟨fun nx V' hn => ?_,fun v V' h => hp _ _ h⟩;cases nx with
 | value v => exact hv _ _ hn
 | skip => exact hv _ _ hn
 | enter f args =>
  refine Body.mono (R':=fun
   | .ret v,V' => N (a.put o.dst v) V'
   | .panic ch,V' => Q (.panic ch) a V') hn fun ot V'' h => ?_
  cases ot with
  | ret v => exact hv _ _ h
  | panic ch => exact hp _ _ h
 | round l f tmps zas b =>
  refine Runs.mono (R':=fun
   | .ret v,V' => N (a.put o.dst v) V'
   | .panic ch,V' => Q (.panic ch) a V') hn fun ot V'' h => ?_
  cases ot with
  | ret v => exact hv _ _ h
  | panic ch => exact hp _ _ h
 | _ => exact hn.elim
theorem zpc {c : Call} {x y : Operand} {t t' elem : TypeId} {sz n m : Nat} {z : Value} {l l' : List AV} {av : AV} (ho : o.op = .call c) (hcl : c.callee = .builtin .append) (hargs : c.args = #[x,y]) (hts : c.argTypes = #[t,t']) (ht : AppOf P t t' = some (elem,sz,z))
  (hx : s.ev x = some (.sl n l .exact)) (hy : s.ev y = some av) (hs : s.src sz av = some (m,l')) (hl : l.length = n * sz) (hl' : l'.length = m * sz) (hb : n + m <= 2 ^ 30) : QStep lv P r o s (.sl (n + m) (l ++ l') .shut):=by
 intro E V a N Q hc htk hdf hN;refine ⟨hdf,?_⟩;have hdx:=Den.ev htk hx;have hdy:=Den.ev htk hy;generalize hvx : a.eval x = vx at hdx;generalize hvy : a.eval y = vy at hdy;unfold execOp; rw [ho];dsimp only;unfold resolve;rw [hcl];dsimp only;refine zac (zbq ?_);unfold invoke builtin;dsimp only;refine zac ?_;have hmap : c.args.map a.eval = #[vx,vy]:=by rw [hargs]; simp [hvx,hvy]
 rw [hmap,hts];obtain ⟨base,cap,rfl⟩ : ∃ base cap,vx = .slice base n cap:=by
  cases hdx with
  | sl b o cap f hcap he q1 q2 => exact ⟨_,_,rfl⟩
  | nil he => exact ⟨_,_,rfl⟩
 have hcn : cap = n:=by
  cases hdx with
  | sl b o cap f hcap he q1 q2 => exact he
  | nil he => rfl
 subst hcn;have hsum : (l ++ l').length = (cap + m) * sz:=by rw [List.length_append,hl,hl',Nat.add_mul]
 by_cases hm : m = 0
 ·subst hm;have hl0 : l' = []:=by simpa using hl'
  subst hl0;refine zbw hc ht hdy hs hl' (Nat.le_refl _) ?_;refine zbq (hN E V _ (Env.Le.refl E) rfl rfl hc ?_);rw [Nat.add_zero,List.append_nil];exact zaK _ _ _ _ _ hdx
 ·refine zb1 hc ht hdx hdy hs hl hl' hb (by omega) fun rr cs cap' hf hden hle hsz => ?_;obtain ⟨hc',hle'⟩:=hc.tok1 (el:=elem) hf hsz hle;have hsize : (cap + m) * sz <= cs.size:=by rw [hsz]; exact Nat.mul_le_mul_right _ hle
  refine SemOk.ghost (zb9 (f:=(0,0)) (cs:=cs) (el:=elem) (p:=(· < (cap + m) * sz)) (by simp [View.upd]) (fun o _ => hf.2 o)) ?_;have hle2:=zfp (n:=s.H.length) (m:=s.H.length) (Nat.le_refl _) (by simp [Env.tok,hc.n]) hle' hc.n;refine zbq (hN _ _ _ hle2 rfl rfl (hc'.trim hc.hok) (zkV (I:=(V.laid rr cs elem (· < (cap + m) * sz)).imm) (e:=.shut) (sz:=sz) (cs:=cs) rfl (hden.mono hle2) hsum hsize (fun o h => zhA (by simpa using h)) hle trivial))
theorem AQ.sound {k : AV -> Prop} (h : AQ lv P s o k) : ∃ av,QStep lv P r o s av /\ k av:=by
 unfold AQ at h;split at h
 ·rename_i c ho;split at h
  ·rename_i x hcl;obtain ⟨f,h1,hA⟩:=h.out;obtain ⟨zas,h2,hB⟩:=hA.out;obtain ⟨av,h3,h4⟩:=hB;refine ⟨av,fun E V a N Q hc htk hdf hN => ?_,h4⟩;have hup:=qcall (lv:=lv) (P:=P) (r:=r) (o:=o) (Q:=Q) hN;refine ⟨hdf,?_⟩;unfold execOp; rw [ho];dsimp only;unfold resolve;rw [hcl];dsimp only;have e : c.args.map a.eval = (c.args.toList.map a.eval).toArray:=(by apply Array.ext'; simp);rw [e];exact (h3 E V (a.eval x) _ hc (Den.ev htk h1) (zdO htk h2)).mono (fun nx V' h => hup.1 nx V' h) (fun v V' h => hup.2 v V' h)
  ·rename_i x name hcl;obtain ⟨f,h1,hA⟩:=h.out;obtain ⟨zas,h2,hB⟩:=hA.out;obtain ⟨av,h3,h4⟩:=hB;refine ⟨av,fun E V a N Q hc htk hdf hN => ?_,h4⟩;have hup:=qcall (lv:=lv) (P:=P) (r:=r) (o:=o) (Q:=Q) hN;refine ⟨hdf,?_⟩;unfold execOp; rw [ho];dsimp only;unfold resolve;rw [hcl];dsimp only;refine zac (zbq ?_);have e : c.args.map a.eval = (c.args.toList.map a.eval).toArray:=(by apply Array.ext'; simp);rw [e];exact (h3 E V (a.eval x) _ hc (Den.ev htk h1) (zdO htk h2)).mono (fun nx V' h => hup.1 nx V' h) (fun v V' h => hup.2 v V' h)
  ·rename_i hcl;split at h
   ·rename_i x y t t' ha ht;obtain ⟨⟨elem,sz,z⟩,h1,hA⟩:=h.out;obtain ⟨a,h2,hB⟩:=hA.out;obtain ⟨b,h3,hC⟩:=hB.out;obtain ⟨n,l,e,e1,e0,hD⟩:=zfW hC;subst e1 e0;obtain ⟨⟨m,l'⟩,h4,h5,h6,h7,h8⟩:=hD.out;exact ⟨_,zpc ho hcl (zmI ha) (zmt ht) h1 h2 h3 h4 h5 h6 h7,h8⟩
   ·exact h.elim
  ·exact h.sound
 ·exact h.sound
end
section
variable {lv : Bool} {P : Program} {o : Oper} {T T' : List (Nat × AV)} {H : List AObj} {k : AV -> Prop}
theorem zcz : ∀ (l : List Operand),(∀ x ∈ l,AS.ev ⟨T,H⟩ x = AS.ev ⟨T',H⟩ x) -> evs ⟨T,H⟩ l = evs ⟨T',H⟩ l
 | [],_ => rfl
 | x :: l,h => by simp only [evs,h x (List.mem_cons_self ..),zcz l fun y hy => h y (List.mem_cons_of_mem _ hy)]
theorem zeG : ∀ (l : List (Nat × Operand)),(∀ x ∈ l,AS.ev ⟨T,H⟩ x.2 = AS.ev ⟨T',H⟩ x.2) -> evp ⟨T,H⟩ l = evp ⟨T',H⟩ l
 | [],_ => rfl
 | x :: l,h => by simp only [evp,h x (List.mem_cons_self ..),zeG l fun y hy => h y (List.mem_cons_of_mem _ hy)]
theorem zdK : ∀ (l : List Operand),(∀ x ∈ l,AS.ev ⟨T,H⟩ x = AS.ev ⟨T',H⟩ x) -> l.mapM (AS.ev ⟨T,H⟩) = l.mapM (AS.ev ⟨T',H⟩)
 | [],_ => rfl
 | x :: l,h => by simp only [List.mapM_cons,h x (List.mem_cons_self ..),zdK l fun y hy => h y (List.mem_cons_of_mem _ hy)]
theorem zeP (x : Option Operand) (h : ∀ y,x = some y -> AS.ev ⟨T,H⟩ y = AS.ev ⟨T',H⟩ y) : AS.bnd ⟨T,H⟩ x = AS.bnd ⟨T',H⟩ x:=by
 cases x with
 | none => rfl
 | some y => simp only [AS.bnd,h y rfl]
theorem AOp.congr (h : ∀ x ∈ o.op.operands,AS.ev ⟨T,H⟩ x = AS.ev ⟨T',H⟩ x) (ha : AOp P ⟨T,H⟩ o k) : AOp P ⟨T',H⟩ o k:=by
 unfold AOp at ha ⊢;generalize o.op = op at h ha ⊢;cases op with
 | call c =>
  have hargs : ∀ x ∈ c.args,AS.ev ⟨T,H⟩ x = AS.ev ⟨T',H⟩ x:=fun x hx => h x (by simp [Op.operands,Call.operands,hx]);dsimp only at ha ⊢;split at ha
  ·obtain ⟨x,h1,hA⟩:=ha.out;rw [h1,one1];obtain ⟨t,h2,hB⟩:=hA.out;rw [h2,one1];rw [<- hargs x (Array.mem_of_getElem? h1)];obtain ⟨a,h3,hC⟩:=hB.out;rw [h3,one1];exact hC
  ·split at ha
   ·rename_i x y hargs';have:=zmI hargs';rw [this] at hargs;rw [<- hargs x (by simp),<- hargs y (by simp)];exact ha
   ·exact ha.elim
  ·split at ha
   ·rename_i x y hargs';have:=zmI hargs';rw [this] at hargs;rw [<- hargs x (by simp),<- hargs y (by simp)];exact ha
   ·exact ha.elim
  ·exact ha.elim
 | build t parts =>
  dsimp only at ha ⊢;rw [<- zeG parts.toList fun x hx => h x.2 (by simp only [Op.operands,List.mem_toArray,List.mem_map]; exact ⟨x,hx,rfl⟩)];exact ha
 | buildSlice t n parts =>
  dsimp only at ha ⊢;rw [<- zeG parts.toList fun x hx => h x.2 (by simp only [Op.operands,List.mem_toArray,List.mem_map]; exact ⟨x,hx,rfl⟩)];exact ha
 | makeFunc f first caps =>
  dsimp only at ha ⊢;rw [<- zdK first.toList fun x hx => h x (by simp [Op.operands]; exact .inl (by simpa using hx)),<- zdK caps.toList fun x hx => h x (by simp [Op.operands]; exact .inr (by simpa using hx))];exact ha
 | slice t x lo hi mx =>
  dsimp only at ha ⊢;rw [<- h x (by simp [Op.operands]),<- zeP lo fun y hy => h y (by simp [Op.operands,hy]),<- zeP hi fun y hy => h y (by simp [Op.operands,hy]),<- zeP mx fun y hy => h y (by simp [Op.operands,hy])];exact ha
 | pick c a b => dsimp only at ha ⊢; rw [<- h c (by simp [Op.operands]),<- h a (by simp [Op.operands]),<- h b (by simp [Op.operands])]; exact ha
 | binOp op t a b u => dsimp only at ha ⊢; rw [<- h a (by simp [Op.operands]),<- h b (by simp [Op.operands])]; exact ha
 | indexAddr t a b => dsimp only at ha ⊢; rw [<- h a (by simp [Op.operands]),<- h b (by simp [Op.operands])]; exact ha
 | index t a b => dsimp only at ha ⊢; rw [<- h a (by simp [Op.operands]),<- h b (by simp [Op.operands])]; exact ha
 | move x => dsimp only at ha ⊢; rw [<- h x (by simp [Op.operands])]; exact ha
 | assign x => dsimp only at ha ⊢; rw [<- h x (by simp [Op.operands])]; exact ha
 | unOp op t x => cases op <;> dsimp only at ha ⊢ <;> first | exact ha.elim | (rw [<- h x (by simp [Op.operands])]; exact ha)
 | convert a b x => dsimp only at ha ⊢; rw [<- h x (by simp [Op.operands])]; exact ha
 | extract x i => dsimp only at ha ⊢; rw [<- h x (by simp [Op.operands])]; exact ha
 | nilCheck x => dsimp only at ha ⊢; rw [<- h x (by simp [Op.operands])]; exact ha
 | makeInterface t x => dsimp only at ha ⊢; rw [<- h x (by simp [Op.operands])]; exact ha
 | typeAssert x a b c => dsimp only at ha ⊢; rw [<- h x (by simp [Op.operands])]; exact ha
 | fieldAddr t x f => dsimp only at ha ⊢; rw [<- h x (by simp [Op.operands])]; exact ha
 | field t x f => dsimp only at ha ⊢; rw [<- h x (by simp [Op.operands])]; exact ha
 | load t x => dsimp only at ha ⊢; rw [<- h x (by simp [Op.operands])]; exact ha
 | entry x => dsimp only at ha ⊢; rw [<- h x (by simp [Op.operands])]; exact ha
 | _ => exact ha.elim
theorem znN (sz : Nat) (a : AV) : AS.src ⟨T,H⟩ sz a = AS.src ⟨T',H⟩ sz a:=by cases a <;> rfl
theorem AQ.congr (h : ∀ x ∈ o.op.operands,AS.ev ⟨T,H⟩ x = AS.ev ⟨T',H⟩ x) (ha : AQ lv P ⟨T,H⟩ o k) : AQ lv P ⟨T',H⟩ o k:=by
 unfold AQ at ha ⊢;split at ha
 ·rename_i c ho;have hargs : ∀ x ∈ c.args.toList,AS.ev ⟨T,H⟩ x = AS.ev ⟨T',H⟩ x:=fun x hx => h x (by rw [ho]; simp [Op.operands,Call.operands]; exact .inr (by simpa using hx));split at ha
  ·rename_i x hcl;rw [<- h x (by rw [ho]; simp [Op.operands,Call.operands,hcl]),<- zcz _ hargs];exact ha
  ·rename_i x name hcl;rw [<- h x (by rw [ho]; simp [Op.operands,Call.operands,hcl]),<- zcz _ hargs];exact ha
  ·split at ha
   ·rename_i x y t t' hx ht;rw [hx] at hargs;rw [<- hargs x (by simp),<- hargs y (by simp)];simp only [znN (T:=T) (T':=T')] at ha;exact ha
   ·exact ha.elim
  ·exact AOp.congr h ha
 ·exact AOp.congr h ha
end
def zgH (ops : Array Oper) (j : Nat) : Option Nat:=(ops[j]?).bind (·.dst)
inductive Reach (ops : Array Oper) : Nat -> Nat -> Prop
 | edge {i j : Nat} {o : Oper} (ho : ops[i]? = some o) (hj : j ∈ zeh o) : Reach ops i j
 | more {i k j : Nat} {o : Oper} (ho : ops[i]? = some o) (hk : k ∈ zeh o) (h : Reach ops k j) : Reach ops i j
def zlO (acc : List (List Nat)) (o : Oper) : List (List Nat):=acc ++ [(zeh o ++ (zeh o).flatMap fun j => acc.getD j []).eraseDups]
def clos (ops : Array Oper) : List (List Nat):=ops.toList.foldl zlO []
theorem zfg (ops : Array Oper) : ∀ (l : List Oper) (acc : List (List Nat)) (i : Nat),acc.length = i -> (∀ k o,l[k]? = some o -> ops[i + k]? = some o) -> (∀ a,a < acc.length -> ∀ j ∈ acc.getD a [],Reach ops a j) ->
  ∀ a,∀ j ∈ (l.foldl zlO acc).getD a [],Reach ops a j
 | [],acc,i,_,_,h,a,j,hj => by
  simp only [List.foldl_nil] at hj;by_cases ha : a < acc.length
  ·exact h a ha j hj
  ·rw [List.getD_eq_getElem?_getD,List.getElem?_eq_none (by omega)] at hj;simp at hj
 | o :: l,acc,i,hi,ho,h,a,j,hj => by
  rw [List.foldl_cons] at hj;refine zfg ops l (zlO acc o) (i + 1) (by simp [zlO,hi]) (fun k o' hk => by have:=ho (k + 1) o' (by simpa using hk); rwa [show i + (k + 1) = i + 1 + k by omega] at this) (fun a ha j hj => ?_) a j hj;have hoi : ops[i]? = some o:=by have:=ho 0 o rfl; simpa using this
  have hget : ∀ a,a < acc.length -> (zlO acc o).getD a [] = acc.getD a []:=fun a ha => by
   simp [zlO,List.getD_eq_getElem?_getD,List.getElem?_append_left ha]
  by_cases ha' : a < acc.length
  ·rw [hget a ha'] at hj; exact h a ha' j hj
  ·have hae : a = acc.length:=(by simp [zlO] at ha; omega);subst hae;have e : (zlO acc o).getD acc.length [] = (zeh o ++ (zeh o).flatMap fun j => acc.getD j []).eraseDups:=by
    simp [zlO,List.getD_eq_getElem?_getD]
   rw [e,List.mem_eraseDups,List.mem_append] at hj;rw [hi];rcases hj with hj | hj
   ·exact .edge hoi hj
   ·obtain ⟨k,hk,hj⟩:=List.mem_flatMap.1 hj;have hkl : k < acc.length:=by
     apply Classical.byContradiction;intro hn;rw [List.getD_eq_getElem?_getD,List.getElem?_eq_none (by omega)] at hj;simp at hj
    exact .more hoi hk (h k hkl j hj)
def drawOk (nt p : Nat) (ops : Array Oper) : Bool :=
 let cl:=clos ops;decide (p <= ops.size) &&
 (List.range ops.size).all (fun i => match ops[i]? with
  | some o => o.dst.all (· < nt) && !zk9 o.op && (zeh o).all (· < i) &&
   (if i < p then
    (List.range i).all (fun j => match o.dst,zgH ops j with
     | some d,some d' => d != d'
     | _,_ => true) &&
    (o.op.operands.toList.all fun x => match x with
     | .tmp t => (List.range p).all fun j => zgH ops j != some t || (zeh o).contains j
     | _ => true) &&
    (match o.guard with
     | some (j,_) => (zeh o).contains j
     | none => true)
   else (List.range i).all fun j => (cl.getD i []).contains j)
  | none => true)
structure DrawOk (nt p : Nat) (ops : Array Oper) : Prop where
 le : p <= ops.size
 dst : ∀ (i : Nat) o d,ops[i]? = some o -> o.dst = some d -> d < nt
 dfr : ∀ (i : Nat) o,ops[i]? = some o -> zk9 o.op = false
 low : ∀ (i : Nat) o,ops[i]? = some o -> ∀ j ∈ zeh o,j < i
 dis : ∀ (i j : Nat) o d,j < i -> i < p -> ops[i]? = some o -> o.dst = some d -> zgH ops j ≠ some d
 opd : ∀ (i : Nat) o t j,i < p -> ops[i]? = some o -> .tmp t ∈ o.op.operands -> j < p -> zgH ops j = some t -> j ∈ zeh o
 grd : ∀ (i : Nat) o j w,i < p -> ops[i]? = some o -> o.guard = some (j,w) -> j ∈ zeh o
 suf : ∀ (i j : Nat),p <= i -> i < ops.size -> j < i -> Reach ops i j
theorem drawOk.out {nt p : Nat} {ops : Array Oper} (h : drawOk nt p ops = true) : DrawOk nt p ops:=by
 unfold drawOk at h;simp only [Bool.and_eq_true,decide_eq_true_eq] at h;obtain ⟨hle,h⟩:=h;have key : ∀ (i : Nat) o,ops[i]? = some o -> (o.dst.all (· < nt) = true /\ zk9 o.op = false /\ (∀ j ∈ zeh o,j < i)) /\
   (if i < p then
    (List.range i).all (fun j => match o.dst,zgH ops j with
     | some d,some d' => d != d'
     | _,_ => true) &&
    (o.op.operands.toList.all fun x => match x with
     | .tmp t => (List.range p).all fun j => zgH ops j != some t || (zeh o).contains j
     | _ => true) &&
    (match o.guard with
     | some (j,_) => (zeh o).contains j
     | none => true)
   else (List.range i).all fun j => ((clos ops).getD i []).contains j) = true:=fun i o ho => by
  have hi : i < ops.size:=(Array.getElem?_eq_some_iff.1 ho).1;have:=List.all_eq_true.1 h i (by simpa using hi);rw [ho] at this;simp only [Bool.and_eq_true,List.all_eq_true,Bool.not_eq_true',decide_eq_true_eq] at this;exact ⟨⟨this.1.1.1,this.1.1.2,this.1.2⟩,by simpa only [Bool.and_eq_true,List.all_eq_true] using this.2⟩
 refine ⟨hle,fun i o d ho hd => ?_,fun i o ho => (key i o ho).1.2.1,fun i o ho => (key i o ho).1.2.2,fun i j o d hj hp ho hd e => ?_,fun i o t j hp ho ht hj e => ?_,fun i o j w hp ho hg => ?_,fun i j hp hi hj => ?_⟩
 ·have:=(key i o ho).1.1; rw [hd] at this; simpa using this
 ·have:=(key i o ho).2;rw [if_pos hp] at this;simp only [Bool.and_eq_true,List.all_eq_true] at this;have:=this.1.1 j (by simpa using hj);rw [hd,e] at this;simp at this
 ·have:=(key i o ho).2;rw [if_pos hp] at this;simp only [Bool.and_eq_true,List.all_eq_true] at this;have:=this.1.2 (.tmp t) (by simpa using ht);simp only [List.all_eq_true] at this;have:=this j (by simpa using hj);rw [e] at this;simpa using this
 ·have:=(key i o ho).2;rw [if_pos hp] at this;simp only [Bool.and_eq_true] at this;have:=this.2;rw [hg] at this;simpa using this
 ·have:=(key i ops[i] (Array.getElem?_eq_getElem hi)).2;rw [if_neg (by omega)] at this;simp only [List.all_eq_true] at this;have:=this j (by simpa using hj);refine zfg ops ops.toList [] 0 rfl (fun k o hk => by simpa using hk) (by simp) i j ?_;simpa [clos] using this
theorem zmh {α β : Type} {f g : α -> Option β} : ∀ {l : List α},(∀ x ∈ l,f x = g x) -> l.filterMap f = l.filterMap g
 | [],_ => rfl
 | x :: l,h => by
  have ih:=zmh (l:=l) fun y hy => h y (List.mem_cons_of_mem _ hy);simp only [List.filterMap_cons,h x (List.mem_cons_self ..),ih]
def deps (ops : Array Oper) (f : Nat -> AV) (o : Oper) : List (Nat × AV):=(zeh o).filterMap fun j => (zgH ops j).map fun d => (d,f j)
def DOp (lv : Bool) (P : Program) (r : Option Nat) (ops : Array Oper) (T0 : List (Nat × AV)) (H : List AObj) (f : Nat -> AV) (i : Nat) (o : Oper) : Prop :=
 match o.guard with
 | none => QStep lv P r o ⟨deps ops f o ++ T0,H⟩ (f i)
 | some (j,want) => ∃ d b,zgH ops j = some d /\ look (deps ops f o ++ T0) d = some (.val (.bool b)) /\ (b = want -> QStep lv P r o ⟨deps ops f o ++ T0,H⟩ (f i)) /\ (b = !want -> f i = .val undef)
theorem zby (l m : List (Nat × AV)) (t : Nat) : look (l ++ m) t = (look l t).or (look m t):=by
 induction l with
 | nil => rfl
 | cons x l ih =>
  obtain ⟨k,a⟩:=x;simp only [List.cons_append,look];split
  ·rfl
  ·exact ih
theorem zbB {l : List (Nat × AV)} {t : Nat} {a : AV} (h : look l t = some a) : (t,a) ∈ l:=by
 induction l with
 | nil => cases h
 | cons x l ih =>
  obtain ⟨k,b⟩:=x;simp only [look] at h;split at h
  ·rename_i e; subst e; cases h; exact List.mem_cons_self ..
  ·exact List.mem_cons_of_mem _ (ih h)
theorem zgw {l : List (Nat × AV)} {t : Nat} (h : ∀ p ∈ l,p.1 ≠ t) : look l t = none:=by
 induction l with
 | nil => rfl
 | cons x l ih =>
  obtain ⟨k,b⟩:=x;simp only [look];rw [if_neg (h _ (List.mem_cons_self ..))];exact ih fun p hp => h p (List.mem_cons_of_mem _ hp)
theorem zhy {l : List (Nat × AV)} {q : Nat -> Bool} {t : Nat} : look (l.filter fun p => q p.1) t = if q t then look l t else none:=by
 induction l with
 | nil => simp [look]
 | cons x l ih =>
  obtain ⟨k,b⟩:=x;by_cases hk : q k = true
  ·rw [List.filter_cons_of_pos (by simpa using hk)];simp only [look];by_cases e : k = t
   ·subst e; simp [hk]
   ·simp [e,ih]
  ·rw [List.filter_cons_of_neg (by simpa using hk),ih];simp only [look];by_cases e : k = t
   ·subst e; simp [hk]
   ·simp [e]
section
variable {ops : Array Oper} {f : Nat -> AV} {p : Nat}
theorem zkz {o : Oper} {j t : Nat} (hj : j ∈ zeh o) (ht : zgH ops j = some t) (hone : ∀ j' ∈ zeh o,zgH ops j' = some t -> j' = j) : look (deps ops f o) t = some (f j):=by
 cases e : look (deps ops f o) t with
 | none =>
  exfalso;have hm : (t,f j) ∈ deps ops f o:=List.mem_filterMap.2 ⟨j,hj,by rw [ht]; rfl⟩;have : ∀ (l : List (Nat × AV)),(t,f j) ∈ l -> look l t ≠ none:=by
   intro l;induction l with
   | nil => intro h; cases h
   | cons x l ih =>
    intro h;obtain ⟨k,b⟩:=x;simp only [look];split
    ·simp
    ·rename_i hne;rcases List.mem_cons.1 h with h | h
     ·cases h; exact absurd rfl hne
     ·exact ih h
  exact this _ hm e
 | some a =>
  obtain ⟨j',hj',e'⟩:=List.mem_filterMap.1 (zbB e);obtain ⟨d,hd,e'⟩:=Option.map_eq_some_iff.1 e';cases e';rw [hone j' hj' hd]
theorem ze1 {o : Oper} {t : Nat} (h : ∀ j ∈ zeh o,zgH ops j ≠ some t) : look (deps ops f o) t = none:=by
 refine zgw fun x hx e => ?_;obtain ⟨j,hj,e'⟩:=List.mem_filterMap.1 hx;obtain ⟨d,hd,e'⟩:=Option.map_eq_some_iff.1 e';cases e';exact h j hj (by rw [hd]; exact congrArg some e)
end
section
variable {lv : Bool} {P : Program} {r : Option Nat} {s : AS} {ops : Array Oper} {nt p : Nat}
def zna (s : AS) (ops : Array Oper) (p : Nat) : List (Nat × AV):=s.T.filter fun x => (List.range p).all fun j => zgH ops j != some x.1
theorem zbN (t : Nat) : look (zna s ops p) t = if (List.range p).all (fun j => zgH ops j != some t) then look s.T t else none:=zhy (q:=fun t => (List.range p).all fun j => zgH ops j != some t)
structure DrRel (s : AS) (ops : Array Oper) (fs : List AV) (s' : AS) : Prop where
 H : s'.H = s.H
 new : ∀ j t,j < fs.length -> zgH ops j = some t -> look s'.T t = fs[j]?
 old : ∀ t,(∀ j,j < fs.length -> zgH ops j ≠ some t) -> look s'.T t = look s.T t
theorem DrRel.put (hok : DrawOk nt p ops) {fs : List AV} {s' : AS} (h : DrRel s ops fs s') (hp : fs.length < p) {o : Oper} (ho : ops[fs.length]? = some o) (av : AV) : DrRel s ops (fs ++ [av]) (s'.put o.dst av):=by
 have hd : zgH ops fs.length = o.dst:=by simp [zgH,ho]
 refine ⟨by rw [zbx]; exact h.H,fun j t hj ht => ?_,fun t ht => ?_⟩
 ·simp only [List.length_append,List.length_singleton] at hj;by_cases hje : j = fs.length
  ·subst hje;rw [hd] at ht;rw [ht];simp [AS.put,look]
  ·have hj' : j < fs.length:=(by omega);rw [List.getElem?_append_left hj',<- h.new j t hj' ht];cases hdo : o.dst with
   | none => rfl
   | some d =>
    have hne : d ≠ t:=fun e => hok.dis fs.length j o d hj' hp ho hdo (by rw [e]; exact ht);simp [AS.put,look,hne]
 ·have hold:=h.old t fun j hj => ht j (by simp; omega);rw [<- hold];cases hdo : o.dst with
  | none => rfl
  | some d =>
   have hne : d ≠ t:=fun e => ht fs.length (by simp) (by rw [hd,hdo,e]);simp [AS.put,look,hne]
theorem DrRel.know {fs : List AV} {s' : AS} (h : DrRel s ops fs s') {d : Nat} {a : AV} (hd : look s'.T d = some a) : DrRel s ops fs ⟨(d,a) :: s'.T,s'.H⟩:=by
 have e : ∀ t,look ((d,a) :: s'.T) t = look s'.T t:=fun t => by
  simp only [look];split
  ·rename_i e; subst e; exact hd.symm
  ·rfl
 exact ⟨h.H,fun j t hj ht => by rw [e]; exact h.new j t hj ht,fun t ht => by rw [e]; exact h.old t ht⟩
theorem DrRel.seen (hok : DrawOk nt p ops) {fs gs : List AV} {s' : AS} (h : DrRel s ops fs s') (hp : fs.length < p) {o : Oper} (ho : ops[fs.length]? = some o) {t : Nat} (ht : ∀ j,j < p -> zgH ops j = some t -> j ∈ zeh o) :
  look (deps ops (fun j => (fs ++ gs).getD j (.val undef)) o ++ zna s ops p) t = look s'.T t:=by
 have hlow:=hok.low fs.length o ho;have huniq : ∀ j j',j < p -> j' < p -> zgH ops j = some t -> zgH ops j' = some t -> j' = j:=fun j j' hj hj' e e' => by
  have get : ∀ i,i < p -> ∃ o,ops[i]? = some o:=fun i hi => ⟨_,Array.getElem?_eq_getElem (Nat.lt_of_lt_of_le hi hok.le)⟩;rcases Nat.lt_trichotomy j j' with hlt | hlt | hlt
  ·obtain ⟨o',ho'⟩:=get j' hj';exact absurd e (hok.dis j' j o' t hlt hj' ho' (by simpa [zgH,ho'] using e'))
  ·exact hlt.symm
  ·obtain ⟨o',ho'⟩:=get j hj;exact absurd e' (hok.dis j j' o' t hlt hj ho' (by simpa [zgH,ho'] using e))
 rw [zby];by_cases hex : ∃ j,j < p /\ zgH ops j = some t
 ·obtain ⟨j,hj,hjt⟩:=hex;have hjo:=ht j hj hjt;have hjl:=hlow j hjo;rw [zkz hjo hjt fun j' hj' e => huniq j j' hj (Nat.lt_trans (hlow j' hj') hp) hjt e];rw [h.new j t hjl hjt];simp [List.getD_eq_getElem?_getD,List.getElem?_append_left hjl,List.getElem?_eq_getElem hjl]
 ·have hno : ∀ j,j < p -> zgH ops j ≠ some t:=fun j hj e => hex ⟨j,hj,e⟩;rw [ze1 fun j hj => hno j (Nat.lt_trans (hlow j hj) hp),Option.none_or,zbN,if_pos (by simp only [List.all_eq_true]; intro j hj; simpa using hno j (by simpa using hj))];exact (h.old t fun j hj => hno j (by omega)).symm
theorem zea (hok : DrawOk nt p ops) {K : AS -> Prop} : ∀ (n : Nat) (fs : List AV) (s' : AS),fs.length + n = p -> DrRel s ops fs s' -> QOps lv P ops ((ops.toList.take p).drop fs.length) s' K ->
  ∃ gs,(fs ++ gs).length = p /\ (∀ i o,fs.length <= i -> i < p -> ops[i]? = some o -> DOp lv P r ops (zna s ops p) s.H (fun j => (fs ++ gs).getD j (.val undef)) i o) /\ ∃ s'',DrRel s ops (fs ++ gs) s'' /\ K s''
 | 0,fs,s',hn,hr,h => by
  have : (ops.toList.take p).drop fs.length = []:=by
   apply List.drop_eq_nil_of_le;simp; omega
  rw [this] at h;exact ⟨[],by simp; omega,fun i o h1 h2 => absurd h2 (by omega),s',by simpa using hr,h⟩
 | n + 1,fs,s',hn,hr,h => by
  have hp : fs.length < p:=by omega
  have hsz : fs.length < ops.size:=Nat.lt_of_lt_of_le hp hok.le;have ho : ops[fs.length]? = some ops[fs.length]:=Array.getElem?_eq_getElem hsz;generalize hoo : ops[fs.length] = o at ho;have hd : (ops.toList.take p).drop fs.length = o :: (ops.toList.take p).drop (fs.length + 1):=by
   rw [List.drop_eq_getElem_cons (by simp; omega)];simp [hoo]
  rw [hd] at h;have hopd : ∀ t,Operand.tmp t ∈ o.op.operands -> ∀ j,j < p -> zgH ops j = some t -> j ∈ zeh o:=fun t ht j hj e => hok.opd fs.length o t j hp ho ht hj e;have hev : ∀ (s1 : AS) (gs : List AV),DrRel s ops fs s1 -> ∀ x ∈ o.op.operands,AS.ev s1 x = AS.ev ⟨deps ops (fun j => (fs ++ gs).getD j (.val undef)) o ++ zna s ops p,s.H⟩ x:=fun s1 gs hr1 x hx => by
   cases x with
   | tmp t => exact (hr1.seen hok hp ho (hopd t hx)).symm
   | _ => rfl
  have go : ∀ (s1 : AS),DrRel s ops fs s1 -> (AQ lv P s1 o fun av => QOps lv P ops ((ops.toList.take p).drop (fs.length + 1)) (s1.put o.dst av) K) ->
    ∃ av gs,(fs ++ av :: gs).length = p /\ QStep lv P r o ⟨deps ops (fun j => (fs ++ av :: gs).getD j (.val undef)) o ++ zna s ops p,s.H⟩ av /\ (∀ i o,fs.length + 1 <= i -> i < p -> ops[i]? = some o -> DOp lv P r ops (zna s ops p) s.H (fun j => (fs ++ av :: gs).getD j (.val undef)) i o) /\ ∃ s'',DrRel s ops (fs ++ av :: gs) s'' /\ K s'':=fun s1 hr1 h1 => by
   obtain ⟨av0,_,_⟩:=h1.sound (r:=r);have hs1 : s1 = ⟨s1.T,s.H⟩:=(by rw [<- hr1.H]);rw [hs1] at h1;have h2:=AQ.congr (T':=deps ops (fun j => (fs ++ []).getD j (.val undef)) o ++ zna s ops p) (fun x hx => by rw [<- hs1]; exact hev s1 [] hr1 x hx) h1;obtain ⟨av,hq,h3⟩:=h2.sound (r:=r);obtain ⟨gs,g1,g2,s'',g3,g4⟩:=zea hok n (fs ++ [av]) (s1.put o.dst av) (by simp; omega) (hr1.put hok hp ho av) (by rw [<- hs1] at h3; simpa using h3);have e : fs ++ [av] ++ gs = fs ++ av :: gs:=(by simp);rw [e] at g1 g2 g3;refine ⟨av,gs,g1,?_,fun i o hi => g2 i o (by simpa using hi),s'',g3,g4⟩;have ed : deps ops (fun j => (fs ++ av :: gs).getD j (.val undef)) o = deps ops (fun j => (fs ++ []).getD j (.val undef)) o:=by
    unfold deps;apply zmh;intro j hj;have hjl:=hok.low fs.length o ho j hj;simp [List.getD_eq_getElem?_getD,List.getElem?_append_left hjl]
   rw [ed]; exact hq
  simp only [QOps] at h;split at h
  ·rename_i hg;obtain ⟨av,gs,g1,g2,g3,g4⟩:=go s' hr h;refine ⟨av :: gs,g1,fun i o' hi hip ho' => ?_,g4⟩;by_cases hie : i = fs.length
   ·subst hie;rw [ho] at ho'; cases ho';unfold DOp;rw [hg];simpa [List.getD_eq_getElem?_getD] using g2
   ·exact g3 i o' (by omega) hip ho'
  ·rename_i j want hg;obtain ⟨d,hdj,hA⟩:=h.out;obtain ⟨a,hla,hB⟩:=hA.out;obtain ⟨b,e1,hC,hD⟩:=zbJ hB;subst e1;have hjo:=hok.grd fs.length o j want hp ho hg;have hjl:=hok.low fs.length o ho j hjo;have hseen : ∀ gs,look (deps ops (fun j => (fs ++ gs).getD j (.val undef)) o ++ zna s ops p) d = some (.val (.bool b)):=fun gs => by
    rw [hr.seen hok hp ho fun j' hj' e => ?_]
    ·exact hla
    ·have get : ∀ i,i < p -> ∃ o,ops[i]? = some o:=fun i hi => ⟨_,Array.getElem?_eq_getElem (Nat.lt_of_lt_of_le hi hok.le)⟩;rcases Nat.lt_trichotomy j j' with hlt | hlt | hlt
     ·obtain ⟨o',ho'⟩:=get j' hj';exact absurd hdj (hok.dis j' j o' d hlt hj' ho' (by simpa [zgH,ho'] using e))
     ·rw [<- hlt]; exact hjo
     ·obtain ⟨o',ho'⟩:=get j (by omega);exact absurd e (hok.dis j j' o' d hlt (by omega) ho' (by simpa [zgH,ho'] using hdj))
   by_cases hb : b = want
   ·subst hb;obtain ⟨av,gs,g1,g2,g3,g4⟩:=go _ (hr.know hla) (hC rfl);refine ⟨av :: gs,g1,fun i o' hi hip ho' => ?_,g4⟩;by_cases hie : i = fs.length
    ·subst hie;rw [ho] at ho'; cases ho';unfold DOp;rw [hg];refine ⟨d,b,hdj,hseen _,fun _ => by simpa [List.getD_eq_getElem?_getD] using g2,fun e => by cases b <;> cases e⟩
    ·exact g3 i o' (by omega) hip ho'
   ·have hb' : b = !want:=(by cases b <;> cases want <;> simp_all);subst hb';have h3:=hD rfl;obtain ⟨gs,g1,g2,s'',g3,g4⟩:=zea hok n (fs ++ [.val undef]) _ (by simp; omega) ((hr.know hla).put hok hp ho (.val undef)) (by simpa using h3);have e : fs ++ [.val undef] ++ gs = fs ++ .val undef :: gs:=(by simp);rw [e] at g1 g2 g3;refine ⟨.val undef :: gs,g1,fun i o' hi hip ho' => ?_,s'',g3,g4⟩;by_cases hie : i = fs.length
    ·subst hie;rw [ho] at ho'; cases ho';unfold DOp;rw [hg];exact ⟨d,!want,hdj,hseen _,fun e => absurd e hb,fun _ => by simp [List.getD_eq_getElem?_getD]⟩
    ·exact g2 i o' (by simp; omega) hip ho'
structure DAt (E : Env) (V : View) (ops : Array Oper) (T0 : List (Nat × AV)) (H : List AObj) (f : Nat -> AV) (X : List Nat) (a : Act) (nt : Nat) : Prop where
 conc : Conc E V H
 base : TOk E T0 a.tmps
 done : ∀ i ∈ X,∀ d,zgH ops i = some d -> Den E (f i) (a.tmps.getD d undef)
 size : a.tmps.size = nt
theorem zcI {X : List Nat} (hX : ∀ i ∈ X,∀ o,ops[i]? = some o -> ∀ j ∈ zeh o,j ∈ X) {i j : Nat} (h : Reach ops i j) : ((∀ o,ops[i]? = some o -> ∀ k ∈ zeh o,k ∈ X)) -> j ∈ X:=by
 induction h with
 | edge ho hj => intro hd; exact hd _ ho _ hj
 | more ho hk _ ih => intro hd; exact ih (hX _ (hd _ ho _ hk))
theorem ziO (hok : DrawOk nt p ops) {X l : List Nat} (hs : Sched ops X l) : ∀ q,p <= q -> q <= ops.size -> (∀ i,i ∈ X <-> i < q) -> (∀ i ∈ X,∀ o,ops[i]? = some o -> ∀ j ∈ zeh o,j ∈ X) -> l = List.range' q (ops.size - q):=by
 induction hs with
 | nil X h =>
  intro q hp hq hX _;have : ops.size <= q:=by
   apply Classical.byContradiction;intro hn;have:=(hX q).1 (h q (by omega));omega
  have : ops.size - q = 0:=by omega
  rw [this]; rfl
 | cons o ho hn hd _ ih =>
  rename_i X i l _;intro q hp hq hX hc;have hi : i < ops.size:=(Array.getElem?_eq_some_iff.1 ho).1;have hiq : q <= i:=by
   apply Classical.byContradiction;intro h;exact hn ((hX i).2 (by omega))
  have hqi : i = q:=by
   apply Classical.byContradiction;intro hne;have:=zcI hc (hok.suf i q (by omega) hi (by omega)) (fun o' ho' k hk => by rw [ho] at ho'; cases ho'; exact hd k hk);have:=(hX q).1 this;omega
  subst hqi;have e : ops.size - i = (ops.size - (i + 1)) + 1:=by omega
  rw [e,List.range'_succ];congr 1;refine ih (i + 1) (by omega) (by omega) (fun k => ?_) (fun k hk o' ho' j hj => ?_)
  ·simp only [List.mem_cons,hX]; omega
  ·rcases List.mem_cons.1 hk with rfl | hk
   ·rw [ho] at ho'; cases ho'; exact List.mem_cons_of_mem _ (hd j hj)
   ·exact List.mem_cons_of_mem _ (hc k hk o' ho' j hj)
theorem zil {T0 : List (Nat × AV)} {H : List AObj} {f : Nat -> AV} (hok : DrawOk nt p ops) (hbase : ∀ j,j < p -> ∀ d,zgH ops j = some d -> look T0 d = none) (hop : ∀ (i : Nat) o,i < p -> ops[i]? = some o -> DOp lv P r ops T0 H f i o) {X l : List Nat} (hs : Sched ops X l) :
  (∀ i ∈ X,i < p) -> (∀ i ∈ X,∀ o,ops[i]? = some o -> ∀ j ∈ zeh o,j ∈ X) -> ∀ (E : Env) (V : View) (a : Act) (Q : Ex -> Act -> View -> Prop),DAt E V ops T0 H f X a nt ->
   (∀ E' V' a' X',Kept E E' V V' a a' -> DAt E' V' ops T0 H f X' a' nt -> (∀ i,i < p -> i ∈ X') -> zie lv P r ops Q (List.range' p (ops.size - p)) a' V') -> zie lv P r ops Q l a V:=by
 have full : ∀ X : List Nat,(∀ i ∈ X,i < p) -> (∀ i,i < p -> i ∈ X) -> ∀ i,i ∈ X <-> i < p:=fun X h1 h2 i => ⟨h1 i,h2 i⟩;induction hs with
 | nil X h =>
  intro hX hc E V a Q hat hQ;have hpe : p = ops.size:=by
   apply Classical.byContradiction;intro hne;have:=hX p (h p (by have:=hok.le; omega));omega
  have:=hQ E V a X (Kept.refl E V a) hat (fun i hi => h i (by omega));rw [hpe,Nat.sub_self] at this;exact this
 | cons o ho hn hd hrest ih =>
  rename_i X i l;intro hX hc E V a Q hat hQ;have hi : i < ops.size:=(Array.getElem?_eq_some_iff.1 ho).1;by_cases hip : i < p
  ·simp only [zie,ho];have hX' : ∀ k ∈ i :: X,k < p:=fun k hk => (List.mem_cons.1 hk).elim (fun e => by rw [e]; exact hip) (hX k);have hc' : ∀ k ∈ i :: X,∀ o',ops[k]? = some o' -> ∀ j ∈ zeh o',j ∈ i :: X:=fun k hk o' ho' j hj => by
    rcases List.mem_cons.1 hk with rfl | hk
    ·rw [ho] at ho'; cases ho'; exact List.mem_cons_of_mem _ (hd j hj)
    ·exact List.mem_cons_of_mem _ (hc k hk o' ho' j hj)
   have tok : TOk E (deps ops f o ++ T0) a.tmps:=by
    intro t av e;rw [zby] at e;cases hl : look (deps ops f o) t with
    | none => rw [hl] at e; exact hat.base t av e
    | some x =>
     rw [hl] at e; cases e;obtain ⟨j,hj,e⟩:=List.mem_filterMap.1 (zbB hl);obtain ⟨d,hd',e⟩:=Option.map_eq_some_iff.1 e;cases e;obtain ⟨oj,hoj,hdd⟩:=Option.bind_eq_some_iff.1 hd';exact ⟨by rw [hat.size]; exact hok.dst j oj _ hoj hdd,hat.done j (hd j hj) _ hd'⟩
   have hdo : zgH ops i = o.dst:=(by simp [zgH,ho]);have put : ∀ {E' V'} (v : Value),E.Le E' -> Conc E' V' H -> Den E' (f i) v -> DAt E' V' ops T0 H f (i :: X) (a.put o.dst v) nt:=fun {E' V'} v hle hc2 hv => by
    cases hdst : o.dst with
    | none =>
     refine ⟨hc2,hat.base.mono hle,fun k hk d hkd => ?_,hat.size⟩;rcases List.mem_cons.1 hk with rfl | hk
     ·rw [hdo,hdst] at hkd; cases hkd
     ·exact (hat.done k hk d hkd).mono hle
    | some d0 =>
     have hlt : d0 < a.tmps.size:=(by rw [hat.size]; exact hok.dst i o d0 ho hdst);refine ⟨hc2,fun t av e => ?_,fun k hk d hkd => ?_,by simp [Act.put,hat.size]⟩
     ·have hne : d0 ≠ t:=fun e' => (by rw [<- e',hbase i hip d0 (by rw [hdo,hdst])] at e; cases e);have:=hat.base.mono hle t av e;exact ⟨by simpa [Act.put] using this.1,by simpa [Act.put,Array.getD_eq_getD_getElem?,Array.getElem?_setIfInBounds_ne hne] using this.2⟩
     ·by_cases hki : k = i
      ·subst hki;rw [hdo,hdst] at hkd; cases hkd;simpa [Act.put,Array.getD_eq_getD_getElem?,Array.getElem?_setIfInBounds_self_of_lt hlt] using hv
      ·have hk' : k ∈ X:=(List.mem_cons.1 hk).resolve_left hki;have hne : d0 ≠ d:=fun e' => by
        subst e';have hkp:=hX k hk';have get : ∀ i,i < p -> ∃ o,ops[i]? = some o:=fun i hi => ⟨_,Array.getElem?_eq_getElem (Nat.lt_of_lt_of_le hi hok.le)⟩;rcases Nat.lt_trichotomy k i with hlt | hlt | hlt
        ·exact hok.dis i k o d0 hlt hip ho hdst hkd
        ·exact hki hlt
        ·obtain ⟨o',ho'⟩:=get k hkp;exact hok.dis k i o' d0 hlt hkp ho' (by simpa [zgH,ho'] using hkd) (by rw [hdo,hdst])
       have:=(hat.done k hk' d hkd).mono hle;simpa [Act.put,Array.getD_eq_getD_getElem?,Array.getElem?_setIfInBounds_ne hne] using this
   have go : QStep lv P r o ⟨deps ops f o ++ T0,H⟩ (f i) -> OpWP lv P r o a V (zie lv P r ops Q l) Q:=fun hq =>
    hq E V a _ Q hat.conc tok (.inr (hok.dfr i o ho)) fun E' V' v hle hro hde hc2 hv =>
     ih hX' hc' E' V' (a.put o.dst v) Q (put v hle hc2 hv) fun E'' V'' a'' X'' hk hat'' hall =>
      hQ E'' V'' a'' X'' ⟨hle.trans hk.le,hk.size.trans (zaA _ _ _),hk.defers.trans (zaw _ _ _),hk.role.trans hro,hk.deaf.trans hde⟩ hat'' hall
   have hdo':=hop i o hip ho;unfold DOp at hdo';split at hdo'
   ·rename_i hgu;have hw : Region.wanted o (yielded ops a.tmps) = true:=(by unfold Region.wanted; rw [hgu]);rw [if_pos hw]; exact .inl (go hdo')
   ·rename_i j want hgu;obtain ⟨d,b,hdj,hlk,h1,h2⟩:=hdo';obtain ⟨hlt,hv⟩:=tok d _ hlk;have hy : yielded ops a.tmps j = some b:=by
     obtain ⟨oj,hoj,hdd⟩:=Option.bind_eq_some_iff.1 hdj;generalize hx : a.tmps.getD d undef = x at hv;cases hv;rw [Array.getD_eq_getD_getElem?,Array.getElem?_eq_getElem hlt] at hx;simp only [Option.getD_some] at hx;simp [yielded,hoj,hdd,Array.getElem?_eq_getElem hlt,hx]
    by_cases hb : b = want
    ·have hw : Region.wanted o (yielded ops a.tmps) = true:=(by unfold Region.wanted; rw [hgu]; simp [hy,hb]);rw [if_pos hw]; exact .inl (go (h1 hb))
    ·have hw : ¬ Region.wanted o (yielded ops a.tmps) = true:=(by unfold Region.wanted; rw [hgu]; simp [hy,hb]);rw [if_neg hw];have hu:=h2 (by cases b <;> cases want <;> simp_all);exact ih hX' hc' E V (a.put o.dst undef) Q (put undef (Env.Le.refl E) hat.conc (by rw [hu]; exact .val _)) fun E'' V'' a'' X'' hk hat'' hall =>
      hQ E'' V'' a'' X'' ⟨hk.le,hk.size.trans (zaA _ _ _),hk.defers.trans (zaw _ _ _),hk.role,hk.deaf⟩ hat'' hall
  ·have hall : ∀ k,k < p -> k ∈ X:=fun k hk => zcI hc (hok.suf i k (by omega) hi (by omega)) (fun o' ho' j hj => by rw [ho] at ho'; cases ho'; exact hd j hj);have hl:=ziO hok (.cons o ho hn hd hrest) p (Nat.le_refl _) hok.le (full X hX hall) hc;rw [hl];exact hQ E V a X (Kept.refl E V a) hat hall
theorem zaT {id : Nat} {Φ : AEx -> AS -> Prop} (hm : P.follows .mixedOrders = true) (p : Nat) (hok : drawOk nt p ops = true) (h : QOps lv P ops (ops.toList.take p) s (fun s' => AOps lv P ops (ops.toList.drop p) s' (Φ .normal) (fun pv s => Φ (.panic pv) s))) : AWP lv P r nt (.region id ops true) s Φ:=by
 intro E V a Q hat hQ;have hok:=drawOk.out hok;obtain ⟨gs,g1,g2,s'',g3,g4⟩:=zea (lv:=lv) (r:=r) hok p [] s (by simp) ⟨rfl,by simp,by simp⟩ (by simpa using h);simp only [List.nil_append] at g1 g2 g3;refine zg3 fun t => ?_;rw [show Region.schedule (P.follows .mixedOrders) ops t = Region.linearise.go .any ops ops.size t (Array.replicate ops.size false) [] by unfold Region.schedule; rw [hm]; simp [Region.linearise]];have hs:=zeA (ops:=ops) (fun i o ho j hj => hok.low i o ho j hj) ops.size t (Array.replicate ops.size false) [] ⟨by simp,fun i hi => by simp [hi]⟩ (Nat.le_trans List.countP_le_length (by simp));refine zil (T0:=zna s ops p) (H:=s.H) hok (fun j hj d hd => ?_) (fun i o hi ho => g2 i o (by simp) hi ho) hs (by simp) (by simp) E V a Q ⟨hat.conc,fun t av e => ?_,by simp,hat.size⟩ fun E' V' a' X' hk hat' hall => ?_
 ·rw [zbN,if_neg];simp only [List.all_eq_true];intro h;have:=h j (by simpa using hj);rw [hd] at this;simp at this
 ·rw [zbN] at e;split at e
  ·exact hat.tok t av e
  ·cases e
 ·refine zb3 (Φ:=Φ) (fun o ho d e => ?_) (fun o ho => .inr ?_) (ops.size - p) p s'' (by have:=hok.le; omega) g4 E' V' a' Q ⟨by rw [g3.H]; exact hat'.conc,fun t av e => ?_,hat'.size⟩ (fun ae e E'' V'' a'' s3 hk' hat3 he hΦ => hQ ae e E'' V'' a'' s3 (hk.trans hk') hat3 he hΦ)
  ·obtain ⟨i,hi⟩:=Array.mem_iff_getElem?.1 ho; exact hok.dst i o d hi e
  ·obtain ⟨i,hi⟩:=Array.mem_iff_getElem?.1 ho; exact hok.dfr i o hi
  ·by_cases hex : ∃ j,j < p /\ zgH ops j = some t
   ·obtain ⟨j,hj,hjt⟩:=hex;rw [g3.new j t (by omega) hjt] at e;obtain ⟨oj,hoj,hdd⟩:=Option.bind_eq_some_iff.1 hjt;refine ⟨by rw [hat'.size]; exact hok.dst j oj t hoj hdd,?_⟩;have:=hat'.done j (hall j hj) t hjt;simpa [List.getD_eq_getElem?_getD,e] using this
   ·have hno : ∀ j,j < p -> zgH ops j ≠ some t:=fun j hj e => hex ⟨j,hj,e⟩;rw [g3.old t fun j hj => hno j (by omega)] at e;refine hat'.base t av ?_;rw [zbN,if_pos (by simp only [List.all_eq_true]; intro j hj; simpa using hno j (by simpa using hj))];exact e
end
def Keeps (T base Vn : List (Nat × AV)) : Prop:=T.drop (T.length - base.length) = base /\ ((T.take (T.length - base.length)).all fun p => (Vn.any fun q => q.1 == p.1) || !(base.any fun q => q.1 == p.1)) = true
theorem zrU {l : List (Nat × AV)} {t : Nat} {a : AV} (h : look l t = some a) : (l.any fun q => q.1 == t) = true:=List.any_eq_true.2 ⟨_,zbB h,by simp⟩
theorem zky {l : List (Nat × AV)} {t : Nat} (h : (l.any fun q => q.1 == t) = true) : ∃ a,look l t = some a:=by
 induction l with
 | nil => cases h
 | cons x l ih =>
  obtain ⟨k,b⟩:=x;simp only [look];split
  ·exact ⟨b,rfl⟩
  ·rename_i hne;refine ih ?_;simpa [List.any_cons,hne] using h
theorem Keeps.look {T base Vn : List (Nat × AV)} (h : Keeps T base Vn) {t : Nat} {a : AV} (hb : look base t = some a) (hv : look Vn t = none) : look T t = some a:=by
 obtain ⟨h1,h2⟩:=h;have e : T = T.take (T.length - base.length) ++ base:=by
  have:=(List.take_append_drop (T.length - base.length) T).symm;rwa [h1] at this
 rw [e,zby];cases hl : Gg.look (T.take (T.length - base.length)) t with
 | none => exact hb
 | some x =>
  exfalso;have:=List.all_eq_true.1 h2 _ (zbB hl);simp only [Bool.or_eq_true,Bool.not_eq_true'] at this;rcases this with this | this
  ·obtain ⟨y,hy⟩:=zky this;rw [hv] at hy; cases hy
  ·rw [zrU hb] at this; cases this
def zlQ (base Vi Vn : List (Nat × AV)) (Hn : List AObj) (s' : AS) : Prop :=
 Keeps s'.T (Vi ++ base) Vn /\ (∀ p ∈ Vn,∃ b,look s'.T p.1 = some b /\ Wk b p.2) /\ ∃ G,s'.H = Hn ++ G /\ (G = [] \/ (HOk Hn /\ ∀ p ∈ Vn,Lt Hn.length p.2))
section
variable {lv : Bool} {P : Program} {r : Option Nat} {s : AS}
theorem za9 {nt : Nat} {α : Type} {lt : α -> α -> Prop} (wf : WellFounded lt) {c : Code} {Φ : AEx -> AS -> Prop} (V : α -> List (Nat × AV)) (Hf : α -> List AObj) (ok : α -> Prop) (m0 : α)
  (hkeys : ∀ m m',(V m).map (·.1) = (V m').map (·.1)) (hV0 : ∀ p ∈ V m0,∃ b,look s.T p.1 = some b /\ Wk b p.2) (hH0 : Hf m0 = s.H) (hl : ∀ m,ok m -> (Hf m).length = s.H.length) (hm : ok m0)
  (h : HOk s.H -> (∀ t a,look s.T t = some a -> Lt s.H.length a) -> ∀ m,ok m -> ∀ R : AS -> Prop,(∀ s',(∃ m',lt m' m /\ ok m' /\ zlQ s.T (V m) (V m') (Hf m') s') -> R s') -> AWP lv P r nt c ⟨V m ++ s.T,Hf m⟩ (AEx.then R Φ)) : AWP lv P r nt (.loop c) s Φ:=by
 have same : ∀ m m' t,look (V m) t = none -> look (V m') t = none:=fun m m' t h => zgw fun p hp e => by
  have h1 : p.1 ∈ (V m').map (·.1):=List.mem_map.2 ⟨p,hp,rfl⟩;rw [hkeys m' m] at h1;obtain ⟨q,hq,e'⟩:=List.mem_map.1 h1;have h2 : ((V m).any fun x => x.1 == t) = true:=List.any_eq_true.2 ⟨q,hq,by simp [e',e]⟩;obtain ⟨a,ha⟩:=zky h2;rw [h] at ha; cases ha
 intro E V0 a Q hat hQ;have hlt : ∀ t a,look s.T t = some a -> Lt s.H.length a:=fun t x e => by rw [<- hat.conc.n]; exact (hat.tok t x e).2.lt
 have h0 : s.Sub ⟨V m0 ++ s.T,Hf m0⟩:=⟨fun t x e => by
  rw [zby] at e;cases hl : look (V m0) t with
  | none => rw [hl] at e; exact ⟨x,e,Wk.refl x⟩
  | some y => rw [hl] at e; cases e; exact hV0 (t,x) (zbB hl),hH0.symm⟩
 refine zp3 wf (s:=s) (fun m => ⟨V m ++ s.T,Hf m⟩) ok m0 h0 hm (fun m hok => by rw [hl m hok]; exact Nat.le_refl _) (fun m hok => ?_) E V0 a Q hat hQ;refine (h hat.conc.hok hlt m hok _ fun _ h => h).mono fun e s' hΦ => ?_;cases e with
 | normal =>
  obtain ⟨m',q1,q2,hk,hv,G,hG,hend⟩:=hΦ;have tok : ∀ t x,look (V m' ++ s.T) t = some x -> ∃ b,look s'.T t = some b /\ Wk b x /\ (look (V m') t = some x \/ look s.T t = some x):=fun t x e => by
   rw [zby] at e;cases hl : look (V m') t with
   | none =>
    rw [hl] at e;have hb : look (V m ++ s.T) t = some x:=(by rw [zby,same m' m t hl]; exact e);exact ⟨x,hk.look hb hl,Wk.refl x,.inr e⟩
   | some y =>
    rw [hl] at e; cases e;obtain ⟨b,h1,h2⟩:=hv (t,x) (zbB hl);exact ⟨b,h1,h2,.inl rfl⟩
  refine ⟨m',q1,q2,?_⟩;rcases hend with rfl | ⟨hok',hltv⟩
  ·exact .inl ⟨fun t x e => by obtain ⟨b,h1,h2,_⟩:=tok t x e; exact ⟨b,h1,h2⟩,by rw [hG,List.append_nil]⟩
  ·refine .inr ⟨fun t x e => ?_,⟨G,hG⟩,hok'⟩;obtain ⟨b,h1,h2,h3⟩:=tok t x e;refine ⟨b,h1,h2,?_⟩;rcases h3 with h3 | h3
   ·exact hltv (t,x) (zbB h3)
   ·show Lt (Hf m').length x;rw [hl m' q2]; exact hlt t x h3
 | _ => exact hΦ
theorem zaB {nt : Nat} {c : Code} {Φ : AEx -> AS -> Prop} (n : Nat) (V : Nat -> List (Nat × AV)) (Hf : Nat -> List AObj) (ok : Nat -> Prop)
  (hkeys : ∀ m m',(V m).map (·.1) = (V m').map (·.1)) (hV0 : ∀ p ∈ V 0,∃ b,look s.T p.1 = some b /\ Wk b p.2) (hH0 : Hf 0 = s.H) (hl : ∀ m,m <= n -> ok m -> (Hf m).length = s.H.length) (hm : ok 0)
  (h : HOk s.H -> (∀ t a,look s.T t = some a -> Lt s.H.length a) -> ∀ m,m <= n -> ok m -> ∀ R : AS -> Prop,(∀ s',(m < n /\ ok (m + 1) /\ zlQ s.T (V m) (V (m + 1)) (Hf (m + 1)) s') -> R s') -> AWP lv P r nt c ⟨V m ++ s.T,Hf m⟩ (AEx.then R Φ)) : AWP lv P r nt (.loop c) s Φ:=by
 refine za9 (measure fun i => n - i).wf V Hf (fun i => i <= n /\ ok i) 0 hkeys hV0 hH0 (fun m h => hl m h.1 h.2) ⟨Nat.zero_le _,hm⟩ (fun h1 h2 m hok R hR => ?_);exact h h1 h2 m hok.1 hok.2 R fun s' ⟨q1,q2,q3⟩ => hR s' ⟨m + 1,(by show n - (m + 1) < n - m; omega),⟨q1,q2⟩,q3⟩
end
theorem zam {T base Vn : List (Nat × AV)} (h1 : T.drop (T.length - base.length) = base) (h2 : ((T.take (T.length - base.length)).all fun p => (Vn.any fun q => q.1 == p.1) || !(base.any fun q => q.1 == p.1)) = true) : Keeps T base Vn:=⟨h1,h2⟩
theorem endV {H L : List AObj} {x : Value} {k : AV -> List AObj -> Prop} (hH : HOk H) (h : k (.val x) H) : zly H.length (H ++ L) (.val x) k:=zaJ (Wk.refl _) rfl (Nat.le_refl _) hH (.val x) h
theorem endA {H L : List AObj} {a b : AV} {k : AV -> List AObj -> Prop} (hH : HOk H) (hw : Wk a b) (hl : Lt H.length b) (h : k b H) : zly H.length (H ++ L) a k:=zaJ hw rfl (Nat.le_refl _) hH hl h
def AObj.cellsOf : AObj -> Option (List AV)
 | .cells l _ | .part _ l _ | .own _ l _ => some l
 | _ => none
theorem zfT (l : List AV) (e : TypeId) : AObj.cellsOf (.cells l e) = some l:=rfl
theorem zgU (p : Nat) (l : List AV) (e : TypeId) : AObj.cellsOf (.part p l e) = some l:=rfl
def AObj.rowOf : AObj -> Option (List AV)
 | .cells l _ | .part _ l _ | .own _ l _ => some l
 | _ => none
theorem zhm (l : List AV) (e : TypeId) : AObj.rowOf (.cells l e) = some l:=rfl
theorem znU (p : Nat) (l : List AV) (e : TypeId) : AObj.cellsOf (.own p l e) = some l:=rfl
theorem zoo (p : Nat) (l : List AV) (e : TypeId) : AObj.rowOf (.own p l e) = some l:=rfl
theorem zoa (p : Nat) (l : List AV) (e : TypeId) : AObj.rowOf (.part p l e) = some l:=rfl
theorem at_opS (T : List (Nat × AV)) (H : List AObj) (i off : Nat) : AS.at ⟨T,H⟩ (.op i off) = ((H[i]?).bind AObj.cellsOf).map fun l => l.drop off:=by
 simp only [AS.at];cases H[i]? with
 | none => rfl
 | some x => cases x <;> rfl
theorem zkm (k : IntKind) (n : Int) : AV.parts (.val (.int k n)) = some [.val (.int k n)]:=rfl
theorem zi3 (b : Bool) : AV.parts (.val (.bool b)) = some [.val (.bool b)]:=rfl
theorem zkj (b : ByteArray) : AV.parts (.val (.string b)) = some [.val (.string b)]:=rfl
theorem zkk (b : Option Addr) : AV.parts (.val (.pointer b)) = some [.val (.pointer b)]:=rfl
theorem zfy : AV.parts (.val .nilFunc) = some [.val .nilFunc]:=rfl
theorem ze0 : AV.parts (.val .nilIface) = some [.val .nilIface]:=rfl
theorem zgr (r : Option Nat) : AV.parts (.val (.map r)) = some [.val (.map r)]:=rfl
theorem zko (l : List AV) : AV.parts (.agg l) = some l:=rfl
theorem zph (n : Nat) (l : List AV) (e : End) : AV.parts (.sl n l e) = some [.sl n l e]:=rfl
theorem zrq (n : Nat) (l : List AV) (e : End) : AV.len (.sl n l e) = some n:=by rw [AV.len]
theorem zpB (i o n c : Nat) : AV.len (.osl i o n c) = some n:=by rw [AV.len]
attribute [seval] zrq zpB
theorem zkl (i o n c : Nat) : AV.parts (.osl i o n c) = some [.osl i o n c]:=rfl
theorem zpi (l : List AV) : AV.parts (.rp l) = some [.rp l]:=rfl
theorem zpj (i o : Nat) : AV.parts (.op i o) = some [.op i o]:=rfl
theorem zpl (f : Fn) (l m : List AV) : AV.parts (.fn f l m) = some [.fn f l m]:=rfl
theorem zkn (t : TypeId) (a : AV) : AV.parts (.ifc t a) = some [.ifc t a]:=rfl
theorem zpk (i : Nat) : AV.parts (.mp i) = some [.mp i]:=rfl
theorem zpG (k : IntKind) (n : Int) : AV.leaf (.val (.int k n)) = true:=rfl
theorem zkF (b : Bool) : AV.leaf (.val (.bool b)) = true:=rfl
theorem zpC (b : ByteArray) : AV.leaf (.val (.string b)) = true:=rfl
theorem zpD (b : Option Addr) : AV.leaf (.val (.pointer b)) = true:=rfl
theorem zgA : AV.leaf (.val .nilFunc) = true:=rfl
theorem zfG : AV.leaf (.val .nilIface) = true:=rfl
theorem zhz (r : Option Nat) : AV.leaf (.val (.map r)) = true:=rfl
theorem zrr (n : Nat) (l : List AV) (e : End) : AV.leaf (.sl n l e) = true:=rfl
theorem zpE (i o n c : Nat) : AV.leaf (.osl i o n c) = true:=rfl
theorem zrs (l : List AV) : AV.leaf (.rp l) = true:=rfl
theorem zrt (i o : Nat) : AV.leaf (.op i o) = true:=rfl
theorem zrv (f : Fn) (l m : List AV) : AV.leaf (.fn f l m) = true:=rfl
theorem zpH (t : TypeId) (a : AV) : AV.leaf (.ifc t a) = true:=rfl
theorem zru (i : Nat) : AV.leaf (.mp i) = true:=rfl
theorem zrj (k : IntKind) (n : Int) : AV.of1 (.int k n) = .val (.int k n):=rfl
theorem zps (b : Bool) : AV.of1 (.bool b) = .val (.bool b):=rfl
theorem of1_sl : AV.of1 (.slice none 0 0) = .sl 0 [] .exact:=rfl
theorem of1_fn : AV.of1 .nilFunc = .val .nilFunc:=rfl
theorem of1_if : AV.of1 .nilIface = .val .nilIface:=rfl
theorem zrh (a : Option Addr) : AV.of1 (.pointer a) = .val (.pointer a):=rfl
theorem zri (a : Option Nat) : AV.of1 (.map a) = .val (.map a):=rfl
theorem zjK (l : List Value) : zmj (.agg l.toArray) = l.map AV.of1:=by simp [zmj,Value.cells]
theorem zjJ (k : IntKind) (n : Int) : zmj (.int k n) = [.val (.int k n)]:=rfl
theorem ziy (b : Bool) : zmj (.bool b) = [.val (.bool b)]:=rfl
theorem zoL : zmj (.slice none 0 0) = [.sl 0 [] .exact]:=rfl
theorem zoN : zmj .nilFunc = [.val .nilFunc]:=rfl
theorem zoM : zmj .nilIface = [.val .nilIface]:=rfl
theorem zjH (a : Option Addr) : zmj (.pointer a) = [.val (.pointer a)]:=rfl
theorem zjI (a : Option Nat) : zmj (.map a) = [.val (.map a)]:=rfl
theorem zrF (s : AS) : evp s [] = some []:=rfl
theorem zpR (s : AS) (i : Nat) (x : Operand) (l : List (Nat × Operand)) : evp s ((i,x) :: l) = (s.ev x).bind fun a => (evp s l).map fun zas => (i,a) :: zas:=by
 simp only [evp];cases s.ev x with
 | none => rfl
 | some a => cases evp s l <;> rfl
theorem zkK (p : Nat -> Option (Nat × Nat)) (c : List AV) : zmL p c [] = some c:=rfl
theorem zjm (p : Nat -> Option (Nat × Nat)) (c : List AV) (i : Nat) (a : AV) (r : List (Nat × AV)) : zmL p c ((i,a) :: r) = (p i).bind fun x => (a.parts).bind fun lp => if lp.length ≠ x.2 \/ x.1 + lp.length > c.length then none else zmL p (putAt c x.1 lp) r:=by
 simp only [zmL];cases p i with
 | none => rfl
 | some x => cases a.parts <;> rfl
theorem zfx (l : List (Nat × Nat)) (i : Nat) : Places.at (.fields l) i = l[i]?:=rfl
theorem zgq (sz i : Nat) : Places.at (.elems sz) i = some (i * sz,sz):=rfl
theorem zf1 (z : Value) : zfA z 0 = []:=rfl
theorem src_sl (s : AS) (sz m : Nat) (l : List AV) (e : End) : s.src sz (.sl m l e) = some (m,l.take (m * sz)):=rfl
theorem zqV (T : List (Nat × AV)) (H : List AObj) (sz i off m c : Nat) : AS.src ⟨T,H⟩ sz (.osl i off m c) = ((H[i]?).bind AObj.rowOf).map fun l => (m,(l.drop off).take (m * sz)):=by
 simp only [AS.src];cases H[i]? with
 | none => rfl
 | some x => cases x <;> rfl
theorem zp6 (n : Nat) (l : List AV) (e : End) (kO : Nat -> Nat -> Nat -> Nat -> Prop) (k : Nat -> List AV -> End -> Prop) : AV.asRow (.sl n l e) kO k = k n l e:=by rw [AV.asRow]
theorem zoA (i o n c : Nat) (kO : Nat -> Nat -> Nat -> Nat -> Prop) (k : Nat -> List AV -> End -> Prop) : AV.asRow (.osl i o n c) kO k = kO i o n c:=by rw [AV.asRow]
theorem zqd : type_of% @AppOwn.eq_1:=by intros; rw [AppOwn.eq_1]
theorem zfY (s : AS) (dst : Option Nat) (next : AS -> Prop) (n m sz : Nat) (elem : TypeId) (l l' : List AV) : zm6 s dst next n m sz elem l l' .exact = next ((⟨s.T,s.H ++ [.tail (n + m) sz elem]⟩ : AS).put dst (.sl (n + m) (l ++ l') (.opn s.H.length))):=rfl
theorem zhT (s : AS) (dst : Option Nat) (next : AS -> Prop) (n m sz : Nat) (elem : TypeId) (l l' : List AV) (k : Nat) : zm6 s dst next n m sz elem l l' (.opn k) = ((match s.H[k]? with
   | some (.tail n' sz' el') => n' = n /\ sz' = sz /\ el' = elem
   | _ => False) /\ (∀ a ∈ l',a.leaf = true) /\ next ((⟨s.T,s.H.set k (.tail (n + m) sz elem)⟩ : AS).put dst (.sl (n + m) (l ++ l') (.opn k)))):=rfl
theorem zo5 (P : Program) (T : List (Nat × AV)) (H : List AObj) (b t : Nat) : zob P ⟨T,H⟩ (.cell b t) = (look T b).bind fun p => ((⟨T,H⟩ : AS).at p).bind fun l => (Ty P t).bind fun x => if x.2 then (if x.1 <= l.length then some (.agg (l.take x.1)) else none) else l[0]?:=rfl
theorem two_le (a b : AV) (l : List AV) : (2 <= (a :: b :: l).length) = True:=by simp
theorem zh0 (a b c : AV) (l : List AV) : (3 <= (a :: b :: c :: l).length) = True:=by simp
section
variable {lv : Bool} {P : Program} {s s' : AS}
@[congr] theorem one1_congr {α : Type} {x y : Option α} {k : α -> Prop} (h : x = y) : one1 x k = one1 y k:=by rw [h]
@[congr] theorem asBool_congr {a b : AV} {k : Bool -> Prop} (h : a = b) : AV.asBool a k = AV.asBool b k:=by rw [h]
@[congr] theorem asInt_congr {a b : AV} {k : IntKind -> Int -> Prop} (h : a = b) : AV.asInt a k = AV.asInt b k:=by rw [h]
@[congr] theorem asTup_congr {a b : AV} {k : List AV -> Prop} (h : a = b) : AV.asTup a k = AV.asTup b k:=by rw [h]
@[congr] theorem asAgg_congr {a b : AV} {k : List AV -> Prop} (h : a = b) : AV.asAgg a k = AV.asAgg b k:=by rw [h]
@[congr] theorem asOp_congr {a b : AV} {k : Nat -> Nat -> Prop} (h : a = b) : AV.asOp a k = AV.asOp b k:=by rw [h]
@[congr] theorem asMp_congr {a b : AV} {k : Nat -> Prop} (h : a = b) : AV.asMp a k = AV.asMp b k:=by rw [h]
@[congr] theorem asSl_congr {a b : AV} {k : Nat -> List AV -> End -> Prop} (h : a = b) : AV.asSl a k = AV.asSl b k:=by rw [h]
@[congr] theorem asRow_congr {a b : AV} {kO : Nat -> Nat -> Nat -> Nat -> Prop} {k : Nat -> List AV -> End -> Prop} (h : a = b) : AV.asRow a kO k = AV.asRow b kO k:=by rw [h]
@[congr] theorem appOwn_congr {H H' : List AObj} {k : AV -> List AObj -> Prop} {id id' off off' n n' c0 c0' m m' sz : Nat} {elem : TypeId} {l l' : List AV} (h0 : H = H') (h1 : id = id') (h2 : off = off') (h3 : n = n') (h4 : c0 = c0') (h5 : m = m') (h6 : l = l') : AppOwn H k id off n c0 m sz elem l = AppOwn H' k id' off' n' c0' m' sz elem l':=by rw [h0,h1,h2,h3,h4,h5,h6]
@[congr] theorem aBin_congr {op : BinOp} {t : TypeId} {a a' b b' : AV} {k : AV -> Prop} (h : a = a') (h' : b = b') : ABin P op t a b k = ABin P op t a' b' k:=by rw [h,h']
@[congr] theorem aNil_congr {a b : AV} {k : AV -> Prop} (h : a = b) : ANil P a k = ANil P b k:=by rw [h]
@[congr] theorem aAssert_congr {t : TypeId} {ok : Bool} {a b : AV} {k : AV -> Prop} (h : a = b) : AAssert P t ok a k = AAssert P t ok b k:=by rw [h]
@[congr] theorem aLen_congr {t : TypeId} {a b : AV} {k : AV -> Prop} (h : a = b) : ALen P s t a k = ALen P s t b k:=by rw [h]
@[congr] theorem aSlice_congr {t : TypeId} {a b : AV} {x y z : Option Int} {k : AV -> Prop} (h : a = b) : zmu P t a x y z k = zmu P t b x y z k:=by rw [h]
@[congr] theorem aOp_congr {o : Oper} {k : AV -> Prop} (h : s = s') : AOp P s o k = AOp P s' o k:=by rw [h]
@[congr] theorem aq_congr {o : Oper} {k : AV -> Prop} (h : s = s') : AQ lv P s o k = AQ lv P s' o k:=by rw [h]
@[congr] theorem aStep_congr {o : Oper} {next : AS -> Prop} {bad : AV -> AS -> Prop} (h : s = s') : AStep lv P s o next bad = AStep lv P s' o next bad:=by rw [h]
@[congr] theorem aOps_congr {all : Array Oper} {l : List Oper} {next : AS -> Prop} {bad : AV -> AS -> Prop} (h : s = s') : AOps lv P all l s next bad = AOps lv P all l s' next bad:=by rw [h]
@[congr] theorem qOps_congr {all : Array Oper} {l l' : List Oper} {K : AS -> Prop} (hl : l = l') (h : s = s') : QOps lv P all l s K = QOps lv P all l' s' K:=by rw [hl,h]
@[congr] theorem awp_congr {r : Option Nat} {nt : Nat} {c : Code} {Φ : AEx -> AS -> Prop} (h : s = s') : AWP lv P r nt c s Φ = AWP lv P r nt c s' Φ:=by rw [h]
@[congr] theorem then_congr {K : AS -> Prop} {Φ : AEx -> AS -> Prop} {e e' : AEx} (he : e = e') (h : s = s') : AEx.then K Φ e s = AEx.then K Φ e' s':=by rw [he,h]
@[congr] theorem inBlock_congr {i : Nat} {Φ : AEx -> AS -> Prop} {e e' : AEx} (he : e = e') (h : s = s') : AEx.inBlock i Φ e s = AEx.inBlock i Φ e' s':=by rw [he,h]
end
theorem aOps_n : type_of% @AOps.eq_1:=by intros; rw [AOps.eq_1]
theorem aOps_c : type_of% @AOps.eq_2:=by intros; rw [AOps.eq_2]
theorem zrW : type_of% @AStep.eq_1:=by intros; rw [AStep.eq_1]
theorem aOp_u : type_of% @AOp.eq_1:=by intros; rw [AOp.eq_1]
theorem qOps_n : type_of% @QOps.eq_1:=by intros; rw [QOps.eq_1]
theorem qOps_c : type_of% @QOps.eq_2:=by intros; rw [QOps.eq_2]
theorem aQ_u : type_of% @AQ.eq_1:=by intros; rw [AQ.eq_1]
theorem zo8 : type_of% @resAll.eq_1:=by intros; rw [resAll.eq_1]
theorem zo9 : type_of% @resAll.eq_2:=by intros; rw [resAll.eq_2]
theorem zo6 : type_of% @resTup.eq_1:=by intros; rw [resTup.eq_1]
theorem evs_n : type_of% @evs.eq_1:=by intros; rw [evs.eq_1]
theorem evs_c : type_of% @evs.eq_2:=by intros; rw [evs.eq_2]
theorem zlt : type_of% @AAssert.eq_1:=by intros; rw [AAssert.eq_1]
theorem zrb : type_of% @putAt.eq_1:=by intros; rw [putAt.eq_1]
theorem zo7 : resTup [] = .tup []:=by rw [resTup]; simp
theorem zib (a b : AV) (l : List AV) : resTup (a :: b :: l) = .tup (a :: b :: l):=by rw [resTup]; simp
theorem zqR (l : List AV) : (AV.rp l).sure = true:=by simp [AV.sure]
theorem zqS (i j : Nat) : (AV.op i j).sure = true:=by simp [AV.sure]
theorem zqT (f : FuncId) (x y : List AV) : (AV.fn (.func f) x y).sure = true:=by simp [AV.sure]
theorem zoZ (t : TypeId) (x : AV) : (AV.ifc t x).sure = true:=by simp [AV.sure]
theorem aNil_m (P : Program) (k : AV -> Prop) (name : String) (t : TypeId) (av : AV) : ANil P (.fn (.method name) [.ifc t av] []) k = (znn P t name /\ k (.fn (.method name) [.ifc t av] [])):=by rw [ANil]
theorem zrX (P : Program) (k : AV -> Prop) (l : List AV) : ANil P (.rp l) k = k (.rp l):=by simp [ANil,AV.sure]
theorem zrY (P : Program) (k : AV -> Prop) (i j : Nat) : ANil P (.op i j) k = k (.op i j):=by simp [ANil,AV.sure]
theorem zrZ (P : Program) (k : AV -> Prop) (f : FuncId) (x y : List AV) : ANil P (.fn (.func f) x y) k = k (.fn (.func f) x y):=by simp [ANil,AV.sure]
theorem aNil_y (P : Program) (k : AV -> Prop) (f) (x y : List AV) : ANil P (.fn (.yield f) x y) k = k (.fn (.yield f) x y):=by simp [ANil,AV.sure]
theorem zqo (P : Program) (k : AV -> Prop) (t : TypeId) (x : AV) : ANil P (.ifc t x) k = k (.ifc t x):=by simp [ANil,AV.sure]
attribute [seval] zpL zpM zpN zpO zet ev_tmp zrH ev_int zrG zpS zkM zkL zpV zpU zpx zkx zpd zpe zg6 zoX zjV zjU ziD zgW zla zjv zhP zlb zju zkJ zgG zhD zq2 zjE zlm zlk zlo zrP zrQ zrO zp6 zoA zqd zqn zqf zcQ zqm zqh zqi zqj zqk zql true_and and_true Option.bind_some List.getElem?_toArray List.getElem?_cons_succ List.getElem?_cons_zero Bool.not_true Bool.not_false true_implies false_implies if_true if_false at_rp zo2 zdg zdf row_sl zq1 List.drop_succ_cons List.drop_zero List.take_succ_cons List.take_zero List.cons_append List.nil_append List.length_cons List.length_nil Int.toNat_natCast decide_eq_true_eq decide_eq_false_iff_not Bool.not_eq_true' Bool.not_eq_false' Bool.not_eq_eq_eq_not at_opS zfT zgU zhm zoa zoo znU Option.map_some zco zqc zbR zp9 zrT zrS Nat.zero_add List.set_cons_zero List.set_cons_succ zkm zi3 zkj zkk zfy ze0 zgr zko zph zkl zpi zpj zpl zkn zpk List.forall_mem_cons List.not_mem_nil false_imp_iff implies_true zpG zkF zpC zpD zgA zfG zhz zrr zpE zrs zrt zrv zpH zru zrj zps of1_sl of1_fn of1_if zrh zri zjK zjJ ziy zoL zoN zoM zjH zjI List.map_cons List.map_nil zrF zpR zkK zjm zfx zgq zf1 src_sl zqV zfY zhT zo5 zr0 zqp ne_eq not_true_eq_false not_false_eq_true gt_iff_lt Nat.lt_irrefl or_self or_false false_or Nat.le_refl Nat.mul_one Nat.one_mul Nat.zero_mul Nat.mul_zero bne_iff_ne bne_eq_false_iff_eq beq_iff_eq aOps_n aOps_c zrW aOp_u qOps_n qOps_c aQ_u zo8 zo9 zo6 zo7 zib evs_n evs_c zlt zrb zib zqR zqS zqT zoZ aNil_m zrX zrY zrZ aNil_y zqo
theorem zax {base Vi Vn T : List (Nat × AV)} {H : List AObj} (hk : Keeps T (Vi ++ base) Vn) (hv : ∀ p ∈ Vn,∃ b,look T p.1 = some b /\ Wk b p.2) : zlQ base Vi Vn H ⟨T,H⟩:=⟨hk,hv,[],by simp,.inl rfl⟩
theorem zaS {base Vi Vn T : List (Nat × AV)} {H G : List AObj} (hk : Keeps T (Vi ++ base) Vn) (hv : ∀ p ∈ Vn,∃ b,look T p.1 = some b /\ Wk b p.2) (hok : HOk H) (hlt : ∀ p ∈ Vn,Lt H.length p.2) : zlQ base Vi Vn H ⟨T,H ++ G⟩:=⟨hk,hv,G,rfl,.inr ⟨hok,hlt⟩⟩
theorem zat {base Vi Vn T : List (Nat × AV)} {H L G : List AObj} (hk : Keeps T (Vi ++ base) Vn) (hv : ∀ p ∈ Vn,∃ b,look T p.1 = some b /\ Wk b p.2) (hok : HOk (H ++ L)) (hlt : ∀ p ∈ Vn,Lt (H ++ L).length p.2) : zlQ base Vi Vn (H ++ L) ⟨T,H ++ (L ++ G)⟩:=⟨hk,hv,G,(List.append_assoc ..).symm,.inr ⟨hok,hlt⟩⟩
def pick (ks : List Nat) (T : List (Nat × AV)) : List (Nat × AV):=ks.filterMap fun k => (look T k).map fun a => (k,a)
theorem zfb {ops : Array Oper} (hlt' : ∀ (i : Nat) o,ops[i]? = some o -> ∀ j ∈ zeh o,j < ops.size) (hready' : ∀ X : List Nat,(∃ i,i < ops.size /\ i ∉ X) -> ∃ i o,ops[i]? = some o /\ i ∉ X /\ ∀ j ∈ zeh o,j ∈ X) : ∀ (fuel t : Nat) (L : Array Bool) (X : List Nat),Rep ops L X -> (List.range ops.size).countP (fun i => !X.contains i) <= fuel -> Sched ops X (Region.linearise.go .any ops fuel t L [])
 | 0,t,L,X,hr,hc => by
  simp only [Region.linearise.go,List.reverse_nil];refine .nil X fun i hi => ?_;have : (List.range ops.size).countP (fun i => !X.contains i) = 0:=by omega
  have:=List.countP_eq_zero.1 this i (by simpa using hi);simpa using this
 | fuel + 1,t,L,X,hr,hc => by
  have hready : ∀ i,i ∈ ((List.range ops.size).filter fun i => !L.getD i true && ((ops[i]?).map (·.after.all fun e => !Region.binds .any e || L.getD e.on false)).getD false) <-> ∃ o,ops[i]? = some o /\ i ∉ X /\ ∀ j ∈ zeh o,j ∈ X:=by
   intro i;simp only [List.mem_filter,List.mem_range,Bool.and_eq_true,Bool.not_eq_true'];constructor
   ·rintro ⟨hi,h1,h2⟩
    have ho:=Array.getElem?_eq_getElem hi;refine ⟨ops[i],ho,fun hx => ?_,fun j hj => ?_⟩
    ·have:=(hr.mem i hi).2 hx;rw [Array.getD_eq_getD_getElem?,this] at h1; cases h1
    ·obtain ⟨e,he,hb,rfl⟩:=zcg.1 hj;rw [ho] at h2;simp only [Option.map_some,Option.getD_some,Array.all_eq_true_iff_forall_mem] at h2;have:=h2 e he;rw [hb] at this;simp only [Bool.not_true,Bool.false_or] at this;have hlt : e.on < ops.size:=hlt' i _ ho _ hj;refine (hr.mem _ hlt).1 ?_;rw [Array.getD_eq_getD_getElem?] at this;cases hx : L[e.on]? with
     | none => rw [hx] at this; cases this
     | some b => rw [hx] at this; cases b; cases this; rfl
   ·rintro ⟨o,ho,h1,h2⟩
    have hi : i < ops.size:=(Array.getElem?_eq_some_iff.1 ho).1;refine ⟨hi,?_,?_⟩
    ·rw [Array.getD_eq_getD_getElem?,Array.getElem?_eq_getElem (by rw [hr.size]; exact hi)];simp only [Option.getD_some];cases hb : L[i]'(by rw [hr.size]; exact hi) with
     | false => rfl
     | true => exact absurd ((hr.mem i hi).1 (by rw [Array.getElem?_eq_getElem (by rw [hr.size]; exact hi),hb])) h1
    ·rw [ho];simp only [Option.map_some,Option.getD_some,Array.all_eq_true_iff_forall_mem];intro e he;cases hb : Region.binds .any e with
     | false => rfl
     | true =>
      have hj:=zcg.2 ⟨e,he,hb,rfl⟩;have hlt : e.on < ops.size:=hlt' i _ ho _ hj;have:=(hr.mem _ hlt).2 (h2 _ hj);simp [Array.getD_eq_getD_getElem?,this]
  simp only [Region.linearise.go];generalize hrs : ((List.range ops.size).filter fun i => !L.getD i true && ((ops[i]?).map (·.after.all fun e => !Region.binds .any e || L.getD e.on false)).getD false) = rs at hready;cases hi : rs[t % rs.length]? with
  | none =>
   have hnil : rs = []:=by
    cases rs with
    | nil => rfl
    | cons x xs =>
     have hlt : t % (x :: xs).length < (x :: xs).length:=Nat.mod_lt _ (by simp);rw [List.getElem?_eq_none_iff] at hi; omega
   simp only [List.reverse_nil];refine .nil X fun i hlt => ?_;apply Classical.byContradiction;intro hx;obtain ⟨i',o,h1,h2,h3⟩:=hready' X ⟨i,hlt,hx⟩;have : i' ∈ rs:=(hready i').2 ⟨o,h1,h2,h3⟩;rw [hnil] at this; cases this
  | some i =>
   simp only [];obtain ⟨o,ho,h1,h2⟩:=(hready i).1 (List.mem_of_getElem? hi);have hlt : i < ops.size:=(Array.getElem?_eq_some_iff.1 ho).1;rw [linearise_go_acc,List.reverse_singleton,List.singleton_append];refine .cons o ho h1 h2 (zfb hlt' hready' fuel _ _ (i :: X) ⟨by simp [hr.size],fun k hk => ?_⟩ ?_)
   ·by_cases hki : k = i
    ·subst hki; simp [Array.getElem?_setIfInBounds_self_of_lt (by rw [hr.size]; exact hlt)]
    ·rw [Array.getElem?_setIfInBounds_ne (Ne.symm hki),hr.mem k hk];simp [hki]
   ·have hmem : i ∈ (List.range ops.size):=(by simpa using hlt);have : (List.range ops.size).countP (fun k => !(i :: X).contains k) < (List.range ops.size).countP (fun k => !X.contains k):=by
     exact znl hmem (fun k hk => by simp only [Bool.not_eq_true',List.contains_eq_mem,decide_eq_false_iff_not] at hk ⊢; exact fun h => hk (List.mem_cons_of_mem _ h)) (by simpa using h1) (by simp)
    omega
theorem zgI {X : List Nat} : ∀ {l : List Nat},(∃ i ∈ l,i ∉ X) -> ∃ A i B,l = A ++ i :: B /\ i ∉ X /\ ∀ a ∈ A,a ∈ X
 | [],⟨_,h,_⟩ => by cases h
 | x :: l,⟨i,h,hn⟩ => by
  by_cases hx : x ∈ X
  ·have hi : i ∈ l:=(List.mem_cons.1 h).resolve_left fun e => hn (e ▸ hx);obtain ⟨A,j,B,h1,h2,h3⟩:=zgI ⟨i,hi,hn⟩;exact ⟨x :: A,j,B,by rw [h1]; rfl,h2,fun a ha => (List.mem_cons.1 ha).elim (fun e => e ▸ hx) (h3 a)⟩
  ·exact ⟨[],x,l,rfl,hx,by simp⟩
structure KeptE (k : AV -> List AObj -> Prop) : Type where
 n : Nat
def zqq (lv : Bool) (P : Program) (f : AV) (H : List AObj) (zas : List AV) (k : AV -> List AObj -> Prop) (_t : KeptE k) : Prop:=∃ av H',CallC lv P f H zas (fun b H'' => b = av /\ H'' = H') (fun _ _ => False) /\ k av H'
def EInv (lv : Bool) (P : Program) (f : AV) (name : String) (H : List AObj) (zas : List AV) (k : AV -> List AObj -> Prop) (_t : KeptE k) : Prop:=∃ av H',InvC lv P f name H zas (fun b H'' => b = av /\ H'' = H') (fun _ _ => False) /\ k av H'
theorem eCall {lv : Bool} {P : Program} {f : AV} {H : List AObj} {zas : List AV} {k : AV -> List AObj -> Prop} {t : KeptE k} (av : AV) (H' : List AObj) (h : CallC lv P f H zas (fun b H'' => b = av /\ H'' = H') (fun _ _ => False)) (hk : k av H') : zqq lv P f H zas k t:=⟨av,H',h,hk⟩
def zl4 (x : Option AObj) (X Y : Prop) (_t : Kept2 X Y) : Prop:=match x with
 | some (.own _ _ _) => X
 | _ => Y
def EApp (G H : List AObj) (k : AV -> List AObj -> Prop) (n m sz : Nat) (elem : TypeId) (l l' : List AV) : End -> Prop
 | .exact => zl4 G[H.length]? (0 < m /\ k (.osl H.length 0 (n + m) 0) (H ++ [.own sz (l ++ l') elem])) (k (.sl (n + m) (l ++ l') (.opn H.length)) (H ++ [.tail (n + m) sz elem])) ⟨0⟩
 | .opn i => (match H[i]? with
   | some (.tail n' sz' el') => n' = n /\ sz' = sz /\ el' = elem
   | _ => False) /\ (∀ a ∈ l',a.leaf = true) /\ k (.sl (n + m) (l ++ l') (.opn i)) (H.set i (.tail (n + m) sz elem))
 | .shut => m = 0 /\ k (.sl n l .shut) H
section
variable (lv : Bool) (P : Program)
def AEff (G : List AObj) (s : AS) (o : Oper) (k : AV -> List AObj -> Prop) : Prop:=match o.op with
 | .box t x => one1 (s.ev x) fun a => one1 a.parts fun l => k (.op s.H.length 0) (s.H ++ [.cells l t])
 | .alloc t => one1 (zh2 P t) fun z => k (.op s.H.length 0) (s.H ++ [.cells (zmj z) t])
 | .store t x y => one1 (s.ev x) fun p => one1 (s.ev y) fun a => one1 a.parts fun lp => p.asOp fun id off => match s.H[id]? with
  | some (.cells l el) => (one1 (Ty P t) fun x => lp.length = x.1) /\ off + lp.length <= l.length /\ (∀ a ∈ lp,a.leaf = true) /\ k (.val undef) (s.H.set id (.cells (putAt l off lp) el))
  | some (.own p l el) => (one1 (Ty P t) fun x => lp.length = x.1) /\ off + lp.length <= l.length /\ (∀ a ∈ lp,a.leaf = true) /\ k (.val undef) (s.H.set id (.own p (putAt l off lp) el))
  | _ => False
 | .call c => match c.callee with
  | .builtin .append => match c.args.toList,c.argTypes.toList with
   | [x,y],[t,t'] => one1 (AppOf P t t') fun (elem,sz,_) => one1 (s.ev x) fun a => one1 (s.ev y) fun b => a.asRow (fun id off n c0 => one1 (s.src sz b) fun (m,l') => AppOwn s.H k id off n c0 m sz elem l') fun n l e => one1 (s.src sz b) fun (m,l') => l.length = n * sz /\ l'.length = m * sz /\ n + m <= 2 ^ 30 /\ EApp G s.H k n m sz elem l l' e
   | _,_ => False
  | .value x => one1 (s.ev x) fun f => one1 (evs s c.args.toList) fun zas => zqq lv P f s.H zas k ⟨0⟩
  | .invoke x name => one1 (s.ev x) fun f => one1 (evs s c.args.toList) fun zas => EInv lv P f name s.H zas k ⟨0⟩
  | _ => False
 | .makeSlice t x y => one1 (znK P t) fun (e,sz,z) => one1 (s.ev x) fun a => one1 (s.ev y) fun b => a.asInt fun _ n => b.asInt fun _ n' => n' = n /\ 0 <= n /\ n <= 2 ^ 30 /\ k (.osl s.H.length 0 n.toNat n.toNat) (s.H ++ [.cells (zfA z (n.toNat * sz)) e])
 | .buildSlice t len parts => one1 (zlM P t) fun (e,sz,z) => len * sz <= 2 ^ 24 /\ one1 (evp s parts.toList) fun avs => one1 (zmL (Places.at (.elems sz)) (zfA z (len * sz)) avs) fun l => k (.osl s.H.length 0 len len) (s.H ++ [.cells l e])
 | _ => False
end
section
variable {lv : Bool} {P : Program} {r : Option Nat} {o : Oper} {s : AS} {k : AV -> List AObj -> Prop}
theorem Step.drop {G : List AObj} {av av' : AV} {bad : AV -> AS -> Prop} (h : Step lv P r o s (fun s' => s' = (⟨s.T,s.H ++ G⟩ : AS).put o.dst av) bad) (hw : Wk av av') (hl : ∀ (E : Env) (V : View) (a : Act),Conc E V s.H -> TOk E s.T a.tmps -> Lt s.H.length av') : Step lv P r o s (fun s' => s' = (⟨s.T,s.H⟩ : AS).put o.dst av') bad:=fun E V a N Q hc ht hd hf n1 n2 => by
 refine h E V a N Q hc ht hd hf (fun E' V' a' s' q1 q2 q3 q4 => ?_) n2;subst q4;rw [zbx] at q2;have hcut : ((⟨s.T,s.H ++ G⟩ : AS).put o.dst av).Cut ((⟨s.T,s.H⟩ : AS).put o.dst av'):=by
  refine ⟨fun t x e => ?_,⟨G,by rw [zbx,zbx]⟩,by rw [zbx]; exact hc.hok⟩;rw [zbx];have hold : look s.T t = some x -> Lt s.H.length x:=fun e => by rw [<- hc.n]; exact (ht t x e).2.lt
  cases hdst : o.dst with
  | none =>
   rw [hdst] at e;simp only [AS.put] at e ⊢;exact ⟨x,e,Wk.refl x,hold e⟩
  | some d =>
   rw [hdst] at e;simp only [AS.put,look] at e ⊢;by_cases hdt : d = t
   ·rw [if_pos hdt] at e ⊢; cases e; exact ⟨av,rfl,hw,hl E V a hc ht⟩
   ·rw [if_neg hdt] at e ⊢; exact ⟨x,e,Wk.refl x,hold e⟩
 have hat : At E' V' ((⟨s.T,s.H ++ G⟩ : AS).put o.dst av) a' a'.tmps.size:=⟨by rw [zbx]; exact q2,q3,rfl⟩;have hat':=hat.cut hcut;rw [zbx] at hat';refine n1 _ V' a' _ ⟨zfp (Nat.le_refl _) (by rw [q2.n]; simp) q1.le hc.n,q1.size,q1.defers,q1.role,q1.deaf⟩ hat'.conc hat'.tok rfl
end
section
variable {lv : Bool} {P : Program} {r : Option Nat} {o : Oper} {s : AS} {G : List AObj} {k : AV -> List AObj -> Prop}
theorem zbs {α : Type} {x : Option α} {a : α} {k : α -> Prop} (h : x = some a) (hk : k a) : one1 x k:=by rw [h,one1]; exact hk
theorem znE {x : Option AObj} {X Y : Prop} {t : Kept2 X Y} (h : zl4 x X Y t) : ((∃ a b c,x = some (.own a b c)) /\ X) \/ ((∀ a b c,x ≠ some (.own a b c)) /\ Y):=by
 unfold zl4 at h;split at h
 ·exact .inl ⟨⟨_,_,_,rfl⟩,h⟩
 ·rename_i hx;exact .inr ⟨fun a b c e => hx a b c e,h⟩
theorem zov {x : Option AObj} {X Y : Prop} {t : Kept2 X Y} {a : Nat} {b : List AV} {c : TypeId} (h : x = some (.own a b c)) (hX : X) : zl4 x X Y t:=by subst h; exact hX
theorem zou {x : Option AObj} {X Y : Prop} {t : Kept2 X Y} (h : ∀ a b c,x ≠ some (.own a b c)) (hY : Y) : zl4 x X Y t:=by
 unfold zl4;split
 ·exact absurd rfl (h _ _ _)
 ·exact hY
theorem EApp.ex {H : List AObj} {n m sz : Nat} {elem : TypeId} {l l' : List AV} {e : End} (h : EApp G H k n m sz elem l l' e) : ∃ av H',EApp G H (fun a h => a = av /\ h = H') n m sz elem l l' e /\ k av H':=by
 cases e with
 | exact =>
  rcases znE (t:=⟨0⟩) h with ⟨⟨a,b,c,e⟩,h0,h1⟩ | ⟨e,h1⟩
  ·exact ⟨_,_,zov (t:=⟨0⟩) e ⟨h0,rfl,rfl⟩,h1⟩
  ·exact ⟨_,_,zou (t:=⟨0⟩) e ⟨rfl,rfl⟩,h1⟩
 | shut => exact ⟨_,_,⟨h.1,rfl,rfl⟩,h.2⟩
 | opn i => exact ⟨_,_,⟨h.1,h.2.1,rfl,rfl⟩,h.2.2⟩
theorem AppOwn.ex {H : List AObj} {id off n c0 m sz : Nat} {elem : TypeId} {l' : List AV} (h : AppOwn H k id off n c0 m sz elem l') : ∃ av H',AppOwn H (fun a h => a = av /\ h = H') id off n c0 m sz elem l' /\ k av H':=by
 obtain ⟨h1,h2,h3,h4,h5,h6⟩:=h;split at h6
 ·rename_i hk;obtain ⟨g1,g2,g3,g4⟩:=h6;refine ⟨_,_,⟨h1,h2,h3,h4,h5,?_⟩,g4⟩;rw [hk];exact ⟨g1,g2,g3,rfl,rfl⟩
 ·exact h6.elim
end
section
variable {lv : Bool} {P : Program} {r : Option Nat} {o : Oper} {s : AS} {next : AS -> Prop} {bad : AV -> AS -> Prop}
theorem zmF {t e : TypeId} {len sz : Nat} {z : Value} {parts : Array (Nat × Operand)} {avs : List (Nat × AV)} {l : List AV} (ho : o.op = .buildSlice t len parts) (ht : zlM P t = some (e,sz,z)) (hsz : len * sz <= 2 ^ 24) (hp : evp s parts.toList = some avs)
  (hl : zmL (Places.at (.elems sz)) (zfA z (len * sz)) avs = some l) (hn : next ((⟨s.T,s.H ++ [.cells l e]⟩ : AS).put o.dst (.osl s.H.length 0 len len))) : Step lv P r o s next bad:=by
 intro E V a N Q hc htk hd hdf h1 _;unfold zlM at ht;split at ht
 ·rename_i e' hu;obtain ⟨i,hi,ht⟩:=Option.bind_eq_some_iff.1 ht;obtain ⟨z',hz,ht⟩:=Option.map_eq_some_iff.1 ht;cases ht;refine ⟨hdf,?_⟩;unfold execOp; rw [ho];dsimp only;refine zac ?_;unfold Instr.buildSlice;refine zaj hu ?_;dsimp only;refine zav hi ?_;rw [if_neg (by omega)];obtain ⟨hlen,hden⟩:=zhJ htk hp;obtain ⟨cs',hfill,hcs'⟩:=zfO (zd2 (E:=E) z (len * i.size)) hlen hden hl;have fin : ∀ (rr : Nat),V.fresh rr -> SemOk P (V.upd rr (.cells cs' e)) (pure (Next.value (.slice (some ⟨rr,0,none⟩) len len))) (Upon lv P r o a N Q) (fun v V' => Q (.panic [{ v,recovered:=false }]) a V'):=fun rr hf => by
   have hlE : E.Le (E.add rr V.imm):=E.le_add rr (fun b o v h => by rw [<- hc.I]; exact h);have hc' : Conc (E.add rr V.imm) (V.upd rr (.cells cs' e)) (s.H ++ [.cells l e]):=by
    refine hc.add hf _ ⟨⟨_,?_,hcs'.mono hlE⟩,fun o => ?_⟩ (fun b e => ?_)
    ·rw [Env.add_blk]; simp [View.upd]
    ·rw [Env.add_blk]; exact hf.2 o
    ·simp only [zfE,Env.add_blk,Option.some.injEq] at e; exact e.symm
   have hdn : Den (E.add rr V.imm) (.osl s.H.length 0 len len) (.slice (some ⟨rr,0,none⟩) len len):=by
    have:=Den.osl (E:=E.add rr V.imm) (id:=s.H.length) (off:=0) (n:=len) (cap:=len) (cap':=len) (by show _ < E.n + 1; rw [hc.n]; omega) ⟨by omega,fun _ => rfl,fun h => absurd h (by omega)⟩;have e : (E.add rr V.imm).blk s.H.length = rr:=(by rw [<- hc.n]; exact E.add_blk rr _);rwa [e] at this
   exact zbq (h1 _ _ (a.put o.dst _) _ ⟨hlE,zaA _ _ _,zaw _ _ _,rfl,rfl⟩ (by rw [zbx]; exact hc') (TOk.putd (s:=⟨s.T,s.H ++ [.cells l e]⟩) (htk.mono hlE) hd hdn) hn)
  have e2 : (fun j => some (j * i.size,i.size)) = Places.at (.elems i.size):=rfl;rw [e2];by_cases h0 : len * i.size = 0
  ·rw [if_pos h0];refine zac (zbq ?_);rw [h0] at hfill ⊢;rw [show Array.range 0 = #[] from rfl] at hfill ⊢;simp only [List.map_toArray,List.map_nil,Array.toList_map] at hfill ⊢;rw [hfill];unfold newRow;exact zac (zac (zac (za7 fun rr hf => zan (zbq (zbq (zbq (fin rr hf)))))))
  ·rw [if_neg h0];refine zac (zac ?_);unfold typeInfo;refine zac (zaG (zan ?_));rw [hi];refine zbq ?_;rw [hz];refine zbq (zac (zbq ?_));rw [Array.toList_map,hfill];unfold newRow;exact zac (zac (zac (za7 fun rr hf => zan (zbq (zbq (zbq (fin rr hf)))))))
 ·cases ht
end
section
variable {lv : Bool} {P : Program} {r : Option Nat} {o : Oper} {s : AS} {G : List AObj} {k : AV -> List AObj -> Prop}
theorem AEff.ex (h : AEff lv P G s o k) : ∃ av H',AEff lv P G s o (fun a h => a = av /\ h = H') /\ k av H':=by
 unfold AEff at h ⊢;generalize o.op = op at h ⊢;cases op with
 | box t x =>
  obtain ⟨a,h1,h⟩:=h.out;obtain ⟨l,h2,h⟩:=h.out;exact ⟨_,_,zbs h1 (zbs h2 ⟨rfl,rfl⟩),h⟩
 | alloc t =>
  obtain ⟨z,h1,h⟩:=h.out;exact ⟨_,_,zbs h1 ⟨rfl,rfl⟩,h⟩
 | store t x y =>
  obtain ⟨p,h1,hA⟩:=h.out;obtain ⟨a,h2,hB⟩:=hA.out;obtain ⟨lp,h3,hC⟩:=hB.out;obtain ⟨id,off,e1,hD⟩:=zdx hC;subst e1;clear h hA hB hC;split at hD
  ·rename_i l el hk;refine ⟨_,_,zbs h1 (zbs h2 (zbs h3 ?_)),hD.2.2.2⟩;unfold AV.asOp;dsimp only;rw [hk];exact ⟨hD.1,hD.2.1,hD.2.2.1,rfl,rfl⟩
  ·rename_i p l el hk;refine ⟨_,_,zbs h1 (zbs h2 (zbs h3 ?_)),hD.2.2.2⟩;unfold AV.asOp;dsimp only;rw [hk];exact ⟨hD.1,hD.2.1,hD.2.2.1,rfl,rfl⟩
  ·exact hD.elim
 | call c =>
  dsimp only at h ⊢;generalize c.callee = cl at h ⊢;generalize c.args.toList = xs at h ⊢;generalize c.argTypes.toList = ts at h ⊢;cases cl with
  | builtin b =>
   cases b with
   | append =>
    dsimp only at h ⊢;split at h
    ·obtain ⟨⟨elem,sz,z⟩,h1,hA⟩:=h.out;obtain ⟨a,h2,hB⟩:=hA.out;obtain ⟨b,h3,hC⟩:=hB.out;rcases zm2 hC with ⟨id,off,n,c0,e1,hD⟩ | ⟨n,l,e,e1,hD⟩
     ·obtain ⟨⟨m,l'⟩,h4,h5⟩:=hD.out;subst e1;obtain ⟨av,H',g1,g2⟩:=h5.ex;refine ⟨av,H',zbs h1 (zbs h2 (zbs h3 ?_)),g2⟩;simp only [AV.asRow];exact zbs h4 g1
     ·obtain ⟨⟨m,l'⟩,h4,h5,h6,h7,h8⟩:=hD.out;subst e1;obtain ⟨av,H',g1,g2⟩:=h8.ex;refine ⟨av,H',zbs h1 (zbs h2 (zbs h3 ?_)),g2⟩;simp only [AV.asRow];exact zbs h4 ⟨h5,h6,h7,g1⟩
    ·exact h.elim
   | _ => exact h.elim
  | value x =>
   obtain ⟨f,h1,hA⟩:=h.out;obtain ⟨zas,h2,hB⟩:=hA.out;obtain ⟨av,H',g1,g2⟩:=hB;exact ⟨av,H',zbs h1 (zbs h2 ⟨av,H',g1,rfl,rfl⟩),g2⟩
  | invoke x name =>
   obtain ⟨f,h1,hA⟩:=h.out;obtain ⟨zas,h2,hB⟩:=hA.out;obtain ⟨av,H',g1,g2⟩:=hB;exact ⟨av,H',zbs h1 (zbs h2 ⟨av,H',g1,rfl,rfl⟩),g2⟩
 | makeSlice t x y =>
  obtain ⟨⟨e,sz,z⟩,h1,hA⟩:=h.out;obtain ⟨a,h2,hB⟩:=hA.out;obtain ⟨b,h3,hC⟩:=hB.out;obtain ⟨j,n,e1,hD⟩:=zbg hC;obtain ⟨j',n',e2,hE⟩:=zbg hD;clear h hA hB hC hD;subst e1 e2;exact ⟨_,_,zbs h1 (zbs h2 (zbs h3 ⟨hE.1,hE.2.1,hE.2.2.1,rfl,rfl⟩)),hE.2.2.2⟩
 | buildSlice t len parts =>
  obtain ⟨⟨e,sz,z⟩,h1,h2,hA⟩:=h.out;obtain ⟨avs,h3,hB⟩:=hA.out;obtain ⟨l,h4,hC⟩:=hB.out;exact ⟨_,_,zbs h1 ⟨h2,zbs h3 (zbs h4 ⟨rfl,rfl⟩)⟩,hC⟩
 | _ => exact h.elim
theorem AEff.step {av : AV} {H' : List AObj} {bad : AV -> AS -> Prop} (h : AEff lv P G s o (fun a h => a = av /\ h = H')) : Step lv P r o s (fun s' => s' = (⟨s.T,H'⟩ : AS).put o.dst av) bad:=by
 unfold AEff at h;split at h
 ·rename_i t x ho;obtain ⟨a,h1,h⟩:=h.out;obtain ⟨l,h2,h⟩:=h.out;obtain ⟨e1,e2⟩:=h;exact zh4 ho h1 h2 (by rw [e1,e2])
 ·rename_i t ho;obtain ⟨z,h1,h⟩:=h.out;obtain ⟨e1,e2⟩:=h;exact ze6 ho h1 (by rw [e1,e2])
 ·rename_i t x y ho;obtain ⟨p,h1,hA⟩:=h.out;obtain ⟨a,h2,hB⟩:=hA.out;obtain ⟨lp,h3,hC⟩:=hB.out;obtain ⟨id,off,e1,hD⟩:=zdx hC;clear h hA hB hC;subst e1;split at hD
  ·rename_i l el hk;obtain ⟨q1,q2,q3,q4,q5'⟩:=hD;obtain ⟨⟨n,g⟩,q5,q6⟩:=q1.out;exact ze5 ho q5 h1 hk h2 h3 q6 q2 q3 (by rw [q4,q5'])
  ·rename_i p l el hk;obtain ⟨q1,q2,q3,q4,q5'⟩:=hD;obtain ⟨⟨n,g⟩,q5,q6⟩:=q1.out;exact zmU ho q5 h1 hk h2 h3 q6 q2 q3 (by rw [q4,q5'])
  ·exact hD.elim
 ·rename_i c ho;split at h
  ·rename_i hcl;split at h
   ·rename_i x y t t' ha ht;obtain ⟨⟨elem,sz,z⟩,h1,hA⟩:=h.out;obtain ⟨a,h2,hB⟩:=hA.out;obtain ⟨b,h3,hC⟩:=hB.out;rcases zm2 hC with ⟨id,off,n,c0,e1,hD⟩ | ⟨n,l,e,e1,hD⟩
    ·clear h hA hB hC;subst e1;obtain ⟨⟨m,l'⟩,h4,rfl,g2,g3,g4,g5,hE⟩:=hD.out;split at hE
     ·rename_i hk;obtain ⟨rfl,rfl,g6,g7,g8⟩:=hE;exact zmN ho hcl (zmI ha) (zmt ht) h1 h2 g2 hk rfl h3 h4 g6 g3 g4 g5 (by rw [g7,g8])
     ·exact hE.elim
    ·clear h hA hB hC;subst e1;obtain ⟨⟨m,l'⟩,h4,h5,h6,h7,h8⟩:=hD.out;cases e with
     | exact =>
      rcases znE (t:=⟨0⟩) h8 with ⟨_,h0,e1,e2⟩ | ⟨_,e1,e2⟩
      ·exact zny ho hcl (zmI ha) (zmt ht) h1 h2 h3 h4 h5 h6 h7 h0 (by rw [e1,e2])
      ·exact zcc ho hcl (zmI ha) (zmt ht) h1 h2 h3 h4 h5 h6 h7 (by show (_ : AS) = _; rw [<- e1,<- e2])
     | shut =>
      obtain ⟨e0,e1,e2⟩:=h8;exact zcc ho hcl (zmI ha) (zmt ht) h1 h2 h3 h4 h5 h6 h7 ⟨e0,by rw [<- e1,<- e2]⟩
     | opn i =>
      obtain ⟨e0,e0',e1,e2⟩:=h8;exact zcc ho hcl (zmI ha) (zmt ht) h1 h2 h3 h4 h5 h6 h7 ⟨e0,e0',by rw [<- e1,<- e2]⟩
   ·exact h.elim
  ·rename_i x hcl;obtain ⟨f,h1,hA⟩:=h.out;obtain ⟨zas,h2,hB⟩:=hA.out;obtain ⟨a0,H0,g1,g2,g3⟩:=hB;subst g2 g3;exact zgg ho hcl h1 h2 (g1.mono (fun a H h => by rw [h.1,h.2]) fun _ _ h => h.elim)
  ·rename_i x name hcl;obtain ⟨f,h1,hA⟩:=h.out;obtain ⟨zas,h2,hB⟩:=hA.out;obtain ⟨a0,H0,g1,g2,g3⟩:=hB;subst g2 g3;exact zh3 ho hcl h1 h2 (fun E V cv vs hc hd hds => (g1 E V cv vs hc hd hds).mono (fun _ _ x => Nx.mono (fun _ _ y => y.mono (fun a H h => by rw [h.1,h.2]) fun _ _ h => h.elim) x) fun _ _ y => y.mono (fun a H h => by rw [h.1,h.2]) fun _ _ h => h.elim)
  ·exact h.elim
 ·rename_i t x y ho;obtain ⟨⟨e,sz,z⟩,h1,hA⟩:=h.out;obtain ⟨a,h2,hB⟩:=hA.out;obtain ⟨b,h3,hC⟩:=hB.out;obtain ⟨j,n,e1,hD⟩:=zbg hC;obtain ⟨j',n',e2,hE⟩:=zbg hD;clear h hA hB hC hD;subst e1 e2;obtain ⟨e3,h4,h5,h6,h7⟩:=hE;subst e3;obtain ⟨m,rfl⟩ : ∃ m : Nat,n' = m:=⟨n'.toNat,by omega⟩;exact zeY ho h1 h2 h3 (by omega) (by rw [Int.toNat_natCast] at h6 h7; rw [h6,h7])
 ·rename_i t len parts ho;obtain ⟨⟨e,sz,z⟩,h1,h2,hA⟩:=h.out;obtain ⟨avs,h3,hB⟩:=hA.out;obtain ⟨l,h4,h5,h6⟩:=hB.out;exact zmF ho h1 h2 h3 h4 (by rw [h5,h6])
 ·exact h.elim
theorem AEff.congr {T T' : List (Nat × AV)} {H : List AObj} (h : ∀ x ∈ o.op.operands,AS.ev ⟨T,H⟩ x = AS.ev ⟨T',H⟩ x) (ha : AEff lv P G ⟨T,H⟩ o k) : AEff lv P G ⟨T',H⟩ o k:=by
 unfold AEff at ha ⊢;generalize o.op = op at h ha ⊢;cases op with
 | box t x => dsimp only at ha ⊢; rw [<- h x (by simp [Op.operands])]; exact ha
 | alloc t => exact ha
 | store t x y => dsimp only at ha ⊢; rw [<- h x (by simp [Op.operands]),<- h y (by simp [Op.operands])]; exact ha
 | call c =>
  have hargs : ∀ x ∈ c.args.toList,AS.ev ⟨T,H⟩ x = AS.ev ⟨T',H⟩ x:=fun x hx => h x (by simp [Op.operands,Call.operands]; exact .inr (by simpa using hx));dsimp only at ha ⊢;split at ha
  ·split at ha
   ·rename_i x y t t' hx ht;rw [hx] at hargs;rw [<- hargs x (by simp),<- hargs y (by simp)];exact ha
   ·exact ha.elim
  ·rename_i x hcl;rw [<- h x (by simp [Op.operands,Call.operands,hcl]),<- zcz _ hargs];exact ha
  ·rename_i x name hcl;rw [<- h x (by simp [Op.operands,Call.operands,hcl]),<- zcz _ hargs];exact ha
  ·exact ha.elim
 | makeSlice t x y => dsimp only at ha ⊢; rw [<- h x (by simp [Op.operands]),<- h y (by simp [Op.operands])]; exact ha
 | buildSlice t len parts =>
  have e : evp ⟨T',H⟩ parts.toList = evp ⟨T,H⟩ parts.toList:=by
   have hp : ∀ p ∈ parts.toList,AS.ev ⟨T,H⟩ p.2 = AS.ev ⟨T',H⟩ p.2:=fun p hp => h p.2 (by simp [Op.operands]; exact ⟨p.1,by simpa using hp⟩);clear ha;generalize parts.toList = l at hp;induction l with
   | nil => rfl
   | cons p l ih => simp only [evp,hp p List.mem_cons_self,ih fun q hq => hp q (List.mem_cons_of_mem _ hq)]
  dsimp only at ha ⊢;rw [e]; exact ha
 | _ => exact ha.elim
end
def getL (acc : List (Nat × List Nat)) (j : Nat) : List Nat:=((acc.find? (·.1 == j)).map (·.2)).getD []
def zl2 (ops : Array Oper) : List Nat -> List (Nat × List Nat) -> List (Nat × List Nat)
 | [],acc => acc
 | i :: l,acc => match ops[i]? with
  | some o => zl2 ops l ((i,(zeh o ++ (zeh o).flatMap (getL acc)).eraseDups) :: acc)
  | none => zl2 ops l acc
def subs : List Nat -> List (List Nat)
 | [] => [[]]
 | x :: l => subs l ++ (subs l).map (x :: ·)
def okD (cl : List (Nat × List Nat)) (es : List Nat) (i : Nat) (D : List Nat) : Bool :=
 !D.contains i && es.all fun e => (!(getL cl i).contains e || D.contains e) && (!D.contains e || (!(getL cl e).contains i && es.all fun e' => !(getL cl e).contains e' || D.contains e'))
def insD (es : List Nat) (i : Nat) (D : List Nat) : List Nat:=es.filter fun e => e == i || D.contains e
structure PEntry where
 i : Nat
 eff : Bool
 aft : List Nat
 oth : List (List Nat × List Nat)
 deriving DecidableEq
def entry (cl : List (Nat × List Nat)) (es X : List Nat) (i : Nat) : PEntry :=
 let cur:=es.filter fun e => X.contains e
 ⟨i,es.contains i,insD es i cur,((subs es).filter fun D => okD cl es i D && D != cur).map fun D => (D,insD es i D)⟩
def zmb (cl : List (Nat × List Nat)) (es : List Nat) : List Nat -> List Nat -> List PEntry
 | _,[] => []
 | X,i :: B => entry cl es X i :: zmb cl es (i :: X) B
def zpg (ops : Array Oper) (es ord : List Nat) : List PEntry:=zmb (zl2 ops ord []) es [] ord
def zmP (ops : Array Oper) : List Nat -> List Nat -> Bool
 | _,[] => true
 | X,i :: B => !X.contains i && (match ops[i]? with
  | some o => (zeh o).all X.contains
  | none => false) && zmP ops (i :: X) B
def drawBOk (nt : Nat) (ops : Array Oper) (es ord : List Nat) : Bool :=
 let cl:=zl2 ops ord [];decide (ord.length = ops.size) && zmP ops [] ord && ord.all fun i => match ops[i]? with
  | some o => o.dst.all (· < nt) && !zk9 o.op && o.guard.isNone &&
   (ord.all fun j => i == j || match o.dst,zgH ops j with
    | some d,some d' => d != d'
    | _,_ => true) &&
   (o.op.operands.toList.all fun x => match x with
    | .tmp t => ord.all fun j => zgH ops j != some t || (zeh o).contains j || (getL cl j).contains i
    | _ => true)
  | none => false
theorem zik {acc : List (Nat × List Nat)} {j k : Nat} (h : k ∈ getL acc j) : ∃ l,(j,l) ∈ acc /\ k ∈ l:=by
 unfold getL at h;cases e : acc.find? (·.1 == j) with
 | none => rw [e] at h; simp at h
 | some x =>
  rw [e] at h;obtain ⟨j',l⟩:=x;have h1:=List.mem_of_find?_eq_some e;have h2:=List.find?_some e;simp only [beq_iff_eq] at h2;subst h2;exact ⟨l,h1,by simpa using h⟩
theorem zc9 {ops : Array Oper} : ∀ (ord : List Nat) (acc : List (Nat × List Nat)),(∀ i l,(i,l) ∈ acc -> ∀ j ∈ l,Reach ops i j) -> ∀ i l,(i,l) ∈ zl2 ops ord acc -> ∀ j ∈ l,Reach ops i j
 | [],acc,h => h
 | x :: ord,acc,h => by
  unfold zl2;split
  ·rename_i o ho;refine zc9 ord _ fun i l hm j hj => ?_;rcases List.mem_cons.1 hm with e | hm
   ·cases e;rw [List.mem_eraseDups,List.mem_append] at hj;rcases hj with hj | hj
    ·exact .edge ho hj
    ·obtain ⟨k,hk,hj⟩:=List.mem_flatMap.1 hj;obtain ⟨l',h1,h2⟩:=zik hj;exact .more ho hk (h _ _ h1 _ h2)
   ·exact h i l hm j hj
  ·exact zc9 ord acc h
theorem zee {ops : Array Oper} {ord : List Nat} {i j : Nat} (h : j ∈ getL (zl2 ops ord []) i) : Reach ops i j:=by
 obtain ⟨l,h1,h2⟩:=zik h;exact zc9 ord [] (by simp) i l h1 j h2
theorem zck (p : Nat -> Bool) : ∀ l : List Nat,l.filter p ∈ subs l
 | [] => by simp [subs]
 | x :: l => by
  unfold subs;rw [List.mem_append];by_cases h : p x = true
  ·rw [List.filter_cons_of_pos h]; exact .inr (List.mem_map.2 ⟨_,zck p l,rfl⟩)
  ·rw [List.filter_cons_of_neg h]; exact .inl (zck p l)
structure DrawB (nt : Nat) (ops : Array Oper) (ord : List Nat) : Prop where
 full : ∀ i,i < ops.size -> i ∈ ord
 lt : ∀ i ∈ ord,i < ops.size
 top : zmP ops [] ord = true
 dst : ∀ (i : Nat) o d,ops[i]? = some o -> o.dst = some d -> d < nt
 dfr : ∀ (i : Nat) o,ops[i]? = some o -> zk9 o.op = false
 grd : ∀ (i : Nat) o,ops[i]? = some o -> o.guard = none
 uni : ∀ (i j d : Nat),zgH ops i = some d -> zgH ops j = some d -> i = j
 opd : ∀ (i : Nat) o t j,ops[i]? = some o -> .tmp t ∈ o.op.operands -> zgH ops j = some t -> j ∈ zeh o \/ Reach ops j i
theorem zcZ {ops : Array Oper} : ∀ {ord X : List Nat},zmP ops X ord = true -> ord.Nodup /\ (∀ i ∈ ord,i ∉ X) /\ ∀ i ∈ ord,i < ops.size
 | [],_,_ => ⟨List.nodup_nil,by simp,by simp⟩
 | i :: B,X,h => by
  simp only [zmP,Bool.and_eq_true,Bool.not_eq_true',List.contains_eq_mem,decide_eq_false_iff_not] at h;obtain ⟨⟨h1,h2⟩,h3⟩:=h;obtain ⟨q1,q2,q3⟩:=zcZ h3;refine ⟨List.nodup_cons.2 ⟨fun hm => q2 i hm (List.mem_cons_self ..),q1⟩,fun j hj => ?_,fun j hj => ?_⟩
  ·rcases List.mem_cons.1 hj with rfl | hj
   ·exact h1
   ·exact fun hx => q2 j hj (List.mem_cons_of_mem _ hx)
  ·rcases List.mem_cons.1 hj with rfl | hj
   ·apply Classical.byContradiction;intro hn;rw [Array.getElem?_eq_none (by omega)] at h2;cases h2
   ·exact q3 j hj
theorem drawBOk.out {nt : Nat} {ops : Array Oper} {es ord : List Nat} (h : drawBOk nt ops es ord = true) : DrawB nt ops ord:=by
 unfold drawBOk at h;simp only [Bool.and_eq_true,decide_eq_true_eq] at h;obtain ⟨⟨hlen,htop⟩,h⟩:=h;obtain ⟨hnd,_,hlt⟩:=zcZ htop;have hfull : ∀ i,i < ops.size -> i ∈ ord:=fun i hi => by
  apply Classical.byContradiction;intro hn;have hsub : (i :: ord) ⊆ List.range ops.size:=fun j hj => by
   rcases List.mem_cons.1 hj with rfl | hj
   ·simpa using hi
   ·simpa using hlt j hj
  have:=(List.nodup_cons.2 ⟨hn,hnd⟩).length_le_of_subset hsub;simp at this; omega
 have key : ∀ (i : Nat) o,ops[i]? = some o -> o.dst.all (· < nt) = true /\ zk9 o.op = false /\ o.guard.isNone = true /\ (∀ j ∈ ord,(i == j || match o.dst,zgH ops j with
    | some d,some d' => d != d'
    | _,_ => true) = true) /\ (∀ x ∈ o.op.operands.toList,(match x with
    | .tmp t => ord.all fun j => zgH ops j != some t || (zeh o).contains j || (getL (zl2 ops ord []) j).contains i
    | _ => true) = true):=fun i o ho => by
  have hi : i < ops.size:=(Array.getElem?_eq_some_iff.1 ho).1;have:=List.all_eq_true.1 h i (hfull i hi);rw [ho] at this;simp only [Bool.and_eq_true,List.all_eq_true,Bool.not_eq_true'] at this;exact ⟨this.1.1.1.1,this.1.1.1.2,this.1.1.2,this.1.2,this.2⟩
 have hdlt : ∀ j d,zgH ops j = some d -> j < ops.size:=fun j d e => by
  apply Classical.byContradiction;intro hn;rw [zgH,Array.getElem?_eq_none (by omega)] at e;cases e
 refine ⟨hfull,hlt,htop,fun i o d ho hd => ?_,fun i o ho => (key i o ho).2.1,fun i o ho => by simpa using (key i o ho).2.2.1,fun i j d hi hj => ?_,fun i o t j ho ht hj => ?_⟩
 ·have:=(key i o ho).1; rw [hd] at this; simpa using this
 ·apply Classical.byContradiction;intro hne;obtain ⟨o,ho,hdo⟩:=Option.bind_eq_some_iff.1 hi;have:=(key i o ho).2.2.2.1 j (hfull j (hdlt j d hj));rw [hdo,hj] at this;simp [hne] at this
 ·have:=(key i o ho).2.2.2.2 (.tmp t) (by simpa using ht);simp only [List.all_eq_true] at this;have:=this j (hfull j (hdlt j t hj));rw [hj] at this;simp only [bne_self_eq_false,Bool.false_or,Bool.or_eq_true,List.contains_eq_mem,decide_eq_true_eq] at this;exact this.imp id zee
section
variable (lv : Bool) (P : Program) (Hf : List Nat -> List AObj)
def BQ (T : List (Nat × AV)) (o : Oper) (av : AV) : List (List Nat × List Nat) -> Prop
 | [] => True
 |(D,_) :: l => (AQ lv P ⟨T,Hf D⟩ o fun a => a = av) /\ BQ T o av l
def BE (T : List (Nat × AV)) (o : Oper) (av : AV) : List (List Nat × List Nat) -> Prop
 | [] => True
 |(D,D') :: l => (AEff lv P (Hf D') ⟨T,Hf D⟩ o fun a H' => a = av /\ H' = Hf D') /\ BE T o av l
structure KeptB (K : AS -> Prop) : Type where
 n : Nat
def BOps (ops : Array Oper) : List PEntry -> AS -> (K : AS -> Prop) -> KeptB K -> Prop
 | [],s,K,_ => K s
 | ⟨i,false,_,l⟩ :: rest,s,K,t => one1 (ops[i]?) fun o => AQ lv P s o fun av => BQ lv P Hf s.T o av l /\ BOps ops rest (s.put o.dst av) K t
 | ⟨i,true,D,l⟩ :: rest,s,K,t => one1 (ops[i]?) fun o => AEff lv P (Hf D) s o fun av H' => H' = Hf D /\ BE lv P Hf s.T o av l /\ BOps ops rest ((⟨s.T,H'⟩ : AS).put o.dst av) K t
end
def TX (ops : Array Oper) (T0 : List (Nat × AV)) (f : Nat -> AV) : List Nat -> List (Nat × AV)
 | [] => T0
 | i :: X => match zgH ops i with
  | some d => (d,f i) :: TX ops T0 f X
  | none => TX ops T0 f X
section
variable {ops : Array Oper} {T0 : List (Nat × AV)} {f g : Nat -> AV}
theorem zf0 : ∀ {X : List Nat},(∀ j ∈ X,f j = g j) -> TX ops T0 f X = TX ops T0 g X
 | [],_ => rfl
 | i :: X,h => by
  simp only [TX,zf0 (X:=X) fun j hj => h j (List.mem_cons_of_mem _ hj),h i (List.mem_cons_self ..)]
theorem zg0 (huni : ∀ (i j d : Nat),zgH ops i = some d -> zgH ops j = some d -> i = j) : ∀ {X : List Nat} {j t : Nat},j ∈ X -> zgH ops j = some t -> look (TX ops T0 f X) t = some (f j)
 | i :: X,j,t,hj,ht => by
  by_cases hij : i = j
  ·subst hij; simp [TX,ht,look]
  ·have hj' : j ∈ X:=(List.mem_cons.1 hj).resolve_left (Ne.symm hij);have ih:=zg0 huni (X:=X) hj' ht;unfold TX;split
   ·rename_i d hd;have : d ≠ t:=fun e => hij (huni i j d hd (by rw [e]; exact ht));simp only [look,if_neg this]; exact ih
   ·exact ih
theorem zeW : ∀ {X : List Nat} {t : Nat},(∀ j ∈ X,zgH ops j ≠ some t) -> look (TX ops T0 f X) t = look T0 t
 | [],_,_ => rfl
 | i :: X,t,h => by
  have ih:=zeW (X:=X) (t:=t) fun j hj => h j (List.mem_cons_of_mem _ hj);unfold TX;split
  ·rename_i d hd;have : d ≠ t:=fun e => h i (List.mem_cons_self ..) (by rw [hd,e]);simp only [look,if_neg this]; exact ih
  ·exact ih
theorem ziw {H : List AObj} {X : List Nat} {i : Nat} {o : Oper} {av : AV} (ho : ops[i]? = some o) (hf : f i = av) : (⟨TX ops T0 f X,H⟩ : AS).put o.dst av = ⟨TX ops T0 f (i :: X),H⟩:=by
 have hd : zgH ops i = o.dst:=by simp [zgH,ho]
 have e : TX ops T0 f (i :: X) = match zgH ops i with
  | some d => (d,f i) :: TX ops T0 f X
  | none => TX ops T0 f X:=rfl
 rw [e,hd];cases o.dst with
 | none => rfl
 | some d => simp [AS.put,hf]
def DClosed (ops : Array Oper) (X : List Nat) : Prop:=∀ i ∈ X,∀ o,ops[i]? = some o -> ∀ j ∈ zeh o,j ∈ X
theorem DClosed.reach {X : List Nat} (hX : DClosed ops X) {i j : Nat} (hi : i ∈ X) (h : Reach ops i j) : j ∈ X:=zcI hX h fun o ho k hk => hX i hi o ho k hk
theorem DClosed.cons {X : List Nat} (hX : DClosed ops X) {i : Nat} {o : Oper} (ho : ops[i]? = some o) (hd : ∀ j ∈ zeh o,j ∈ X) : DClosed ops (i :: X):=fun k hk o' ho' j hj => by
 rcases List.mem_cons.1 hk with rfl | hk
 ·rw [ho] at ho'; cases ho'; exact List.mem_cons_of_mem _ (hd j hj)
 ·exact List.mem_cons_of_mem _ (hX k hk o' ho' j hj)
theorem zr3 {nt : Nat} {ord : List Nat} (hok : DrawB nt ops ord) {X X' : List Nat} {i : Nat} {o : Oper} (ho : ops[i]? = some o) (hX : DClosed ops X) (hX' : DClosed ops X') (hi : i ∉ X) (hi' : i ∉ X') (hd : ∀ j ∈ zeh o,j ∈ X) (hd' : ∀ j ∈ zeh o,j ∈ X') {t : Nat} (ht : .tmp t ∈ o.op.operands) :
  look (TX ops T0 f X) t = look (TX ops T0 f X') t:=by
 by_cases hex : ∃ j,zgH ops j = some t
 ·obtain ⟨j,hj⟩:=hex;rcases hok.opd i o t j ho ht hj with h | h
  ·rw [zg0 hok.uni (hd j h) hj,zg0 hok.uni (hd' j h) hj]
  ·rw [zeW fun j' hj' e => hi (hX.reach (hok.uni j j' t hj e ▸ hj') h),zeW fun j' hj' e => hi' (hX'.reach (hok.uni j j' t hj e ▸ hj') h)]
 ·rw [zeW fun j _ e => hex ⟨j,e⟩,zeW fun j _ e => hex ⟨j,e⟩]
end
section
variable {lv : Bool} {P : Program} {r : Option Nat} {ops : Array Oper} {Hf : List Nat -> List AObj} {T0 : List (Nat × AV)} {es ord : List Nat} {nt : Nat}
def done (es X : List Nat) : List Nat:=es.filter fun e => X.contains e
theorem zbG {X : List Nat} {i : Nat} : insD es i (done es X) = done es (i :: X):=by
 unfold insD done;apply List.filter_congr;intro e he;by_cases h : e = i
 ·subst h; simp
 ·simp [List.mem_filter,he,h]
theorem zgM {X : List Nat} {i : Nat} (hi : i ∉ es) : done es (i :: X) = done es X:=by
 unfold done;apply List.filter_congr;intro e he;have : e ≠ i:=fun h => hi (h ▸ he);simp [this]
theorem zfQ {X : List Nat} (hX : DClosed ops X) {i : Nat} {o : Oper} (ho : ops[i]? = some o) (hi : i ∉ X) (hd : ∀ j ∈ zeh o,j ∈ X) : okD (zl2 ops ord []) es i (done es X) = true:=by
 have hin : ∀ e,e ∈ es -> (e ∈ done es X <-> e ∈ X):=fun e he => by simp [done,List.mem_filter,he]
 have hX2:=hX.cons ho hd;unfold okD;simp only [Bool.and_eq_true,Bool.not_eq_true',List.contains_eq_mem,decide_eq_false_iff_not,List.all_eq_true,Bool.or_eq_true,decide_eq_true_eq];refine ⟨fun h => hi (by simpa [done] using (List.mem_filter.1 h).2),fun e he => ⟨?_,?_⟩⟩
 ·by_cases h : e ∈ getL (zl2 ops ord []) i
  ·right;rw [hin e he];exact zcI hX (zee h) fun o' ho' k hk => by rw [ho] at ho'; cases ho'; exact hd k hk
  ·exact .inl h
 ·by_cases h : e ∈ X
  ·right;refine ⟨fun hm => hi (hX.reach h (zee hm)),fun e' he' => ?_⟩;by_cases hm : e' ∈ getL (zl2 ops ord []) e
   ·right; rw [hin e' he']; exact hX.reach h (zee hm)
   ·exact .inl hm
  ·left; rw [hin e he]; exact h
def OB (lv : Bool) (P : Program) (r : Option Nat) (ops : Array Oper) (Hf : List Nat -> List AObj) (T0 : List (Nat × AV)) (es : List Nat) (f : Nat -> AV) (i : Nat) (o : Oper) (X : List Nat) : Prop :=
 if i ∈ es then AEff lv P (Hf (done es (i :: X))) ⟨TX ops T0 f X,Hf (done es X)⟩ o (fun a H' => a = f i /\ H' = Hf (done es (i :: X)))
 else ∃ T,(∀ t a,look T t = some a -> look (TX ops T0 f X) t = some a) /\ QStep lv P r o ⟨T,Hf (done es X)⟩ (f i)
theorem BQ.mem {T : List (Nat × AV)} {o : Oper} {av : AV} : ∀ {l : List (List Nat × List Nat)},BQ lv P Hf T o av l -> ∀ p ∈ l,AQ lv P ⟨T,Hf p.1⟩ o fun a => a = av
 |(D,D') :: l,h,p,hp => by
  rcases List.mem_cons.1 hp with rfl | hp
  ·exact h.1
  ·exact BQ.mem h.2 p hp
theorem BE.mem {T : List (Nat × AV)} {o : Oper} {av : AV} : ∀ {l : List (List Nat × List Nat)},BE lv P Hf T o av l -> ∀ p ∈ l,AEff lv P (Hf p.2) ⟨T,Hf p.1⟩ o fun a H' => a = av /\ H' = Hf p.2
 |(D,D') :: l,h,p,hp => by
  rcases List.mem_cons.1 hp with rfl | hp
  ·exact h.1
  ·exact BE.mem h.2 p hp
def zmB (T : List (Nat × AV)) : List Operand -> List (Nat × AV)
 | [] => []
 | .tmp t :: l => match look T t with
  | some a => (t,a) :: zmB T l
  | none => zmB T l
 | _ :: l => zmB T l
theorem zeO {T : List (Nat × AV)} : ∀ {l : List Operand} {t : Nat} {a : AV},look (zmB T l) t = some a -> look T t = some a
 | [],_,_,h => by cases h
 | x :: l,t,a,h => by
  have ih:=@zeO T l t a;cases x with
  | tmp t' =>
   simp only [zmB] at h;split at h
   ·rename_i b hb;simp only [look] at h;split at h
    ·rename_i e; subst e; cases h; exact hb
    ·exact ih h
   ·exact ih h
  | _ => exact ih h
theorem zgV {T : List (Nat × AV)} : ∀ {l : List Operand} {t : Nat},.tmp t ∈ l -> look (zmB T l) t = look T t
 | x :: l,t,h => by
  by_cases hx : x = .tmp t
  ·subst hx;simp only [zmB];split
   ·rename_i b hb; simp [look,hb]
   ·rename_i hb;rw [hb];cases e : look (zmB T l) t with
    | none => rfl
    | some a => have:=zeO e; rw [hb] at this; cases this
  ·have hm : .tmp t ∈ l:=(List.mem_cons.1 h).resolve_left (Ne.symm hx);have ih:=zgV (T:=T) hm;cases x with
   | tmp t' =>
    have hne : t' ≠ t:=fun e => hx (by rw [e]);simp only [zmB];split
    ·simp only [look,if_neg hne]; exact ih
    ·exact ih
   | _ => exact ih
theorem zio {T : List (Nat × AV)} : ∀ {l : List Operand} {t : Nat} {a : AV},look (zmB T l) t = some a -> .tmp t ∈ l
 | [],_,_,h => by cases h
 | x :: l,t,a,h => by
  have ih:=@zio T l t a;cases x with
  | tmp t' =>
   simp only [zmB] at h;split at h
   ·simp only [look] at h;split at h
    ·rename_i e; subst e; exact List.mem_cons_self ..
    ·exact List.mem_cons_of_mem _ (ih h)
   ·exact List.mem_cons_of_mem _ (ih h)
  | _ => exact List.mem_cons_of_mem _ (ih h)
theorem ziq {T : List (Nat × AV)} {H : List AObj} {l : List Operand} {x : Operand} (h : x ∈ l) : AS.ev ⟨T,H⟩ x = AS.ev ⟨zmB T l,H⟩ x:=by
 cases x with
 | tmp t => exact (zgV h).symm
 | _ => rfl
theorem zfU (hok : DrawB nt ops ord) {K : AS -> Prop} {tk : KeptB K} : ∀ (B X : List Nat) (acc : Nat -> AV),zmP ops X B = true -> DClosed ops X -> BOps lv P Hf ops (zmb (zl2 ops ord []) es X B) ⟨TX ops T0 acc X,Hf (done es X)⟩ K tk ->
  ∃ f,(∀ j ∈ X,f j = acc j) /\ (∀ i ∈ B,∀ o,ops[i]? = some o -> ∀ X',DClosed ops X' -> i ∉ X' -> (∀ j ∈ zeh o,j ∈ X') -> OB lv P r ops Hf T0 es f i o X') /\ K ⟨TX ops T0 f (B.reverse ++ X),Hf (done es (B.reverse ++ X))⟩
 | [],X,acc,_,_,h => ⟨acc,fun _ _ => rfl,by simp,by simpa [zmb,BOps] using h⟩
 | i :: B,X,acc,htop,hX,h => by
  have htop':=htop;simp only [zmP,Bool.and_eq_true,Bool.not_eq_true',List.contains_eq_mem,decide_eq_false_iff_not] at htop;obtain ⟨⟨hi,h2⟩,h3⟩:=htop;cases ho : ops[i]? with
  | none => rw [ho] at h2; cases h2
  | some o =>
  rw [ho] at h2;have hd : ∀ j ∈ zeh o,j ∈ X:=fun j hj => by have:=List.all_eq_true.1 h2 j hj; simpa using this
  have hX':=hX.cons ho hd;have hcur : okD (zl2 ops ord []) es i (done es X) = true:=zfQ hX ho hi hd;have oth : ∀ D,D ∈ subs es -> okD (zl2 ops ord []) es i D = true -> D ≠ done es X -> (D,insD es i D) ∈ ((subs es).filter fun D => okD (zl2 ops ord []) es i D && D != done es X).map fun D => (D,insD es i D):=fun D h1 h2 h3 => List.mem_map.2 ⟨D,List.mem_filter.2 ⟨h1,by simp [h2,h3]⟩,rfl⟩;have acc1 : ∀ av : AV,TX ops T0 acc X = TX ops T0 (fun j => if j = i then av else acc j) X:=fun av => zf0 fun j hj => by
   have : j ≠ i:=fun e => hi (e ▸ hj);simp [this]
  have seen : ∀ (f : Nat -> AV) X',(∀ j ∈ X,f j = acc j) -> DClosed ops X' -> i ∉ X' -> (∀ j ∈ zeh o,j ∈ X') -> ∀ (H : List AObj),∀ x ∈ o.op.operands,AS.ev ⟨TX ops T0 acc X,H⟩ x = AS.ev ⟨TX ops T0 f X',H⟩ x:=fun f X' hf hc hn hd' H x hx => by
   cases x with
   | tmp t =>
    show look _ t = look _ t;rw [<- zf0 (f:=f) (g:=acc) hf];exact zr3 hok ho hX hc hi hn hd hd' hx
   | _ => rfl
  unfold zmb at h;by_cases hie : i ∈ es
  ·have hen : entry (zl2 ops ord []) es X i = ⟨i,true,insD es i (done es X),((subs es).filter fun D => okD (zl2 ops ord []) es i D && D != done es X).map fun D => (D,insD es i D)⟩:=by
    unfold entry done; simp [hie]
   rw [hen,BOps,ho,one1] at h;obtain ⟨av,H',g1,e1,g2,g3⟩:=h.ex;subst e1;rw [zbG] at g1 g3;rw [acc1 av,ziw ho (by simp)] at g3;obtain ⟨f,q1,q2,q3⟩:=zfU hok B (i :: X) _ h3 hX' g3;have hfi : f i = av:=(by have:=q1 i (List.mem_cons_self ..); simpa using this);have hfX : ∀ j ∈ X,f j = acc j:=fun j hj => by
    have:=q1 j (List.mem_cons_of_mem _ hj);have hne : j ≠ i:=fun e => hi (e ▸ hj);simpa [hne] using this
   refine ⟨f,hfX,fun k hk o' ho' X' hc hn hd' => ?_,by simpa using q3⟩;rcases List.mem_cons.1 hk with rfl | hk
   ·rw [ho] at ho'; cases ho';unfold OB;rw [if_pos hie,hfi];refine AEff.congr (T:=TX ops T0 acc X) (seen f X' hfX hc hn hd' _) ?_;by_cases hD : done es X' = done es X
    ·rw [<- zbG,hD,zbG]; exact g1
    ·have:=g2.mem _ (oth _ (zck _ es) (zfQ hc ho hn hd') hD);rw [<- zbG];exact this
   ·exact q2 k hk o' ho' X' hc hn hd'
  ·have hen : entry (zl2 ops ord []) es X i = ⟨i,false,insD es i (done es X),((subs es).filter fun D => okD (zl2 ops ord []) es i D && D != done es X).map fun D => (D,insD es i D)⟩:=by
    unfold entry done; simp [hie]
   rw [hen,BOps,ho,one1] at h;have h':=AQ.congr (T':=zmB (TX ops T0 acc X) o.op.operands.toList) (fun x hx => ziq (by simpa using hx)) h;obtain ⟨av,g1,g2,g3⟩:=h'.sound (r:=r);rw [acc1 av,ziw ho (by simp),<- zgM (X:=X) hie] at g3;obtain ⟨f,q1,q2,q3⟩:=zfU hok B (i :: X) _ h3 hX' g3;have hfi : f i = av:=(by have:=q1 i (List.mem_cons_self ..); simpa using this);have hfX : ∀ j ∈ X,f j = acc j:=fun j hj => by
    have:=q1 j (List.mem_cons_of_mem _ hj);have hne : j ≠ i:=fun e => hi (e ▸ hj);simpa [hne] using this
   refine ⟨f,hfX,fun k hk o' ho' X' hc hn hd' => ?_,by simpa using q3⟩;rcases List.mem_cons.1 hk with rfl | hk
   ·rw [ho] at ho'; cases ho';unfold OB;rw [if_neg hie,hfi];refine ⟨zmB (TX ops T0 acc X) o.op.operands.toList,fun t a e => ?_,?_⟩
    ·have h1:=seen f X' hfX hc hn hd' [] (.tmp t) (by simpa using zio e);have h2 : look (TX ops T0 acc X) t = look (TX ops T0 f X') t:=h1;rw [<- h2]; exact zeO e
    ·by_cases hD : done es X' = done es X
     ·rw [hD]; exact g1
     ·have h1:=g2.mem _ (oth _ (zck _ es) (zfQ hc ho hn hd') hD);have h2:=AQ.congr (T':=zmB (TX ops T0 acc X) o.op.operands.toList) (fun x hx => ziq (by simpa using hx)) h1;obtain ⟨av',h3,rfl⟩:=h2.sound (r:=r);exact h3
   ·exact q2 k hk o' ho' X' hc hn hd'
theorem zoD {f : Nat -> AV} (hok : DrawB nt ops ord) {X X' : List Nat} (h : ∀ i,i ∈ X <-> i ∈ X') (t : Nat) : look (TX ops T0 f X) t = look (TX ops T0 f X') t:=by
 by_cases hex : ∃ j ∈ X,zgH ops j = some t
 ·obtain ⟨j,hj,hd⟩:=hex;rw [zg0 hok.uni hj hd,zg0 hok.uni ((h j).1 hj) hd]
 ·rw [zeW fun j hj e => hex ⟨j,hj,e⟩,zeW fun j hj e => hex ⟨j,(h j).2 hj,e⟩]
theorem zkR {X X' : List Nat} (h : ∀ i,i ∈ X <-> i ∈ X') : done es X = done es X':=by
 unfold done;apply List.filter_congr;intro e _;have:=h e;by_cases h1 : e ∈ X
 ·have h2:=this.1 h1; simp [h1,h2]
 ·have h2 : e ∉ X':=fun x => h1 (this.2 x);simp [h1,h2]
theorem zkP {f : Nat -> AV} (hok : DrawB nt ops ord) (hop : ∀ i ∈ ord,∀ o,ops[i]? = some o -> ∀ X',DClosed ops X' -> i ∉ X' -> (∀ j ∈ zeh o,j ∈ X') -> OB lv P r ops Hf T0 es f i o X') {X l : List Nat} (hs : Sched ops X l) :
  (∀ i ∈ X,i < ops.size) -> DClosed ops X -> ∀ (E : Env) (V : View) (a : Act) (Q : Ex -> Act -> View -> Prop),At E V ⟨TX ops T0 f X,Hf (done es X)⟩ a nt ->
   (∀ E' V' a' X',Kept E E' V V' a a' -> At E' V' ⟨TX ops T0 f X',Hf (done es X')⟩ a' nt -> (∀ i,i ∈ X' <-> i < ops.size) -> Q .normal a' V') -> zie lv P r ops Q l a V:=by
 induction hs with
 | nil X h =>
  intro hX hc E V a Q hat hQ;exact hQ E V a X (Kept.refl E V a) hat fun i => ⟨hX i,h i⟩
 | cons o ho hn hd hrest ih =>
  rename_i X i l;intro hX hc E V a Q hat hQ;have hi : i < ops.size:=(Array.getElem?_eq_some_iff.1 ho).1;simp only [zie,ho];have hX' : ∀ k ∈ i :: X,k < ops.size:=fun k hk => (List.mem_cons.1 hk).elim (fun e => by rw [e]; exact hi) (hX k);have hc':=hc.cons ho hd;have hw : Region.wanted o (yielded ops a.tmps) = true:=by unfold Region.wanted; rw [hok.grd i o ho]
  rw [if_pos hw];refine .inl ?_;have hdst : ∀ d,o.dst = some d -> d < a.tmps.size:=fun d e => by rw [hat.size]; exact hok.dst i o d ho e
  have hob:=hop i (hok.full i hi) o ho X hc hn hd;unfold OB at hob;by_cases hie : i ∈ es
  ·rw [if_pos hie] at hob;have hst:=hob.step (r:=r) (bad:=fun _ _ => False);refine hst E V a _ Q hat.conc hat.tok hdst (.inr (hok.dfr i o ho)) (fun E' V' a' s' hk hc2 ht e => ?_) fun _ _ _ _ _ _ _ _ _ h => h.elim;subst e;rw [ziw ho rfl] at ht hc2;exact ih hX' hc' E' V' a' Q ⟨hc2,ht,hk.size.trans hat.size⟩ fun E'' V'' a'' X'' hk' hat'' hall => hQ E'' V'' a'' X'' (hk.trans hk') hat'' hall
  ·rw [if_neg hie] at hob;obtain ⟨T,hT,hq⟩:=hob;refine hq E V a _ Q hat.conc (fun t av e => hat.tok t av (hT t av e)) (.inr (hok.dfr i o ho)) fun E' V' v hle hro hde hc2 hv => ?_;have ht : TOk E' ((⟨TX ops T0 f X,Hf (done es X)⟩ : AS).put o.dst (f i)).T (a.put o.dst v).tmps:=TOk.putd (s:=⟨TX ops T0 f X,Hf (done es X)⟩) (hat.tok.mono hle) hdst hv;rw [ziw ho rfl] at ht;refine ih hX' hc' E' V' (a.put o.dst v) Q ⟨by rw [zgM hie]; exact hc2,ht,(zaA _ _ _).trans hat.size⟩ fun E'' V'' a'' X'' hk hat'' hall =>
    hQ E'' V'' a'' X'' ⟨hle.trans hk.le,hk.size.trans (zaA _ _ _),hk.defers.trans (zaw _ _ _),hk.role.trans hro,hk.deaf.trans hde⟩ hat'' hall
theorem zbE {s : AS} {id : Nat} {Φ : AEx -> AS -> Prop} (es ord : List Nat) (pl : List PEntry) (Hf : List Nat -> List AObj) (hm : P.follows .mixedOrders = true) (hok : drawBOk nt ops es ord = true) (hpl : zpg ops es ord = pl) (h0 : s.H = Hf [])
  (h : BOps lv P Hf ops pl s (Φ .normal) ⟨0⟩) : AWP lv P r nt (.region id ops true) s Φ:=by
 intro E V a Q hat hQ;have hok:=drawBOk.out hok;obtain ⟨hnd,_,hlt⟩:=zcZ hok.top;have hs0 : s = ⟨TX ops s.T (fun _ => .val undef) [],Hf (done es [])⟩:=by
  have : done es [] = []:=by simp [done]
  rw [this,<- h0]; rfl
 subst hpl;have h' : BOps lv P Hf ops (zmb (zl2 ops ord []) es [] ord) ⟨TX ops s.T (fun _ => .val undef) [],Hf (done es [])⟩ (Φ .normal) ⟨0⟩:=by rw [<- hs0]; exact h
 obtain ⟨f,_,q2,q3⟩:=zfU (r:=r) hok ord [] _ hok.top (fun i hi => by cases hi) h';have hfull : ∀ i,i ∈ ord <-> i < ops.size:=fun i => ⟨hlt i,hok.full i⟩;refine zg3 fun t => ?_;rw [show Region.schedule (P.follows .mixedOrders) ops t = Region.linearise.go .any ops ops.size t (Array.replicate ops.size false) [] by unfold Region.schedule; rw [hm]; simp [Region.linearise]];have binds : ∀ (A B : List Nat) (X : List Nat),zmP ops X (A ++ B) = true -> True:=fun _ _ _ _ => trivial;have ready : ∀ (ord X : List Nat),zmP ops X ord = true -> ∀ A i B,ord = A ++ i :: B -> ∃ o,ops[i]? = some o /\ ∀ j ∈ zeh o,j ∈ A \/ j ∈ X:=by
  intro ord;induction ord with
  | nil => intro X _ A i B e; cases A <;> cases e
  | cons x l ih =>
   intro X htop A i B e;simp only [zmP,Bool.and_eq_true,Bool.not_eq_true',List.contains_eq_mem,decide_eq_false_iff_not] at htop;obtain ⟨⟨h1,h2⟩,h3⟩:=htop;cases A with
   | nil =>
    have e1 : x = i:=(by have:=congrArg List.head? e; simpa using this);rw [e1] at h2;cases ho : ops[i]? with
    | none => rw [ho] at h2; cases h2
    | some o =>
     rw [ho] at h2;exact ⟨o,rfl,fun j hj => .inr (by have:=List.all_eq_true.1 h2 j hj; simpa using this)⟩
   | cons y A =>
    cases e;obtain ⟨o,ho,hb⟩:=ih (x :: X) h3 A i B rfl;refine ⟨o,ho,fun j hj => ?_⟩;rcases hb j hj with h | h
    ·exact .inl (List.mem_cons_of_mem _ h)
    ·rcases List.mem_cons.1 h with rfl | h
     ·exact .inl (List.mem_cons_self ..)
     ·exact .inr h
 have hs:=zfb (ops:=ops) (fun i o ho j hj => by
   obtain ⟨A,B,e⟩:=List.append_of_mem (hok.full i (Array.getElem?_eq_some_iff.1 ho).1);obtain ⟨o',ho',hb⟩:=ready ord [] hok.top A i B e;rw [ho] at ho'; cases ho';rcases hb j hj with h | h
   ·exact hlt j (by rw [e]; exact List.mem_append_left _ h)
   ·cases h)
  (fun X ⟨i,hi,hn⟩ => by
   obtain ⟨A,i',B,e,h1,h2⟩:=zgI (X:=X) ⟨i,hok.full i hi,hn⟩;obtain ⟨o',ho',hb⟩:=ready ord [] hok.top A i' B e;refine ⟨i',o',ho',h1,fun j hj => ?_⟩;rcases hb j hj with h | h
   ·exact h2 j h
   ·cases h)
  ops.size t (Array.replicate ops.size false) [] ⟨by simp,fun i hi => by simp [hi]⟩ (Nat.le_trans List.countP_le_length (by simp))
 have hat0 : At E V ⟨TX ops s.T f [],Hf (done es [])⟩ a nt:=by
  have e : (⟨TX ops s.T f [],Hf (done es [])⟩ : AS) = s:=hs0.symm;rw [e]; exact hat
 refine zkP (Hf:=Hf) (es:=es) hok q2 hs (by simp) (fun i hi => by cases hi) E V a Q hat0 fun E' V' a' X' hk hat' hall => ?_;have hmem : ∀ i,i ∈ X' <-> i ∈ ord.reverse ++ []:=fun i => by simp [hall,hfull]
 refine hQ .normal .normal E' V' a' _ hk ⟨?_,fun t x e => ?_,hat'.size⟩ trivial q3
 ·rw [<- zkR hmem]; exact hat'.conc
 ·rw [<- zoD hok hmem] at e; exact hat'.tok t x e
end
def zjC (j : Nat) (D : List Nat) : Bool:=D.contains j
theorem zje (j : Nat) : zjC j [] = false:=by simp [zjC]
theorem zhB (i j : Nat) (D : List Nat) : zjC j (i :: D) = ((j == i) || zjC j D):=by
 by_cases h : j = i <;> simp [zjC,h]
theorem bq_nil (lv : Bool) (P : Program) (Hf : List Nat -> List AObj) (T : List (Nat × AV)) (o : Oper) (av : AV) : BQ lv P Hf T o av [] = True:=by rw [BQ]
theorem zrK (lv : Bool) (P : Program) (Hf : List Nat -> List AObj) (T : List (Nat × AV)) (o : Oper) (av : AV) (D D' : List Nat) (l : List (List Nat × List Nat)) : BQ lv P Hf T o av ((D,D') :: l) = ((AQ lv P ⟨T,Hf D⟩ o fun a => a = av) /\ BQ lv P Hf T o av l):=by rw [BQ]
theorem be_nil (lv : Bool) (P : Program) (Hf : List Nat -> List AObj) (T : List (Nat × AV)) (o : Oper) (av : AV) : BE lv P Hf T o av [] = True:=by rw [BE]
theorem zrL (lv : Bool) (P : Program) (Hf : List Nat -> List AObj) (T : List (Nat × AV)) (o : Oper) (av : AV) (D D' : List Nat) (l : List (List Nat × List Nat)) : BE lv P Hf T o av ((D,D') :: l) = ((AEff lv P (Hf D') ⟨T,Hf D⟩ o fun a H' => a = av /\ H' = Hf D') /\ BE lv P Hf T o av l):=by rw [BE]
theorem zp2 : type_of% @BOps.eq_1:=by intros; rw [BOps.eq_1]
theorem bOps_q : type_of% @BOps.eq_2:=by intros; rw [BOps.eq_2]
theorem bOps_e : type_of% @BOps.eq_3:=by intros; rw [BOps.eq_3]
theorem aEff_u : type_of% @AEff.eq_1:=by intros; rw [AEff.eq_1]
theorem zjn (G H : List AObj) (k : AV -> List AObj -> Prop) (n m sz : Nat) (elem : TypeId) (l l' : List AV) : EApp G H k n m sz elem l l' .exact = zl4 G[H.length]? (0 < m /\ k (.osl H.length 0 (n + m) 0) (H ++ [.own sz (l ++ l') elem])) (k (.sl (n + m) (l ++ l') (.opn H.length)) (H ++ [.tail (n + m) sz elem])) ⟨0⟩:=by rw [EApp]
theorem zrC (X Y : Prop) (t : Kept2 X Y) : zl4 none X Y t = Y:=by rw [zl4]; simp
theorem zrB (a : Nat) (b : List AV) (c : TypeId) (X Y : Prop) (t : Kept2 X Y) : zl4 (some (.own a b c)) X Y t = X:=by rw [zl4]
theorem zrD (b : List AV) (c : TypeId) (X Y : Prop) (t : Kept2 X Y) : zl4 (some (.cells b c)) X Y t = Y:=by rw [zl4]; simp
theorem zrz (a b : Nat) (c : TypeId) (X Y : Prop) (t : Kept2 X Y) : zl4 (some (.tail a b c)) X Y t = Y:=by rw [zl4]; simp
theorem zrE (b : Obj) (X Y : Prop) (t : Kept2 X Y) : zl4 (some (.obj b)) X Y t = Y:=by rw [zl4]; simp
theorem zrA (a : Nat) (b : List AV) (c : TypeId) (X Y : Prop) (t : Kept2 X Y) : zl4 (some (.part a b c)) X Y t = Y:=by rw [zl4]; simp
@[congr] theorem gHint_congr {x x' : Option AObj} {X Y : Prop} {t : Kept2 X Y} (h : x = x') : zl4 x X Y t = zl4 x' X Y t:=by rw [h]
theorem zpW (G H : List AObj) (k : AV -> List AObj -> Prop) (n m sz : Nat) (elem : TypeId) (l l' : List AV) (i : Nat) : EApp G H k n m sz elem l l' (.opn i) = ((match H[i]? with
   | some (.tail n' sz' el') => n' = n /\ sz' = sz /\ el' = elem
   | _ => False) /\ (∀ a ∈ l',a.leaf = true) /\ k (.sl (n + m) (l ++ l') (.opn i)) (H.set i (.tail (n + m) sz elem))):=by first | (rw [EApp]; done) | (rw [EApp]; rfl)
section
variable {lv : Bool} {P : Program} {s s' : AS}
@[congr] theorem aEff_congr {G G' : List AObj} {o : Oper} {k : AV -> List AObj -> Prop} (hG : G = G') (h : s = s') : AEff lv P G s o k = AEff lv P G' s' o k:=by rw [hG,h]
@[congr] theorem bOps_congr {Hf : List Nat -> List AObj} {ops : Array Oper} {l l' : List PEntry} {K : AS -> Prop} {t : KeptB K} (hl : l = l') (h : s = s') : BOps lv P Hf ops l s K t = BOps lv P Hf ops l' s' K t:=by rw [hl,h]
@[congr] theorem bq_congr {Hf : List Nat -> List AObj} {T T' : List (Nat × AV)} {o : Oper} {av av' : AV} {l l' : List (List Nat × List Nat)} (h1 : T = T') (h2 : av = av') (h3 : l = l') : BQ lv P Hf T o av l = BQ lv P Hf T' o av' l':=by rw [h1,h2,h3]
@[congr] theorem be_congr {Hf : List Nat -> List AObj} {T T' : List (Nat × AV)} {o : Oper} {av av' : AV} {l l' : List (List Nat × List Nat)} (h1 : T = T') (h2 : av = av') (h3 : l = l') : BE lv P Hf T o av l = BE lv P Hf T' o av' l':=by rw [h1,h2,h3]
@[congr] theorem eCall_congr {f f' : AV} {H H' : List AObj} {zas as' : List AV} {k : AV -> List AObj -> Prop} {t : KeptE k} (h1 : f = f') (h2 : H = H') (h3 : zas = as') : zqq lv P f H zas k t = zqq lv P f' H' as' k t:=by rw [h1,h2,h3]
@[congr] theorem eInv_congr {f f' : AV} {name : String} {H H' : List AObj} {zas as' : List AV} {k : AV -> List AObj -> Prop} {t : KeptE k} (h1 : f = f') (h2 : H = H') (h3 : zas = as') : EInv lv P f name H zas k t = EInv lv P f' name H' as' k t:=by rw [h1,h2,h3]
@[congr] theorem eApp_congr {G G' H H' : List AObj} {k : AV -> List AObj -> Prop} {n n' m m' sz : Nat} {elem : TypeId} {l l' x x' : List AV} {e e' : End} (hG : G = G') (h0 : H = H') (h1 : n = n') (h2 : m = m') (h3 : l = l') (h4 : x = x') (h5 : e = e') : EApp G H k n m sz elem l x e = EApp G' H' k n' m' sz elem l' x' e':=by rw [hG,h0,h1,h2,h3,h4,h5]
end
attribute [seval] zje zhB bq_nil zrK be_nil zrL zp2 bOps_q bOps_e aEff_u zjn zpW zrC zrB zrD zrz zrE zrA Bool.true_or Bool.false_or Bool.or_true Bool.or_false cond_true cond_false
def AEx.stay (Φ : AEx -> AS -> Prop) : AEx -> AS -> Prop
 | .goto _,_ => False
 | e,s => Φ e s
theorem zhb (Φ : AEx -> AS -> Prop) (s : AS) : AEx.stay Φ .normal s = Φ .normal s:=by rw [AEx.stay]; simp
theorem zo0 (Φ : AEx -> AS -> Prop) (s : AS) : AEx.stay Φ .ret s = Φ .ret s:=by rw [AEx.stay]; simp
theorem zj3 (Φ : AEx -> AS -> Prop) (i : Nat) (s : AS) : AEx.stay Φ (.exit i) s = Φ (.exit i) s:=by rw [AEx.stay]; simp
theorem ziI (Φ : AEx -> AS -> Prop) (a : AV) (s : AS) : AEx.stay Φ (.panic a) s = Φ (.panic a) s:=by rw [AEx.stay]; simp
theorem zcb {lv : Bool} {P : Program} {r : Option Nat} {s : AS} {nt : Nat} {c : Code} {Φ : AEx -> AS -> Prop} (h : AWP lv P r nt c s (AEx.stay Φ)) : AWP lv P r nt (.scope c) s Φ:=by
 refine zgZ (fun _ _ _ => False) ⟨0,h.mono fun e s hs => ?_⟩ fun _ _ _ _ _ hf => hf.elim;cases e <;> first | exact hs | exact hs.elim
@[congr] theorem stay_congr {s s' : AS} {Φ : AEx -> AS -> Prop} {e e' : AEx} (he : e = e') (h : s = s') : AEx.stay Φ e s = AEx.stay Φ e' s':=by rw [he,h]
attribute [seval] zhb zo0 zj3 ziI
theorem if_nat {α : Type} (n : Nat) (x : α) : (if (n : Int) < 0 then none else some x) = some x:=by rw [if_neg (by omega)]
theorem bop_en : (BinOp.eql == BinOp.neq) = false:=by decide
theorem bop_nn : (BinOp.neq == BinOp.neq) = true:=by decide
theorem zga {α β : Type} (f : α -> β) (xs : List α) : (xs.map f).take xs.length = xs.map f:=List.take_of_length_le (by simp)
theorem op_or (o : BinOp) : (o = o \/ o = .neq) = True:=by simp
theorem op_or' : (BinOp.neq = .eql \/ BinOp.neq = .neq) = True:=by simp
theorem ite_ff {α : Type} (a b : α) : (if false = true then a else b) = b:=by simp
theorem ite_tt {α : Type} (a b : α) : (if true = true then a else b) = a:=by simp
theorem zp1 (s : AS) : s.bnd none = some none:=by rw [AS.bnd]
theorem zp0 (s : AS) (x : Operand) : s.bnd (some x) = (s.ev x).bind fun a => a.asI.map some:=by
 rw [AS.bnd]; cases s.ev x <;> rfl
theorem zrR (j : IntKind) (n : Int) : AV.asI (.val (.int j n)) = some n:=by rw [AV.asI]
theorem zls (P : Program) (t : TypeId) (id off : Nat) (l h m : Option Int) (k : AV -> Prop) : zmu P t (.op id off) l h m k = one1 (zm5 P t) fun p => OwnCut id off p.1 p.1 p.2 l h m k:=by rw [zmu]
theorem zjF (P : Program) (t : TypeId) (id off n c : Nat) (l h m : Option Int) (k : AV -> Prop) : zmu P t (.osl id off n c) l h m k = one1 (zgX P t) fun p => OwnCut id off n c p.2 l h m k:=by rw [zmu]
theorem zlr (P : Program) (t : TypeId) (n : Nat) (li : List AV) (e : End) (l h m : Option Int) (k : AV -> Prop) : zmu P t (.sl n li e) l h m k = one1 (zgX P t) fun p => SlCut n li e p.2 l h m k:=by rw [zmu]
theorem zpn : type_of% @OwnCut.eq_1:=by intros; rw [OwnCut.eq_1]
theorem zqX : type_of% @SlCut.eq_1:=by intros; rw [SlCut.eq_1]
@[congr] theorem ownCut_congr {id id' off off' n n' cap cap' sz sz' : Nat} {lo lo' hi hi' mx mx' : Option Int} {k : AV -> Prop} (h1 : id = id') (h2 : off = off') (h3 : n = n') (h4 : cap = cap') (h5 : sz = sz') (h6 : lo = lo') (h7 : hi = hi') (h8 : mx = mx') : OwnCut id off n cap sz lo hi mx k = OwnCut id' off' n' cap' sz' lo' hi' mx' k:=by rw [h1,h2,h3,h4,h5,h6,h7,h8]
@[congr] theorem slCut_congr {n n' sz sz' : Nat} {l l' : List AV} {e e' : End} {lo lo' hi hi' mx mx' : Option Int} {k : AV -> Prop} (h3 : n = n') (h1 : l = l') (h2 : e = e') (h5 : sz = sz') (h6 : lo = lo') (h7 : hi = hi') (h8 : mx = mx') : SlCut n l e sz lo hi mx k = SlCut n' l' e' sz' lo' hi' mx' k:=by rw [h1,h2,h3,h5,h6,h7,h8]
theorem nat1 : ((1 : Nat) : Int) = 1:=rfl
theorem nat2 : ((2 : Nat) : Int) = 2:=rfl
theorem nat3 : ((3 : Nat) : Int) = 3:=rfl
theorem nat4 : ((4 : Nat) : Int) = 4:=rfl
theorem nat5 : ((5 : Nat) : Int) = 5:=rfl
theorem nat6 : ((6 : Nat) : Int) = 6:=rfl
theorem zoU (p : Prop) : (True \/ p) = True:=by simp
theorem zpo (p : Prop) : (p \/ True) = True:=by simp
attribute [seval] nat1 nat2 nat3 nat4 nat5 nat6 zoU zpo Int.le_refl List.length_map
theorem zqb (H L : List AObj) : (H ++ L)[H.length + 1 + 1]? = L[2]?:=zco H L 2
theorem zqa (H L : List AObj) : (H ++ L)[H.length + 1 + 1 + 1]? = L[3]?:=zco H L 3
theorem zp8 (H L : List AObj) (x : AObj) : (H ++ L).set (H.length + 1 + 1) x = H ++ L.set 2 x:=zbR H L 2 x
theorem zp7 (H L : List AObj) (x : AObj) : (H ++ L).set (H.length + 1 + 1 + 1) x = H ++ L.set 3 x:=zbR H L 3 x
attribute [seval] zqb zqa zp8 zp7
attribute [seval] zp1 zp0 zrR zls zjF zlr zpn zqX Option.getD_none Option.getD_some Int.toNat_zero Nat.sub_zero Option.bind_some Option.map_some Nat.zero_le Option.isSome_none Option.isSome_some Bool.false_eq_true false_implies
attribute [seval] if_nat bop_en bop_nn zga op_or op_or' ite_ff ite_tt
abbrev uv (m : Nat) : AV:=.val (.int .u8 m)
theorem zfk {n : Nat} (h : n < 256) : IntKind.u8.wrap (n : Int) = n:=by
 have h1 : IntKind.u8.bits = 8:=rfl;have h2 : IntKind.u8.signed = false:=rfl;unfold IntKind.wrap;rw [h1,h2];simp;omega
theorem zk8 {n : Nat} (h : n < 256) : (BitVec.ofInt IntKind.u8.bits (n : Int)).toNat = n:=by
 have h1 : IntKind.u8.bits = 8:=rfl;rw [h1,BitVec.ofInt_natCast,BitVec.toNat_ofNat];omega
theorem zqC {m n : Nat} (hm : m < 256) : (IntKind.u8.wrap (BitVec.ofInt IntKind.u8.bits ((m : Int).fdiv (2 ^ (min n IntKind.u8.bits))) &&& BitVec.ofInt IntKind.u8.bits 1).toNat == 1) = m.testBit n:=by
 have h1 : IntKind.u8.bits = 8:=rfl;have e : (m : Int).fdiv (2 ^ (min n IntKind.u8.bits)) = ((m / 2 ^ (min n 8) : Nat) : Int):=by
  rw [h1,Int.fdiv_eq_ediv_of_nonneg _ (by exact_mod_cast Nat.zero_le _)]; norm_cast
 have hlt : m / 2 ^ (min n 8) < 256:=Nat.lt_of_le_of_lt (Nat.div_le_self _ _) hm;rw [e,BitVec.toNat_and,zk8 hlt,show (BitVec.ofInt IntKind.u8.bits 1).toNat = 1 from rfl,zfk (Nat.lt_of_le_of_lt Nat.and_le_left hlt)];have hb : m / 2 ^ (min n 8) &&& 1 = (m / 2 ^ (min n 8)) % 2:=Nat.and_one_is_mod _;rw [hb];have ht : m.testBit n = decide (m / 2 ^ n % 2 = 1):=Nat.testBit_eq_decide_div_mod_eq;by_cases hn : n <= 8
 ·rw [Nat.min_eq_left hn,ht];by_cases h : m / 2 ^ n % 2 = 1
  ·simp [h]
  ·have : m / 2 ^ n % 2 = 0:=(by omega);simp [this]
 ·rw [Nat.min_eq_right (by omega)];have h0 : m / 2 ^ 8 = 0:=Nat.div_eq_of_lt (by omega);have h2 : m.testBit n = false:=Nat.testBit_lt_two_pow (Nat.lt_of_lt_of_le hm (by calc 256 = 2 ^ 8:=rfl
   _ <= 2 ^ n:=Nat.pow_le_pow_right (by omega) (by omega)))
  rw [h0,h2]; rfl
theorem zoj {m n : Nat} (hm : m < 256) (hn : n < 8) : IntKind.u8.wrap (BitVec.ofInt IntKind.u8.bits (m : Int) ||| BitVec.ofInt IntKind.u8.bits (IntKind.u8.wrap (1 * 2 ^ (min n IntKind.u8.bits)))).toNat = ((m ||| 2 ^ n : Nat) : Int):=by
 have h1 : IntKind.u8.bits = 8:=rfl;have hp : 2 ^ n < 256:=by calc 2 ^ n < 2 ^ 8:=Nat.pow_lt_pow_right (by omega) hn
  _ = 256:=rfl
 have e : IntKind.u8.wrap (1 * 2 ^ (min n IntKind.u8.bits)) = ((2 ^ n : Nat) : Int):=by
  rw [h1,Nat.min_eq_left (by omega),Int.one_mul,<- zfk hp]; norm_cast
 rw [e,BitVec.toNat_or,zk8 hm,zk8 hp];exact zfk (Nat.or_lt_two_pow (n:=8) hm hp)
section
variable {P : Program} {α β : Type}
theorem zaH (a : α) : Sure P (pure a) a:=fun w es => by simp only [pure,Sem.runT]
theorem za0 {x : Sem α} {f : α -> Sem β} {a : α} {b : β} (h : Sure P x a) (k : Sure P (f a) b) : Sure P (x >>= f) b:=fun w es => by
 show (x.bind f).runT P w es = _;rw [Sem.runT_bind',h w es]; exact k w es
theorem zgc {k : Program -> Sem α} {a : α} (h : Sure P (k P) a) : Sure P (.program k) a:=fun w es => by simp only [Sem.runT]; exact h w es
theorem zgd {k : Program -> Sem α} {a : α} (h : Sure P (k P) a) : Sure P (program >>= k) a:=za0 (a:=P) (zgc (zaH P)) h
theorem zaR {t : TypeId} {d : TypeDesc} {k : TypeDesc -> Sem α} {a : α} (h : P.underlying t = some d) (hk : Sure P (k d) a) : Sure P (underlying t >>= k) a:=by
 unfold underlying;refine za0 (a:=d) (zgd ?_) hk;rw [h]; exact zaH d
def znV : TypeDesc -> Bool
 | .struct _ | .array _ _ => true
 | _ => false
theorem ziE {t : TypeId} {d : TypeDesc} {k : Bool -> Sem α} {a : α} (h : P.underlying t = some d) (hk : Sure P (k (znV d)) a) : Sure P (isAgg t >>= k) a:=by
 unfold isAgg;refine za0 (zaR (a:=znV d) h ?_) hk;cases d <;> exact zaH _
theorem zei {t : TypeId} {i : TypeInfo} {k : Nat -> Sem α} {a : α} (h : P.info? t = some i) (hk : Sure P (k i.size) a) : Sure P (sizeOf t >>= k) a:=by
 unfold sizeOf typeInfo;refine za0 (za0 (a:=i) (zgd ?_) (zaH _)) hk;rw [h]; exact zaH i
theorem zej {t : TypeId} {d : TypeDesc} {xs : Array Value} {off : Nat} {v : Value} {k : Value -> Sem α} {a : α} (h : P.underlying t = some d) (hd : znV d = false) (hv : xs[off]? = some v) (hk : Sure P (k v) a) : Sure P (part t xs off >>= k) a:=by
 unfold part;refine za0 (a:=v) (ziE h ?_) hk;rw [hd,hv]; exact zaH v
theorem zoY {t : TypeId} {k0 k : IntKind} {d : Nat} {x y : Int} (h : P.underlying t = some (.int k0)) : Sure P (Op.equalIn (d + 1) t (.int k x) (.int k y)) (x == y):=by
 rw [Op.equalIn];refine zaR h ?_;dsimp only;rw [if_pos rfl]; exact zaH _
theorem zjZ {t : TypeId} {d : Nat} {x y : Bool} (h : P.underlying t = some .bool) : Sure P (Op.equalIn (d + 1) t (.bool x) (.bool y)) (x == y):=by
 rw [Op.equalIn];exact zaR h (zaH _)
theorem zh1 {ι : Type} {body : ι -> Option Bool × Unit -> Sem (ForInStep (Option Bool × Unit))} {p : ι -> Bool} : ∀ (l : List ι),(∀ i ∈ l,Sure P (body i (none,())) (if p i then .yield (none,()) else .done (some false,()))) -> Sure P (forIn l (none,()) body) (if l.all p then (none,()) else (some false,()))
 | [],_ => by simpa using zaH (none,())
 | i :: l,h => by
  rw [List.forIn_cons];refine za0 (h i (List.mem_cons_self ..)) ?_;by_cases hp : p i = true
  ·simp only [hp,if_true,List.all_cons,Bool.true_and];exact zh1 l fun j hj => h j (List.mem_cons_of_mem _ hj)
  ·have hp' : p i = false:=(by simpa using hp);simp only [hp',Bool.false_eq_true,if_false,List.all_cons,Bool.false_and];exact zaH _
theorem zrV {α : Type} [BEq α] [LawfulBEq α] {xs ys : List α} {n : Nat} (hx : xs.length = n) (hy : ys.length = n) : ((List.range' 0 n).all fun i => xs[i]? == ys[i]?) = (xs == ys):=by
 rw [Bool.eq_iff_iff,List.all_eq_true,beq_iff_eq];constructor
 ·intro h;apply List.ext_getElem?;intro i;by_cases hi : i < n
  ·have:=h i (by simp [List.mem_range']; omega);simpa using this
  ·rw [List.getElem?_eq_none (by omega),List.getElem?_eq_none (by omega)]
 ·rintro rfl i _; simp
theorem zjY {t e : TypeId} {k0 k : IntKind} {n d : Nat} {i : TypeInfo} {xs ys : List Int} (ht : P.underlying t = some (.array n e)) (he : P.underlying e = some (.int k0)) (hi : P.info? e = some i) (hs : i.size = 1) (hx : xs.length = n) (hy : ys.length = n) :
  Sure P (Op.equalIn (d + 2) t (.agg (xs.map (Value.int k)).toArray) (.agg (ys.map (Value.int k)).toArray)) (xs == ys):=by
 rw [Op.equalIn];refine zaR ht ?_;dsimp only;refine zei hi ?_;rw [hs];simp only [Std.Legacy.Range.forIn_eq_forIn_range',Std.Legacy.Range.size];refine za0 (a:=if (xs == ys) then (none,()) else (some false,())) ?_ (by cases xs == ys <;> exact zaH _);have hn : (n - 0 + 1 - 1) / 1 = n:=by simp
 rw [hn,<- zrV hx hy];refine zh1 _ fun j hj => ?_;have hjn : j < n:=by simp [List.mem_range'] at hj; omega
 have gx : xs[j]? = some (xs[j]'(by omega)):=List.getElem?_eq_getElem _;have gy : ys[j]? = some (ys[j]'(by omega)):=List.getElem?_eq_getElem _;rw [Nat.mul_one];refine zej he rfl (v:=.int k (xs[j]'(by omega))) (by simp [gx]) ?_;refine zej he rfl (v:=.int k (ys[j]'(by omega))) (by simp [gy]) ?_;refine za0 (zoY he) ?_;rw [gx,gy];by_cases h : xs[j]'(by omega) = ys[j]'(by omega)
 ·rw [h]; simp; exact zaH _
 ·have h1 : (xs[j]'(by omega) == ys[j]'(by omega)) = false:=by simpa using h
  have h2 : (some (xs[j]'(by omega)) == some (ys[j]'(by omega))) = false:=by simpa using h
  rw [h1,h2]; exact zaH _
theorem Sure.uniq {x : Sem α} {a b : α} (h : Sure P x a) (k : Sure P x b) : a = b:=by
 have e:=(h default #[]).symm.trans (k default #[]);have e1:=congrArg Prod.fst e;exact (Result.ok.inj e1).1
theorem zek {t e : TypeId} {k0 : IntKind} {n : Nat} {i : TypeInfo} {xs ys : List Int} (ht : P.underlying t = some (.array n e)) (he : P.underlying e = some (.int k0)) (hi : P.info? e = some i) (hs : i.size = 1) (hx : xs.length = n) (hy : ys.length = n) :
  Sure P (Op.equal t (.agg (xs.map (Value.int .i64)).toArray) (.agg (ys.map (Value.int .i64)).toArray)) (xs == ys):=zjY (d:=9998) ht he hi hs hx hy
theorem zd8 (xs : List Int) : AV.raw (.agg (xs.map iv)) = some (.agg (xs.map (Value.int .i64)).toArray):=by
 have : ∀ l : List Int,(l.map iv).mapM AV.raw1 = some (l.map (Value.int .i64)):=by
  intro l;induction l with
  | nil => rfl
  | cons x l ih => simp only [List.map_cons,List.mapM_cons,ih]; rfl
 simp only [AV.raw,this]; rfl
theorem zlq {t e : TypeId} {k0 : IntKind} {n : Nat} {xs ys : List Int} (ht : P.underlying t = some (.array n e)) (he : P.underlying e = some (.int k0)) (hs : (P.info? e).map (·.size) = some 1) (hg : P.eqGuardType P.depth t = false) (hx : xs.length = n) (hy : ys.length = n) (k : AV -> Prop) :
  ABin P .eql t (.agg (xs.map iv)) (.agg (ys.map iv)) k = k (bv (xs == ys)):=by
 obtain ⟨i,hi,hs⟩:=Option.map_eq_some_iff.1 hs;have hsure:=zek ht he hi hs hx hy;have e : ABin P .eql t (.agg (xs.map iv)) (.agg (ys.map iv)) k = ((BinOp.eql = .eql \/ BinOp.eql = .neq) /\ one1 (AV.raw (.agg (xs.map iv))) fun X => one1 (AV.raw (.agg (ys.map iv))) fun Y => zni X Y = true /\ P.eqGuardType P.depth t = false /\ ∃ e,Sure P (Op.equal t X Y) e /\ k (.val (.bool (if BinOp.eql == .neq then !e else e)))):=rfl;rw [e,zd8,zd8,zet,zet];apply propext;constructor
 ·rintro ⟨_,_,_,b,h1,h2⟩
  rw [hsure.uniq h1]; exact h2
 ·intro h;exact ⟨.inl rfl,rfl,hg,_,hsure,h⟩
theorem zi2 {xs : List Int} {i : Nat} {y : Int} (h : i < xs.length) : putAt (xs.map iv) i [iv y] = (xs.set i y).map iv:=by
 unfold putAt;rw [List.map_set,List.set_eq_take_append_cons_drop,if_pos (by simpa using h)];simp
theorem zfv {xs : List Int} {i : Nat} {y : Int} (h : i < xs.length) : (xs.map iv).take i ++ [iv y] ++ (xs.map iv).drop (i + 1) = (xs.set i y).map iv:=zi2 h
theorem zbf {xs : List Int} {i : Nat} {x : Int} (h : xs[i]? = some x) : (xs.map iv).drop i = iv x :: (xs.drop (i + 1)).map iv:=by
 have h1:=get_lt h;rw [<- List.map_drop,List.drop_eq_getElem_cons h1,List.map_cons];rw [List.getElem?_eq_getElem h1] at h; cases h; rfl
end
theorem zkD (xs : List Int) : (∀ a ∈ xs.map iv,a.leaf = true) = True:=by
 simp only [List.mem_map,eq_iff_iff,iff_true]
 rintro a ⟨x,_,rfl⟩; rfl
theorem zdM (n : Nat) (xs : List Int) : Lt n (.agg (xs.map iv)) = True:=by
 simp only [eq_iff_iff,iff_true];refine .agg fun a ha => ?_;obtain ⟨x,_,rfl⟩:=List.mem_map.1 ha;exact .val _
attribute [seval] List.append_nil zkD
def DefC (lv : Bool) (P : Program) (g : FuncId) (args : Array Value) (md : FrameMode) (V : View) (R : FrameMode -> View -> Prop) : Prop :=
 ∀ (main : Bool) (J : View -> Goroutine -> Prop),Closed lv P main J -> ∀ (fr : Frame) (cs : List Frame),fr.mode = md -> (∀ md' V',R md' V' -> J V' (G { fr with mode:=md' } cs)) -> J V (G (Frame.enter P g args .deferred) (fr :: cs))
def zmo : FrameMode -> FrameMode
 | .panicking ({ recovered:=true,.. } :: older) => match older.dropWhile (!·.goexit) with
  | [] => .returning
  | rest => .panicking rest
 | m => m
theorem zeB {lv : Bool} {P : Program} {main : Bool} {J : View -> Goroutine -> Prop} (C : Closed lv P main J) {fr c : Frame} {cs : List Frame} {f : FuncId} {v : Value} {V : View} (h : zm4 P fr f .deferred (.ret v) V) (hJ : J V (G { c with mode:=zmo c.mode } cs)) : J V (G fr (c :: cs)):=by
 obtain ⟨rfl,hd,hk,fn,hf,hm,hr⟩:=h;refine C.step _ _ rfl fun w hw => ?_;obtain ⟨es,w',V',h1,h2,h3⟩:=hr.runs hw;rcases h3 with ⟨x,h3,rfl,rfl⟩ | ⟨_,_,h⟩
 ·refine ⟨G { c with mode:=zmo c.mode } cs,w',seen P fr.fn es,V',?_,h1.seen P fr.fn,hJ⟩;simp only [G,stepG,unwind,doReturn,hm,hd,hk,hf,Sem.runT_eq,h3,h2,GStep.after];cases hmo : c.mode with
  | run => simp [zmo,<- hmo]
  | returning => simp [zmo,<- hmo]
  | panicking ch =>
   cases ch with
   | nil => simp [zmo,<- hmo]
   | cons p older =>
    obtain ⟨v,rec,ge⟩:=p;cases rec with
    | false => simp [zmo,<- hmo]
    | true =>
     simp only [zmo];cases hdw : older.dropWhile (!·.goexit) with
     | nil => simp
     | cons x y => simp
 ·exact h.elim
theorem zd1 {ρ : Operand -> Value} {o : Oper} {cl : Call} (hop : o.op = .call cl) (hcl : cl.callee = .builtin .recover) (P : Program) (w : World) (es : Array Event) : (execOp ρ o).runT P w es = (.ok .recover w,es):=by
 unfold execOp; rw [hop];dsimp only;unfold resolve;rw [hcl];rfl
theorem zka {P : Program} {main : Bool} {b c : Frame} {a : Act} {k : List Item} {cs : List Frame} {w : World} {ops : Array Oper} {i : Nat} {rest : List Nat} {o : Oper} {cl : Call} {v : Value} (ho : ops[i]? = some o) (hg : o.guard = none) (hop : o.op = .call cl) (hcl : cl.callee = .builtin .recover) (hb : b.kind = .deferred) (hr : b.roundOf = none)
  (hm : c.mode = .panicking [{ v,recovered:=false }]) : stepG P main (G (on b a (.inRegion ops (i :: rest) :: k)) (c :: cs)) w = .go (G (on b (a.put o.dst v) (.inRegion ops rest :: k)) ({ c with mode:=.panicking [{ v,recovered:=true }] } :: cs)) w #[]:=by
 have hfin : (on b a (.inRegion ops (i :: rest) :: k)).finish v = on b (a.put o.dst v) (.inRegion ops rest :: k):=by
  rw [zb6,ho]; rfl
 rw [s_op ho (by unfold Region.wanted; rw [hg]) (.inl hr),<- hfin];have hke : ((on b a (.inRegion ops (i :: rest) :: k)).kind == CallKind.early) = false:=by simp [on,hb]
 simp only [stepG.apply,if_true,zd1 hop hcl,hke,GStep.after,Bool.false_eq_true,if_false];have h1 : (on b a (.inRegion ops (i :: rest) :: k)).roundOf = none:=hr;have h2 : (on b a (.inRegion ops (i :: rest) :: k)).kind = .deferred:=hb;rw [h1];simp only [tryRecover,h2,hm];simp [seen,G]
theorem ziP {P : Program} {main : Bool} {b c : Frame} {a : Act} {k : List Item} {cs : List Frame} {w : World} {ops : Array Oper} {i : Nat} {rest : List Nat} {o : Oper} {cl : Call} (ho : ops[i]? = some o) (hg : o.guard = none) (hop : o.op = .call cl) (hcl : cl.callee = .builtin .recover) (hb : b.kind = .deferred) (hr : b.roundOf = none)
  (hm : c.mode = .returning) : stepG P main (G (on b a (.inRegion ops (i :: rest) :: k)) (c :: cs)) w = .go (G (on b (a.put o.dst .nilIface) (.inRegion ops rest :: k)) (c :: cs)) w #[]:=by
 have hfin : (on b a (.inRegion ops (i :: rest) :: k)).finish .nilIface = on b (a.put o.dst .nilIface) (.inRegion ops rest :: k):=by
  rw [zb6,ho]; rfl
 rw [s_op ho (by unfold Region.wanted; rw [hg]) (.inl hr),<- hfin];have hke : ((on b a (.inRegion ops (i :: rest) :: k)).kind == CallKind.early) = false:=by simp [on,hb]
 simp only [stepG.apply,if_true,zd1 hop hcl,hke,GStep.after,Bool.false_eq_true,if_false];have h1 : (on b a (.inRegion ops (i :: rest) :: k)).roundOf = none:=hr;have h2 : (on b a (.inRegion ops (i :: rest) :: k)).kind = .deferred:=hb;rw [h1];simp only [tryRecover,h2,hm];simp [seen,G]
def znv (P : Program) (fn : Func) (K : View -> Prop) : Ex -> Act -> View -> Prop
 | .normal,a,V | .ret,a,V => a.defers = [] /\ ∃ v,SemOk P V (results fn a.tmps) (fun x V' => x = v /\ V' = V) (fun _ _ => False) /\ K V
 | _,_,_ => False
theorem zgR {lv : Bool} {P : Program} {g : FuncId} {fn : Func} {id : Nat} {ops : Array Oper} {c2 : Code} {o : Oper} {cl : Call} {args : Array Value} {md : FrameMode} {v0 : Value} {V : View} {R : FrameMode -> View -> Prop}
  (hf : P.funcs[g]? = some fn) (hb : fn.body = some (.seq (.region id ops false) c2)) (ho : ops[0]? = some o) (hg : o.guard = none) (hop : o.op = .call cl) (hcl : cl.callee = .builtin .recover)
  (hmd : md = .panicking [{ v:=v0,recovered:=false }] \/ (md = .returning /\ v0 = .nilIface))
  (h : zie lv P none ops (Ex.then (WP lv P none c2 (znv P fn (R .returning))) (znv P fn (R .returning))) (List.range' 1 (ops.size - 1)) (({ tmps:=args ++ Array.replicate (fn.ntmps - args.size) undef,defers:=[] } : Act).put o.dst v0) V) : DefC lv P g args md V R:=by
 intro main J C fr cs hfm hR;let b : Frame:={ (default : Frame) with fn:=g,kind:=.deferred,roundOf:=none };have henter : Frame.enter P g args .deferred = on b { tmps:=args ++ Array.replicate (fn.ntmps - args.size) undef,defers:=[] } [.code (.seq (.region id ops false) c2)]:=by
  simp [Frame.enter,on,hf,hb,b]
 rw [henter];have hsz : 0 < ops.size:=(Array.getElem?_eq_some_iff.1 ho).1;have hrange : List.range ops.size = 0 :: List.range' 1 (ops.size - 1):=by
  rw [List.range_eq_range'];obtain ⟨n,hn⟩ : ∃ n,ops.size = n + 1:=⟨ops.size - 1,by omega⟩;rw [hn,List.range'_succ]; rfl
 refine C.idle rfl (fun _ => s_seq) (C.idle rfl (fun _ => zh8) ?_);rw [hrange];have fin : ∀ (c : Frame),zmo c.mode = .returning -> { c with mode:=zmo c.mode } = { fr with mode:=.returning } -> ∀ e a' V',znv P fn (R .returning) e a' V' -> Lands J b [] (c :: cs) e a' V':=by
  intro c hc hcf e a' V' q;cases e with
  | normal =>
   obtain ⟨hd,v,hs,hr⟩:=q;refine C.idle rfl (fun w => zkd rfl) (zeB (f:=g) (v:=v) C ⟨rfl,hd,rfl,fn,hf,rfl,hs⟩ ?_);rw [hcf]; exact hR _ _ hr
  | ret =>
   obtain ⟨hd,v,hs,hr⟩:=q;intro k;refine C.idle rfl (fun w => zj9 rfl) (zeB (f:=g) (v:=v) C ⟨rfl,hd,rfl,fn,hf,rfl,hs⟩ ?_);rw [hcf]; exact hR _ _ hr
  | _ => exact q.elim
 have run : ∀ (c : Frame),zmo c.mode = .returning -> { c with mode:=zmo c.mode } = { fr with mode:=.returning } -> J V (G (on b (({ tmps:=args ++ Array.replicate (fn.ntmps - args.size) undef,defers:=[] } : Act).put o.dst v0) (.inRegion ops (List.range' 1 (ops.size - 1)) :: [.code c2])) (c :: cs)):=by
  intro c hc hcf;refine zjM _ _ V h main J C b [.code c2] (c :: cs) (by show CallKind.deferred ≠ CallKind.early; decide) rfl fun e a' V' q => ?_;cases e with
  | normal => exact q main J C b [] (c :: cs) (by show CallKind.deferred ≠ CallKind.early; decide) rfl fun e a'' V'' q' => fin c hc hcf e a'' V'' q'
  | ret => exact fin c hc hcf .ret a' V' q
  | panic ch => exact q.elim
  | exit i => exact q.elim
  | goto i => exact q.elim
 rcases hmd with hmd | ⟨hmd,hv⟩
 ·refine C.idle rfl (fun w => zka ho hg hop hcl rfl rfl (by rw [hfm,hmd])) ?_;exact run { fr with mode:=.panicking [{ v:=v0,recovered:=true }] } rfl rfl
 ·refine C.idle rfl (fun w => ziP ho hg hop hcl rfl rfl (by rw [hfm,hmd])) ?_;subst hv;have hfr : fr.mode = .returning:=by rw [hfm,hmd]
  exact run fr (by rw [hfr]; rfl) (by rw [hfr]; rfl)
def Unw (lv : Bool) (P : Program) (fn : Func) (R : Out -> View -> Prop) : List Deferred -> FrameMode -> Array Value -> View -> Prop
 | [],.returning,tmps,V => ∃ v,SemOk P V (results fn tmps) (fun x V' => x = v /\ V' = V) (fun _ _ => False) /\ R (.ret v) V
 | [],.panicking ch,_,V => R (.panic ch) V
 | d :: ds,md,tmps,V => (md matches .run) = false /\ (∃ f caps,d.target = .fn f caps) /\ SemOk P V (invoke d.target d.args) (fun nx V' => ∃ g args,nx = .enter g args /\ DefC lv P g args md V' fun md' V'' => Unw lv P fn R ds md' tmps V'') (fun _ _ => False)
 | [],.run,_,_ => False
theorem zdb {lv : Bool} {P : Program} {f : FuncId} {fn : Func} {kd : CallKind} {R : Out -> View -> Prop} (hf : P.funcs[f]? = some fn) {main : Bool} {J : View -> Goroutine -> Prop} (C : Closed lv P main J) {cs : List Frame} (hR : ∀ o V' fr',R o V' -> zm4 P fr' f kd o V' -> J V' (G fr' cs)) : ∀ (ds : List Deferred) (md : FrameMode) (V : View) (fr : Frame),fr.fn = f -> fr.kind = kd -> fr.mode = md -> fr.defers = ds -> Unw lv P fn R ds md fr.tmps V -> J V (G fr cs)
 | [],.returning,V,fr,h1,h2,h3,h4,h => by
  obtain ⟨v,hs,hr⟩:=h;exact hR _ _ _ hr ⟨h1,h4,h2,fn,hf,h3,hs⟩
 | [],.panicking ch,V,fr,h1,h2,h3,h4,h => hR _ _ _ h ⟨h1,h4,h2,fn,hf,h3⟩
 | [],.run,_,_,_,_,_,_,h => h.elim
 | d :: ds,md,V,fr,h1,h2,h3,h4,h => by
  obtain ⟨hm,⟨tf,caps,ht⟩,hs⟩:=h;refine C.step _ _ rfl fun w hw => ?_;obtain ⟨es,w',V',k1,k2,k3⟩:=hs.runs hw;rcases k3 with ⟨nx,k3,g,args,rfl,hd⟩ | ⟨_,_,h⟩
  ·refine ⟨G (Frame.enter P g args .deferred) ({ fr with defers:=ds } :: cs),w',seen P fr.fn es,V',?_,k1.seen P fr.fn,?_⟩
   ·have e : ∀ main,stepG P main (G fr cs) w = unwind P main fr cs none w:=fun main => by
     cases md with
     | run => cases hm
     | returning => simp [G,stepG,h3]
     | panicking ch => simp [G,stepG,h3]
    rw [e];obtain ⟨tgt,ar⟩:=d;simp only at ht k3 k2;subst ht;simp only [unwind,h4];simp [callDeferred,Sem.runT_eq,k3,k2,GStep.after,G]
   ·refine hd main J C { fr with defers:=ds } cs h3 fun md' V'' hU => ?_;exact zdb hf C hR ds md' V'' { fr with defers:=ds,mode:=md' } h1 h2 rfl rfl hU
  ·exact h.elim
def EndsD (lv : Bool) (P : Program) (fn : Func) (R : Out -> View -> Prop) : Ex -> Act -> View -> Prop
 | .normal,a,V | .ret,a,V => Unw lv P fn R a.defers .returning a.tmps V
 | .panic ch,a,V => Unw lv P fn R a.defers (.panicking ch) a.tmps V
 | _,_,_ => False
theorem zhO {lv : Bool} {P : Program} {f : FuncId} {fn : Func} {c : Code} {args : Array Value} {kd : CallKind} {V : View} {R : Out -> View -> Prop} (hk : kd ≠ .early) (hf : P.funcs[f]? = some fn) (hb : fn.body = some c)
  (h : WP lv P none c (EndsD lv P fn R) { tmps:=args ++ Array.replicate (fn.ntmps - args.size) undef,defers:=[] } V) : Body lv P f args kd V R:=by
 intro main J C cs hR;let b : Frame:={ (default : Frame) with fn:=f,kind:=kd,roundOf:=none };have henter : Frame.enter P f args kd = on b { tmps:=args ++ Array.replicate (fn.ntmps - args.size) undef,defers:=[] } [.code c]:=by
  simp [Frame.enter,on,hf,hb,b]
 rw [henter];refine h main J C b [] cs hk rfl fun e a' V' q => ?_;cases e with
 | normal => exact C.idle rfl (fun w => zkd rfl) (zdb hf C hR _ _ _ _ rfl rfl rfl rfl q)
 | ret => intro k; exact C.idle rfl (fun w => zj9 rfl) (zdb hf C hR _ _ _ _ rfl rfl rfl rfl q)
 | panic ch => intro todo; exact zdb hf C hR _ _ _ _ rfl rfl rfl rfl q
 | exit id => exact q.elim
 | goto l => exact q.elim
section
variable {lv : Bool} {P : Program}
theorem zc4 {g : FuncId} {args : Array Value} {V : View} {K : Next -> View -> Prop} {Kp : Value -> View -> Prop} (hg : zkT P g = true) (h : K (.enter g args) V) : SemOk P V (callFunc g args) K Kp:=by
 unfold callFunc;refine zac (zaG (zan ?_));unfold zkT at hg;split at hg
 ·rename_i fn hfn;simp only [Bool.and_eq_true,Bool.not_eq_true'] at hg;rw [hfn];dsimp only;have hbn : fn.body.isNone = false:=by
   have h1:=hg.1;cases hb : fn.body with
   | none => rw [hb] at h1; cases h1
   | some _ => rfl
  rw [if_neg (by rw [hg.2]; simp),if_neg (by rw [hbn]; simp)];exact zbq h
 ·cases hg
theorem zeU {E : Env} {V : View} {H : List AObj} {args : List AV} {vs : Array Value} {nt : Nat} (hc : Conc E V H) (hd : Denl E args vs) (hargs : args.length <= nt) : At E V ⟨zf5 0 args,H⟩ { tmps:=vs ++ Array.replicate (nt - vs.size) undef,defers:=[] } nt:=by
 have hsz : (vs ++ Array.replicate (nt - vs.size) undef).size = nt:=by simp [hd.1]; omega
 refine ⟨hc,fun q a e => ?_,hsz⟩;obtain ⟨_,e⟩:=zdN args 0 q a e;simp only [Nat.sub_zero] at e;have hq : q < args.length:=(List.getElem?_eq_some_iff.1 e).1;have hq' : q < vs.size:=by rw [hd.1]; exact hq
 refine ⟨by rw [hsz]; omega,?_⟩;have:=hd.2 q a e;rw [Array.getD_eq_getD_getElem?,Array.getElem?_append_left hq'];rwa [Array.getD_eq_getD_getElem?] at this
def DDen (E : Env) (c : AV × List AV) (d : Deferred) : Prop:=∃ f first caps fa ca vs,c.1 = .fn (.func f) first caps /\ d = ⟨.fn (.func f) ca,fa ++ vs⟩ /\ Denl E first fa /\ Denl E caps ca /\ Denl E c.2 vs
theorem DDen.mono {E E' : Env} (h : E.Le E') {c : AV × List AV} {d : Deferred} (k : DDen E c d) : DDen E' c d:=by
 obtain ⟨f,first,caps,fa,ca,vs,h1,h2,h3,h4,h5⟩:=k;exact ⟨f,first,caps,fa,ca,vs,h1,h2,h3.mono h,h4.mono h,h5.mono h⟩
def MDen (E : Env) : Option AV -> FrameMode -> Prop
 | none,md => md = .returning
 | some pv,md => ∃ v,md = .panicking [{ v,recovered:=false }] /\ Den E pv v
def DefA (lv : Bool) (P : Program) (c : AV × List AV) (H : List AObj) (m : Option AV) (kr kp : List AObj -> Prop) : Prop :=
 ∀ (E : Env) (V : View) (d : Deferred) (md : FrameMode),Conc E V H -> DDen E c d -> MDen E m md -> SemOk P V (invoke d.target d.args) (fun nx V' => ∃ g args,nx = .enter g args /\ DefC lv P g args md V' fun md' V'' => ∃ E' H',E.Le E' /\ V''.role = V.role /\ V''.deaf = V.deaf /\ Conc E' V'' H' /\ ((md' = .returning /\ kr H') \/ (md' = md /\ m.isSome = true /\ kp H'))) (fun _ _ => False)
def DEnd (n0 : Nat) (kr : List AObj -> Prop) : AEx -> AS -> Prop
 | .normal,s | .ret,s => kr s.H \/ ∃ H' G,s.H = H' ++ G /\ n0 <= H'.length /\ HOk H' /\ kr H'
 | _,_ => False
theorem DEnd.out {n0 : Nat} {E0 E : Env} {V' : View} {H : List AObj} {kr : List AObj -> Prop} (h : kr H \/ ∃ H' G,H = H' ++ G /\ n0 <= H'.length /\ HOk H' /\ kr H') (hc : Conc E V' H) (hle : E0.Le E) (hn : E0.n = n0) : ∃ E' H',E0.Le E' /\ Conc E' V' H' /\ kr H':=by
 rcases h with h | ⟨H',G,rfl,h1,h2,h3⟩
 ·exact ⟨E,H,hle,hc,h⟩
 ·exact ⟨{ E with n:=H'.length },H',zfp h1 (by rw [hc.n]; simp) hle hn,hc.trim h2,h3⟩
theorem zd0 {fn : Func} {tmps : Array Value} {V : View} (hr : fn.results = #[]) : SemOk P V (results fn tmps) (fun x V' => x = .tuple #[] /\ V' = V) (fun _ _ => False):=by
 unfold results;rw [show fn.results = ([] : List ResultVar).toArray from hr,List.mapM_toArray];refine zac ?_;refine zac ?_;rw [List.mapM_nil];refine zbq (zbq (zbq ⟨?_,rfl⟩));simp
theorem zgS {g : FuncId} {fn : Func} {id nt : Nat} {ops : Array Oper} {c2 : Code} {o : Oper} {cl : Call} {first caps zas : List AV} {H : List AObj} {m : Option AV} {kr kp : List AObj -> Prop}
  (hg : zkT P g = true) (hf : P.funcs[g]? = some fn) (hb : fn.body = some (.seq (.region id ops false) c2)) (hr : fn.results = #[]) (hn : fn.ntmps = nt) (ho : ops[0]? = some o) (hgd : o.guard = none) (hop : o.op = .call cl) (hcl : cl.callee = .builtin .recover) (hdst : dstsOk nt ops = true) (hargs : (first ++ zas ++ caps).length <= nt)
  (h : AOps lv P ops (ops.toList.drop 1) ((⟨zf5 0 (first ++ zas ++ caps),H⟩ : AS).put o.dst (m.getD (.val .nilIface))) (fun s' => AWP lv P none nt c2 s' (DEnd H.length kr)) (fun _ _ => False)) : DefA lv P (.fn (.func g) first caps,zas) H m kr kp:=by
 intro E V d md hc hd hmd;obtain ⟨f,first',caps',fa,ca,vs,h1,rfl,h3,h4,h5⟩:=hd;cases h1;unfold invoke;dsimp only;refine zc4 hg ⟨g,_,rfl,?_⟩;obtain ⟨v0,hv,hmd'⟩ : ∃ v0,Den E (m.getD (.val .nilIface)) v0 /\ (md = .panicking [{ v:=v0,recovered:=false }] \/ (md = .returning /\ v0 = .nilIface)):=by
  cases m with
  | none => exact ⟨.nilIface,.val _,.inr ⟨hmd,rfl⟩⟩
  | some pv => obtain ⟨v,e,hv⟩:=hmd; exact ⟨v,hv,.inl e⟩
 refine zgR hf hb ho hgd hop hcl hmd' ?_;have hat:=zeU (nt:=nt) hc (zcN (zcN h3 h5) h4) hargs;rw [hn];have hsz : 0 < ops.size:=(Array.getElem?_eq_some_iff.1 ho).1;have hmem : o ∈ ops:=Array.mem_of_getElem? ho;have hat' : At E V ((⟨zf5 0 (first ++ zas ++ caps),H⟩ : AS).put o.dst (m.getD (.val .nilIface))) (({ tmps:=fa ++ vs ++ ca ++ Array.replicate (nt - (fa ++ vs ++ ca).size) undef,defers:=[] } : Act).put o.dst v0) nt :=
  ⟨by rw [zbx]; exact hat.conc,hat.tok.putd (fun d e => by rw [hat.size]; exact (dstsOk.out hdst hmem).1 d e) hv,(zaA _ _ _).trans hat.size⟩
 refine zb3 (r:=none) (Φ:=fun e s' => match e with
  | .normal => AWP lv P none nt c2 s' (DEnd H.length kr)
  | _ => False) (fun o ho d e => (dstsOk.out hdst ho).1 d e) (fun _ _ => .inl rfl) (ops.size - 1) 1 _ (by omega) h E V _ _ hat' fun ae e E' V' a' s' hk hatE he hΦ => ?_
 cases ae <;> cases e <;> first
  | exact he.elim
  | exact hΦ.elim
  | skip
 refine hΦ E' V' a' _ hatE fun ae e E'' V'' a'' s'' hk' hat'' he' hΦ' => ?_;have fin : (kr s''.H \/ ∃ H' G,s''.H = H' ++ G /\ H.length <= H'.length /\ HOk H' /\ kr H') -> znv P fn (fun V'' => ∃ E' H',E.Le E' /\ V''.role = V.role /\ V''.deaf = V.deaf /\ Conc E' V'' H' /\ ((FrameMode.returning = .returning /\ kr H') \/ (FrameMode.returning = md /\ m.isSome = true /\ kp H'))) .ret a'' V'':=fun hΦ' => by
  obtain ⟨E3,H',q1,q2,q3⟩:=DEnd.out (E0:=E) hΦ' hat''.conc (hk.le.trans hk'.le) hc.n;have hdf : a''.defers = []:=by rw [hk'.defers,hk.defers]; exact zaw _ _ _
  exact ⟨hdf,_,zd0 hr,E3,H',q1,hk'.role.trans hk.role,hk'.deaf.trans hk.deaf,q2,.inl ⟨rfl,q3⟩⟩
 cases ae <;> cases e <;> first
  | exact he'.elim
  | exact hΦ'.elim
  | exact fin hΦ'
theorem zdv {g : FuncId} {fn : Func} {id nt : Nat} {ops : Array Oper} {c2 : Code} {o : Oper} {l : List Oper} {d0 : Option Nat} {cl : Call} {first caps zas : List AV} {H : List AObj} {m : Option AV} {kr kp : List AObj -> Prop}
  (hg : zkT P g = true) (hf : P.funcs[g]? = some fn) (hb : fn.body = some (.seq (.region id ops false) c2)) (hr : fn.results = #[]) (hn : fn.ntmps = nt) (hl : ops.toList = o :: l) (hgd : o.guard = none) (hd0 : o.dst = d0) (hop : o.op = .call cl) (hcl : cl.callee = .builtin .recover) (hdst : dstsOk nt ops = true) (hargs : (first ++ zas ++ caps).length <= nt)
  (h : AOps lv P ops l ((⟨zf5 0 (first ++ zas ++ caps),H⟩ : AS).put d0 (m.getD (.val .nilIface))) (fun s' => AWP lv P none nt c2 s' (DEnd H.length kr)) (fun _ _ => False)) : DefA lv P (.fn (.func g) first caps,zas) H m kr kp:=by
 subst hd0;refine zgS hg hf hb hr hn (o:=o) (cl:=cl) ?_ hgd hop hcl hdst hargs (by rw [hl]; simpa using h);have : ops.toList[0]? = some o:=by rw [hl]; rfl
 simpa using this
end
section
variable {lv : Bool} {P : Program} {r : Option Nat} {s : AS}
theorem zcJ {nt : Nat} {all : Array Oper} {Φ : AEx -> AS -> Prop} (hdst : ∀ o ∈ all,∀ d,o.dst = some d -> d < nt) (hdef : r = none) : ∀ (n k : Nat) (s : AS),k + n <= all.size -> AOps lv P all ((all.toList.drop k).take n) s (Φ .normal) (fun pv s => Φ (.panic pv) s) ->
  ∀ (E : Env) (V : View) (a : Act) (Q : Ex -> Act -> View -> Prop),At E V s a nt -> (∀ ae e E' V' a' s',Kept E E' V V' a a' -> At E' V' s' a' nt -> ExDen E' ae e -> Φ ae s' -> Q e a' V') -> zie lv P r all Q (List.range' k n) a V
 | 0,k,s,hk,h,E,V,a,Q,hat,hQ => by
  rw [List.take_zero] at h;exact hQ .normal .normal E V a s (Kept.refl E V a) hat trivial h
 | n + 1,k,s,hk,h,E,V,a,Q,hat,hQ => by
  have hlt : k < all.size:=by omega
  have hd : all.toList.drop k = all[k] :: all.toList.drop (k + 1):=by
   rw [List.drop_eq_getElem_cons (by simpa using hlt)]; simp
  rw [hd,List.take_succ_cons] at h;have hmem : all[k] ∈ all:=Array.getElem_mem hlt;have ho : all[k]? = some all[k]:=Array.getElem?_eq_getElem hlt;simp only [List.range'_succ,zie,ho];have go : ∀ s : AS,At E V s a nt -> AStep lv P s all[k] (fun s' => AOps lv P all ((all.toList.drop (k + 1)).take n) s' (Φ .normal) (fun pv s => Φ (.panic pv) s)) (fun pv s => Φ (.panic pv) s) -> OpWP lv P r all[k] a V (zie lv P r all Q (List.range' (k + 1) n)) Q:=fun s hat h => by
   refine h.sound (lv:=lv) (r:=r) E V a _ Q hat.conc hat.tok (fun d e => by rw [hat.size]; exact hdst _ hmem d e) (.inl hdef) (fun E' V' a' s' hk' hc' ht' hn => ?_) (fun E' V' s' pv v hk' hc' ht' hden hb => ?_)
   ·exact zcJ hdst hdef n (k + 1) s' (by omega) hn E' V' a' Q ⟨hc',ht',hk'.size.trans hat.size⟩ (fun ae e E'' V'' a'' s'' hk'' hat'' he hΦ => hQ ae e E'' V'' a'' s'' (hk'.trans hk'') hat'' he hΦ)
   ·exact hQ (.panic pv) (.panic _) E' V' a s' hk' ⟨hc',ht',hat.size⟩ ⟨v,rfl,hden⟩ hb
  simp only [AOps] at h;split at h
  ·rename_i hg;have hw : Region.wanted all[k] (yielded all a.tmps) = true:=(by unfold Region.wanted; rw [hg]);rw [if_pos hw];exact .inl (go s hat h)
  ·rename_i j want hg;obtain ⟨d,hdj,h⟩:=h.out;obtain ⟨av,h1,h⟩:=h.out;obtain ⟨b,rfl,h2,h3⟩:=zbJ h;have hv:=(hat.tok d _ h1).2;have hy : yielded all a.tmps j = some b:=by
    obtain ⟨oj,hoj,hdd⟩:=Option.bind_eq_some_iff.1 hdj;generalize hx : a.tmps.getD d undef = x at hv;cases hv;have hlt' : d < a.tmps.size:=(hat.tok d _ h1).1;rw [Array.getD_eq_getD_getElem?,Array.getElem?_eq_getElem hlt'] at hx;simp only [Option.getD_some] at hx;simp [yielded,hoj,hdd,Array.getElem?_eq_getElem hlt',hx]
   have know : ∀ b',b = b' -> At E V ⟨(d,.val (.bool b')) :: s.T,s.H⟩ a nt:=fun b' hb' => by
    subst hb';refine ⟨hat.conc,fun t x e => ?_,hat.size⟩;simp only [look] at e;split at e
    ·rename_i e'; subst e'; cases e; exact hat.tok d _ h1
    ·exact hat.tok t x e
   by_cases hb : b = want
   ·have hw : Region.wanted all[k] (yielded all a.tmps) = true:=(by unfold Region.wanted; rw [hg]; simp [hy,hb]);rw [if_pos hw];exact .inl (go _ (know want hb) (h2 hb))
   ·have hw : ¬ Region.wanted all[k] (yielded all a.tmps) = true:=(by unfold Region.wanted; rw [hg]; simp [hy,hb]);rw [if_neg hw];have hb' : b = !want:=(by cases b <;> cases want <;> simp_all);have h3':=h3 hb';have hat:=know _ hb';exact zcJ hdst hdef n (k + 1) ((⟨(d,.val (.bool !want)) :: s.T,s.H⟩ : AS).put all[k].dst (.val undef)) (by omega) h3' E V (a.put all[k].dst undef) Q
     ⟨by rw [zbx]; exact hat.conc,hat.tok.putd (fun d e => by rw [hat.size]; exact hdst _ hmem d e) (.val undef),by rw [zaA]; exact hat.size⟩
     (fun ae e E'' V'' a'' s'' hk'' hat'' he hΦ => hQ ae e E'' V'' a'' s'' ⟨hk''.le,hk''.size.trans (zaA _ _ _),hk''.defers.trans (zaw _ _ _),hk''.role,hk''.deaf⟩ hat'' he hΦ)
theorem Upon.mono {o : Oper} {a : Act} {N N' : Act -> View -> Prop} {Q Q' : Ex -> Act -> View -> Prop} (hN : ∀ a V,N a V -> N' a V) (hQ : ∀ ch a V,Q (.panic ch) a V -> Q' (.panic ch) a V) {nx : Next} {V : View} (h : Upon lv P r o a N Q nx V) : Upon lv P r o a N' Q' nx V:=by
 cases nx with
 | value v => exact hN _ _ h
 | skip => exact hN _ _ h
 | «defer» d => exact ⟨h.1,hN _ _ h.2⟩
 | enter f args =>
  refine Body.mono (R:=fun
   | .ret v,V' => N (a.put o.dst v) V'
   | .panic ch,V' => Q (.panic ch) a V') (R':=fun
   | .ret v,V' => N' (a.put o.dst v) V'
   | .panic ch,V' => Q' (.panic ch) a V') h fun ot V' h => ?_
  cases ot
  ·exact hN _ _ h
  ·exact hQ _ _ _ h
 | round l f tmps zas b =>
  refine Runs.mono (R:=fun
   | .ret v,V' => N (a.put o.dst v) V'
   | .panic ch,V' => Q (.panic ch) a V') (R':=fun
   | .ret v,V' => N' (a.put o.dst v) V'
   | .panic ch,V' => Q' (.panic ch) a V') h fun ot V' h => ?_
  cases ot
  ·exact hN _ _ h
  ·exact hQ _ _ _ h
 | _ => exact h.elim
theorem zbj {ops : Array Oper} {Q : Ex -> Act -> View -> Prop} {l2 : List Nat} : ∀ (l1 : List Nat) (a : Act) (V : View),zie lv P r ops (Ex.then (zie lv P r ops Q l2) Q) l1 a V -> zie lv P r ops Q (l1 ++ l2) a V
 | [],a,V,h => h
 | i :: l1,a,V,h => by
  simp only [List.cons_append,zie] at h ⊢;cases ho : ops[i]? with
  | none => rw [ho] at h; exact zbj l1 a V h
  | some o =>
   rw [ho] at h;dsimp only at h ⊢;split at h
   ·rename_i hw;rw [if_pos hw];rcases h with h | h
    rotate_left
    ·exact .inr (h.mono fun a V h => zbj l1 a V h)
    obtain ⟨h1,h2⟩:=h;exact .inl ⟨h1,h2.mono (fun nx V' h => Upon.mono (fun a V h => zbj l1 a V h) (fun _ _ _ h => h) h) fun _ _ h => h⟩
   ·rename_i hw;rw [if_neg hw]; exact zbj l1 _ V h
def DDens (E : Env) : List (AV × List AV) -> List Deferred -> Prop
 | [],[] => True
 | c :: ds,d :: l => DDen E c d /\ DDens E ds l
 | _,_ => False
theorem DDens.mono {E E' : Env} (h : E.Le E') : ∀ {ds : List (AV × List AV)} {l : List Deferred},DDens E ds l -> DDens E' ds l
 | [],[],_ => trivial
 | _ :: _,_ :: _,k => ⟨k.1.mono h,DDens.mono h k.2⟩
 | [],_ :: _,k => k.elim
 | _ :: _,[],k => k.elim
structure KeptD (E E' : Env) (V V' : View) (a a' : Act) : Prop where
 le : E.Le E'
 size : a'.tmps.size = a.tmps.size
 role : V'.role = V.role
 deaf : V'.deaf = V.deaf
theorem KeptD.trans {E E' E'' : Env} {V V' V'' : View} {a a' a'' : Act} (h : KeptD E E' V V' a a') (k : KeptD E' E'' V' V'' a' a'') : KeptD E E'' V V'' a a'':=⟨h.le.trans k.le,k.size.trans h.size,k.role.trans h.role,k.deaf.trans h.deaf⟩
theorem Kept.d {E E' : Env} {V V' : View} {a a' : Act} (h : Kept E E' V V' a a') : KeptD E E' V V' a a':=⟨h.le,h.size,h.role,h.deaf⟩
def AWPd (lv : Bool) (P : Program) (nt : Nat) (c : Code) (s : AS) (ds : List (AV × List AV)) (Φ : AEx -> AS -> List (AV × List AV) -> Prop) : Prop :=
 ∀ (E : Env) (V : View) (a : Act) (Q : Ex -> Act -> View -> Prop),At E V s a nt -> DDens E ds a.defers -> (∀ ae e E' V' a' s' ds',KeptD E E' V V' a a' -> At E' V' s' a' nt -> DDens E' ds' a'.defers -> ExDen E' ae e -> Φ ae s' ds' -> Q e a' V') -> WP lv P none c Q a V
theorem zlf {nt : Nat} {c : Code} {ds : List (AV × List AV)} {Φ : AEx -> AS -> List (AV × List AV) -> Prop} (h : AWP lv P none nt c s fun e s' => Φ e s' ds) : AWPd lv P nt c s ds Φ:=fun E V a Q hat hd hQ =>
 h E V a Q hat fun ae e E' V' a' s' hk hat' he hΦ => hQ ae e E' V' a' s' ds hk.d hat' (by rw [hk.defers]; exact hd.mono hk.le) he hΦ
def AEx.thenD (next : AS -> List (AV × List AV) -> Prop) (Φ : AEx -> AS -> List (AV × List AV) -> Prop) : AEx -> AS -> List (AV × List AV) -> Prop
 | .normal,s,ds => next s ds
 | e,s,ds => Φ e s ds
theorem zit {nt : Nat} {x y : Code} {ds : List (AV × List AV)} {Φ : AEx -> AS -> List (AV × List AV) -> Prop} (h : AWPd lv P nt x s ds (AEx.thenD (fun s' ds' => AWPd lv P nt y s' ds' Φ) Φ)) : AWPd lv P nt (.seq x y) s ds Φ:=by
 intro E V a Q hat hd hQ;refine zaV (h E V a _ hat hd fun ae e E' V' a' s' ds' hk hat' hd' he hΦ => ?_);cases ae <;> cases e <;> first
  | exact he.elim
  | exact hΦ E' V' a' Q hat' hd' fun ae e E'' V'' a'' s'' ds'' hk' hat'' hd'' he' hΦ' => hQ ae e E'' V'' a'' s'' ds'' (hk.trans hk') hat'' hd'' he' hΦ'
  | exact hQ _ _ E' V' a' s' ds' hk hat' hd' he hΦ
theorem zgY {nt : Nat} {x y : Code} {ds : List (AV × List AV)} {Φ : AEx -> AS -> List (AV × List AV) -> Prop} (h : AWP lv P none nt x s (AEx.then (fun s' => AWPd lv P nt y s' ds Φ) fun e s' => Φ e s' ds)) : AWPd lv P nt (.seq x y) s ds Φ:=by
 refine zit (zlf (h.mono fun e s' hs => ?_));cases e <;> exact hs
theorem zjA {nt id n : Nat} {ops : Array Oper} {o : Oper} {c : Call} {x : Operand} {ds : List (AV × List AV)} {Φ : AEx -> AS -> List (AV × List AV) -> Prop} (hn : ops.size = n + 1) (ho : ops[n]? = some o) (hg : o.guard = none) (hop : o.op = .defer c) (hcl : c.callee = .value x)
  (hdst : (ops.all fun o => o.dst.all (· < nt)) = true)
  (h : AOps lv P ops (ops.toList.take n) s (fun s' => one1 (s'.ev x) fun f => one1 (evs s' c.args.toList) fun zas => (∃ g first caps,f = .fn (.func g) first caps) /\ Φ .normal (s'.put o.dst (.val undef)) ((f,zas) :: ds)) (fun pv s' => Φ (.panic pv) s' ds)) : AWPd lv P nt (.region id ops false) s ds Φ:=by
 intro E V a Q hat hd hQ;refine zda ?_;have hr : List.range ops.size = List.range' 0 n ++ [n]:=by
  have:=List.range'_append_1 (s:=0) (m:=n) (n:=1);rw [List.range_eq_range',hn,<- this]; simp
 rw [hr];have hdst' : ∀ o ∈ ops,∀ d,o.dst = some d -> d < nt:=fun o ho d e => by
  have:=(Array.all_eq_true_iff_forall_mem.1 hdst) o ho;rw [e] at this; simpa using this
 refine zbj _ _ _ (zcJ (r:=none) (Φ:=fun e s' => match e with
  | .normal => one1 (s'.ev x) fun f => one1 (evs s' c.args.toList) fun zas => (∃ g first caps,f = .fn (.func g) first caps) /\ Φ .normal (s'.put o.dst (.val undef)) ((f,zas) :: ds)
  | e => Φ e s' ds) hdst' rfl n 0 s (by omega) (by simpa using h) E V a _ hat fun ae e E' V' a' s' hk hat' he hΦ => ?_)
 cases ae <;> cases e <;> first
  | exact he.elim
  | exact hQ _ _ E' V' a' s' ds hk.d hat' (by rw [hk.defers]; exact hd.mono hk.le) he hΦ
  | skip
 obtain ⟨f,h1,hA⟩:=one1.out hΦ;obtain ⟨zas,h2,⟨g,first,caps,rfl⟩,hB⟩:=hA.out;simp only [Ex.then,zie,ho];rw [if_pos (by unfold Region.wanted; rw [hg])];refine .inl ⟨.inl rfl,?_⟩;unfold execOp; rw [hop];dsimp only;unfold resolve;rw [hcl];dsimp only;have hdf:=Den.ev hat'.tok h1;generalize hev : a'.eval x = cv at hdf;cases hdf with
 | fn hs1 hs2 q1 q2 =>
  rename_i fa ca;unfold Deferred.ofValue;refine zac (zbq (zbq ?_));refine ⟨rfl,?_⟩;have hmem : o ∈ ops:=Array.mem_of_getElem? ho;have e : c.args.map a'.eval = (c.args.toList.map a'.eval).toArray:=by apply Array.ext'; simp
  refine hQ .normal .normal E' V' _ (s'.put o.dst (.val undef)) ((.fn (.func g) first caps,zas) :: ds) ⟨hk.le,(zaA _ _ _).trans hk.size,hk.role,hk.deaf⟩ ⟨by rw [zbx]; exact hat'.conc,hat'.tok.putd (a:={ a' with defers:=⟨.fn (.func g) ca,fa ++ c.args.map a'.eval⟩ :: a'.defers }) (fun d e => by rw [hat'.size]; exact hdst' o hmem d e) (.val _),(zaA _ _ _).trans hat'.size⟩ ?_ trivial hB;rw [zaw];refine ⟨⟨g,first,caps,fa,ca,_,rfl,rfl,⟨hs1,q1⟩,⟨hs2,q2⟩,?_⟩,by rw [hk.defers]; exact hd.mono hk.le⟩;rw [e]; exact zdO hat'.tok h2
theorem zeT {nt id n : Nat} {ops : Array Oper} {o : Oper} {c : Call} {x : Operand} {ds : List (AV × List AV)} {Φ : AEx -> AS -> List (AV × List AV) -> Prop} (hn : ops.size = n + 1) (ho : ops[n]? = some o) (hg : o.guard = none) (hd0 : o.dst = none) (hop : o.op = .defer c) (hcl : c.callee = .value x)
  (hdst : (ops.all fun o => o.dst.all (· < nt)) = true)
  (h : AOps lv P ops (ops.toList.take n) s (fun s' => one1 (s'.ev x) fun f => one1 (evs s' c.args.toList) fun zas => (∃ g first caps,f = .fn (.func g) first caps) /\ Φ .normal s' ((f,zas) :: ds)) (fun pv s' => Φ (.panic pv) s' ds)) : AWPd lv P nt (.region id ops false) s ds Φ:=by
 refine zjA hn ho hg hop hcl hdst ?_;rw [hd0]; exact h
end
section
variable {lv : Bool} {P : Program}
theorem zia {rs : List ResultVar} {fn : Func} {n nt : Nat} {k kp : AV -> List AObj -> Prop} {E E' : Env} {V V' : View} {s' : AS} {a' : Act} (hr : fn.results = rs.toArray) (hat : At E' V' s' a' nt) (hle : E.Le E') (hn : E.n = n) (hro : V'.role = V.role) (hde : V'.deaf = V.deaf) (hΦ : one1 (resAll P s' rs) fun l => zly n s'.H (resTup l) k) :
  ∃ v,SemOk P V' (results fn a'.tmps) (fun x V'' => x = v /\ V'' = V') (fun _ _ => False) /\ RetC E V k kp (.ret v) V':=by
 obtain ⟨l,h1,h2⟩:=hΦ.out;have hres : ∃ v,Den E' (resTup l) v /\ SemOk P V' (results fn a'.tmps) (fun x V'' => x = v /\ V'' = V') (fun _ _ => False):=by
  obtain ⟨vs,hl,hvs,hone⟩:=zcf hat rs l h1;refine ⟨if h : vs.length = 1 then vs[0] else .tuple vs.toArray,?_,?_⟩
  ·match l,vs,hl,hvs with
   | [x],[v],_,hvs => exact hvs 0 x rfl
   | [],[],_,hvs => exact .tup rfl (by simp)
   | x :: y :: l,v :: w :: vs,hl,hvs => exact .tup (by simpa using hl) (fun i z hz => by simpa [Array.getD_eq_getD_getElem?,List.getD_eq_getElem?_getD] using hvs i z hz)
  ·unfold results;rw [hr,List.mapM_toArray];refine zac ?_;refine zac (hone ?_);refine zbq (zbq ⟨?_,rfl⟩);simp
 obtain ⟨v,hden,hsem⟩:=hres;obtain ⟨b,E'',H',q1,q2,q3,q4⟩:=zbP h2 hat.conc hden hle hn;exact ⟨v,hsem,b,E'',H',q1,hro,hde,q2,q3,q4⟩
def zmi (lv : Bool) (P : Program) (rs : List ResultVar) (n : Nat) (k kp : AV -> List AObj -> Prop) : AEx -> AS -> List (AV × List AV) -> Prop
 | .normal,s,[] | .ret,s,[] => one1 (resAll P s rs) fun l => zly n s.H (resTup l) k
 | .panic pv,s,[] => zly n s.H pv kp
 | .normal,s,[c] | .ret,s,[c] => DefA lv P c s.H none (fun H' => one1 (resAll P ⟨s.T,H'⟩ rs) fun l => zly n H' (resTup l) k) (fun _ => False)
 | .panic pv,s,[c] => DefA lv P c s.H (some pv) (fun H' => one1 (resAll P ⟨s.T,H'⟩ rs) fun l => zly n H' (resTup l) k) (fun H' => zly n H' pv kp)
 | _,_,_ => False
theorem DefC.mono {g : FuncId} {args : Array Value} {md : FrameMode} {V : View} {R R' : FrameMode -> View -> Prop} (h : DefC lv P g args md V R) (hr : ∀ m V,R m V -> R' m V) : DefC lv P g args md V R':=fun main J C fr cs hm hR => h main J C fr cs hm fun md' V' r => hR md' V' (hr _ _ r)
theorem zjk {f : FuncId} {fn : Func} {c : Code} {rs : List ResultVar} {nt : Nat} {H : List AObj} {args : List AV} {k kp : AV -> List AObj -> Prop} (hf : P.funcs[f]? = some fn) (hb : fn.body = some c) (hr : fn.results = rs.toArray) (hn : fn.ntmps = nt) (hargs : args.length <= nt)
  (h : HOk H -> (∀ a ∈ args,Lt H.length a) -> AWPd lv P nt c ⟨zf5 0 args,H⟩ [] (zmi lv P rs H.length k kp)) : FnC lv P f H args k kp:=by
 intro E V vs hc hd;have hlt : ∀ a ∈ args,Lt H.length a:=fun a ha => by
  obtain ⟨i,hi⟩:=zbF ha;rw [<- hc.n]; exact (hd.2 i a hi).lt
 have hat:=zeU (nt:=nt) hc hd hargs;refine zhO (by simp) hf hb ?_;rw [hn];refine h hc.hok hlt E V _ _ hat trivial fun ae e E' V' a' s' ds' hk hat' hd' he hΦ => ?_;have fin : zmi lv P rs H.length k kp .ret s' ds' -> Unw lv P fn (RetC E V k kp) a'.defers .returning a'.tmps V':=fun hΦ => by
  match ds',hdf : a'.defers,hd',hΦ with
  | [],[],_,hΦ =>
   exact zia hr hat' hk.le hc.n hk.role hk.deaf hΦ
  | [c],[d],hd',hΦ =>
   obtain ⟨hd1,_⟩:=hd';refine ⟨rfl,?_,?_⟩
   ·obtain ⟨f,first,caps,fa,ca,vs,h1,rfl,h3,h4,h5⟩:=hd1;exact ⟨_,_,rfl⟩
   ·refine (hΦ E' V' d .returning hat'.conc hd1 rfl).mono (fun nx V'' hx => ?_) fun _ _ h => h;obtain ⟨g,args,rfl,hD⟩:=hx;refine ⟨g,args,rfl,hD.mono fun md' V3 hx => ?_⟩;obtain ⟨E3,H',q1,q2,q3,q4,q5 | q5⟩:=hx
    ·obtain ⟨rfl,q5⟩:=q5;exact zia (s':=⟨s'.T,H'⟩) (a':=a') hr ⟨q4,hat'.tok.mono q1,hat'.size⟩ (hk.le.trans q1) hc.n (q2.trans hk.role) (q3.trans hk.deaf) q5
    ·exact q5.2.2.elim
  | _ :: _ :: _,_,_,hΦ => exact hΦ.elim
  | [],_ :: _,hd',_ => exact hd'.elim
  | [_],[],hd',_ => exact hd'.elim
  | [_],_ :: _ :: _,hd',_ => exact hd'.2.elim
 cases ae <;> cases e <;> first
  | exact he.elim
  |(refine fin ?_; match ds',hΦ with
    | [],hΦ => exact hΦ
    | [c],hΦ => exact hΦ
    | _ :: _ :: _,hΦ => exact hΦ.elim)
  | exact (match ds',hΦ with
    | [],h => h.elim
    | [_],h => h.elim
    | _ :: _ :: _,h => h.elim)
  | skip
 rename_i pv ch;obtain ⟨v,hch,hden⟩ : ∃ v,ch = [{ v,recovered:=false }] /\ Den E' pv v:=he;subst hch;show Unw lv P fn (RetC E V k kp) a'.defers (.panicking [{ v,recovered:=false }]) a'.tmps V'
 match ds',a'.defers,hd',hΦ with
 | [],[],_,hΦ =>
  obtain ⟨b,E'',H',q1,q2,q3,q4⟩:=zbP hΦ hat'.conc hden hk.le hc.n;exact ⟨b,v,E'',H',rfl,q1,hk.role,hk.deaf,q2,q3,q4⟩
 | [c],[d],hd',hΦ =>
  obtain ⟨hd1,_⟩:=hd';refine ⟨rfl,?_,?_⟩
  ·obtain ⟨f,first,caps,fa,ca,vs,h1,rfl,h3,h4,h5⟩:=hd1;exact ⟨_,_,rfl⟩
  ·refine (hΦ E' V' d (.panicking [{ v,recovered:=false }]) hat'.conc hd1 ⟨v,rfl,hden⟩).mono (fun nx V'' hx => ?_) fun _ _ h => h;obtain ⟨g,args,rfl,hD⟩:=hx;refine ⟨g,args,rfl,hD.mono fun md' V3 hx => ?_⟩;obtain ⟨E3,H',q1,q2,q3,q4,q5 | q5⟩:=hx
   ·obtain ⟨rfl,q5⟩:=q5;exact zia (s':=⟨s'.T,H'⟩) (a':=a') hr ⟨q4,hat'.tok.mono q1,hat'.size⟩ (hk.le.trans q1) hc.n (q2.trans hk.role) (q3.trans hk.deaf) q5
   ·obtain ⟨rfl,_,q5⟩:=q5;obtain ⟨b,E'',H'',r1,r2,r3,r4⟩:=zbP q5 q4 (hden.mono q1) (hk.le.trans q1) hc.n;exact ⟨b,v,E'',H'',rfl,r1,q2.trans hk.role,q3.trans hk.deaf,r2,r3,r4⟩
 | _ :: _ :: _,_,_,hΦ => exact hΦ.elim
 | [],_ :: _,hd',_ => exact hd'.elim
 | [_],[],hd',_ => exact hd'.elim
 | [_],_ :: _ :: _,hd',_ => exact hd'.2.elim
@[congr] theorem awpd_congr {nt : Nat} {c : Code} {s s' : AS} {ds ds' : List (AV × List AV)} {Φ : AEx -> AS -> List (AV × List AV) -> Prop} (h : s = s') (hd : ds = ds') : AWPd lv P nt c s ds Φ = AWPd lv P nt c s' ds' Φ:=by rw [h,hd]
theorem zf7 (K : AS -> List (AV × List AV) -> Prop) (Φ : AEx -> AS -> List (AV × List AV) -> Prop) (s : AS) (ds : List (AV × List AV)) : AEx.thenD K Φ .normal s ds = K s ds:=by rw [AEx.thenD]
theorem zjX (K : AS -> List (AV × List AV) -> Prop) (Φ : AEx -> AS -> List (AV × List AV) -> Prop) (s : AS) (ds : List (AV × List AV)) : AEx.thenD K Φ .ret s ds = Φ .ret s ds:=by rw [AEx.thenD]; simp
theorem zg7 (K : AS -> List (AV × List AV) -> Prop) (Φ : AEx -> AS -> List (AV × List AV) -> Prop) (a : AV) (s : AS) (ds : List (AV × List AV)) : AEx.thenD K Φ (.panic a) s ds = Φ (.panic a) s ds:=by rw [AEx.thenD]; simp
@[congr] theorem thenD_congr {K : AS -> List (AV × List AV) -> Prop} {Φ : AEx -> AS -> List (AV × List AV) -> Prop} {e e' : AEx} {s s' : AS} {ds ds' : List (AV × List AV)} (he : e = e') (h : s = s') (hd : ds = ds') : AEx.thenD K Φ e s ds = AEx.thenD K Φ e' s' ds':=by rw [he,h,hd]
@[congr] theorem fnEndD_congr {rs : List ResultVar} {n : Nat} {k kp : AV -> List AObj -> Prop} {e e' : AEx} {s s' : AS} {ds ds' : List (AV × List AV)} (he : e = e') (h : s = s') (hd : ds = ds') : zmi lv P rs n k kp e s ds = zmi lv P rs n k kp e' s' ds':=by rw [he,h,hd]
theorem zhF (rs : List ResultVar) (n : Nat) (k kp : AV -> List AObj -> Prop) (s : AS) : zmi lv P rs n k kp .ret s [] = one1 (resAll P s rs) fun l => zly n s.H (resTup l) k:=by rw [zmi]
theorem zhE (rs : List ResultVar) (n : Nat) (k kp : AV -> List AObj -> Prop) (s : AS) (c : AV × List AV) : zmi lv P rs n k kp .ret s [c] = DefA lv P c s.H none (fun H' => one1 (resAll P ⟨s.T,H'⟩ rs) fun l => zly n H' (resTup l) k) (fun _ => False):=by rw [zmi]
theorem zfM (rs : List ResultVar) (n : Nat) (k kp : AV -> List AObj -> Prop) (s : AS) (pv : AV) : zmi lv P rs n k kp (.panic pv) s [] = zly n s.H pv kp:=by rw [zmi]
theorem zfL (rs : List ResultVar) (n : Nat) (k kp : AV -> List AObj -> Prop) (s : AS) (pv : AV) (c : AV × List AV) : zmi lv P rs n k kp (.panic pv) s [c] = DefA lv P c s.H (some pv) (fun H' => one1 (resAll P ⟨s.T,H'⟩ rs) fun l => zly n H' (resTup l) k) (fun H' => zly n H' pv kp):=by rw [zmi]
attribute [seval] zf7 zjX zg7 zhF zfM
end
section
variable {P : Program}
theorem zge {ι : Type} {body : ι -> PUnit -> Sem (ForInStep PUnit)} : ∀ (l : List ι),(∀ i ∈ l,Sure P (body i ⟨⟩) (.yield ⟨⟩)) -> Sure P (forIn l ⟨⟩ body) ⟨⟩
 | [],_ => by simpa using zaH PUnit.unit
 | i :: l,h => by
  rw [List.forIn_cons];exact za0 (h i (List.mem_cons_self ..)) (zge l fun j hj => h j (List.mem_cons_of_mem _ hj))
theorem zg8 {t : TypeId} {k0 k : IntKind} {d : Nat} {b : Bool} {x : Int} (h : P.underlying t = some (.int k0)) : Sure P (Instr.checkKey b (d + 1) t (.int k x)) ():=by
 rw [Instr.checkKey];exact zaR h (zaH _)
theorem zcR {t e : TypeId} {k0 k : IntKind} {n d : Nat} {i : TypeInfo} {b : Bool} {xs : List Int} (ht : P.underlying t = some (.array n e)) (he : P.underlying e = some (.int k0)) (hi : P.info? e = some i) (hs : i.size = 1) (hx : xs.length = n) :
  Sure P (Instr.checkKey b (d + 2) t (.agg (xs.map (Value.int k)).toArray)) ():=by
 rw [Instr.checkKey];refine zaR ht ?_;dsimp only;simp only [Std.Legacy.Range.forIn_eq_forIn_range',Std.Legacy.Range.size];refine za0 (a:=⟨⟩) ?_ (zaH _);refine zge _ fun j hj => ?_;have hn : (n - 0 + 1 - 1) / 1 = n:=by simp
 have hjn : j < n:=by rw [hn] at hj; simp [List.mem_range'] at hj; omega
 have gx : xs[j]? = some (xs[j]'(by omega)):=List.getElem?_eq_getElem _;refine zei hi ?_;rw [hs,Nat.mul_one];refine zej he rfl (v:=.int k (xs[j]'(by omega))) (by simp [gx]) ?_;exact za0 (zg8 he) (zaH _)
def zez (x : List Int × Nat) : MapEntry:={ key:=.agg (x.1.map (Value.int .i64)).toArray,val:=.bool true,born:=x.2 }
def zmQ (x : List Int) : List (List Int × Nat) -> Nat -> Option (Nat × Value)
 | [],_ => none
 | y :: ts,i => if x == y.1 then some (i,.bool true) else zmQ x ts (i + 1)
theorem zcq {t e : TypeId} {k0 : IntKind} {n : Nat} {i : TypeInfo} {x : List Int} (ht : P.underlying t = some (.array n e)) (he : P.underlying e = some (.int k0)) (hi : P.info? e = some i) (hs : i.size = 1) (hx : x.length = n) : ∀ (ts : List (List Int × Nat)) (j : Nat),(∀ y ∈ ts,y.1.length = n) ->
  Sure P (Instr.findAsking t (.agg (x.map (Value.int .i64)).toArray) (ts.map zez) j) (zmQ x ts j)
 | [],j,_ => by rw [List.map_nil,Instr.findAsking,zmQ]; exact zaH _
 | y :: ts,j,h => by
  rw [List.map_cons,Instr.findAsking,zmQ];refine za0 (zek ht he hi hs hx (h y (List.mem_cons_self ..))) ?_;by_cases hxy : (x == y.1) = true
  ·rw [if_pos hxy,if_pos hxy]; exact zaH _
  ·rw [if_neg hxy,if_neg hxy]; exact zcq ht he hi hs hx ts (j + 1) fun z hz => h z (List.mem_cons_of_mem _ hz)
theorem zdW {t e : TypeId} {k0 : IntKind} {n : Nat} {i : TypeInfo} {x : List Int} (ht : P.underlying t = some (.array n e)) (he : P.underlying e = some (.int k0)) (hi : P.info? e = some i) (hs : i.size = 1) (hx : x.length = n) {ts : List (List Int × Nat)} (h : ∀ y ∈ ts,y.1.length = n) :
  Sure P (Instr.findKey t (.agg (x.map (Value.int .i64)).toArray) (ts.map zez)) (zmQ x ts 0):=by
 unfold Instr.findKey;refine zaR ht ?_;cases ts with
 | nil => exact zaH _
 | cons y ts =>
  have e1 : Instr.findNow (.array n e) (.agg (x.map (Value.int .i64)).toArray) ((y :: ts).map zez) 0 = none:=rfl;rw [e1];exact zcq ht he hi hs hx (y :: ts) 0 h
theorem zfe {x : List Int} : ∀ {ts : List (List Int × Nat)} {j i : Nat} {v : Value},zmQ x ts j = some (i,v) -> ∃ b,j <= i /\ ts[i - j]? = some (x,b) /\ v = .bool true
 | y :: ts,j,i,v,h => by
  rw [zmQ] at h;split at h
  ·rename_i hxy;cases h;obtain ⟨y1,b⟩:=y;have : x = y1:=(by simpa using hxy);subst this;exact ⟨b,Nat.le_refl _,by simp,rfl⟩
  ·obtain ⟨b,h1,h2,h3⟩:=zfe h;refine ⟨b,by omega,?_,h3⟩;have : i - j = (i - (j + 1)) + 1:=(by omega);rw [this,List.getElem?_cons_succ]; exact h2
end
theorem zgp (ts : List (List Int × Nat)) (ck : Nat) (x : List Int) : zne (ts.map zez).toArray ck (.agg (x.map (Value.int .i64)).toArray) (.bool true) none = .map ((ts ++ [(x,ck)]).map zez).toArray (ck + 1):=by
 simp [zne,zez]
theorem zgQ {ts : List (List Int × Nat)} {i : Nat} {v : Value} (h : i < ts.length) : znk (ts.map zez).toArray (some (i,v)) = ((ts.eraseIdx i).map zez).toArray:=by
 have key : ∀ (l : List (List Int × Nat)) (i : Nat),(l.map zez).eraseIdx i = (l.eraseIdx i).map zez:=by
  intro l;induction l with
  | nil => intro i; rfl
  | cons x l ih =>
   intro i;cases i with
   | zero => rfl
   | succ i => simp [ih]
 simp [znk,Array.eraseIdxIfInBounds,h,key]
theorem zrg (xs : List Int) : AV.of (.agg (xs.map (Value.int .i64)).toArray) = .agg (xs.map iv):=by
 simp only [AV.of,List.map_map];congr 1
theorem zcO (ts : List (List Int × Nat)) (ck : Nat) (h : ∀ y ∈ ts,y.2 < ck) : ((ts.map zez).toArray.all (fun e => decide (e.born >= ck)) = false \/ (ts.map zez).toArray.isEmpty = true):=by
 cases ts with
 | nil => right; rfl
 | cons y ts =>
  left;have:=h y (List.mem_cons_self ..);simp [zez];omega
theorem zbo {α β : Type} (f : α -> β) : ∀ {l : List α},(l.map f).Nodup -> l.Nodup
 | [],_ => List.nodup_nil
 | x :: l,h => by
  rw [List.map_cons,List.nodup_cons] at h;exact List.nodup_cons.2 ⟨fun hm => h.1 (List.mem_map.2 ⟨x,hm,rfl⟩),zbo f h.2⟩
theorem zct {ts vs : List (List Int × Nat)} (hv : (vs.map (·.2)).Nodup) (ht : (ts.map (·.2)).Nodup) (hsub : ∀ y ∈ vs,y ∈ ts) (hall : ∀ y ∈ ts,y.2 ∈ vs.map (·.2)) : vs.Perm ts:=by
 have hv' : vs.Nodup:=zbo _ hv;have ht' : ts.Nodup:=zbo _ ht;refine (List.perm_ext_iff_of_nodup hv' ht').2 fun y => ⟨hsub y,fun hy => ?_⟩;obtain ⟨z,hz,e⟩:=List.mem_map.1 (hall y hy);have hzt:=hsub z hz;have : ∀ (l : List (List Int × Nat)),(l.map (·.2)).Nodup -> z ∈ l -> y ∈ l -> z = y:=by
  intro l;induction l with
  | nil => intro _ h; cases h
  | cons x l ih =>
   intro hn h1 h2;rw [List.map_cons,List.nodup_cons] at hn;rcases List.mem_cons.1 h1 with e1 | h1'
   ·rcases List.mem_cons.1 h2 with e2 | h2'
    ·rw [e1,e2]
    ·exact absurd (show x.2 ∈ l.map (·.2) from List.mem_map.2 ⟨y,h2',by rw [<- e1]; exact e.symm⟩) hn.1
   ·rcases List.mem_cons.1 h2 with e2 | h2'
    ·exact absurd (show x.2 ∈ l.map (·.2) from List.mem_map.2 ⟨z,h1',by rw [<- e2]; exact e⟩) hn.1
    ·exact ih hn.2 h1' h2'
 rw [<- this ts ht hzt hy]; exact hz
theorem zcL {y : List Int × Nat} : ∀ {ts : List (List Int × Nat)},(ts.map (·.2)).Nodup -> y ∈ ts -> (ts.map zez).toArray.find? (fun e => e.born == y.2) = some (zez y):=by
 intro ts hn hy;rw [List.find?_toArray];induction ts with
 | nil => cases hy
 | cons z ts ih =>
  rw [List.map_cons,List.nodup_cons] at hn;rw [List.map_cons];by_cases h : z.2 = y.2
  ·rw [List.find?_cons_of_pos (by simp [zez,h])];rcases List.mem_cons.1 hy with e | hy'
   ·rw [e]
   ·exact absurd (show z.2 ∈ ts.map (·.2) from List.mem_map.2 ⟨y,hy',h.symm⟩) hn.1
  ·rw [List.find?_cons_of_neg (by simp [zez,h])];rcases List.mem_cons.1 hy with e | hy'
   ·exact absurd (by rw [e]) h
   ·exact ih hn.2 hy'
theorem zb7 (y : List Int × Nat) : AV.of (zez y).key = .agg (y.1.map iv):=zrg y.1
section
variable {lv : Bool} {P : Program}
theorem zd3 {l : Nat} {r : Loop} {V : View} (ho : V.own l = some (.loop r)) (hs : r.state = .ready) (hc : V.role.chan ≠ some l) : SemOk P V (do Instr.beginRound l; pure Next.skip) (fun nx V' => nx = .skip /\ V' = V.upd l (.loop { r with state:=.busy })) (fun _ _ => False):=by
 unfold Instr.beginRound Instr.getLoop;refine zac (zac (zac ?_));unfold getObj;refine zaI ho rfl rfl hc (zan ?_);dsimp only;refine zbq ?_;refine zac ?_;unfold setObj;refine za6 ho rfl rfl hc (zan ?_);rw [hs];exact zbq (zbq ⟨rfl,rfl⟩)
theorem zeZ {l : Nat} {r : Loop} {V : View} (jump : Option Code) (ho : V.own l = some (.loop r)) (hc : V.role.chan ≠ some l) : SemOk P V (Instr.endRound l jump) (fun v V' => v = .bool jump.isNone /\ V' = V.upd l (.loop { r with state:=if jump.isNone then .ready else .done,pending:=jump })) (fun _ _ => False):=by
 unfold Instr.endRound Instr.getLoop;refine zac (zac ?_);unfold getObj;refine zaI ho rfl rfl hc (zan ?_);dsimp only;refine zbq ?_;refine zac ?_;unfold setObj;refine za6 ho rfl rfl hc (zan ?_);exact zbq ⟨rfl,rfl⟩
theorem zfw {l : Nat} {r : Loop} {V : View} (ho : V.own l = some (.loop r)) (hs : r.state ≠ .busy) (hc : V.role.chan ≠ some l) : SemOk P V (Instr.endLoop l) (fun v V' => v = r.pending /\ V' = V.upd l (.loop { r with state:=.exhausted })) (fun _ _ => False):=by
 unfold Instr.endLoop Instr.getLoop;refine zac (zac ?_);unfold getObj;refine zaI ho rfl rfl hc (zan ?_);dsimp only;refine zbq ?_;have : (r.state == LoopState.busy) = false:=by simpa using hs
 rw [if_neg (by rw [this]; simp)];refine zac ?_;unfold setObj;refine za6 ho rfl rfl hc (zan ?_);exact zbq ⟨rfl,rfl⟩
theorem zep {fn : FuncId} {tmps : Array Value} {ps : Array Tmp} {asg body : Code} {V : View} : SemOk P V (Instr.enterLoop fn tmps ps asg body none) (fun x V1 => ∃ d l,V.fresh d /\ (V.upd d (.deferred (some []))).fresh l /\ x = (l,[{ target:=.collected d,args:=#[] }]) /\
  V1 = (V.upd d (.deferred (some []))).upd l (.loop { state:=.ready,pending:=none,fn,tmps,params:=ps,assign:=asg,body,defers:=d })) (fun _ _ => False):=by
 unfold Instr.enterLoop;dsimp only;refine zac ?_;unfold newObj;refine za7 fun d hd => zan ?_;refine zac (zbq ?_);dsimp only;refine zac (za7 fun l hl => zan (zbq ?_));exact ⟨d,l,hd,hl,rfl,rfl⟩
theorem zdi {d : Nat} {V : View} (ho : V.own d = some (.deferred (some []))) (hc : V.role.chan ≠ some d) : SemOk P V (Instr.takeDeferred d) (fun v V' => v = [] /\ V' = V.upd d (.deferred none)) (fun _ _ => False):=by
 unfold Instr.takeDeferred;refine zac ?_;unfold getObj;refine zaI ho rfl rfl hc (zan ?_);dsimp only;refine zac ?_;unfold setObj;refine za6 ho rfl rfl hc (zan ?_);exact zbq ⟨rfl,rfl⟩
def RoundQ (l : Nat) (R : Out -> View -> Prop) : Ex -> Act -> View -> Prop
 | .normal,_,V => ∃ r,V.own l = some (.loop r) /\ V.role.chan ≠ some l /\ R (.ret (.bool true)) (V.upd l (.loop { r with state:=.ready,pending:=none }))
 | .ret,_,V => ∃ r,V.own l = some (.loop r) /\ V.role.chan ≠ some l /\ R (.ret (.bool false)) (V.upd l (.loop { r with state:=.done,pending:=some .ret }))
 | _,_,_ => False
def RoundA (lv : Bool) (P : Program) (l : Nat) (body : Code) (R : Out -> View -> Prop) : Ex -> Act -> View -> Prop
 | .normal,a,V => ∃ r,V.own l = some (.loop r) /\ V.role.chan ≠ some l /\ r.state = .ready /\ WP lv P (some l) body (RoundQ l R) a (V.upd l (.loop { r with state:=.busy }))
 | _,_,_ => False
theorem ziQ {l f : Nat} {tmps : Array Value} {asg body : Code} {V : View} {R : Out -> View -> Prop} (h : WP lv P (some l) asg (RoundA lv P l body R) { tmps,defers:=[] } V) : Runs lv P (Frame.round l f tmps asg body .normal) V R:=by
 intro main J C c cs h1 h2;let b : Frame:={ (default : Frame) with fn:=f,kind:=.normal,roundOf:=some l };have hround : Frame.round l f tmps asg body .normal = on b { tmps,defers:=[] } [.code asg,.beginRound,.code body]:=rfl;rw [hround];have leave : ∀ (a : Act) (V' : View) (r : Loop) (jump : Option Code) (todo : List Item),V'.own l = some (.loop r) -> V'.role.chan ≠ some l -> R (.ret (.bool jump.isNone)) (V'.upd l (.loop { r with state:=if jump.isNone then .ready else .done,pending:=jump })) ->
   (∀ w,stepG P main (G (on b a todo) (c :: cs)) w = GStep.after (seen P b.fn ((Instr.endRound l jump).runT P w #[]).2) (match ((Instr.endRound l jump).runT P w #[]).1 with
    | .ok v w => doReturn P main (on b a todo) (c :: cs) none v w
    | .halt _ w => .ended (.stuck "range over a function: no such loop" ((on b a todo).pos P)) w)) -> J V' (G (on b a todo) (c :: cs)) := by
  intro a V' r jump todo ho hch hR hst;refine C.step _ _ rfl fun w hsat => ?_;obtain ⟨es,w',V'',k1,k2,k3⟩:=(zeZ (P:=P) jump ho hch).runs hsat;rcases k3 with ⟨v,k3,rfl,rfl⟩ | ⟨_,_,hx⟩
  ·refine ⟨G (c.finish (.bool jump.isNone)) cs,w',seen P b.fn es,_,?_,k1.seen P b.fn,h1 _ _ hR⟩;rw [hst w];simp [Sem.runT_eq,k3,k2,doReturn,GStep.after,on,b,G]
  ·exact hx.elim
 refine h main J C b [.beginRound,.code body] (c :: cs) (by show CallKind.normal ≠ CallKind.early; decide) rfl fun e a' V' q => ?_;cases e with
 | normal =>
  obtain ⟨r,ho,hch,hs,hw⟩:=q;refine C.step _ _ rfl fun w hsat => ?_;obtain ⟨es,w',V'',k1,k2,k3⟩:=(zd3 (P:=P) ho hs hch).runs hsat;rcases k3 with ⟨nx,k3,rfl,rfl⟩ | ⟨_,_,hx⟩
  ·refine ⟨G (on b a' [.code body]) (c :: cs),w',seen P b.fn es,_,?_,k1.seen P b.fn,?_⟩
   ·have : stepG P main (G (on b a' [.beginRound,.code body]) (c :: cs)) w = stepG.apply P true (on b a' [.beginRound,.code body]) (c :: cs) none (do Instr.beginRound l; pure Next.skip) w:=by
     simp [G,stepG,stepG.exec,on,b]
    rw [this];have hke : ((on b a' [.beginRound,.code body]).kind == CallKind.early) = false:=(by simp [on,b]);simp only [stepG.apply,Sem.runT_eq,if_true,k3,k2,hke,GStep.after];rfl
   ·refine hw main J C b [] (c :: cs) (by show CallKind.normal ≠ CallKind.early; decide) rfl fun e a'' V'' q => ?_;cases e with
    | normal =>
     obtain ⟨r',ho',hch',hR⟩:=q;refine leave a'' V'' r' none [] ho' hch' hR fun w => ?_;simp [G,stepG,stepG.exec,on,b];rfl
    | ret =>
     obtain ⟨r',ho',hch',hR⟩:=q;intro k;refine leave a'' V'' r' (some .ret) _ ho' hch' hR fun w => ?_;simp [G,stepG,stepG.exec,on,b];rfl
    | _ => exact q.elim
  ·exact hx.elim
 | _ => exact q.elim
def mark (a : Act) (d : Nat) : Act:={ a with defers:={ target:=.collected d,args:=#[] } :: a.defers }
def zn4 (l d : Nat) (Q : Ex -> Act -> View -> Prop) (a : Act) : Out -> View -> Prop
 | .ret _,V => ∃ r,V.own l = some (.loop r) /\ V.role.chan ≠ some l /\ r.state ≠ .busy /\ (match r.pending with
  | none => Q .normal (mark a d) (V.upd l (.loop { r with state:=.exhausted }))
  | some .ret => Q .ret (mark a d) (V.upd l (.loop { r with state:=.exhausted }))
  | some (.exit i) => Q (.exit i) (mark a d) (V.upd l (.loop { r with state:=.exhausted }))
  | some (.goto i) => Q (.goto i) (mark a d) (V.upd l (.loop { r with state:=.exhausted }))
  | _ => False)
 | .panic ch,V => Q (.panic ch) (mark a d) V
theorem zoQ {f : Operand} {ps : Array Tmp} {asg body : Code} {Q : Ex -> Act -> View -> Prop} {a : Act} {V : View}
  (h : ∀ (fn d l : Nat),V.fresh d -> (V.upd d (.deferred (some []))).fresh l -> SemOk P ((V.upd d (.deferred (some []))).upd l (.loop { state:=.ready,pending:=none,fn,tmps:=a.tmps,params:=ps,assign:=asg,body,defers:=d }))
   (do let dd <- Deferred.ofValue (a.eval f) #[.func (.yield l) #[] #[]]; invoke dd.target dd.args) (fun nx V' => Nx lv P (zn4 l d Q a) nx V') (fun v V' => zn4 l d Q a (.panic [{ v,recovered:=false }]) V')) : WP lv P none (.rangeFunc f ps asg body) Q a V:=by
 intro main J C b k cs hb hr hL;have fin : ∀ (l d : Nat) (v : Value) (V' : View),zn4 l d Q a (.ret v) V' -> J V' (G (on b (mark a d) (.endRangeFunc l :: k)) cs):=by
  intro l d v V' ⟨r,ho,hch,hs,hq⟩;refine C.step _ _ rfl fun w hsat => ?_;obtain ⟨es,w',V'',k1,k2,k3⟩:=(zfw (P:=P) ho hs hch).runs hsat;rcases k3 with ⟨x,k3,rfl,rfl⟩ | ⟨_,_,hx⟩
  ·refine ⟨G (on b (mark a d) ((r.pending.map Item.code).toList ++ k)) cs,w',seen P b.fn es,_,?_,k1.seen P b.fn,?_⟩
   ·simp [G,stepG,stepG.exec,on,Sem.runT_eq,k3,k2,GStep.after]
   ·generalize r.pending = pe at hq ⊢
    match pe,hq with
    | none,hq => exact hL _ _ _ hq
    | some .ret,hq => exact hL _ _ _ hq _
    | some (.exit i),hq =>
     obtain ⟨k',hk,hJ⟩:=hL _ _ _ hq;exact C.idle rfl (fun _ => zqx hk) hJ
    | some (.goto i),hq =>
     obtain ⟨k',hk,hJ⟩:=hL _ _ _ hq;exact C.idle rfl (fun _ => s_goto hk) hJ
  ·exact hx.elim
 refine C.step _ _ rfl fun w hsat => ?_;obtain ⟨es,w1,V1,s1,s2,s3⟩:=(zep (P:=P) (fn:=b.fn) (tmps:=a.tmps) (ps:=ps) (asg:=asg) (body:=body)).runs hsat;rcases s3 with ⟨x,s3,d,l,hd,hl,rfl,rfl⟩ | ⟨_,_,hx⟩
 ·obtain ⟨es2,w2,V2,t1,t2,t3⟩:=(h b.fn d l hd hl).runs s1.sat;have hke : ((on b (mark a d) (.inRangeFunc l :: k)).kind == CallKind.early) = false:=by simpa [on] using hb
  have hev : ∀ (todo : List Item) (x : Operand),(on b (mark a d) todo).eval x = a.eval x:=fun todo x => by rw [zhu]; cases x <;> rfl
  have hst : stepG P main (G (on b a (.code (.rangeFunc f ps asg body) :: k)) cs) w = GStep.after (seen P b.fn es) (stepG.apply P true (on b (mark a d) (.inRangeFunc l :: k)) cs none (do let dd <- Deferred.ofValue (a.eval f) #[.func (.yield l) #[] #[]]; invoke dd.target dd.args) w1):=by
   have e:=hev (.inRangeFunc l :: k) f;have e2:=hev (.inRangeFunc l :: k) (.const (.func (.yield l) #[] #[]));simp only [on,mark] at e e2;simp [G,stepG,stepG.exec,on,Sem.runT_eq,s3,s2,hr,mark,resolve];rw [hr] at e;rw [e]; rfl
  rw [hst];rcases t3 with ⟨nx,t3,hU⟩ | ⟨v,t3,hU⟩
  ·cases nx with
   | value v => exact ⟨_,w2,seen P b.fn es ++ seen P b.fn es2,V2,by simp only [stepG.apply,Sem.runT_eq,if_true,t3,t2,hke,GStep.after]; rfl,(s1.seen P _).trans (t1.seen P _),fin _ _ v _ hU⟩
   | skip => exact ⟨_,w2,seen P b.fn es ++ seen P b.fn es2,V2,by simp only [stepG.apply,Sem.runT_eq,if_true,t3,t2,hke,GStep.after]; rfl,(s1.seen P _).trans (t1.seen P _),fin _ _ undef _ hU⟩
   | enter g args =>
    refine ⟨G (Frame.enter P g args .normal) (on b (mark a d) (.inRangeFunc l :: k) :: cs),w2,seen P b.fn es ++ seen P b.fn es2,V2,by simp only [stepG.apply,Sem.runT_eq,if_true,t3,t2,hke,GStep.after]; rfl,(s1.seen P _).trans (t1.seen P _),?_⟩;refine Body.runs hU main J C _ cs (fun v V'' hR => ?_) (fun ch V'' hR => ?_)
    ·exact fin _ _ v _ hR
    ·exact hL _ _ _ hR _
   | round l2 f2 tmps2 as2 b2 =>
    refine ⟨G (Frame.round l2 f2 tmps2 as2 b2 .normal) (on b (mark a d) (.inRangeFunc l :: k) :: cs),w2,seen P b.fn es ++ seen P b.fn es2,V2,by simp only [stepG.apply,Sem.runT_eq,if_true,t3,t2,hke,GStep.after]; rfl,(s1.seen P _).trans (t1.seen P _),?_⟩;refine hU main J C _ cs (fun v V'' hR => ?_) (fun ch V'' hR => ?_)
    ·exact fin _ _ v _ hR
    ·exact hL _ _ _ hR _
   | _ => exact hU.elim
  ·exact ⟨_,w2,seen P b.fn es ++ seen P b.fn es2,V2,by simp only [stepG.apply,Sem.runT_eq,if_true,t3,t2,hke,GStep.after]; rfl,(s1.seen P _).trans (t1.seen P _),hL _ _ _ hU _⟩
 ·exact hx.elim
theorem Conc.setLoop {E : Env} {V : View} {H : List AObj} (hc : Conc E V H) {id r fn nt df : Nat} {st : LoopState} {pe : Option Code} {T : List (Nat × AV)} {ps : Array Tmp} {asg body : Code} (hk : H[id]? = some (.loop r st pe fn T nt ps asg body df)) :
  E.blk id = r /\ V.role.chan ≠ some r /\ ∃ tmps,V.own r = some (.loop { state:=st,pending:=pe,fn,tmps,params:=ps,assign:=asg,body,defers:=E.blk df }) /\ tmps.size = nt /\ TOk E T tmps /\
   ∀ st' pe',Conc E (V.upd r (.loop { state:=st',pending:=pe',fn,tmps,params:=ps,assign:=asg,body,defers:=E.blk df })) (H.set id (.loop r st' pe' fn T nt ps asg body df)):=by
 obtain ⟨⟨tmps,p1,p2,p3⟩,p4,p5,p6⟩:=hc.obj id _ hk;have hch:=(hc.notGroup hk (b:=E.blk id) rfl).2;subst p6;refine ⟨rfl,hch,tmps,p1,p2,p3,fun st' pe' => ?_⟩;refine hc.turn id (.loop (E.blk id) st' pe' fn T nt ps asg body df) (Env.Le.refl E) hc.I (by simpa using hc.n) zaF rfl (fun _ _ _ => rfl) (fun b z hb hz => ⟨?_,fun _ => rfl⟩) ⟨⟨tmps,by simp [View.upd],p2,p3⟩,p4,p5,rfl⟩ (fun b h => .inl ⟨_,hk,h⟩);have : b ≠ E.blk id:=fun e => hb _ hk (by rw [e]; rfl);simpa [View.upd,this] using hz
theorem Conc.setGone {E : Env} {V : View} {H : List AObj} (hc : Conc E V H) {id : Nat} (x : AObj) (hk : H[id]? = some x) (y : Obj) {b : Nat} (hb : zfE E id x = some b) : Conc E (V.upd b y) (H.set id .gone):=by
 refine hc.turn id .gone (Env.Le.refl E) hc.I (by simpa using hc.n) zaF rfl (fun _ _ _ => rfl) (fun b' z hb' hz => ⟨?_,fun _ => rfl⟩) trivial (fun b h => by cases h);have : b' ≠ b:=fun e => hb' _ hk (by rw [e]; exact hb);simpa [View.upd,this] using hz
def zipT : List Nat -> List AV -> List (Nat × AV) -> List (Nat × AV)
 | t :: ts,a :: zas,T => zipT ts zas ((t,a) :: T)
 | _,_,T => T
theorem zjG {E : Env} {nt : Nat} : ∀ (ts : List Nat) (zas : List AV) (vs : List Value) (T : List (Nat × AV)) (tmps : Array Value),vs.length = zas.length -> (∀ (i : Nat) a,zas[i]? = some a -> Den E a (vs.getD i undef)) -> (∀ t ∈ ts,t < nt) -> tmps.size = nt -> TOk E T tmps ->
  TOk E (zipT ts zas T) ((ts.zip vs).foldl (fun tmps (x : Nat × Value) => tmps.setIfInBounds x.1 x.2) tmps) /\ ((ts.zip vs).foldl (fun tmps (x : Nat × Value) => tmps.setIfInBounds x.1 x.2) tmps).size = nt
 | [],zas,vs,T,tmps,_,_,_,hs,hT => by cases zas <;> cases vs <;> exact ⟨hT,hs⟩
 | t :: ts,[],[],T,tmps,_,_,_,hs,hT => ⟨hT,hs⟩
 | t :: ts,[],_ :: _,T,tmps,h,_,_,hs,hT => by cases h
 | t :: ts,_ :: _,[],T,tmps,h,_,_,hs,hT => by cases h
 | t :: ts,a :: zas,v :: vs,T,tmps,hl,hd,ht,hs,hT => by
  have h0 : Den E a v:=by simpa using hd 0 a rfl
  have h1 : t < tmps.size:=by rw [hs]; exact ht t (by simp)
  exact zjG ts zas vs ((t,a) :: T) (tmps.setIfInBounds t v) (by simpa using hl) (fun i x hx => by simpa using hd (i + 1) x (by simpa using hx)) (fun x hx => ht x (by simp [hx])) (by simpa using hs) (hT.put h1 h0)
def zqI (id n : Nat) (k : AV -> List AObj -> Prop) : AEx -> AS -> Prop
 | .normal,s => ∃ r st pe fn T nt ps asg body df,s.H[id]? = some (.loop r st pe fn T nt ps asg body df) /\ zly n (s.H.set id (.loop r .ready none fn T nt ps asg body df)) (.val (.bool true)) k
 | .ret,s => ∃ r st pe fn T nt ps asg body df,s.H[id]? = some (.loop r st pe fn T nt ps asg body df) /\ zly n (s.H.set id (.loop r .done (some .ret) fn T nt ps asg body df)) (.val (.bool false)) k
 | _,_ => False
def zqJ (lv : Bool) (P : Program) (l nt id n : Nat) (body : Code) (k : AV -> List AObj -> Prop) : AEx -> AS -> Prop
 | .normal,s => ∃ pe fn T nt' ps asg body' df,s.H[id]? = some (.loop l .ready pe fn T nt' ps asg body' df) /\ AWP lv P (some l) nt body ⟨s.T,s.H.set id (.loop l .busy pe fn T nt' ps asg body' df)⟩ (zqI id n k)
 | _,_ => False
theorem zhM {l id fn nt df : Nat} {pe : Option Code} {T : List (Nat × AV)} {ps : Array Tmp} {asg body : Code} {H : List AObj} {args : List AV} {k kp : AV -> List AObj -> Prop} (hid : H[id]? = some (.loop l .ready pe fn T nt ps asg body df)) (hlen : args.length = ps.size) (hps : ps.all (· < nt) = true)
  (h : HOk H -> (∀ a ∈ args,Lt H.length a) -> AWP lv P (some l) nt asg ⟨zipT ps.toList args T,H⟩ (zqJ lv P l nt id H.length body k)) : CallC lv P (.fn (.yield l) [] []) H args k kp:=by
 intro E V cv vs hc hd hds;cases hd with
 | fn hs1 hs2 h1 h2 =>
  rename_i fa ca;have e1 : fa = #[]:=by apply Array.ext'; simpa using hs1
  subst e1;have hlt : ∀ a ∈ args,Lt H.length a:=fun a ha => by
   obtain ⟨i,hi⟩:=zbF ha;rw [<- hc.n]; exact (hds.2 i a hi).lt
  obtain ⟨hb,hch,tmps,ho,hsz,hT,_⟩:=hc.setLoop hid;unfold Deferred.ofValue;refine zac (zbq ?_);unfold invoke;dsimp only;unfold Instr.yield Instr.getLoop;refine zac (zac ?_);unfold getObj;refine zaI ho rfl rfl hch (zan ?_);dsimp only;refine zbq ?_;have hvs : (#[] ++ vs).size = ps.size:=by simp [hds.1,hlen]
  rw [if_neg (by simp [hds.1,hlen])];refine zbq ?_;show Runs lv P _ V (RetC E V k kp);have hz:=zjG (nt:=nt) ps.toList args vs.toList T tmps (by simpa using hds.1) (fun i a e => by
   have:=hds.2 i a e;simpa [Array.getD_eq_getD_getElem?,List.getD_eq_getElem?_getD] using this) (fun t ht => by
    have:=(Array.all_eq_true_iff_forall_mem.1 hps) t (by simpa using ht);simpa using this) hsz hT
  have efold : (ps.zip (#[] ++ vs)).foldl (fun tmps (x : Nat × Value) => tmps.setIfInBounds x.1 x.2) tmps = (ps.toList.zip vs.toList).foldl (fun tmps (x : Nat × Value) => tmps.setIfInBounds x.1 x.2) tmps:=by
   rw [<- Array.foldl_toList,Array.toList_zip]; simp
  have efold' : Array.foldl (fun tmps x => match x with | (t,a) => tmps.setIfInBounds t a) tmps (ps.zip (#[] ++ vs)) = (ps.toList.zip vs.toList).foldl (fun tmps (x : Nat × Value) => tmps.setIfInBounds x.1 x.2) tmps:=efold;rw [efold'];refine ziQ ?_;refine h hc.hok hlt E V _ _ ⟨hc,hz.1,hz.2⟩ fun ae e E' V' a' s' hk hat' he hΦ => ?_;cases ae <;> cases e <;> first
   | exact he.elim
   | exact hΦ.elim
   | skip
  obtain ⟨pe',fn',T',nt',ps',asg',body',df',hid',hw⟩:=hΦ;obtain ⟨hb',hch',tmps',ho',hsz',hT',hset⟩:=hat'.conc.setLoop hid';refine ⟨_,ho',hch',rfl,?_⟩;refine hw E' _ a' _ ⟨hset .busy pe',hat'.tok,hat'.size⟩ fun ae e E'' V'' a'' s'' hk2 hat'' he2 hΦ2 => ?_;have fin : ∀ (st' : LoopState) (pe2 : Option Code) (b : Bool),(∃ r st pe fn T nt ps asg body df,s''.H[id]? = some (.loop r st pe fn T nt ps asg body df) /\ zly H.length (s''.H.set id (.loop r st' pe2 fn T nt ps asg body df)) (.val (.bool b)) k) ->
    ∃ r,V''.own l = some (.loop r) /\ V''.role.chan ≠ some l /\ RetC E V k kp (.ret (.bool b)) (V''.upd l (.loop { r with state:=st',pending:=pe2 })):=by
   intro st' pe2 b ⟨r,st,pe3,fn3,T3,nt3,ps3,asg3,body3,df3,hid3,hend⟩;obtain ⟨hb3,hch3,tmps3,ho3,hsz3,hT3,hset3⟩:=hat''.conc.setLoop hid3;have hlt : id < E.n:=(by rw [hc.n]; exact (List.getElem?_eq_some_iff.1 hid).1);have hle : E.Le E'':=hk.le.trans hk2.le;have hr : r = l:=(by rw [<- hb3,<- hb]; exact hle.blk id hlt);subst hr;obtain ⟨x,E4,H4,q1,q2,q3,q4⟩:=zbP hend (hset3 st' pe2) (.val _) hle hc.n;exact ⟨_,ho3,hch3,x,E4,H4,q1,hk2.role.trans hk.role,hk2.deaf.trans hk.deaf,q2,q3,q4⟩
  cases ae <;> cases e <;> first
   | exact he2.elim
   | exact hΦ2.elim
   | exact fin .ready none true hΦ2
   | exact fin .done (some .ret) false hΦ2
def Marks (E : Env) (ms : List Nat) (l : List Deferred) : Prop:=l = ms.map (fun i => ({ target:=.collected (E.blk i),args:=#[] } : Deferred)) /\ ∀ i ∈ ms,i < E.n
theorem Marks.mono {E E' : Env} (h : E.Le E') {ms : List Nat} {l : List Deferred} (k : Marks E ms l) : Marks E' ms l :=
 ⟨by rw [k.1]; exact List.map_congr_left fun i hi => by rw [h.blk i (k.2 i hi)],fun i hi => Nat.lt_of_lt_of_le (k.2 i hi) h.n⟩
def AWPm (lv : Bool) (P : Program) (nt : Nat) (c : Code) (s : AS) (ms : List Nat) (Φ : AEx -> AS -> List Nat -> Prop) : Prop :=
 ∀ (E : Env) (V : View) (a : Act) (Q : Ex -> Act -> View -> Prop),At E V s a nt -> Marks E ms a.defers -> (∀ ae e E' V' a' s' ms',KeptD E E' V V' a a' -> At E' V' s' a' nt -> Marks E' ms' a'.defers -> ExDen E' ae e -> Φ ae s' ms' -> Q e a' V') -> WP lv P none c Q a V
variable {s : AS} {ms : List Nat} {nt : Nat}
theorem zle {c : Code} {Φ : AEx -> AS -> List Nat -> Prop} (h : AWP lv P none nt c s fun e s' => Φ e s' ms) : AWPm lv P nt c s ms Φ:=fun E V a Q hat hd hQ =>
 h E V a Q hat fun ae e E' V' a' s' hk hat' he hΦ => hQ ae e E' V' a' s' ms hk.d hat' (by rw [hk.defers]; exact hd.mono hk.le) he hΦ
def AEx.thenM (next : AS -> List Nat -> Prop) (Φ : AEx -> AS -> List Nat -> Prop) : AEx -> AS -> List Nat -> Prop
 | .normal,s,ms => next s ms
 | e,s,ms => Φ e s ms
theorem zis {x y : Code} {Φ : AEx -> AS -> List Nat -> Prop} (h : AWPm lv P nt x s ms (AEx.thenM (fun s' ms' => AWPm lv P nt y s' ms' Φ) Φ)) : AWPm lv P nt (.seq x y) s ms Φ:=by
 intro E V a Q hat hd hQ;refine zaV (h E V a _ hat hd fun ae e E' V' a' s' ms' hk hat' hd' he hΦ => ?_);cases ae <;> cases e <;> first
  | exact he.elim
  | exact hΦ E' V' a' Q hat' hd' fun ae e E'' V'' a'' s'' ms'' hk' hat'' hd'' he' hΦ' => hQ ae e E'' V'' a'' s'' ms'' (hk.trans hk') hat'' hd'' he' hΦ'
  | exact hQ _ _ E' V' a' s' ms' hk hat' hd' he hΦ
theorem zeS {x y : Code} {Φ : AEx -> AS -> List Nat -> Prop} (h : AWP lv P none nt x s (AEx.then (fun s' => AWPm lv P nt y s' ms Φ) fun e s' => Φ e s' ms)) : AWPm lv P nt (.seq x y) s ms Φ:=by
 refine zis (zle (h.mono fun e s' hs => ?_));cases e <;> exact hs
def zr4 (Φ : AEx -> AS -> List Nat -> Prop) (s : AS) (ms : List Nat) : Option Code -> Prop
 | none => Φ .normal s ms
 | some .ret => Φ .ret s ms
 | some (.exit i) => Φ (.exit i) s ms
 | some (.goto i) => Φ (.goto i) s ms
 | _ => False
theorem zjy {f : Operand} {ps : Array Tmp} {asg body : Code} {fv : AV} {Φ : AEx -> AS -> List Nat -> Prop} (hf : s.ev f = some fv)
  (h : ∀ l fn : Nat,CallC lv P fv (s.H ++ [.obj (.deferred (some [])),.loop l .ready none fn s.T nt ps asg body s.H.length]) [.fn (.yield l) [] []]
   (fun _ H' => ∃ st pe fn' T' nt' ps' asg' body' df',H'[s.H.length + 1]? = some (.loop l st pe fn' T' nt' ps' asg' body' df') /\ st ≠ .busy /\ zr4 Φ ⟨s.T,H'.set (s.H.length + 1) .gone⟩ (s.H.length :: ms) pe)
   (fun pv H' => Φ (.panic pv) ⟨s.T,H'⟩ (s.H.length :: ms))) : AWPm lv P nt (.rangeFunc f ps asg body) s ms Φ:=by
 intro E V a Q hat hm hQ;refine zoQ fun fn d l hd hl => ?_;have hc:=hat.conc;have hc1 : Conc (E.add d V.imm) (V.upd d (.deferred (some []))) (s.H ++ [.obj (.deferred (some []))]):=by
  refine hc.add hd _ ⟨?_,rfl,rfl,fun o => ?_⟩ (fun b e => ?_)
  ·rw [Env.add_blk]; simp [View.upd]
  ·rw [Env.add_blk]; exact hd.2 o
  ·simp only [zfE,Env.add_blk,Option.some.injEq] at e; exact e.symm
 have hle1 : E.Le (E.add d V.imm):=E.le_add d (fun b o v h => by rw [<- hc.I]; exact h);have hbd : (E.add d V.imm).blk s.H.length = d:=by rw [<- hc.n]; exact E.add_blk d _
 let E1:=E.add d V.imm;let V1:=V.upd d (.deferred (some []));have hn1 : E1.n = s.H.length + 1:=by rw [hc1.n]; simp
 have hle2 : E1.Le (E1.add l V1.imm):=E1.le_add l (fun b o v h => by rw [<- hc1.I]; exact h);have hc2 : Conc (E1.add l V1.imm) (V1.upd l (.loop { state:=.ready,pending:=none,fn,tmps:=a.tmps,params:=ps,assign:=asg,body,defers:=d })) ((s.H ++ [.obj (.deferred (some []))]) ++ [.loop l .ready none fn s.T nt ps asg body s.H.length]):=by
  refine hc1.add hl _ ⟨⟨a.tmps,?_,hat.size,(hat.tok.mono hle1).mono hle2⟩,?_,fun o => ?_,?_⟩ (fun b e => ?_)
  ·have e : (E1.add l V1.imm).blk s.H.length = d:=(by rw [hle2.blk s.H.length (by rw [hn1]; omega)]; exact hbd);rw [e,Env.add_blk]; simp [View.upd]
  ·show s.H.length < E1.n + 1; omega
  ·rw [Env.add_blk]; exact hl.2 o
  ·exact Env.add_blk _ _ _
  ·simp only [zfE,Env.add_blk,Option.some.injEq] at e; exact e.symm
 have hle : E.Le (E1.add l V1.imm):=hle1.trans hle2;have hbl : (E1.add l V1.imm).blk (s.H.length + 1) = l:=by rw [<- hn1]; exact E1.add_blk l _
 have hbd2 : (E1.add l V1.imm).blk s.H.length = d:=by rw [hle2.blk s.H.length (by rw [hn1]; omega)]; exact hbd
 rw [List.append_assoc] at hc2;have hm2 : ∀ E',(E1.add l V1.imm).Le E' -> Marks E' (s.H.length :: ms) (mark a d).defers:=fun E' hE => by
  refine Marks.mono hE ⟨?_,fun i hi => ?_⟩
  ·have:=(hm.mono hle).1;simp only [mark,List.map_cons,hbd2];rw [<- this]
  ·rcases List.mem_cons.1 hi with rfl | hi
   ·show _ < E1.n + 1; omega
   ·exact Nat.lt_of_lt_of_le (hm.2 i hi) hle.n
 have hdf:=Den.ev hat.tok hf;have hcall:=h l fn (E1.add l V1.imm) (V1.upd l (.loop { state:=.ready,pending:=none,fn,tmps:=a.tmps,params:=ps,assign:=asg,body,defers:=d })) (a.eval f) #[.func (.yield l) #[] #[]] hc2 (hdf.mono hle) ⟨rfl,fun i x hx => by
  match i,hx with
  | 0,hx => cases hx; exact .fn rfl rfl (by simp) (by simp)⟩
 have key : ∀ o V',RetC (E1.add l V1.imm) (V1.upd l (.loop { state:=.ready,pending:=none,fn,tmps:=a.tmps,params:=ps,assign:=asg,body,defers:=d }))
   (fun _ H' => ∃ st pe fn' T' nt' ps' asg' body' df',H'[s.H.length + 1]? = some (.loop l st pe fn' T' nt' ps' asg' body' df') /\ st ≠ .busy /\ zr4 Φ ⟨s.T,H'.set (s.H.length + 1) .gone⟩ (s.H.length :: ms) pe)
   (fun pv H' => Φ (.panic pv) ⟨s.T,H'⟩ (s.H.length :: ms)) o V' -> zn4 l d Q a o V':=by
  intro o V' hr;cases o with
  | ret v =>
   obtain ⟨av,E',H',hE,hro,hde,_,hc',st,pe,fn',T',nt',ps',asg',body',df',hid,hst,hp⟩:=hr;obtain ⟨hb',hch',tmps',ho',hsz',hT',hset⟩:=hc'.setLoop hid;refine ⟨_,ho',hch',hst,?_⟩;have hg : Conc E' (V'.upd l (.loop { state:=.exhausted,pending:=pe,fn:=fn',tmps:=tmps',params:=ps',assign:=asg',body:=body',defers:=E'.blk df' })) (H'.set (s.H.length + 1) .gone):=hc'.setGone _ hid _ (by simp only [zfE,hb']);have hat' : At E' (V'.upd l (.loop { state:=.exhausted,pending:=pe,fn:=fn',tmps:=tmps',params:=ps',assign:=asg',body:=body',defers:=E'.blk df' })) ⟨s.T,H'.set (s.H.length + 1) .gone⟩ (mark a d) nt:=⟨hg,hat.tok.mono (hle.trans hE),hat.size⟩;have hkd : KeptD E E' V (V'.upd l (.loop { state:=.exhausted,pending:=pe,fn:=fn',tmps:=tmps',params:=ps',assign:=asg',body:=body',defers:=E'.blk df' })) a (mark a d):=⟨hle.trans hE,rfl,hro,hde⟩;dsimp only
   match pe,hp,hat',hkd with
   | none,hp,hat',hkd => exact hQ .normal .normal E' _ _ _ _ hkd hat' (hm2 E' hE) trivial hp
   | some .ret,hp,hat',hkd => exact hQ .ret .ret E' _ _ _ _ hkd hat' (hm2 E' hE) trivial hp
   | some (.exit i),hp,hat',hkd => exact hQ (.exit i) (.exit i) E' _ _ _ _ hkd hat' (hm2 E' hE) rfl hp
   | some (.goto i),hp,hat',hkd => exact hQ (.goto i) (.goto i) E' _ _ _ _ hkd hat' (hm2 E' hE) rfl hp
  | panic ch =>
   obtain ⟨pv,v,E',H',rfl,hE,hro,hde,hden,hc',hp⟩:=hr;exact hQ (.panic pv) (.panic _) E' V' (mark a d) ⟨s.T,H'⟩ _ ⟨hle.trans hE,rfl,hro,hde⟩ ⟨hc',hat.tok.mono (hle.trans hE),hat.size⟩ (hm2 E' hE) ⟨v,rfl,hden⟩ hp
 exact hcall.mono (fun nx V' hn => Nx.mono key hn) (fun v V' hr => key _ _ hr)
def UnwM (P : Program) (fn : Func) (R : Out -> View -> Prop) : List Deferred -> FrameMode -> Array Value -> View -> Prop
 | [],.returning,tmps,V => ∃ v,SemOk P V (results fn tmps) (fun x V' => x = v /\ V' = V) (fun _ _ => False) /\ R (.ret v) V
 | [],.panicking ch,_,V => R (.panic ch) V
 | d :: ds,md,tmps,V => (md matches .run) = false /\ ∃ b,d = { target:=.collected b,args:=#[] } /\ V.own b = some (.deferred (some [])) /\ V.role.chan ≠ some b /\ UnwM P fn R ds md tmps (V.upd b (.deferred none))
 | [],.run,_,_ => False
theorem zcE {f : FuncId} {fn : Func} {kd : CallKind} {R : Out -> View -> Prop} (hf : P.funcs[f]? = some fn) {main : Bool} {J : View -> Goroutine -> Prop} (C : Closed lv P main J) {cs : List Frame} (hR : ∀ o V' fr',R o V' -> zm4 P fr' f kd o V' -> J V' (G fr' cs)) : ∀ (ds : List Deferred) (md : FrameMode) (V : View) (fr : Frame),fr.fn = f -> fr.kind = kd -> fr.mode = md -> fr.defers = ds -> UnwM P fn R ds md fr.tmps V -> J V (G fr cs)
 | [],.returning,V,fr,h1,h2,h3,h4,h => by
  obtain ⟨v,hs,hr⟩:=h;exact hR _ _ _ hr ⟨h1,h4,h2,fn,hf,h3,hs⟩
 | [],.panicking ch,V,fr,h1,h2,h3,h4,h => hR _ _ _ h ⟨h1,h4,h2,fn,hf,h3⟩
 | [],.run,_,_,_,_,_,_,h => h.elim
 | d :: ds,md,V,fr,h1,h2,h3,h4,h => by
  obtain ⟨hm,b,rfl,ho,hch,hu⟩:=h;refine C.step _ _ rfl fun w hw => ?_;obtain ⟨es,w',V',k1,k2,k3⟩:=(zdi (P:=P) ho hch).runs hw;rcases k3 with ⟨x,k3,rfl,rfl⟩ | ⟨_,_,hx⟩
  ·refine ⟨G { fr with defers:=ds } cs,w',seen P fr.fn es,_,?_,k1.seen P fr.fn,?_⟩
   ·have e : ∀ main,stepG P main (G fr cs) w = unwind P main fr cs none w:=fun main => by
     cases md with
     | run => cases hm
     | returning => simp [G,stepG,h3]
     | panicking ch => simp [G,stepG,h3]
    rw [e];simp only [unwind,h4];simp [Sem.runT_eq,k3,k2,GStep.after,G]
   ·exact zcE hf C hR ds md _ { fr with defers:=ds } h1 h2 h3 rfl hu
  ·exact hx.elim
def EndsM (P : Program) (fn : Func) (R : Out -> View -> Prop) : Ex -> Act -> View -> Prop
 | .normal,a,V | .ret,a,V => UnwM P fn R a.defers .returning a.tmps V
 | .panic ch,a,V => UnwM P fn R a.defers (.panicking ch) a.tmps V
 | _,_,_ => False
theorem zhN {f : FuncId} {fn : Func} {c : Code} {args : Array Value} {kd : CallKind} {V : View} {R : Out -> View -> Prop} (hk : kd ≠ .early) (hf : P.funcs[f]? = some fn) (hb : fn.body = some c)
  (h : WP lv P none c (EndsM P fn R) { tmps:=args ++ Array.replicate (fn.ntmps - args.size) undef,defers:=[] } V) : Body lv P f args kd V R:=by
 intro main J C cs hR;let b : Frame:={ (default : Frame) with fn:=f,kind:=kd,roundOf:=none };have henter : Frame.enter P f args kd = on b { tmps:=args ++ Array.replicate (fn.ntmps - args.size) undef,defers:=[] } [.code c]:=by
  simp [Frame.enter,on,hf,hb,b]
 rw [henter];refine h main J C b [] cs hk rfl fun e a' V' q => ?_;cases e with
 | normal => exact C.idle rfl (fun w => zkd rfl) (zcE hf C hR _ _ _ _ rfl rfl rfl rfl q)
 | ret => intro k; exact C.idle rfl (fun w => zj9 rfl) (zcE hf C hR _ _ _ _ rfl rfl rfl rfl q)
 | panic ch => intro todo; exact zcE hf C hR _ _ _ _ rfl rfl rfl rfl q
 | exit id => exact q.elim
 | goto l => exact q.elim
def zmW : List Nat -> List AObj -> Option (List AObj)
 | [],H => some H
 | i :: ms,H => match H[i]? with
  | some (.obj (.deferred (some []))) => zmW ms (H.set i .gone)
  | _ => none
def zno (P : Program) (rs : List ResultVar) (n : Nat) (k kp : AV -> List AObj -> Prop) : AEx -> AS -> List Nat -> Prop
 | .normal,s,ms | .ret,s,ms => one1 (zmW ms s.H) fun H' => one1 (resAll P ⟨s.T,H'⟩ rs) fun l => zly n H' (resTup l) k
 | .panic pv,s,ms => one1 (zmW ms s.H) fun H' => zly n H' pv kp
 | _,_,_ => False
theorem zg5 {fn : Func} {R : Out -> View -> Prop} {tmps : Array Value} {md : FrameMode} (hm : (md matches .run) = false) : ∀ (ms : List Nat) (H H' : List AObj) (E : Env) (V : View) (l : List Deferred),zmW ms H = some H' -> Conc E V H -> Marks E ms l -> (∀ V',V'.role = V.role -> V'.deaf = V.deaf -> Conc E V' H' -> UnwM P fn R [] md tmps V') -> UnwM P fn R l md tmps V
 | [],H,H',E,V,l,hg,hc,hmk,hk => by
  cases hg;have : l = []:=hmk.1;subst this;exact hk V rfl rfl hc
 | i :: ms,H,H',E,V,l,hg,hc,hmk,hk => by
  simp only [zmW] at hg;split at hg
  ·rename_i hi;obtain ⟨e,hlt⟩:=hmk;simp only [List.map_cons] at e;subst e;obtain ⟨p1,p2,p3,p4⟩:=hc.obj i _ hi;exact ⟨hm,_,rfl,p1,(hc.notGroup hi rfl).2,zg5 hm ms _ H' E _ _ hg (hc.setGone _ hi _ rfl) ⟨rfl,fun j hj => hlt j (by simp [hj])⟩ fun V' h1 h2 h3 => hk V' h1 h2 h3⟩
  ·cases hg
theorem zjj {f : FuncId} {fn : Func} {c : Code} {rs : List ResultVar} {nt : Nat} {H : List AObj} {args : List AV} {k kp : AV -> List AObj -> Prop} (hf : P.funcs[f]? = some fn) (hb : fn.body = some c) (hr : fn.results = rs.toArray) (hn : fn.ntmps = nt) (hargs : args.length <= nt)
  (h : HOk H -> (∀ a ∈ args,Lt H.length a) -> AWPm lv P nt c ⟨zf5 0 args,H⟩ [] (zno P rs H.length k kp)) : FnC lv P f H args k kp:=by
 intro E V vs hc hd;have hlt : ∀ a ∈ args,Lt H.length a:=fun a ha => by
  obtain ⟨i,hi⟩:=zbF ha;rw [<- hc.n]; exact (hd.2 i a hi).lt
 have hat:=zeU (nt:=nt) hc hd hargs;refine zhN (by simp) hf hb ?_;rw [hn];refine h hc.hok hlt E V _ _ hat ⟨rfl,by simp⟩ fun ae e E' V' a' s' ms' hk hat' hm' he hΦ => ?_;have fin : zno P rs H.length k kp .ret s' ms' -> UnwM P fn (RetC E V k kp) a'.defers .returning a'.tmps V':=fun hΦ => by
  obtain ⟨H',hg,hΦ⟩:=one1.out hΦ;exact zg5 rfl ms' _ H' E' V' _ hg hat'.conc hm' fun V'' h1 h2 h3 => zia (s':=⟨s'.T,H'⟩) (a':=a') hr ⟨h3,hat'.tok,hat'.size⟩ hk.le hc.n (h1.trans hk.role) (h2.trans hk.deaf) hΦ
 cases ae <;> cases e <;> first
  | exact he.elim
  | exact fin hΦ
  | exact hΦ.elim
  | skip
 rename_i pv ch;obtain ⟨v,hch,hden⟩ : ∃ v,ch = [{ v,recovered:=false }] /\ Den E' pv v:=he;subst hch;obtain ⟨H',hg,hΦ⟩:=one1.out hΦ;refine zg5 rfl ms' _ H' E' V' _ hg hat'.conc hm' fun V'' h1 h2 h3 => ?_;obtain ⟨b,E'',H'',r1,r2,r3,r4⟩:=zbP hΦ h3 hden hk.le hc.n;exact ⟨b,v,E'',H'',rfl,r1,h1.trans hk.role,h2.trans hk.deaf,r2,r3,r4⟩
end
end Go.Gg
