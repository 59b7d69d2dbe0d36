/- The law KeyWorn answers true at every list of numbers, on every schedule. No condition. -/
import Derived.Test.YtoaaoiipickclaaGreatR05
set_option linter.all false
namespace Go.Gg
open Go.Conc Go.Proofs
theorem F.AppOf_50_50 : AppOf Tryz.prog 50 50 = (some (52, (2, (.agg #[(.int .i64 0), (.bool false)])))) := by kernel_rfl
theorem F.ElemOf_155 : ElemOf Tryz.prog 155 = (some (3, (1, false))) := by kernel_rfl
theorem F.IdxOf_155 : IdxOf Tryz.prog 155 = (some ((some 3), 1)) := by kernel_rfl
theorem F.Ty_155 : Ty Tryz.prog 155 = (some (3, true)) := by kernel_rfl
theorem F.ZeroOf_155 : ZeroOf Tryz.prog 155 = (some (.agg #[(.bool false), (.bool false), (.bool false)])) := by kernel_rfl
theorem F.f6 : Tryz.prog.funcs[6]? = some Tryz.f6 := by kernel_rfl
theorem F.f12 : Tryz.prog.funcs[12]? = some Tryz.f12 := by kernel_rfl
theorem F.f28 : Tryz.prog.funcs[28]? = some Tryz.f28 := by kernel_rfl
theorem F.f50 : Tryz.prog.funcs[50]? = some Tryz.f50 := by kernel_rfl
theorem F.f59 : Tryz.prog.funcs[59]? = some Tryz.f59 := by kernel_rfl
theorem F.f61 : Tryz.prog.funcs[61]? = some Tryz.f61 := by kernel_rfl
theorem F.f65 : Tryz.prog.funcs[65]? = some Tryz.f65 := by kernel_rfl
theorem F.f69 : Tryz.prog.funcs[69]? = some Tryz.f69 := by kernel_rfl
theorem F.f71 : Tryz.prog.funcs[71]? = some Tryz.f71 := by kernel_rfl
theorem F.f76 : Tryz.prog.funcs[76]? = some Tryz.f76 := by kernel_rfl
theorem F.f147 : Tryz.prog.funcs[147]? = some Tryz.f147 := by kernel_rfl
attribute [push_cast] F.AppOf_50_50 F.ElemOf_155 F.IdxOf_155 F.Ty_155 F.ZeroOf_155
def subsetsM (n : Nat) : Nat → Nat → List (List Int)
 | 0, _ => [[]]
 | k + 1, first => (List.range' first (n - k - first)).flatMap fun i => (subsetsM n k (i + 1)).map ((i : Int) :: ·)
def choicesM (n : Nat) : List (List Int) := (List.range (n + 1)).flatMap fun k => subsetsM n k 0
def butM (x : Ring) (but : List Int) : Nat → List Try
 | 0 => []
 | i + 1 => butM x but i ++ (match x.tries[i]? with | some r => if but.contains (i : Int) then [] else [r] | none => [])
def withoutR (x : Ring) (but : List Int) : Ring := ⟨x.cuts, x.keys, x.locks, butM x but x.tries.length⟩
def okAll (x : Ring) (row : List Int) (ts : List Try) : Bool := ts.all (triedM x row)
open Go.Conc Go.Proofs
section
variable {lv : Bool} {H : List AObj} {k kp : AV → List AObj → Prop}
end
section
variable {lv : Bool} {H : List AObj} {k kp : AV → List AObj → Prop}
end
open Go.Conc Go.Proofs
def outJ (n kk first j : Nat) : List (List Int) := (List.range' first j).flatMap fun i => (subsetsM n kk (i + 1)).map ((i : Int) :: ·)
section
variable {lv : Bool}
end
open Go.Conc Go.Proofs
def choicesTo (n j : Nat) : List (List Int) := (List.range j).flatMap fun k => subsetsM n k 0
section
variable {lv : Bool} {H : List AObj} {k kp : AV → List AObj → Prop}
end
open Go.Conc Go.Proofs
def listsM (n : Nat) : Nat → List (List Int)
 | 0 => [[]]
 | k + 1 => (List.range n).flatMap fun i : Nat => (listsM n k).map ((i : Int) :: ·)
def listJ (n kk j : Nat) : List (List Int) := (List.range j).flatMap fun i : Nat => (listsM n kk).map ((i : Int) :: ·)
section
variable {lv : Bool}
end
section
variable {lv : Bool} {H : List AObj} {k kp : AV → List AObj → Prop}
end
open Go.Conc Go.Proofs
def wearOk (x : Ring) (t : List Int) : Nat → Bool
 | 0 => true
 | k + 1 => wearOk x t k && (match x.keys[k]?, t[k]? with | some y, some w => decide (y.wear.min ≤ w) && decide (w ≤ y.wear.max) | _, _ => true)
def triesOk (x : Ring) (t : List Int) : Nat → Bool
 | 0 => true
 | i + 1 => triesOk x t i && (match x.tries[i]? with | some r => opensW x.keys t x.locks r.key r.lock == r.opens | none => true)
def fineW (x : Ring) (t : List Int) : Bool := wearOk x t x.keys.length && triesOk x t x.tries.length
def truthsL (x : Ring) : List (List Int) := (listsM 3 x.keys.length).filter (fineW x)
section
variable {lv : Bool} {H : List AObj} {k kp : AV → List AObj → Prop}
end
def rowOk (ks : List Key) (r : List Int) : Bool := (ks.zip r).all fun p => decide (p.1.wear.min ≤ p.2) && decide (p.2 ≤ p.1.wear.max)
def padR (n : Nat) (r : List Int) : List Int := r ++ List.replicate (4 - n) 0
open Go.Conc Go.Proofs
def differM (x : Ring) (t keys : List Int) (p q : Nat) : Bool := keys.any fun k => opensW x.keys t x.locks k p != opensW x.keys t x.locks k q
section
variable {lv : Bool} {H : List AObj} {k kp : AV → List AObj → Prop}
end
open Go.Conc Go.Proofs
def pairsL (x : Ring) (t keys : List Int) (n : Nat) : Bool := (List.range n).all fun b => (List.range b).all fun a => differM x t keys b a
def tellL (x : Ring) (keys : List Int) : Bool := (truthsL x).all fun t => pairsL x t keys x.locks.length
def TellIs (x : Ring) (g : List Int) (e : Int) : Prop := (truthsM x [] ≠ [] ∧ tellM x = some g ∧ e = 0) ∨ ((truthsM x [] = [] ∨ tellM x = none) ∧ g = [] ∧ e = 11)
section
variable {H : List AObj} {k kp : AV → List AObj → Prop}
end
open Go.Conc Go.Proofs
def bagL (x : Ring) (us : List Turn) (n : Nat) : Bool := (truthsL x).any fun t => us.all fun u => opensW x.keys t x.locks u.key n == u.opens
def dueL (x : Ring) (us : List Turn) (n : Nat) : List Int := ((List.range n).filter (bagL x us)).map fun i : Nat => (i : Int)
def UsOk (x : Ring) (us : List Turn) : Prop := ∀ u ∈ us, 0 ≤ u.key ∧ u.key ≤ (x.keys.length : Int) - 1
def WhichIs (x : Ring) (us : List Turn) (g : List Int) (e : Int) : Prop := (truthsM x [] ≠ [] ∧ g = whichM x us ∧ e = 0) ∨ (truthsM x [] = [] ∧ g = [] ∧ e = 11)
section
variable {H : List AObj} {k kp : AV → List AObj → Prop}
end
open Go.Conc Go.Proofs
section
variable {H : List AObj} {k kp : AV → List AObj → Prop}
end
open Go.Conc Go.Proofs
def wearsFl (x : Ring) (n : Int) : Option Int := if inM n 0 (x.keys.length - 1) then none else some 0
def metB (ts : List (List Int × Nat)) (n w : Nat) : Bool := ts.any fun y => y.1.getD n 0 == (w : Int)
def wearsTo (ts : List (List Int × Nat)) (n i : Nat) : List Int := ((List.range i).filter (metB ts n)).map fun i : Nat => (i : Int)
def wearsM (x : Ring) (n : Nat) : List Int := wearsTo (truthsM x []) n 3
section
variable {lv : Bool} {H : List AObj} {k kp : AV → List AObj → Prop}
end
open Go.Conc Go.Proofs
def metL (D : List (List Int)) (k w : Nat) : Bool := D.any fun t => t.getD k 0 == (w : Int)
def dueW (D : List (List Int)) (k i : Nat) : List Int := ((List.range i).filter (metL D k)).map fun i : Nat => (i : Int)
def someW (x : Ring) (D : List (List Int)) (k l : Nat) : Nat := (D.filter fun t => opensW x.keys t x.locks k l).length
def endE (x : Ring) : Int := if truthsL x = [] then 11 else 0
section
variable {H : List AObj} {k kp : AV → List AObj → Prop}
end
open Go.Conc
structure Kept3 (X Y Z : Prop) : Type where
 n : Nat
def UG (a : AV) (want : Bool) (X Y Z : Prop) (_t : Kept3 X Y Z) : Prop := (∃ b, a = .val (.bool b) ∧ (b = want → X) ∧ (b = !want → Y)) ∨ (a = .val undef ∧ Z)
theorem ug_b {b want : Bool} {X Y Z : Prop} {t : Kept3 X Y Z} : UG (.val (.bool b)) want X Y Z t = ((b = want → X) ∧ (b = !want → Y)) := by
 unfold UG;refine propext ⟨fun h => ?_, fun h => .inl ⟨b, rfl, h⟩⟩;rcases h with ⟨b', e, h⟩ | ⟨e, _⟩
 ·cases e; exact h
 ·cases e
theorem ug_tt (X Y Z : Prop) (t : Kept3 X Y Z) : UG (.val (.bool true)) true X Y Z t = X := by rw [ug_b]; simp
theorem ug_tf (X Y Z : Prop) (t : Kept3 X Y Z) : UG (.val (.bool true)) false X Y Z t = Y := by rw [ug_b]; simp
theorem ug_ft (X Y Z : Prop) (t : Kept3 X Y Z) : UG (.val (.bool false)) true X Y Z t = Y := by rw [ug_b]; simp
theorem ug_ff (X Y Z : Prop) (t : Kept3 X Y Z) : UG (.val (.bool false)) false X Y Z t = X := by rw [ug_b]; simp
theorem ug_u (want : Bool) (X Y Z : Prop) (t : Kept3 X Y Z) : UG (.val undef) want X Y Z t = Z := by
 unfold UG;refine propext ⟨fun h => ?_, fun h => .inr ⟨rfl, h⟩⟩;rcases h with ⟨b', e, _⟩ | ⟨_, h⟩
 ·cases e
 ·exact h
section
variable (lv : Bool) (P : Program)
def UOps (all : Array Oper) : List Oper → AS → (AS → Prop) → (AV → AS → Prop) → Prop
 | [], s, next, _ => next s
 | o :: rest, s, next, bad => match o.guard with
  | none => AStep lv P s o (fun s' => UOps all rest s' next bad) bad
  | some (j, want) => one1 ((all[j]?).bind (·.dst)) fun d => one1 (look s.T d) fun a => UG a want (AStep lv P ⟨(d, .val (.bool want)) :: s.T, s.H⟩ o (fun s' => UOps all rest s' next bad) bad) (UOps all rest ((⟨(d, .val (.bool !want)) :: s.T, s.H⟩ : AS).put o.dst (.val undef)) next bad) (UOps all rest (s.put o.dst (.val undef)) next bad) ⟨0⟩
end
theorem uOps_n : type_of% @UOps.eq_1 := by intros; rw [UOps.eq_1]
theorem uOps_c : type_of% @UOps.eq_2 := by intros; rw [UOps.eq_2]
@[congr] theorem uOps_congr {lv : Bool} {P : Program} {s s' : AS} {all : Array Oper} {l : List Oper} {next : AS → Prop} {bad : AV → AS → Prop} (h : s = s') : UOps lv P all l s next bad = UOps lv P all l s' next bad := by rw [h]
attribute [push_cast] uOps_n uOps_c ug_tt ug_tf ug_ft ug_ff ug_u
section
variable {lv : Bool} {P : Program} {r : Option Nat} {s : AS}
end
open Go.Conc Go.Proofs
section
variable {lv : Bool} {H : List AObj} {k kp : AV → List AObj → Prop}
end
open Go.Conc Go.Proofs
def lastF (x : Ring) (m : Nat) (ds : List Int) : Bool := (List.range (m + 1)).all fun n : Nat => openedM x.cuts (wornM n ds) x.locks x.locks.length == 2 ^ x.locks.length - 1
def masterTo (x : Ring) : Nat → Option (List Int × Nat)
 | 0 => none
 | m + 1 => match firstM x.cuts.toNat (lastF x m) with
  | some d => some (d, m)
  | none => masterTo x m
section
variable {lv : Bool} {H : List AObj} {k kp : AV → List AObj → Prop}
def masterD (i : Nat) : List AObj := (List.range i).map fun j : Nat => .cells [iv (2 - (j : Int))] 3
def masterO (H : List AObj) (x : Ring) (i : Nat) : List AObj := (H ++ [.cells x.l 26, .cells [.rp (x.l ++ opensL x)] 100, .cells [uv (2 ^ x.locks.length - 1 : Nat)] 110]) ++ masterD i
def masterS (H : List AObj) (x : Ring) (i : Nat) : AS := ⟨[(5, .op (H.length + 1) 0), (7, .op (H.length + 2) 0), (8, .op (H.length + 3 + i) 0)], masterO H x i ++ [.cells [iv (2 - (i : Int))] 3]⟩
end
def allW (x : Ring) (t : List Int) (w : Nat) : Bool := x.locks.all fun l => fitsM (wornM w t) l
def lastW (x : Ring) (t : List Int) : Nat → Int
 | 0 => -1
 | w + 1 => if lastW x t w = (w : Int) - 1 ∧ allW x t w = true then w else lastW x t w
def bestW (x : Ring) (L : List (List Int)) : Nat → Int × Int
 | 0 => (-1, -1)
 | i + 1 => if (bestW x L i).2 < lastW x (L.getD i []) 3 then ((i : Int), lastW x (L.getD i []) 3) else bestW x L i
open Go.Conc Go.Proofs
open Go.Conc Go.Proofs
def justL (x : Ring) (l t : List Int) : Bool := (List.range x.locks.length).all fun j : Nat => fitsM t (x.locks.getD j []) == decide ((j : Int) ∈ l)
def addK (x : Ring) (t : List Int) : Ring := ⟨x.cuts, x.keys ++ [⟨t, ⟨0, 0⟩⟩], x.locks, x.tries⟩
section
variable {H : List AObj} {k kp : AV → List AObj → Prop}
end
open Go.Conc Go.Proofs
def stepW (c : List Int) (n i : Nat) : List Int := wornM ((n : Int) + 1) (c.take i) ++ wornM n (c.drop i)
theorem stepW_zero (c : List Int) (n : Nat) : stepW c n 0 = wornM n c := by simp [stepW, wornM]
theorem stepW_all (c : List Int) (n : Nat) : stepW c n c.length = wornM ((n : Int) + 1) c := by simp [stepW, wornM]
theorem stepW_len (c : List Int) (n i : Nat) : (stepW c n i).length = c.length := by
 unfold stepW wornM;rw [List.length_append, List.length_map, List.length_map, List.length_take, List.length_drop]; omega
theorem stepW_at {c : List Int} {n i : Nat} {v : Int} (h : c[i]? = some v) : (stepW c n i)[i]? = some (max 0 (v - n)) := by
 have hl := get_lt h;have e : (wornM ((n : Int) + 1) (c.take i)).length = i := by unfold wornM; rw [List.length_map, List.length_take]; omega
 unfold stepW;rw [List.getElem?_append_right (by omega), e, Nat.sub_self];unfold wornM;rw [List.getElem?_map, List.getElem?_drop, Nat.add_zero, h]; rfl
theorem stepW_set {c : List Int} {n i : Nat} {v : Int} (h : c[i]? = some v) : (stepW c n i).set i (max 0 (v - ((n : Int) + 1))) = stepW c n (i + 1) := by
 obtain ⟨hj, rfl⟩ := List.getElem?_eq_some_iff.1 h;have e : (wornM ((n : Int) + 1) (c.take i)).length = i := by unfold wornM; rw [List.length_map, List.length_take]; omega
 unfold stepW;rw [List.set_append_right _ _ (by omega), e, Nat.sub_self, List.take_succ_eq_append_getElem hj, List.drop_eq_getElem_cons hj];unfold wornM;rw [List.map_append, List.map_cons, List.set_cons_zero];simp
theorem stepW_same {c : List Int} {n i : Nat} {v : Int} (h : c[i]? = some v) (h0 : ¬ 0 < max 0 (v - n)) : stepW c n (i + 1) = stepW c n i := by
 rw [← stepW_set h];have hm : max 0 (v - ((n : Int) + 1)) = max 0 (v - n) := by omega
 rw [hm];refine List.ext_getElem? fun j => ?_;by_cases hj : i = j
 ·subst hj;rw [List.getElem?_set_self (by rw [stepW_len]; exact get_lt h), stepW_at h]
 ·rw [List.getElem?_set_ne hj]
theorem worn_zero {c : List Int} (h : ∀ n ∈ c, 0 ≤ n ∧ n ≤ 3) : wornM 0 c = c := by
 unfold wornM
 conv => rhs; rw [← List.map_id c]
 exact List.map_congr_left fun v hv => by have := h v hv; simp; omega
theorem worn_law {x : Ring} (hx : x.Ok) {k n : Nat} {y : Key} (hy : x.keys[k]? = some y) : wornOf x k n = wornM n y.cuts := by
 have hc := hx.cuts;have hyc := (hx.key y (zas hy)).1;unfold wornOf;rw [hy];simp only;unfold wornM depthsM;rw [List.take_of_length_le (show y.cuts.length ≤ 4 by omega), List.map_append, List.take_append_of_le_length (by simp; omega), List.take_of_length_le (by simp; omega)]
section
variable {H : List AObj} {k kp : AV → List AObj → Prop}
theorem f30_k {x : Ring} {i n : Nat} {y : Key} (hmain : H[0]? = some .main) (hx : x.Ok) (hy : x.keys[i]? = some y) (hn : n ≤ 2) (h : k (.tup [aInts (wornM n y.cuts), iv 0]) H) : FnC true Tryz.prog 30 H [x.av, iv i, iv n] k kp := by
 have hil := get_lt hy;have hz : openE x (wornFl x i n) = 0 := zaN.2 ⟨zbH.2 hx, zg4.2 ⟨⟨by omega, by omega⟩, by omega, by omega⟩⟩;refine f30_c zaQ hmain hx.small (fun e => absurd hz e) (fun _ => ?_);rw [Int.toNat_natCast, Int.toNat_natCast, worn_law hx hy];exact h
end
open Go.Conc Go.Proofs
def allIn (n : Nat) (t : List Int) : Bool := (List.range n).all fun k : Nat => decide ((k : Int) ∈ t)
def ordersM (n : Nat) : List (List Int) := (listsM n n).filter (allIn n)
section
variable {lv : Bool} {H : List AObj} {k kp : AV → List AObj → Prop}
end
open Go.Conc Go.Proofs
def krO (N : Nat) (x : Ring) (z : AObj) (nk : Nat) (kl : List AV) (tk nl : Nat) (ll : List AV) (tl : Nat) : List AObj := [.cells x.l 26, z, .cells [iv x.cuts, .sl nk kl (.opn (N + 3)), .sl nl ll (.opn (N + 4)), aTries x.tries] 26, .tail tk 3 65, .tail tl 1 29]
section
variable {lv : Bool} {H : List AObj} {k kp : AV → List AObj → Prop}
end
open Go.Conc
section
variable {lv : Bool} {P : Program} {r : Option Nat} {o : Oper} {s : AS} {next : AS → Prop} {bad : AV → AS → Prop}
theorem step_appendOwn {c : Call} {x y : Operand} {t t' elem : TypeId} {sz n m : Nat} {z : Value} {l l' : List AV} {av : AV} (ho : o.op = .call c) (hcl : c.callee = .builtin .append) (hargs : c.args = #[x, y]) (hts : c.argTypes = #[t, t']) (ht : AppOf P t t' = some (elem, sz, z))
  (hx : s.ev x = some (.sl n l .exact)) (hy : s.ev y = some av) (hs : s.src sz av = some (m, l')) (hl : l.length = n * sz) (hl' : l'.length = m * sz) (hb : n + m ≤ 2 ^ 30) (hm : 0 < m) (hn : ∀ cap (pad : List AV), next ((⟨s.T, s.H ++ [.cells (l ++ l' ++ pad) elem]⟩ : AS).put o.dst (.osl s.H.length 0 (n + m) cap))) : Step lv P r o s next bad := by
 intro E V a N Q hc htk hd hdf h1 _;refine ⟨hdf, ?_⟩;have hdx := Den.ev htk hx;have hdy := Den.ev htk hy;generalize hvx : a.eval x = vx at hdx;generalize hvy : a.eval y = vy at hdy;unfold execOp; rw [ho];dsimp only;unfold resolve;rw [hcl];dsimp only;refine zac (semOk_pure' ?_);unfold invoke builtin;dsimp only;refine zac ?_;have hmap : c.args.map a.eval = #[vx, vy] := by rw [hargs]; simp [hvx, hvy]
 rw [hmap, hts];obtain ⟨base, cap, rfl⟩ : ∃ base cap, vx = .slice base n cap := by
  cases hdx with
  | sl b o cap f hcap he q1 q2 => exact ⟨_, _, rfl⟩
  | nil he => exact ⟨_, _, rfl⟩
 have hcn : cap = n := by
  cases hdx with
  | sl b o cap f hcap he q1 q2 => exact he
  | nil he => rfl
 subst hcn;refine zb1 hc ht hdx hdy hs hl hl' hb (by omega) fun rr cs cap' hf hden hle hsz => ?_;have hsum : (l ++ l').length = (cap + m) * sz := by rw [List.length_append, hl, hl', Nat.add_mul]
 have hsize : (cap + m) * sz ≤ cs.size := by rw [hsz]; exact Nat.mul_le_mul_right _ hle
 have hlE : E.Le (E.add rr V.imm) := E.le_add rr (fun b o v h => by rw [← hc.I]; exact h);have hdl : Denl (E.add rr V.imm) (l ++ l' ++ (cs.toList.drop ((cap + m) * sz)).map AV.val) cs := by
  refine ⟨by rw [List.length_append, hsum, List.length_map, List.length_drop, Array.length_toList]; omega, fun i x hx => ?_⟩;by_cases hi : i < (l ++ l').length
  ·rw [List.getElem?_append_left hi] at hx;have := (hden.2 i x hx).mono hlE;rw [Array.getD_eq_getD_getElem?, Array.getElem?_extract_of_lt (by omega)] at this;have hic : i < cs.size := (by omega);rw [Array.getD_eq_getD_getElem?];simpa [Array.getElem?_eq_getElem hic] using this
  ·rw [List.getElem?_append_right (by omega), List.getElem?_map, List.getElem?_drop] at hx;obtain ⟨v, hv, rfl⟩ := Option.map_eq_some_iff.1 hx;have hii : (cap + m) * sz + (i - (l ++ l').length) = i := (by omega);rw [hii, Array.getElem?_toList] at hv;rw [Array.getD_eq_getD_getElem?, hv];exact .val _
 have hc' : Conc (E.add rr V.imm) (V.upd rr (.cells cs elem)) (s.H ++ [.cells (l ++ l' ++ (cs.toList.drop ((cap + m) * sz)).map AV.val) elem]) := by
  refine hc.add hf _ ⟨⟨_, ?_, hdl⟩, fun o => ?_⟩ (fun b e => ?_)
  ·rw [Env.add_blk]; simp [View.upd]
  ·rw [Env.add_blk]; exact hf.2 o
  ·simp only [blkOf, Env.add_blk, Option.some.injEq] at e; exact e.symm
 have hdn : Den (E.add rr V.imm) (.osl s.H.length 0 (cap + m) cap') (.slice (some ⟨rr, 0, none⟩) (cap + m) cap') := by
  have := Den.osl (E := E.add rr V.imm) (id := s.H.length) (off := 0) (n := cap + m) (cap := cap') (by show _ < E.n + 1; rw [hc.n]; omega);have e : (E.add rr V.imm).blk s.H.length = rr := by rw [← hc.n]; exact E.add_blk rr _
  rwa [e] at this
 exact semOk_pure' (h1 _ _ (a.put o.dst _) _ ⟨hlE, zaA _ _ _, zaw _ _ _, rfl, rfl⟩ (by rw [zbx]; exact hc') (TOk.putd (s := ⟨s.T, s.H ++ [.cells (l ++ l' ++ (cs.toList.drop ((cap + m) * sz)).map AV.val) elem]⟩) (htk.mono hlE) hd hdn) (hn _ _))
end
section
variable (lv : Bool) (P : Program) (r : Option Nat)
def SOps : List Oper → AS → (AS → Prop) → (AV → AS → Prop) → Prop
 | [], s, K, _ => K s
 | o :: rest, s, K, bad => o.guard = none ∧ Step lv P r o s (fun s' => SOps rest s' K bad) bad
end
section
variable {lv : Bool} {P : Program} {r : Option Nat} {s : AS}
theorem sops_sound {nt : Nat} {all : Array Oper} {Φ : AEx → AS → Prop} (hdst : ∀ o ∈ all, ∀ d, o.dst = some d → d < nt) (hdef : ∀ o ∈ all, r = none ∨ isDefer o.op = false) : ∀ (n k : Nat) (s : AS), k + n = all.size → SOps lv P r (all.toList.drop k) s (Φ .normal) (fun pv s => Φ (.panic pv) s) →
  ∀ (E : Env) (V : View) (a : Act) (Q : Ex → Act → View → Prop), At E V s a nt → (∀ ae e E' V' a' s', Kept E E' V V' a a' → At E' V' s' a' nt → ExDen E' ae e → Φ ae s' → Q e a' V') → WPOps lv P r all Q (List.range' k n) a V
 | 0, k, s, hk, h, E, V, a, Q, hat, hQ => by
  have : all.toList.drop k = [] := by simp; omega
  rw [this] at h;exact hQ .normal .normal E V a s (Kept.refl E V a) hat trivial h
 | n + 1, k, s, hk, h, E, V, a, Q, hat, hQ => by
  have hlt : k < all.size := by omega
  have hd : all.toList.drop k = all[k] :: all.toList.drop (k + 1) := by
   rw [List.drop_eq_getElem_cons (by simpa using hlt)]; simp
  rw [hd] at h;have hmem : all[k] ∈ all := Array.getElem_mem hlt;have ho : all[k]? = some all[k] := Array.getElem?_eq_getElem hlt;simp only [List.range'_succ, WPOps, ho];obtain ⟨hg, h⟩ := h;have hw : Region.wanted all[k] (yielded all a.tmps) = true := by unfold Region.wanted; rw [hg]
  rw [if_pos hw];refine .inl (h E V a _ Q hat.conc hat.tok (fun d e => by rw [hat.size]; exact hdst _ hmem d e) (hdef _ hmem) (fun E' V' a' s' hk' hc' ht' hn => ?_) (fun E' V' s' pv v hk' hc' ht' hden hb => ?_))
  ·exact sops_sound hdst hdef n (k + 1) s' (by omega) hn E' V' a' Q ⟨hc', ht', hk'.size.trans hat.size⟩ (fun ae e E'' V'' a'' s'' hk'' hat'' he hΦ => hQ ae e E'' V'' a'' s'' (hk'.trans hk'') hat'' he hΦ)
  ·exact hQ (.panic pv) (.panic _) E' V' a s' hk' ⟨hc', ht', hat.size⟩ ⟨v, rfl, hden⟩ hb
theorem awp_regionS {nt id : Nat} {ops : Array Oper} {Φ : AEx → AS → Prop} (hd : dstsOk nt ops = true) (h : SOps lv P r ops.toList s (Φ .normal) (fun pv s => Φ (.panic pv) s)) : AWP lv P r nt (.region id ops false) s Φ := by
 intro E V a Q hat hQ;refine zda ?_;rw [List.range_eq_range'];exact sops_sound (Φ := Φ) (fun o ho d e => (dstsOk.out hd ho).1 d e) (fun o ho => .inr (dstsOk.out hd ho).2) ops.size 0 s (by omega) (by simpa using h) E V a Q hat hQ
end
open Go.Conc Go.Proofs
theorem drop_own {ys : List Int} {pad : List AV} {i : Nat} {y : Int} (h : ys[i]? = some y) : (ys.map iv ++ pad).drop i = iv y :: ((ys.drop (i + 1)).map iv ++ pad) := by
 have hl := get_lt h;obtain ⟨hj, rfl⟩ := List.getElem?_eq_some_iff.1 h;rw [List.drop_append_of_le_length (by simp; omega), ← List.map_drop, List.drop_eq_getElem_cons hj]; rfl
theorem set_own {ys : List Int} {pad : List AV} {i : Nat} {y : Int} (h : i < ys.length) : (ys.map iv ++ pad).take i ++ [iv y] ++ (ys.map iv ++ pad).drop (i + 1) = (ys.set i y).map iv ++ pad := by
 rw [List.take_append_of_le_length (by simp; omega), List.drop_append_of_le_length (by simp; omega), ← List.append_assoc, zfv h]
section
variable {lv : Bool} {H : List AObj} {k kp : AV → List AObj → Prop}
theorem f50_o {xs : List Int} {e : End} (h0 : 0 < xs.length) (hl : xs.length ≤ 2 ^ 30) (hk : ∀ cap pad, k (.osl H.length 0 xs.length cap) (H ++ [.cells (xs.map iv ++ pad) 3])) : FnC lv Tryz.prog 50 H [.sl xs.length (xs.map iv) e] k kp := by
 refine zak (rs := [.tmp 2]) (nt := 6) F.f50 rfl rfl rfl (by simp) fun hH hA => ?_;simp only [argsT, Nat.reduceAdd];have hlen : (xs.map iv).length = xs.length := by simp
 have htake : (xs.map iv).take xs.length = xs.map iv := List.take_of_length_le (by omega);(repeat apply zaa);refine zl5 ?_;simp only [push_cast, seval];(repeat apply zaa);refine awp_regionS (by kernel_rfl) ?_;refine ⟨rfl, AStep.sound ?_⟩;(try simp only [push_cast, seval]);refine ⟨rfl, AStep.sound ?_⟩;(try simp only [push_cast, seval]);refine ⟨rfl, step_appendOwn (n := 0) (m := xs.length) (l := []) (l' := xs.map iv) rfl rfl rfl rfl F.AppOf_30_30 (by simp only [push_cast, seval] <;> rfl) (by simp only [push_cast, seval] <;> rfl) (by simp only [push_cast, seval, htake]) rfl (by simp) (by omega) h0 fun cap pad => ?_⟩;(try simp only [push_cast, seval, List.nil_append]);refine ⟨rfl, AStep.sound ?_⟩;(try simp only [push_cast, seval, SOps]);(repeat apply zaa);refine zai ?_;simp only [push_cast, seval];exact zao (hk _ _)
theorem f34_o {xs ys : List Int} {id cap n : Nat} {pad : List AV} {e : End} (hn : n = ys.length) (hid : H[id]? = some (.cells (ys.map iv ++ pad) 3)) (hx : xs.length < 2 ^ 60) (hy : ys.length < 2 ^ 60) (hk : k (bv (decide (xs = ys))) H) : FnC lv Tryz.prog 34 H [.sl xs.length (xs.map iv) e, .osl id 0 n cap] k kp := by
 subst hn;refine zak (rs := [.tmp 4]) (nt := 26) F.f34 rfl rfl rfl (by simp) fun hH hA => ?_;simp only [argsT, Nat.reduceAdd];(repeat apply zaa);refine zl5 ?_;simp only [push_cast, seval];(repeat apply zaa);refine zl5 ?_;simp only [push_cast, seval];(repeat apply zaa);refine zae ?_;simp only [push_cast, seval];refine ⟨fun h => ?_, fun h => ?_⟩
 ·have h : xs ≠ ys := fun e => by subst e; simp at h
  (repeat apply zaa);refine zl5 ?_;simp only [push_cast, seval];(repeat apply zaa);refine zai ?_;simp only [push_cast, seval];rw [decide_eq_false h] at hk;exact zao hk
 ·have h : xs.length = ys.length := by
   have h : (xs.length : Int) = ys.length := (by simpa using h);omega
  (repeat apply zaa);refine zah ?_;simp only [push_cast, seval];(repeat apply zaa);refine zl5 ?_;simp only [push_cast, seval];(repeat apply zaa);refine zag ?_;refine zaB xs.length (fun i : Nat => [(5, iv i)]) (fun _ => _) (fun i => xs.take i = ys.take i) (fun _ _ => rfl) (by simp only [push_cast, seval, List.forall_mem_cons, List.not_mem_nil, false_imp_iff, implies_true, List.forall_mem_nil]; simp [zaf, Wk.refl]) rfl (fun _ _ _ => rfl) (by simp) (fun hHs hLt i hin hi R hR => ?_);(repeat apply zaa);refine zl5 ?_;simp only [push_cast, seval];(repeat apply zaa);refine zae ?_;simp only [push_cast, seval];refine ⟨fun h2 => ?_, fun h2 => ?_⟩
  ·have hlt : i < xs.length := (by omega);obtain ⟨x, hx1⟩ := zaE hlt;obtain ⟨y, hy1⟩ := zaE (xs := ys) (i := i) (by omega);(repeat apply zaa);refine zah ?_;simp only [push_cast, seval];(repeat apply zaa);refine zag ?_;(repeat apply zaa);refine zaT F.mixed 8 (by kernel_rfl) ?_;simp only [push_cast, seval, za2 hx1, drop_own hy1, hid, zaz hlt, zaz (get_lt hy1)];(repeat apply zaa);refine zae ?_;simp only [push_cast, seval];refine ⟨fun h3 => ?_, fun h3 => ?_⟩
   ·have h3 : xs ≠ ys := fun e => (by subst e; rw [hx1] at hy1; cases hy1; simp at h3);(repeat apply zaa);refine zl5 ?_;simp only [push_cast, seval];(repeat apply zaa);refine zai ?_;simp only [push_cast, seval];rw [decide_eq_false h3] at hk;exact zao hk
   ·have h3 : x = y := (by simpa using h3);(repeat apply zaa);refine zah ?_;simp only [push_cast, seval];(repeat apply zaa);refine zl5 ?_;simp only [push_cast, seval];refine hR _ ⟨hlt, zgb hx1 hy1 hi h3, ?_⟩;rw [zau _ (by omega)];exact (zax (zam rfl rfl) (by simp only [push_cast, seval]; simp [zaf, Wk.refl]))
  ·have hix : i = xs.length := (by omega);(repeat apply zaa);refine zaq ?_;simp only [push_cast, seval];(repeat apply zaa);refine zl5 ?_;simp only [push_cast, seval];(repeat apply zaa);refine zai ?_;simp only [push_cast, seval];have h3 : xs = ys := by
    rw [hix, List.take_length] at hi;rw [hi, h, List.take_length]
   rw [decide_eq_true h3] at hk;exact zao hk
end
open Go.Conc Go.Proofs
section
variable {H : List AObj} {k kp : AV → List AObj → Prop}
set_option maxRecDepth 4000 in
set_option maxHeartbeats 1000000 in
theorem f6_c {nums : List Int} (hmain : H[0]? = some .main) (hn : nums.length ≤ 2 ^ 50) (hk : k (bv true) H) : FnC true Tryz.prog 6 H [aInts nums] k kp := by
 have hmn : ∀ L : List AObj, (H ++ L)[0]? = some .main := fun L => zay hmain;refine zak (rs := [.tmp 2]) (nt := 68) F.f6 rfl rfl rfl (by simp) fun hH hA => ?_;simp only [argsT, Nat.reduceAdd];(repeat apply zaa);refine zl5 ?_;simp only [push_cast, seval];(repeat apply zaa);refine zl5 ?_;simp only [push_cast, seval];refine zl6 ((f26_c ?_));(try simp only [push_cast, seval]);refine zl6 ((f49_c (K := 4) (L := 2) (T := 0) (wr := false) (zjT H) (tinOk0 hn _) (by decide) (by decide) (by decide) (by decide) fun x ws τ hP hτ => ?_));(try simp only [push_cast, seval, Ring.av, Ring.l]);have hx := hP.ok (by decide) (by decide) (by decide);have hkl := hP.keys;have hc := hx.cuts;have w1 : ∀ i : Nat, i ≤ 1000 → IntKind.i64.wrap ((i : Int) + 1) = i + 1 := fun i _ => zau _ (by omega);clear hP hτ;(repeat apply zaa);refine zl5 ?_;simp only [push_cast, seval];(repeat apply zaa);refine zag ?_;refine zaB x.keys.length (fun q : Nat => [(5, iv q)]) (fun _ => _) (fun _ => True) (fun _ _ => rfl) (by simp only [push_cast, seval, List.forall_mem_cons, List.not_mem_nil, false_imp_iff, implies_true, List.forall_mem_nil]; simp [zaf, Wk.refl]) rfl (fun _ _ _ => rfl) trivial (fun hHs hLt q hqn hqo R hR => ?_);clear hLt;(repeat apply zaa);refine zl5 ?_;simp only [push_cast, seval, aKeys];(repeat apply zaa);refine zae ?_;simp only [push_cast, seval];refine ⟨fun h => ?_, fun h => ?_⟩
 ·have hql : q < x.keys.length := by omega
  obtain ⟨y, hy⟩ := zaE hql;obtain ⟨hyc, hyb, _⟩ := hx.key y (zas hy);have hwq := w1 q (by omega);(repeat apply zaa);refine zah ?_;simp only [push_cast, seval];(repeat apply zaa);refine zag ?_;(repeat apply zaa);refine zl5 ?_;simp only [push_cast, seval, zc2 hy, zaz hql, aKeys, aInts];refine zl6 ((f50_o (xs := y.cuts) (by omega) (by omega) fun cap pad => ?_));(try simp only [push_cast, seval]);(repeat apply zaa);refine zl5 ?_;simp only [push_cast, seval];(repeat apply zaa);refine zag ?_;refine zaB 3 (fun n : Nat => [(7, iv n)]) (fun n => H ++ [tinO τ, .cells [iv x.cuts, aKeys x.keys, aLocks x.locks, aTries x.tries] 26, .cells ((wornM n y.cuts).map iv ++ pad) 3]) (fun _ => True) (fun _ _ => rfl) (by simp only [push_cast, seval, List.forall_mem_cons, List.not_mem_nil, false_imp_iff, implies_true, List.forall_mem_nil]; simp [zaf, Wk.refl]) (by rw [show wornM ((0 : Nat) : Int) y.cuts = y.cuts from worn_zero hyb]; rfl) (fun _ _ _ => by simp) trivial (fun hHs2 hLt2 n hnn hno R2 hR2 => ?_);clear hHs2 hLt2;by_cases hn3 : n < 3
  ·have hle : decide ((n : Int) ≤ 2) = true := decide_eq_true (by omega);have hwn := w1 n (by omega);have hwl : (wornM n y.cuts).length = y.cuts.length := (by simp [wornM]);(repeat apply zaa);refine zl5 ?_;simp only [push_cast, seval, hle];(repeat apply zaa);refine zae ?_;simp only [push_cast, seval];(repeat apply zaa);refine zah ?_;simp only [push_cast, seval];(repeat apply zaa);refine zag ?_;(repeat apply zaa);refine zl5 ?_;simp only [push_cast, seval];refine zl6 ((f30_k (x := x) (i := q) (n := n) (hmn _) hx hy (by omega) ?_));(try simp only [push_cast, seval]);(repeat apply zaa);refine zl5 ?_;simp only [push_cast, seval, bne_self_eq_false, aInts];refine zl6 ((f34_o (xs := wornM n y.cuts) (ys := wornM n y.cuts) (pad := pad) hwl.symm (by simp only [push_cast, seval] <;> rfl) (by omega) (by omega) ?_));(try simp only [push_cast, seval, decide_true]);(repeat apply zaa);refine zae ?_;simp only [push_cast, seval];(repeat apply zaa);refine zah ?_;simp only [push_cast, seval];(repeat apply zaa);refine zl5 ?_;simp only [push_cast, seval];(repeat apply zaa);refine zag ?_;refine zaB y.cuts.length (fun i : Nat => [(10, iv i)]) (fun i => H ++ [tinO τ, .cells [iv x.cuts, aKeys x.keys, aLocks x.locks, aTries x.tries] 26, .cells ((stepW y.cuts n i).map iv ++ pad) 3]) (fun _ => True) (fun _ _ => rfl) (by simp only [push_cast, seval, List.forall_mem_cons, List.not_mem_nil, false_imp_iff, implies_true, List.forall_mem_nil]; simp [zaf, Wk.refl]) (by rw [stepW_zero]) (fun _ _ _ => by simp) trivial (fun hHs2 hLt2 i hin hio R3 hR3 => ?_);clear hHs2 hLt2;(repeat apply zaa);refine zl5 ?_;simp only [push_cast, seval];(repeat apply zaa);refine zae ?_;simp only [push_cast, seval];refine ⟨fun h3 => ?_, fun h3 => ?_⟩
   ·have hil : i < y.cuts.length := (by omega);obtain ⟨v, hv⟩ := zaE hil;have hvb := hyb v (zas hv);have hwi := w1 i (by omega);have hat := stepW_at (n := n) hv;have hsl := stepW_len y.cuts n i;have hlen : ((stepW y.cuts n i).map iv ++ pad).length = y.cuts.length + pad.length := (by rw [List.length_append, List.length_map, hsl]);(repeat apply zaa);refine zah ?_;simp only [push_cast, seval];(repeat apply zaa);refine zag ?_;(repeat apply zaa);refine zl5 ?_;simp only [push_cast, seval, zaz hil, drop_own hat];(repeat apply zaa);refine zae ?_;simp only [push_cast, seval];refine ⟨fun h4 => ?_, fun h4 => ?_⟩
    ·have h4 : 0 < max 0 (v - n) := (by simpa using h4);have hw4 : IntKind.i64.wrap (max 0 (v - (n : Int)) - 1) = max 0 (v - ((n : Int) + 1)) := (by rw [zau _ (by omega)]; omega);have hset := stepW_set (n := n) hv;have hso := set_own (ys := stepW y.cuts n i) (pad := pad) (i := i) (y := max 0 (v - ((n : Int) + 1))) (by rw [hsl]; exact hil);have hoff : (i + 1 ≤ y.cuts.length + pad.length) = True := (by simp; omega);(repeat apply zaa);refine zl5 ?_;simp only [push_cast, seval, zaz hil, drop_own hat, hw4, hlen, hoff, hso, hset];(repeat apply zaa);refine zl5 ?_;simp only [push_cast, seval, hwi];refine hR3 _ ⟨hil, trivial, (zax (zam rfl rfl) (by simp only [push_cast, seval]; simp [zaf, Wk.refl]))⟩
    ·have h4 : ¬ 0 < max 0 (v - n) := (by simpa using h4);(repeat apply zaa);refine zah ?_;simp only [push_cast, seval];(repeat apply zaa);refine zl5 ?_;simp only [push_cast, seval, hwi];refine hR3 _ ⟨hil, trivial, ?_⟩;rw [stepW_same hv h4];exact (zax (zam rfl rfl) (by simp only [push_cast, seval]; simp [zaf, Wk.refl]))
   ·have hix : i = y.cuts.length := (by omega);subst hix;clear hR3;rw [stepW_all];(repeat apply zaa);refine zaq ?_;simp only [push_cast, seval];(repeat apply zaa);refine zl5 ?_;simp only [push_cast, seval, hwn];refine hR2 _ ⟨hn3, trivial, (zax (zam rfl rfl) (by simp only [push_cast, seval]; simp [zaf, Wk.refl]))⟩
  ·have hn3 : n = 3 := (by omega);subst hn3;clear hR2;(repeat apply zaa);refine zl5 ?_;simp only [push_cast, seval, decide_false];(repeat apply zaa);refine zae ?_;simp only [push_cast, seval];(repeat apply zaa);refine zaq ?_;simp only [push_cast, seval];(repeat apply zaa);refine zl5 ?_;simp only [push_cast, seval, hwq];refine hR _ ⟨hql, trivial, ?_⟩;exact (by first | exact zaS (zam rfl rfl) (by simp only [push_cast, seval]; simp [zaf, Wk.refl]) hHs (by simp [zap]) | exact zat (zam rfl rfl) (by simp only [push_cast, seval]; simp [zaf, Wk.refl]) hHs (by simp [zap]))
 ·clear hR;(repeat apply zaa);refine zaq ?_;simp only [push_cast, seval];(repeat apply zaa);refine zl5 ?_;simp only [push_cast, seval];refine zl6 ((f25_c (hmn _) ?_));(try simp only [push_cast, seval]);(repeat apply zaa);refine zai ?_;simp only [push_cast, seval];exact endA hH (Wk.refl _) (by simp [zap]) hk
end
end Go.Gg
namespace Go.Proofs.YtoaaoiipickclaaGreat
open Go.Conc Go.Proofs Go.Gg
theorem koName : Tryz.prog.funcNamed Rows.keyWornRow.func = some 6 := by kernel_rfl
theorem koJoined : joinedFacts Tryz.prog 6 Tryz.f6 Rows.keyWornSpec Rows.keyWornRow = true :=
 zkH (by kernel_rfl) Tz.laidOut (by kernel_rfl) (by kernel_rfl) (by kernel_rfl) (by kernel_rfl) (by kernel_rfl) (by kernel_rfl) (by kernel_rfl) (by kernel_rfl) (by kernel_rfl) (by kernel_rfl) (by kernel_rfl) (by kernel_rfl) (by kernel_rfl) (by kernel_rfl) (by kernel_rfl) (by kernel_rfl) (by kernel_rfl) (by kernel_rfl) (by kernel_rfl) (by kernel_rfl) (by kernel_rfl) (by kernel_rfl) (by kernel_rfl) Tz.mayEnter (zkB (by kernel_rfl)) (make_of' (by kernel_rfl)) (by kernel_rfl) (by kernel_rfl) (by kernel_rfl) (by kernel_rfl) (by kernel_rfl)
theorem koInst : Tryz.f6.isInstance Tryz.prog Rows.keyWornRow.origin Rows.keyWornRow.targs := of_decide_eq_true (by kernel_rfl)
theorem koWrap : Tryz.f6.isWrapper Tryz.prog Rows.keyWornRow.wrapper Rows.keyWornRow.mainSum := by unfold Func.isWrapper; first | (rw [if_pos (by decide +kernel)]; kernel_rfl) | (rw [if_neg (by decide +kernel)]; exact ⟨rfl, rfl⟩)
theorem keyWorn_lifted (os : Os) (started : os.Started) (H : Type) (enc : TypeId × Value → H) :
  ReturnsInLeavingWide {} Tryz.checked os 6 .any (Rows.keyWornSpec.pre6 enc Tryz.prog Tryz.f6 Rows.keyWornRow.domain false) (Rows.keyWornSpec.post enc Tryz.prog Tryz.f6 false true false false) :=
 zhC (f := 6) (fn := Tryz.f6) (s := Rows.keyWornSpec) Tryz.func6 rfl rfl rfl (fun _ _ => rfl) (by kernel_rfl) (fun nums hn => f6_c rfl hn rfl) os started H enc
  (ChangeSpec.witness6 (enc := enc) (C := Tryz.checked) false ⟨#[], #[.slice none 0 0], []⟩ 8 (by kernel_rfl) (by kernel_rfl) (by kernel_rfl) (by kernel_rfl))
theorem keyWorn_holds : Rows.KeyWornSaid :=
 OpenClaim.holds_of_wide_leaving 6 Tryz.f6 rfl rfl rfl rfl rfl rfl rfl ⟨rfl, rfl, rfl, rfl, rfl⟩ rfl rfl rfl rfl rfl koName Tryz.func6 koJoined koInst koWrap
  (fun os started H enc _ => keyWorn_lifted os started H enc)
end Go.Proofs.YtoaaoiipickclaaGreat
