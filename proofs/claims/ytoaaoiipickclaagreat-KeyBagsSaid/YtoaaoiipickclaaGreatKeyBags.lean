/- The law KeyBags answers true at every ring, try, lock, turns, turn and list of numbers, on every schedule, and changes nothing. No condition. -/
import Derived.Test.YtoaaoiipickclaaGreatKeyBags4
import Derived.Conc.Holds
import Derived.Test.YtoaaoiipickclaaGreatRows
set_option linter.all false
set_option maxRecDepth 4000
set_option maxHeartbeats 1000000
namespace Go.Gg
open Go.Proofs
def ioNums : List (List Nat) := [99,117,116] :: [97,116] :: [[67,104,101,99,107,115],[67,111,118,101,114,115],[66,97,103,115],[87,111,114,110],[87,114,111,110,103],[65,115,107],[67,111,118,101,114],[65,108,105,107,101],[84,101,108,108],[66,97,103],[67,117,116],[78,117,109,98,101,114,101,100],[67,111,117,110,116,115],[65,108,108],[84,114,117,101],[65,115,107,115],[78,101,119,115],[77,97,115,116,101,114],[77,111,114,101],[84,117,114,110,101,100],[75,110,111,119,110]].map ([103,108,97,100,115,116,111,110,101,47,103,108,97,100,115,116,111,110,101,108,97,119,48,56,46,75,101,121] ++ ·)
def ioCodes : List Nat := [104,97,114,110,101,115,115,32,99,51,50,57,53,49,56,50,100,99,53,57,97,55,97,98,51,48,51,102,54,57,97,97,100,57,54,56,102,52,99,57,49,98,53,97,48,49,101,51,101,101,55,53,50,49,99,100,54,56,54,49,50,99,48,52,54,49,101,48,97,49,50,98] ++ ioNums.flatMap (32 :: ·)
set_option maxRecDepth 100000 in
theorem ioL : Tryz.prog.initOrder.toList = ioCodes.map Char.ofNat := by
 have h : Tryz.prog.initOrder = String.ofList (ioCodes.map Char.ofNat) := by kernel_rfl
 rw [h, String.toList_ofList]
def ioWords : List (List Char) := ioNums.map fun l => l.map Char.ofNat
set_option maxRecDepth 100000 in
theorem ioW : behindMainWord (wordsSigns Tryz.prog.initOrder.toList) = ioWords := by
 rw [ioL]
 kernel_rfl
section
variable {P : Program} {c : List Char} {rest : List (List Char)}
theorem zhx (h : behindMainWord (wordsSigns P.initOrder.toList) = c :: rest) (hc : c = "cut".toList) (h1 : stripLifts liftWords (c :: rest) = ([], c :: rest)) (h2 : P.laysLater = false) (h3 : P.bearsReflect = false) (h4 : P.doorFits [] = true) : P.mayEnter = true := by
 unfold Program.mayEnter;rw [h];subst hc;simp only [h1, h2, h3, h4, List.head?_cons, beq_self_eq_true, List.contains_nil, Bool.not_false, Bool.false_or, Bool.or_true, Bool.and_self, Bool.true_and]
theorem zgB (h : behindMainWord (wordsSigns P.initOrder.toList) = c :: rest) (hc : c = "cut".toList) (h1 : stripLifts liftWords (c :: rest) = ([], c :: rest)) : P.headLifts = [] := by
 unfold Program.headLifts;rw [h];simp only [h1, ite_self]
theorem lifts_of (h : behindMainWord (wordsSigns P.initOrder.toList) = c :: rest) (hc : c = "cut".toList) (h1 : stripLifts liftWords (c :: rest) = ([], c :: rest)) : P.liftsFinal = false := by
 unfold Program.liftsFinal;rw [zgB h hc h1, h];subst hc;simp only [List.head?_cons, List.contains_nil, Bool.or_false];have : (some "cut".toList == some "carried".toList) = false := by decide +kernel
 rw [this, Bool.false_and]
theorem make_of (h : behindMainWord (wordsSigns P.initOrder.toList) = c :: rest) (hc : c = "cut".toList) : P.make = some .cut := by
 unfold Program.make;rw [h];subst hc;have e1 : ("cut".toList == "gc".toList) = false := by decide +kernel
 have e2 : ("cut".toList == "spec".toList) = false := by decide +kernel
 simp only [e1, e2, Bool.or_self, Bool.false_eq_true, if_false, beq_self_eq_true, Bool.true_or, if_true]
end
def ioHead : List Char := ioWords.headD []
def ioTail : List (List Char) := ioWords.tail
theorem ioW2 : behindMainWord (wordsSigns Tryz.prog.initOrder.toList) = ioHead :: ioTail := ioW.trans (by kernel_rfl)
theorem ioC : ioHead = "cut".toList := by kernel_rfl
theorem ioS : stripLifts liftWords (ioHead :: ioTail) = ([], ioHead :: ioTail) := by kernel_rfl
theorem Tz.mayEnter : Tryz.prog.mayEnter = true := zhx ioW2 ioC ioS (by kernel_rfl) (by kernel_rfl) (by kernel_rfl)
theorem Tz.lifts : Tryz.prog.liftsFinal = false := lifts_of ioW2 ioC ioS
theorem Tz.make : Tryz.prog.make = some .cut := make_of ioW2 ioC
theorem zkH {P : Program} {f : FuncId} {fn : Func} {s : ChangeSpec} {c : OpenClaim}
  (k0 : (c.wf (OpenSpec.ofChange s)) = true)
  (k1 : (laidOutB P) = true)
  (k2 : (mapsRowed P) = true)
  (k3 : (fn.params.all (P.readableRec ·)) = true)
  (k4 : (namedTie P c.named s.vars) = true)
  (k5 : ((c.stops == [])) = true)
  (k6 : ((P.stops == [])) = true)
  (k7 : ((c.knobs == [])) = true)
  (k8 : ((P.stopKnobs == [])) = true)
  (k9 : ((c.inPlace == P.inPlace f)) = true)
  (k10 : ((c.unfollowed == P.unfollowed f)) = true)
  (k11 : ((c.recurses == P.recurses f)) = true)
  (k12 : ((c.named == P.varsNamed f)) = true)
  (k13 : ((c.maps == (fn.params.toList ++ s.plain.varTypes P).any (P.mapsRec ·))) = true)
  (k14 : ((c.ifaces == (fn.params.toList ++ s.plain.varTypes P).any (P.ifacesRec ·))) = true)
  (k15 : ((c.mapsOut == P.mapsAmong fn.resultTypes.toList)) = true)
  (k16 : ((c.loops == (fn.params.toList ++ s.plain.varTypes P).any (P.loopsFrom ·))) = true)
  (k17 : ((c.wideKeys == (fn.params.toList ++ s.plain.varTypes P ++ fn.resultTypes.toList).any (P.wideKeysFrom ·))) = true)
  (k18 : (s.vars.all (P.varReadable ·)) = true)
  (k19 : (fn.resultTypes.all (fun t => P.readableRec t && decide (t < P.types.size))) = true)
  (k20 : ((c.ifacesOut == fn.resultTypes.toList.any (P.ifacesRec ·))) = true)
  (k21 : ((c.loopsOut == fn.resultTypes.toList.any (P.loopsFrom ·))) = true)
  (k22 : ((c.plainKeys == P.plainKeys)) = true)
  (k23 : (c.shortTexts.isNone) = true)
  (k24 : (P.stopsHeard) = true)
  (k25 : (P.mayEnter) = true)
  (k26 : ((c.lifted == P.liftsFinal)) = true)
  (k27 : ((P.make == some c.make)) = true)
  (k28 : c.domain.isEmpty = true) (k28' : c.kinds = [])
  (k29 : ((c.pinned == c.pinnedBy)) = true)
  (k30 : ((c.veiled == (fn.params.toList ++ s.plain.varTypes P ++ fn.resultTypes.toList).any (P.veiledRec ·))) = true)
  (k31 : (c.veiledFits P fn.params.toList (fn.params.toList ++ s.plain.varTypes P ++ fn.resultTypes.toList)) = true) : joinedFacts P f fn s c = true := by
 simp only [joinedFacts, k0, k1, k2, k3, k4, k5, k6, k7, k8, k9, k10, k11, k12, k13, k14, k15, k16, k17, k18, k19, k20, k21, k22, k23, k24, k25, k26, k27, k28, k28', if_true, beq_self_eq_true, k29, k30, k31, Bool.and_self]
theorem zkB {c : OpenClaim} (h : c.lifted = false) : (c.lifted == Tryz.prog.liftsFinal) = true := by rw [Tz.lifts, h]; rfl
theorem make_of' {c : OpenClaim} (h : c.make = .cut) : (Tryz.prog.make == some c.make) = true := by rw [Tz.make, h]; rfl
end Go.Gg
namespace Go.Proofs.YtoaaoiipickclaaGreat
open Go.Conc Go.Proofs Go.Gg Go.ChangeShapes
theorem kba5Name : Tryz.prog.funcNamed Rows.keyBagsRow.func = some 5 := by kernel_rfl
theorem kba5Joined : joinedFacts Tryz.prog 5 Tryz.f5 Rows.keyBagsSpec Rows.keyBagsRow = true :=
 zkH (by kernel_rfl) Tz.laidOut (by kernel_rfl) (by kernel_rfl) (by kernel_rfl) (by kernel_rfl) (by kernel_rfl) (by kernel_rfl) (by kernel_rfl) (by kernel_rfl) (by kernel_rfl) (by kernel_rfl) (by kernel_rfl) (by kernel_rfl) (by kernel_rfl) (by kernel_rfl) (by kernel_rfl) (by kernel_rfl) (by kernel_rfl) (by kernel_rfl) (by kernel_rfl) (by kernel_rfl) (by kernel_rfl) (by kernel_rfl) (by kernel_rfl) Tz.mayEnter (zkB (by kernel_rfl)) (make_of' (by kernel_rfl)) (by kernel_rfl) (by kernel_rfl) (by kernel_rfl) (by kernel_rfl) (by kernel_rfl)
theorem kba5Inst : Tryz.f5.isInstance Tryz.prog Rows.keyBagsRow.origin Rows.keyBagsRow.targs := of_decide_eq_true (by kernel_rfl)
theorem kba5Wrap : Tryz.f5.isWrapper Tryz.prog Rows.keyBagsRow.wrapper Rows.keyBagsRow.mainSum := by unfold Func.isWrapper; first | (rw [if_pos (by decide +kernel)]; kernel_rfl) | (rw [if_neg (by decide +kernel)]; exact ⟨rfl, rfl⟩)
theorem zmA : LawArgs 5 [26, 28, 29, 50, 52, 30] := fun W {H} enc args ds ps base ws hval hA hsz => by
 obtain ⟨v0, r0, d0, e0, p0, q0, ha, rfl, rfl, h0, hA⟩ := trodAll_cons hA;obtain ⟨v1, r1, d1, e1, p1, q1, rfl, rfl, rfl, h1, hA⟩ := trodAll_cons hA;obtain ⟨v2, r2, d2, e2, p2, q2, rfl, rfl, rfl, h2, hA⟩ := trodAll_cons hA;obtain ⟨v3, r3, d3, e3, p3, q3, rfl, rfl, rfl, h3, hA⟩ := trodAll_cons hA;obtain ⟨v4, r4, d4, e4, p4, q4, rfl, rfl, rfl, h4, hA⟩ := trodAll_cons hA;obtain ⟨v5, r5, d5, e5, p5, q5, rfl, rfl, rfl, h5, hA⟩ := trodAll_cons hA;obtain ⟨rfl, rfl, rfl⟩ := trodAll_nil hA;have hargs : args = #[v0, v1, v2, v3, v4, v5] := by
  have := congrArg List.toArray ha;simpa using this
 subst hargs;obtain ⟨x0, g0⟩ := arg_ring (hval 0 26 v0 rfl rfl) h0;obtain ⟨x1, g1⟩ := arg_try (hval 1 28 v1 rfl rfl) h1;obtain ⟨x2, g2⟩ := zmc (t := 29) (e := 63) (by kernel_rfl) rdBands (hval 2 29 v2 rfl rfl) h2;obtain ⟨x3, g3⟩ := zmc (t := 50) (e := 52) (by kernel_rfl) rdTurns (hval 3 50 v3 rfl rfl) h3;obtain ⟨x4, g4⟩ := arg_turn (hval 4 52 v4 rfl rfl) h4;obtain ⟨x5, hn, g5⟩ := arg_nums (j := 5) (hval 5 30 v5 rfl rfl) h5 hsz rfl rfl;refine ⟨[x0.av, x1.av, aBands x2, aTurns x3, x4.av, aInts x5], ⟨rfl, fun i a e => ?_⟩, f5_c rfl hn rfl⟩
 match i, e with
 | 0, e => cases e; exact g0
 | 1, e => cases e; exact g1
 | 2, e => cases e; exact g2
 | 3, e => cases e; exact g3
 | 4, e => cases e; exact g4
 | 5, e => cases e; exact g5
theorem zmg (os : Os) (started : os.Started) (H : Type) (enc : TypeId × Value -> H) :
  ReturnsInLeavingWide {} Tryz.checked os 5 .any (Rows.keyBagsSpec.pre6 enc Tryz.prog Tryz.f5 Rows.keyBagsRow.domain false) (Rows.keyBagsSpec.post enc Tryz.prog Tryz.f5 false true false false) :=
 zmC (f := 5) (fn := Tryz.f5) (s := Rows.keyBagsSpec) (ts := [26, 28, 29, 50, 52, 30]) Tryz.func5 rfl rfl rfl (fun H ds h => by
   match ds, h with
   | [a, b, c, d, e, f], _ => rfl) (by kernel_rfl) (fun t ht => ⟨List.all_eq_true.1 (by kernel_rfl : [26, 28, 29, 50, 52, 30].all Tryz.prog.readableRec = true) t (by revert ht; simp), of_decide_eq_true (List.all_eq_true.1 (by kernel_rfl : [26, 28, 29, 50, 52, 30].all (fun t => decide (t < Tryz.prog.types.size)) = true) t (by revert ht; simp))⟩) zmA os started H enc
  (ChangeSpec.witness6 (enc := enc) (C := Tryz.checked) false ⟨#[], #[.agg #[.int .i64 0, .slice none 0 0, .slice none 0 0, .slice none 0 0], .agg #[.int .i64 0, .int .i64 0, .bool false], .slice none 0 0, .slice none 0 0, .agg #[.int .i64 0, .bool false], .slice none 0 0], []⟩ 8 (by kernel_rfl) (by kernel_rfl) (by kernel_rfl) (by kernel_rfl))
theorem keyBags_holds : Rows.KeyBagsSaid :=
 OpenClaim.holds_of_wide_leaving 5 Tryz.f5 rfl rfl rfl rfl rfl rfl rfl ⟨rfl, rfl, rfl, rfl, rfl⟩ rfl rfl rfl rfl rfl kba5Name Tryz.func5 kba5Joined kba5Inst kba5Wrap
  (fun os started H enc _ => zmg os started H enc)
end Go.Proofs.YtoaaoiipickclaaGreat
