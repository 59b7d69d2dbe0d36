/-
  No cell of these rows narrows 'for every input' (looked for: loops, veiled, ifaces, maps, wideKeys, modest, calm, conditions, laid).
  DERIVED. THE GIVEN ROWS OF THIS SEAT. 21 by the template 'for every input the law returns true; each argument reads behind the call as it read before'; 0 by the template 'total and deterministic' (their statements: YtoaaoiipickclaaGreatTotals.lean).
  GIVEN WITH THE SEED: the statements are not yours to turn. If you find one false, say at which input.
  Laid BY PROGRAM, IN A SANDBOX (cutbox-rows.mjs): the forced cells as the released guide's own fill.sh prints them over the translation 18601b7c4143975c… (all of the seat's roots in one cut). By AI agents, Wed Nov 11 2026. No macro, syntax, notation, axiom, sorry.
-/
import Derived.Test.YtoaaoiipickclaaGreatChecked
import GoSem.Claim
import GoSem.ClaimJoined
import GoSem.ClaimMapViews
import Derived.JoinedTies
import Derived.KernelRfl
namespace Go.Proofs.YtoaaoiipickclaaGreat
/- THE CELL 'sum', in the pinned program and in every row, IS THE sha256 OF THE DUMP (.gsa) THAT YtoaaoiipickclaaGreatProg.lean LOADS. Nothing in Lean hashes anything: it is a label: what it is worth is what the hold of that sum in a sandbox is worth. -/
noncomputable def Tryz.pinned : Pinned := { name := "ytoaaoiipickclaagreat", sum := "18601b7c4143975cd1bf5b6fba77fb6a6fb157880db2ee3b95cad801deaed852", checked := Tryz.checked }
namespace Rows
def none {H : Type} : Left H := { results := [], args := [] }

/-- 'gladstonelaw08.KeyChecks': WHATEVER THE INPUT: true; the input reads as it did. -/
def keyChecksSpec : ChangeSpec := { name := "keyChecks", fn := fun _ => fun
  | [d1, d2, d3, d4, d5, d6, d7] => { results := [.lit (.bool true)], args := [d1, d2, d3, d4, d5, d6, d7] }
  | _ => none }
def keyChecksRow : OpenClaim := { program := "ytoaaoiipickclaagreat", sum := "18601b7c4143975cd1bf5b6fba77fb6a6fb157880db2ee3b95cad801deaed852", func := "gladstone/gladstonelaw08.KeyChecks", spec := "keyChecks", inPlace := ["(*sync.WaitGroup).Add", "internal/race.ReleaseMerge", "internal/race.Disable", "internal/race.Enable", "internal/synctest.IsInBubble", "internal/synctest.Associate[sync.WaitGroup]", "sync.fatal", "sync/atomic.OrUint64", "sync/atomic.AddUint64", "internal/race.Read", "sync/atomic.LoadUint64", "sync/atomic.StoreUint64", "internal/synctest.Disassociate[sync.WaitGroup]", "sync.runtime_Semrelease", "(*sync.WaitGroup).Done", "(*sync.WaitGroup).Wait", "internal/race.Acquire", "internal/synctest.IsAssociated[sync.WaitGroup]", "sync/atomic.CompareAndSwapUint64", "internal/race.Write", "sync.runtime_SemacquireWaitGroup"], unfollowed := true, recurses := true, plainKeys := false, leaving := true, apart := false }
def KeyChecksSaid : Prop := keyChecksRow.holds Tryz.pinned (OpenSpec.ofChange keyChecksSpec)

/-- ITS FALSE NEIGHBOUR: 'it returns false'. Refute it at one input. -/
def keyChecksWrong : ChangeSpec := { name := "keyChecks", fn := fun _ => fun
  | [d1, d2, d3, d4, d5, d6, d7] => { results := [.lit (.bool false)], args := [d1, d2, d3, d4, d5, d6, d7] }
  | _ => none }
def KeyChecksWrongFalsely : Prop := keyChecksRow.holds Tryz.pinned (OpenSpec.ofChange keyChecksWrong)

/-- 'gladstonelaw08.KeyCovers': WHATEVER THE INPUT: true; the input reads as it did. -/
def keyCoversSpec : ChangeSpec := { name := "keyCovers", fn := fun _ => fun
  | [d1, d2, d3, d4] => { results := [.lit (.bool true)], args := [d1, d2, d3, d4] }
  | _ => none }
def keyCoversRow : OpenClaim := { program := "ytoaaoiipickclaagreat", sum := "18601b7c4143975cd1bf5b6fba77fb6a6fb157880db2ee3b95cad801deaed852", func := "gladstone/gladstonelaw08.KeyCovers", spec := "keyCovers", inPlace := ["(*sync.WaitGroup).Add", "internal/race.ReleaseMerge", "internal/race.Disable", "internal/race.Enable", "internal/synctest.IsInBubble", "internal/synctest.Associate[sync.WaitGroup]", "sync.fatal", "sync/atomic.OrUint64", "sync/atomic.AddUint64", "internal/race.Read", "sync/atomic.LoadUint64", "sync/atomic.StoreUint64", "internal/synctest.Disassociate[sync.WaitGroup]", "sync.runtime_Semrelease", "(*sync.WaitGroup).Done", "(*sync.WaitGroup).Wait", "internal/race.Acquire", "internal/synctest.IsAssociated[sync.WaitGroup]", "sync/atomic.CompareAndSwapUint64", "internal/race.Write", "sync.runtime_SemacquireWaitGroup"], unfollowed := true, recurses := true, plainKeys := false, leaving := true, apart := false }
def KeyCoversSaid : Prop := keyCoversRow.holds Tryz.pinned (OpenSpec.ofChange keyCoversSpec)

/-- ITS FALSE NEIGHBOUR: 'it returns false'. Refute it at one input. -/
def keyCoversWrong : ChangeSpec := { name := "keyCovers", fn := fun _ => fun
  | [d1, d2, d3, d4] => { results := [.lit (.bool false)], args := [d1, d2, d3, d4] }
  | _ => none }
def KeyCoversWrongFalsely : Prop := keyCoversRow.holds Tryz.pinned (OpenSpec.ofChange keyCoversWrong)

/-- 'gladstonelaw08.KeyBags': WHATEVER THE INPUT: true; the input reads as it did. -/
def keyBagsSpec : ChangeSpec := { name := "keyBags", fn := fun _ => fun
  | [d1, d2, d3, d4, d5, d6] => { results := [.lit (.bool true)], args := [d1, d2, d3, d4, d5, d6] }
  | _ => none }
def keyBagsRow : OpenClaim := { program := "ytoaaoiipickclaagreat", sum := "18601b7c4143975cd1bf5b6fba77fb6a6fb157880db2ee3b95cad801deaed852", func := "gladstone/gladstonelaw08.KeyBags", spec := "keyBags", inPlace := ["(*sync.WaitGroup).Add", "internal/race.ReleaseMerge", "internal/race.Disable", "internal/race.Enable", "internal/synctest.IsInBubble", "internal/synctest.Associate[sync.WaitGroup]", "sync.fatal", "sync/atomic.OrUint64", "sync/atomic.AddUint64", "internal/race.Read", "sync/atomic.LoadUint64", "sync/atomic.StoreUint64", "internal/synctest.Disassociate[sync.WaitGroup]", "sync.runtime_Semrelease", "(*sync.WaitGroup).Done", "(*sync.WaitGroup).Wait", "internal/race.Acquire", "internal/synctest.IsAssociated[sync.WaitGroup]", "sync/atomic.CompareAndSwapUint64", "internal/race.Write", "sync.runtime_SemacquireWaitGroup"], unfollowed := true, recurses := true, plainKeys := false, leaving := true, apart := false }
def KeyBagsSaid : Prop := keyBagsRow.holds Tryz.pinned (OpenSpec.ofChange keyBagsSpec)

/-- ITS FALSE NEIGHBOUR: 'it returns false'. Refute it at one input. -/
def keyBagsWrong : ChangeSpec := { name := "keyBags", fn := fun _ => fun
  | [d1, d2, d3, d4, d5, d6] => { results := [.lit (.bool false)], args := [d1, d2, d3, d4, d5, d6] }
  | _ => none }
def KeyBagsWrongFalsely : Prop := keyBagsRow.holds Tryz.pinned (OpenSpec.ofChange keyBagsWrong)

/-- 'gladstonelaw08.KeyWorn': WHATEVER THE INPUT: true; the input reads as it did. -/
def keyWornSpec : ChangeSpec := { name := "keyWorn", fn := fun _ => fun
  | [d] => { results := [.lit (.bool true)], args := [d] }
  | _ => none }
def keyWornRow : OpenClaim := { program := "ytoaaoiipickclaagreat", sum := "18601b7c4143975cd1bf5b6fba77fb6a6fb157880db2ee3b95cad801deaed852", func := "gladstone/gladstonelaw08.KeyWorn", spec := "keyWorn", inPlace := ["(*sync.WaitGroup).Add", "internal/race.ReleaseMerge", "internal/race.Disable", "internal/race.Enable", "internal/synctest.IsInBubble", "internal/synctest.Associate[sync.WaitGroup]", "sync.fatal", "sync/atomic.OrUint64", "sync/atomic.AddUint64", "internal/race.Read", "sync/atomic.LoadUint64", "sync/atomic.StoreUint64", "internal/synctest.Disassociate[sync.WaitGroup]", "sync.runtime_Semrelease", "(*sync.WaitGroup).Done", "(*sync.WaitGroup).Wait", "internal/race.Acquire", "internal/synctest.IsAssociated[sync.WaitGroup]", "sync/atomic.CompareAndSwapUint64", "internal/race.Write", "sync.runtime_SemacquireWaitGroup"], unfollowed := true, recurses := true, plainKeys := false, leaving := true, apart := false }
def KeyWornSaid : Prop := keyWornRow.holds Tryz.pinned (OpenSpec.ofChange keyWornSpec)

/-- ITS FALSE NEIGHBOUR: 'it returns false'. Refute it at one input. -/
def keyWornWrong : ChangeSpec := { name := "keyWorn", fn := fun _ => fun
  | [d] => { results := [.lit (.bool false)], args := [d] }
  | _ => none }
def KeyWornWrongFalsely : Prop := keyWornRow.holds Tryz.pinned (OpenSpec.ofChange keyWornWrong)

/-- 'gladstonelaw08.KeyWrong': WHATEVER THE INPUT: true; the input reads as it did. -/
def keyWrongSpec : ChangeSpec := { name := "keyWrong", fn := fun _ => fun
  | [d] => { results := [.lit (.bool true)], args := [d] }
  | _ => none }
def keyWrongRow : OpenClaim := { program := "ytoaaoiipickclaagreat", sum := "18601b7c4143975cd1bf5b6fba77fb6a6fb157880db2ee3b95cad801deaed852", func := "gladstone/gladstonelaw08.KeyWrong", spec := "keyWrong", inPlace := ["(*sync.WaitGroup).Add", "internal/race.ReleaseMerge", "internal/race.Disable", "internal/race.Enable", "internal/synctest.IsInBubble", "internal/synctest.Associate[sync.WaitGroup]", "sync.fatal", "sync/atomic.OrUint64", "sync/atomic.AddUint64", "internal/race.Read", "sync/atomic.LoadUint64", "sync/atomic.StoreUint64", "internal/synctest.Disassociate[sync.WaitGroup]", "sync.runtime_Semrelease", "(*sync.WaitGroup).Done", "(*sync.WaitGroup).Wait", "internal/race.Acquire", "internal/synctest.IsAssociated[sync.WaitGroup]", "sync/atomic.CompareAndSwapUint64", "internal/race.Write", "sync.runtime_SemacquireWaitGroup"], unfollowed := true, recurses := true, plainKeys := false, leaving := true, apart := false }
def KeyWrongSaid : Prop := keyWrongRow.holds Tryz.pinned (OpenSpec.ofChange keyWrongSpec)

/-- ITS FALSE NEIGHBOUR: 'it returns false'. Refute it at one input. -/
def keyWrongWrong : ChangeSpec := { name := "keyWrong", fn := fun _ => fun
  | [d] => { results := [.lit (.bool false)], args := [d] }
  | _ => none }
def KeyWrongWrongFalsely : Prop := keyWrongRow.holds Tryz.pinned (OpenSpec.ofChange keyWrongWrong)

/-- 'gladstonelaw08.KeyAsk': WHATEVER THE INPUT: true; the input reads as it did. -/
def keyAskSpec : ChangeSpec := { name := "keyAsk", fn := fun _ => fun
  | [d] => { results := [.lit (.bool true)], args := [d] }
  | _ => none }
def keyAskRow : OpenClaim := { program := "ytoaaoiipickclaagreat", sum := "18601b7c4143975cd1bf5b6fba77fb6a6fb157880db2ee3b95cad801deaed852", func := "gladstone/gladstonelaw08.KeyAsk", spec := "keyAsk", inPlace := ["(*sync.WaitGroup).Add", "internal/race.ReleaseMerge", "internal/race.Disable", "internal/race.Enable", "internal/synctest.IsInBubble", "internal/synctest.Associate[sync.WaitGroup]", "sync.fatal", "sync/atomic.OrUint64", "sync/atomic.AddUint64", "internal/race.Read", "sync/atomic.LoadUint64", "sync/atomic.StoreUint64", "internal/synctest.Disassociate[sync.WaitGroup]", "sync.runtime_Semrelease", "(*sync.WaitGroup).Done", "(*sync.WaitGroup).Wait", "internal/race.Acquire", "internal/synctest.IsAssociated[sync.WaitGroup]", "sync/atomic.CompareAndSwapUint64", "internal/race.Write", "sync.runtime_SemacquireWaitGroup"], unfollowed := true, recurses := true, plainKeys := false, leaving := true, apart := false }
def KeyAskSaid : Prop := keyAskRow.holds Tryz.pinned (OpenSpec.ofChange keyAskSpec)

/-- ITS FALSE NEIGHBOUR: 'it returns false'. Refute it at one input. -/
def keyAskWrong : ChangeSpec := { name := "keyAsk", fn := fun _ => fun
  | [d] => { results := [.lit (.bool false)], args := [d] }
  | _ => none }
def KeyAskWrongFalsely : Prop := keyAskRow.holds Tryz.pinned (OpenSpec.ofChange keyAskWrong)

/-- 'gladstonelaw08.KeyCover': WHATEVER THE INPUT: true; the input reads as it did. -/
def keyCoverSpec : ChangeSpec := { name := "keyCover", fn := fun _ => fun
  | [d] => { results := [.lit (.bool true)], args := [d] }
  | _ => none }
def keyCoverRow : OpenClaim := { program := "ytoaaoiipickclaagreat", sum := "18601b7c4143975cd1bf5b6fba77fb6a6fb157880db2ee3b95cad801deaed852", func := "gladstone/gladstonelaw08.KeyCover", spec := "keyCover", inPlace := ["(*sync.WaitGroup).Add", "internal/race.ReleaseMerge", "internal/race.Disable", "internal/race.Enable", "internal/synctest.IsInBubble", "internal/synctest.Associate[sync.WaitGroup]", "sync.fatal", "sync/atomic.OrUint64", "sync/atomic.AddUint64", "internal/race.Read", "sync/atomic.LoadUint64", "sync/atomic.StoreUint64", "internal/synctest.Disassociate[sync.WaitGroup]", "sync.runtime_Semrelease", "(*sync.WaitGroup).Done", "(*sync.WaitGroup).Wait", "internal/race.Acquire", "internal/synctest.IsAssociated[sync.WaitGroup]", "sync/atomic.CompareAndSwapUint64", "internal/race.Write", "sync.runtime_SemacquireWaitGroup"], unfollowed := true, recurses := true, plainKeys := false, leaving := true, apart := false }
def KeyCoverSaid : Prop := keyCoverRow.holds Tryz.pinned (OpenSpec.ofChange keyCoverSpec)

/-- ITS FALSE NEIGHBOUR: 'it returns false'. Refute it at one input. -/
def keyCoverWrong : ChangeSpec := { name := "keyCover", fn := fun _ => fun
  | [d] => { results := [.lit (.bool false)], args := [d] }
  | _ => none }
def KeyCoverWrongFalsely : Prop := keyCoverRow.holds Tryz.pinned (OpenSpec.ofChange keyCoverWrong)

/-- 'gladstonelaw08.KeyAlike': WHATEVER THE INPUT: true; the input reads as it did. -/
def keyAlikeSpec : ChangeSpec := { name := "keyAlike", fn := fun _ => fun
  | [d] => { results := [.lit (.bool true)], args := [d] }
  | _ => none }
def keyAlikeRow : OpenClaim := { program := "ytoaaoiipickclaagreat", sum := "18601b7c4143975cd1bf5b6fba77fb6a6fb157880db2ee3b95cad801deaed852", func := "gladstone/gladstonelaw08.KeyAlike", spec := "keyAlike", inPlace := ["(*sync.WaitGroup).Add", "internal/race.ReleaseMerge", "internal/race.Disable", "internal/race.Enable", "internal/synctest.IsInBubble", "internal/synctest.Associate[sync.WaitGroup]", "sync.fatal", "sync/atomic.OrUint64", "sync/atomic.AddUint64", "internal/race.Read", "sync/atomic.LoadUint64", "sync/atomic.StoreUint64", "internal/synctest.Disassociate[sync.WaitGroup]", "sync.runtime_Semrelease", "(*sync.WaitGroup).Done", "(*sync.WaitGroup).Wait", "internal/race.Acquire", "internal/synctest.IsAssociated[sync.WaitGroup]", "sync/atomic.CompareAndSwapUint64", "internal/race.Write", "sync.runtime_SemacquireWaitGroup"], unfollowed := true, recurses := true, plainKeys := false, leaving := true, apart := false }
def KeyAlikeSaid : Prop := keyAlikeRow.holds Tryz.pinned (OpenSpec.ofChange keyAlikeSpec)

/-- ITS FALSE NEIGHBOUR: 'it returns false'. Refute it at one input. -/
def keyAlikeWrong : ChangeSpec := { name := "keyAlike", fn := fun _ => fun
  | [d] => { results := [.lit (.bool false)], args := [d] }
  | _ => none }
def KeyAlikeWrongFalsely : Prop := keyAlikeRow.holds Tryz.pinned (OpenSpec.ofChange keyAlikeWrong)

/-- 'gladstonelaw08.KeyTell': WHATEVER THE INPUT: true; the input reads as it did. -/
def keyTellSpec : ChangeSpec := { name := "keyTell", fn := fun _ => fun
  | [d] => { results := [.lit (.bool true)], args := [d] }
  | _ => none }
def keyTellRow : OpenClaim := { program := "ytoaaoiipickclaagreat", sum := "18601b7c4143975cd1bf5b6fba77fb6a6fb157880db2ee3b95cad801deaed852", func := "gladstone/gladstonelaw08.KeyTell", spec := "keyTell", inPlace := ["(*sync.WaitGroup).Add", "internal/race.ReleaseMerge", "internal/race.Disable", "internal/race.Enable", "internal/synctest.IsInBubble", "internal/synctest.Associate[sync.WaitGroup]", "sync.fatal", "sync/atomic.OrUint64", "sync/atomic.AddUint64", "internal/race.Read", "sync/atomic.LoadUint64", "sync/atomic.StoreUint64", "internal/synctest.Disassociate[sync.WaitGroup]", "sync.runtime_Semrelease", "(*sync.WaitGroup).Done", "(*sync.WaitGroup).Wait", "internal/race.Acquire", "internal/synctest.IsAssociated[sync.WaitGroup]", "sync/atomic.CompareAndSwapUint64", "internal/race.Write", "sync.runtime_SemacquireWaitGroup"], unfollowed := true, recurses := true, plainKeys := false, leaving := true, apart := false }
def KeyTellSaid : Prop := keyTellRow.holds Tryz.pinned (OpenSpec.ofChange keyTellSpec)

/-- ITS FALSE NEIGHBOUR: 'it returns false'. Refute it at one input. -/
def keyTellWrong : ChangeSpec := { name := "keyTell", fn := fun _ => fun
  | [d] => { results := [.lit (.bool false)], args := [d] }
  | _ => none }
def KeyTellWrongFalsely : Prop := keyTellRow.holds Tryz.pinned (OpenSpec.ofChange keyTellWrong)

/-- 'gladstonelaw08.KeyBag': WHATEVER THE INPUT: true; the input reads as it did. -/
def keyBagSpec : ChangeSpec := { name := "keyBag", fn := fun _ => fun
  | [d] => { results := [.lit (.bool true)], args := [d] }
  | _ => none }
def keyBagRow : OpenClaim := { program := "ytoaaoiipickclaagreat", sum := "18601b7c4143975cd1bf5b6fba77fb6a6fb157880db2ee3b95cad801deaed852", func := "gladstone/gladstonelaw08.KeyBag", spec := "keyBag", inPlace := ["(*sync.WaitGroup).Add", "internal/race.ReleaseMerge", "internal/race.Disable", "internal/race.Enable", "internal/synctest.IsInBubble", "internal/synctest.Associate[sync.WaitGroup]", "sync.fatal", "sync/atomic.OrUint64", "sync/atomic.AddUint64", "internal/race.Read", "sync/atomic.LoadUint64", "sync/atomic.StoreUint64", "internal/synctest.Disassociate[sync.WaitGroup]", "sync.runtime_Semrelease", "(*sync.WaitGroup).Done", "(*sync.WaitGroup).Wait", "internal/race.Acquire", "internal/synctest.IsAssociated[sync.WaitGroup]", "sync/atomic.CompareAndSwapUint64", "internal/race.Write", "sync.runtime_SemacquireWaitGroup"], unfollowed := true, recurses := true, plainKeys := false, leaving := true, apart := false }
def KeyBagSaid : Prop := keyBagRow.holds Tryz.pinned (OpenSpec.ofChange keyBagSpec)

/-- ITS FALSE NEIGHBOUR: 'it returns false'. Refute it at one input. -/
def keyBagWrong : ChangeSpec := { name := "keyBag", fn := fun _ => fun
  | [d] => { results := [.lit (.bool false)], args := [d] }
  | _ => none }
def KeyBagWrongFalsely : Prop := keyBagRow.holds Tryz.pinned (OpenSpec.ofChange keyBagWrong)

/-- 'gladstonelaw08.KeyCut': WHATEVER THE INPUT: true; the input reads as it did. -/
def keyCutSpec : ChangeSpec := { name := "keyCut", fn := fun _ => fun
  | [d] => { results := [.lit (.bool true)], args := [d] }
  | _ => none }
def keyCutRow : OpenClaim := { program := "ytoaaoiipickclaagreat", sum := "18601b7c4143975cd1bf5b6fba77fb6a6fb157880db2ee3b95cad801deaed852", func := "gladstone/gladstonelaw08.KeyCut", spec := "keyCut", inPlace := ["(*sync.WaitGroup).Add", "internal/race.ReleaseMerge", "internal/race.Disable", "internal/race.Enable", "internal/synctest.IsInBubble", "internal/synctest.Associate[sync.WaitGroup]", "sync.fatal", "sync/atomic.OrUint64", "sync/atomic.AddUint64", "internal/race.Read", "sync/atomic.LoadUint64", "sync/atomic.StoreUint64", "internal/synctest.Disassociate[sync.WaitGroup]", "sync.runtime_Semrelease", "(*sync.WaitGroup).Done", "(*sync.WaitGroup).Wait", "internal/race.Acquire", "internal/synctest.IsAssociated[sync.WaitGroup]", "sync/atomic.CompareAndSwapUint64", "internal/race.Write", "sync.runtime_SemacquireWaitGroup"], unfollowed := true, recurses := true, plainKeys := false, leaving := true, apart := false }
def KeyCutSaid : Prop := keyCutRow.holds Tryz.pinned (OpenSpec.ofChange keyCutSpec)

/-- ITS FALSE NEIGHBOUR: 'it returns false'. Refute it at one input. -/
def keyCutWrong : ChangeSpec := { name := "keyCut", fn := fun _ => fun
  | [d] => { results := [.lit (.bool false)], args := [d] }
  | _ => none }
def KeyCutWrongFalsely : Prop := keyCutRow.holds Tryz.pinned (OpenSpec.ofChange keyCutWrong)

/-- 'gladstonelaw08.KeyNumbered': WHATEVER THE INPUT: true; the input reads as it did. -/
def keyNumberedSpec : ChangeSpec := { name := "keyNumbered", fn := fun _ => fun
  | [d] => { results := [.lit (.bool true)], args := [d] }
  | _ => none }
def keyNumberedRow : OpenClaim := { program := "ytoaaoiipickclaagreat", sum := "18601b7c4143975cd1bf5b6fba77fb6a6fb157880db2ee3b95cad801deaed852", func := "gladstone/gladstonelaw08.KeyNumbered", spec := "keyNumbered", inPlace := ["(*sync.WaitGroup).Add", "internal/race.ReleaseMerge", "internal/race.Disable", "internal/race.Enable", "internal/synctest.IsInBubble", "internal/synctest.Associate[sync.WaitGroup]", "sync.fatal", "sync/atomic.OrUint64", "sync/atomic.AddUint64", "internal/race.Read", "sync/atomic.LoadUint64", "sync/atomic.StoreUint64", "internal/synctest.Disassociate[sync.WaitGroup]", "sync.runtime_Semrelease", "(*sync.WaitGroup).Done", "(*sync.WaitGroup).Wait", "internal/race.Acquire", "internal/synctest.IsAssociated[sync.WaitGroup]", "sync/atomic.CompareAndSwapUint64", "internal/race.Write", "sync.runtime_SemacquireWaitGroup"], unfollowed := true, recurses := true, plainKeys := false, leaving := true, apart := false }
def KeyNumberedSaid : Prop := keyNumberedRow.holds Tryz.pinned (OpenSpec.ofChange keyNumberedSpec)

/-- ITS FALSE NEIGHBOUR: 'it returns false'. Refute it at one input. -/
def keyNumberedWrong : ChangeSpec := { name := "keyNumbered", fn := fun _ => fun
  | [d] => { results := [.lit (.bool false)], args := [d] }
  | _ => none }
def KeyNumberedWrongFalsely : Prop := keyNumberedRow.holds Tryz.pinned (OpenSpec.ofChange keyNumberedWrong)

/-- 'gladstonelaw08.KeyCounts': WHATEVER THE INPUT: true; the input reads as it did. -/
def keyCountsSpec : ChangeSpec := { name := "keyCounts", fn := fun _ => fun
  | [d1, d2, d3, d4, d5] => { results := [.lit (.bool true)], args := [d1, d2, d3, d4, d5] }
  | _ => none }
def keyCountsRow : OpenClaim := { program := "ytoaaoiipickclaagreat", sum := "18601b7c4143975cd1bf5b6fba77fb6a6fb157880db2ee3b95cad801deaed852", func := "gladstone/gladstonelaw08.KeyCounts", spec := "keyCounts", inPlace := ["(*sync.WaitGroup).Add", "internal/race.ReleaseMerge", "internal/race.Disable", "internal/race.Enable", "internal/synctest.IsInBubble", "internal/synctest.Associate[sync.WaitGroup]", "sync.fatal", "sync/atomic.OrUint64", "sync/atomic.AddUint64", "internal/race.Read", "sync/atomic.LoadUint64", "sync/atomic.StoreUint64", "internal/synctest.Disassociate[sync.WaitGroup]", "sync.runtime_Semrelease", "(*sync.WaitGroup).Done", "(*sync.WaitGroup).Wait", "internal/race.Acquire", "internal/synctest.IsAssociated[sync.WaitGroup]", "sync/atomic.CompareAndSwapUint64", "internal/race.Write", "sync.runtime_SemacquireWaitGroup"], unfollowed := true, recurses := true, plainKeys := false, leaving := true, apart := false }
def KeyCountsSaid : Prop := keyCountsRow.holds Tryz.pinned (OpenSpec.ofChange keyCountsSpec)

/-- ITS FALSE NEIGHBOUR: 'it returns false'. Refute it at one input. -/
def keyCountsWrong : ChangeSpec := { name := "keyCounts", fn := fun _ => fun
  | [d1, d2, d3, d4, d5] => { results := [.lit (.bool false)], args := [d1, d2, d3, d4, d5] }
  | _ => none }
def KeyCountsWrongFalsely : Prop := keyCountsRow.holds Tryz.pinned (OpenSpec.ofChange keyCountsWrong)

/-- 'gladstonelaw08.KeyAll': WHATEVER THE INPUT: true; the input reads as it did. -/
def keyAllSpec : ChangeSpec := { name := "keyAll", fn := fun _ => fun
  | [d] => { results := [.lit (.bool true)], args := [d] }
  | _ => none }
def keyAllRow : OpenClaim := { program := "ytoaaoiipickclaagreat", sum := "18601b7c4143975cd1bf5b6fba77fb6a6fb157880db2ee3b95cad801deaed852", func := "gladstone/gladstonelaw08.KeyAll", spec := "keyAll", inPlace := ["(*sync.WaitGroup).Add", "internal/race.ReleaseMerge", "internal/race.Disable", "internal/race.Enable", "internal/synctest.IsInBubble", "internal/synctest.Associate[sync.WaitGroup]", "sync.fatal", "sync/atomic.OrUint64", "sync/atomic.AddUint64", "internal/race.Read", "sync/atomic.LoadUint64", "sync/atomic.StoreUint64", "internal/synctest.Disassociate[sync.WaitGroup]", "sync.runtime_Semrelease", "(*sync.WaitGroup).Done", "(*sync.WaitGroup).Wait", "internal/race.Acquire", "internal/synctest.IsAssociated[sync.WaitGroup]", "sync/atomic.CompareAndSwapUint64", "internal/race.Write", "sync.runtime_SemacquireWaitGroup"], unfollowed := true, recurses := true, plainKeys := false, leaving := true, apart := false }
def KeyAllSaid : Prop := keyAllRow.holds Tryz.pinned (OpenSpec.ofChange keyAllSpec)

/-- ITS FALSE NEIGHBOUR: 'it returns false'. Refute it at one input. -/
def keyAllWrong : ChangeSpec := { name := "keyAll", fn := fun _ => fun
  | [d] => { results := [.lit (.bool false)], args := [d] }
  | _ => none }
def KeyAllWrongFalsely : Prop := keyAllRow.holds Tryz.pinned (OpenSpec.ofChange keyAllWrong)

/-- 'gladstonelaw08.KeyTrue': WHATEVER THE INPUT: true; the input reads as it did. -/
def keyTrueSpec : ChangeSpec := { name := "keyTrue", fn := fun _ => fun
  | [d] => { results := [.lit (.bool true)], args := [d] }
  | _ => none }
def keyTrueRow : OpenClaim := { program := "ytoaaoiipickclaagreat", sum := "18601b7c4143975cd1bf5b6fba77fb6a6fb157880db2ee3b95cad801deaed852", func := "gladstone/gladstonelaw08.KeyTrue", spec := "keyTrue", inPlace := ["(*sync.WaitGroup).Add", "internal/race.ReleaseMerge", "internal/race.Disable", "internal/race.Enable", "internal/synctest.IsInBubble", "internal/synctest.Associate[sync.WaitGroup]", "sync.fatal", "sync/atomic.OrUint64", "sync/atomic.AddUint64", "internal/race.Read", "sync/atomic.LoadUint64", "sync/atomic.StoreUint64", "internal/synctest.Disassociate[sync.WaitGroup]", "sync.runtime_Semrelease", "(*sync.WaitGroup).Done", "(*sync.WaitGroup).Wait", "internal/race.Acquire", "internal/synctest.IsAssociated[sync.WaitGroup]", "sync/atomic.CompareAndSwapUint64", "internal/race.Write", "sync.runtime_SemacquireWaitGroup"], unfollowed := true, recurses := true, plainKeys := false, leaving := true, apart := false }
def KeyTrueSaid : Prop := keyTrueRow.holds Tryz.pinned (OpenSpec.ofChange keyTrueSpec)

/-- ITS FALSE NEIGHBOUR: 'it returns false'. Refute it at one input. -/
def keyTrueWrong : ChangeSpec := { name := "keyTrue", fn := fun _ => fun
  | [d] => { results := [.lit (.bool false)], args := [d] }
  | _ => none }
def KeyTrueWrongFalsely : Prop := keyTrueRow.holds Tryz.pinned (OpenSpec.ofChange keyTrueWrong)

/-- 'gladstonelaw08.KeyAsks': WHATEVER THE INPUT: true; the input reads as it did. -/
def keyAsksSpec : ChangeSpec := { name := "keyAsks", fn := fun _ => fun
  | [d1, d2, d3, d4] => { results := [.lit (.bool true)], args := [d1, d2, d3, d4] }
  | _ => none }
def keyAsksRow : OpenClaim := { program := "ytoaaoiipickclaagreat", sum := "18601b7c4143975cd1bf5b6fba77fb6a6fb157880db2ee3b95cad801deaed852", func := "gladstone/gladstonelaw08.KeyAsks", spec := "keyAsks", inPlace := ["(*sync.WaitGroup).Add", "internal/race.ReleaseMerge", "internal/race.Disable", "internal/race.Enable", "internal/synctest.IsInBubble", "internal/synctest.Associate[sync.WaitGroup]", "sync.fatal", "sync/atomic.OrUint64", "sync/atomic.AddUint64", "internal/race.Read", "sync/atomic.LoadUint64", "sync/atomic.StoreUint64", "internal/synctest.Disassociate[sync.WaitGroup]", "sync.runtime_Semrelease", "(*sync.WaitGroup).Done", "(*sync.WaitGroup).Wait", "internal/race.Acquire", "internal/synctest.IsAssociated[sync.WaitGroup]", "sync/atomic.CompareAndSwapUint64", "internal/race.Write", "sync.runtime_SemacquireWaitGroup"], unfollowed := true, recurses := true, plainKeys := false, leaving := true, apart := false }
def KeyAsksSaid : Prop := keyAsksRow.holds Tryz.pinned (OpenSpec.ofChange keyAsksSpec)

/-- ITS FALSE NEIGHBOUR: 'it returns false'. Refute it at one input. -/
def keyAsksWrong : ChangeSpec := { name := "keyAsks", fn := fun _ => fun
  | [d1, d2, d3, d4] => { results := [.lit (.bool false)], args := [d1, d2, d3, d4] }
  | _ => none }
def KeyAsksWrongFalsely : Prop := keyAsksRow.holds Tryz.pinned (OpenSpec.ofChange keyAsksWrong)

/-- 'gladstonelaw08.KeyNews': WHATEVER THE INPUT: true; the input reads as it did. -/
def keyNewsSpec : ChangeSpec := { name := "keyNews", fn := fun _ => fun
  | [d1, d2, d3, d4, d5, d6] => { results := [.lit (.bool true)], args := [d1, d2, d3, d4, d5, d6] }
  | _ => none }
def keyNewsRow : OpenClaim := { program := "ytoaaoiipickclaagreat", sum := "18601b7c4143975cd1bf5b6fba77fb6a6fb157880db2ee3b95cad801deaed852", func := "gladstone/gladstonelaw08.KeyNews", spec := "keyNews", inPlace := ["(*sync.WaitGroup).Add", "internal/race.ReleaseMerge", "internal/race.Disable", "internal/race.Enable", "internal/synctest.IsInBubble", "internal/synctest.Associate[sync.WaitGroup]", "sync.fatal", "sync/atomic.OrUint64", "sync/atomic.AddUint64", "internal/race.Read", "sync/atomic.LoadUint64", "sync/atomic.StoreUint64", "internal/synctest.Disassociate[sync.WaitGroup]", "sync.runtime_Semrelease", "(*sync.WaitGroup).Done", "(*sync.WaitGroup).Wait", "internal/race.Acquire", "internal/synctest.IsAssociated[sync.WaitGroup]", "sync/atomic.CompareAndSwapUint64", "internal/race.Write", "sync.runtime_SemacquireWaitGroup"], unfollowed := true, recurses := true, plainKeys := false, leaving := true, apart := false }
def KeyNewsSaid : Prop := keyNewsRow.holds Tryz.pinned (OpenSpec.ofChange keyNewsSpec)

/-- ITS FALSE NEIGHBOUR: 'it returns false'. Refute it at one input. -/
def keyNewsWrong : ChangeSpec := { name := "keyNews", fn := fun _ => fun
  | [d1, d2, d3, d4, d5, d6] => { results := [.lit (.bool false)], args := [d1, d2, d3, d4, d5, d6] }
  | _ => none }
def KeyNewsWrongFalsely : Prop := keyNewsRow.holds Tryz.pinned (OpenSpec.ofChange keyNewsWrong)

/-- 'gladstonelaw08.KeyMaster': WHATEVER THE INPUT: true; the input reads as it did. -/
def keyMasterSpec : ChangeSpec := { name := "keyMaster", fn := fun _ => fun
  | [d] => { results := [.lit (.bool true)], args := [d] }
  | _ => none }
def keyMasterRow : OpenClaim := { program := "ytoaaoiipickclaagreat", sum := "18601b7c4143975cd1bf5b6fba77fb6a6fb157880db2ee3b95cad801deaed852", func := "gladstone/gladstonelaw08.KeyMaster", spec := "keyMaster", inPlace := ["(*sync.WaitGroup).Add", "internal/race.ReleaseMerge", "internal/race.Disable", "internal/race.Enable", "internal/synctest.IsInBubble", "internal/synctest.Associate[sync.WaitGroup]", "sync.fatal", "sync/atomic.OrUint64", "sync/atomic.AddUint64", "internal/race.Read", "sync/atomic.LoadUint64", "sync/atomic.StoreUint64", "internal/synctest.Disassociate[sync.WaitGroup]", "sync.runtime_Semrelease", "(*sync.WaitGroup).Done", "(*sync.WaitGroup).Wait", "internal/race.Acquire", "internal/synctest.IsAssociated[sync.WaitGroup]", "sync/atomic.CompareAndSwapUint64", "internal/race.Write", "sync.runtime_SemacquireWaitGroup"], unfollowed := true, recurses := true, plainKeys := false, leaving := true, apart := false }
def KeyMasterSaid : Prop := keyMasterRow.holds Tryz.pinned (OpenSpec.ofChange keyMasterSpec)

/-- ITS FALSE NEIGHBOUR: 'it returns false'. Refute it at one input. -/
def keyMasterWrong : ChangeSpec := { name := "keyMaster", fn := fun _ => fun
  | [d] => { results := [.lit (.bool false)], args := [d] }
  | _ => none }
def KeyMasterWrongFalsely : Prop := keyMasterRow.holds Tryz.pinned (OpenSpec.ofChange keyMasterWrong)

/-- 'gladstonelaw08.KeyMore': WHATEVER THE INPUT: true; the input reads as it did. -/
def keyMoreSpec : ChangeSpec := { name := "keyMore", fn := fun _ => fun
  | [d] => { results := [.lit (.bool true)], args := [d] }
  | _ => none }
def keyMoreRow : OpenClaim := { program := "ytoaaoiipickclaagreat", sum := "18601b7c4143975cd1bf5b6fba77fb6a6fb157880db2ee3b95cad801deaed852", func := "gladstone/gladstonelaw08.KeyMore", spec := "keyMore", inPlace := ["(*sync.WaitGroup).Add", "internal/race.ReleaseMerge", "internal/race.Disable", "internal/race.Enable", "internal/synctest.IsInBubble", "internal/synctest.Associate[sync.WaitGroup]", "sync.fatal", "sync/atomic.OrUint64", "sync/atomic.AddUint64", "internal/race.Read", "sync/atomic.LoadUint64", "sync/atomic.StoreUint64", "internal/synctest.Disassociate[sync.WaitGroup]", "sync.runtime_Semrelease", "(*sync.WaitGroup).Done", "(*sync.WaitGroup).Wait", "internal/race.Acquire", "internal/synctest.IsAssociated[sync.WaitGroup]", "sync/atomic.CompareAndSwapUint64", "internal/race.Write", "sync.runtime_SemacquireWaitGroup"], unfollowed := true, recurses := true, plainKeys := false, leaving := true, apart := false }
def KeyMoreSaid : Prop := keyMoreRow.holds Tryz.pinned (OpenSpec.ofChange keyMoreSpec)

/-- ITS FALSE NEIGHBOUR: 'it returns false'. Refute it at one input. -/
def keyMoreWrong : ChangeSpec := { name := "keyMore", fn := fun _ => fun
  | [d] => { results := [.lit (.bool false)], args := [d] }
  | _ => none }
def KeyMoreWrongFalsely : Prop := keyMoreRow.holds Tryz.pinned (OpenSpec.ofChange keyMoreWrong)

/-- 'gladstonelaw08.KeyTurned': WHATEVER THE INPUT: true; the input reads as it did. -/
def keyTurnedSpec : ChangeSpec := { name := "keyTurned", fn := fun _ => fun
  | [d] => { results := [.lit (.bool true)], args := [d] }
  | _ => none }
def keyTurnedRow : OpenClaim := { program := "ytoaaoiipickclaagreat", sum := "18601b7c4143975cd1bf5b6fba77fb6a6fb157880db2ee3b95cad801deaed852", func := "gladstone/gladstonelaw08.KeyTurned", spec := "keyTurned", inPlace := ["(*sync.WaitGroup).Add", "internal/race.ReleaseMerge", "internal/race.Disable", "internal/race.Enable", "internal/synctest.IsInBubble", "internal/synctest.Associate[sync.WaitGroup]", "sync.fatal", "sync/atomic.OrUint64", "sync/atomic.AddUint64", "internal/race.Read", "sync/atomic.LoadUint64", "sync/atomic.StoreUint64", "internal/synctest.Disassociate[sync.WaitGroup]", "sync.runtime_Semrelease", "(*sync.WaitGroup).Done", "(*sync.WaitGroup).Wait", "internal/race.Acquire", "internal/synctest.IsAssociated[sync.WaitGroup]", "sync/atomic.CompareAndSwapUint64", "internal/race.Write", "sync.runtime_SemacquireWaitGroup"], unfollowed := true, recurses := true, plainKeys := false, leaving := true, apart := false }
def KeyTurnedSaid : Prop := keyTurnedRow.holds Tryz.pinned (OpenSpec.ofChange keyTurnedSpec)

/-- ITS FALSE NEIGHBOUR: 'it returns false'. Refute it at one input. -/
def keyTurnedWrong : ChangeSpec := { name := "keyTurned", fn := fun _ => fun
  | [d] => { results := [.lit (.bool false)], args := [d] }
  | _ => none }
def KeyTurnedWrongFalsely : Prop := keyTurnedRow.holds Tryz.pinned (OpenSpec.ofChange keyTurnedWrong)

/-- 'gladstonelaw08.KeyKnown': WHATEVER THE INPUT: true; the input reads as it did. -/
def keyKnownSpec : ChangeSpec := { name := "keyKnown", fn := fun _ => fun
  | [] => { results := [.lit (.bool true)], args := [] }
  | _ => none }
def keyKnownRow : OpenClaim := { program := "ytoaaoiipickclaagreat", sum := "18601b7c4143975cd1bf5b6fba77fb6a6fb157880db2ee3b95cad801deaed852", func := "gladstone/gladstonelaw08.KeyKnown", spec := "keyKnown", inPlace := ["(*sync.WaitGroup).Add", "internal/race.ReleaseMerge", "internal/race.Disable", "internal/race.Enable", "internal/synctest.IsInBubble", "internal/synctest.Associate[sync.WaitGroup]", "sync.fatal", "sync/atomic.OrUint64", "sync/atomic.AddUint64", "internal/race.Read", "sync/atomic.LoadUint64", "sync/atomic.StoreUint64", "internal/synctest.Disassociate[sync.WaitGroup]", "sync.runtime_Semrelease", "(*sync.WaitGroup).Done", "(*sync.WaitGroup).Wait", "internal/race.Acquire", "internal/synctest.IsAssociated[sync.WaitGroup]", "sync/atomic.CompareAndSwapUint64", "internal/race.Write", "sync.runtime_SemacquireWaitGroup"], unfollowed := true, recurses := true, plainKeys := false, leaving := true, apart := false }
def KeyKnownSaid : Prop := keyKnownRow.holds Tryz.pinned (OpenSpec.ofChange keyKnownSpec)

/-- ITS FALSE NEIGHBOUR: 'it returns false'. Refute it at one input. -/
def keyKnownWrong : ChangeSpec := { name := "keyKnown", fn := fun _ => fun
  | [] => { results := [.lit (.bool false)], args := [] }
  | _ => none }
def KeyKnownWrongFalsely : Prop := keyKnownRow.holds Tryz.pinned (OpenSpec.ofChange keyKnownWrong)

/- THE SECOND FORM. 'bulk': how many values and letters a reading holds, each counted each time it is reached (what is shared counts as often as it is met; a slice's spare places count too). A statement '..UptoSaid' is the law's where the arguments, and the package variables that the reading takes, are together of bulk at most 1048576: NARROWER than '..Said'. Prove '..Said' where nothing that the law and all that it calls make is longer than what came in: it says more and counts as full. Else prove '..UptoSaid'. A law counts once. -/
mutual
def uptoBulk {H : Type} : DataW H → Nat
  | .lit (.string bytes) => bytes.length + 1
  | .lit _ => 1
  | .nil => 1
  | .ptr d => uptoBulk d + 1
  | .slice elems spare => uptoBulkAll elems + uptoBulkAll spare + 1
  | .agg parts => uptoBulkAll parts + 1
  | .iface _ d => uptoBulk d + 1
  | .map entries => uptoBulkEntries entries + 1
  | .held _ => 1
def uptoBulkAll {H : Type} : List (DataW H) → Nat
  | [] => 0
  | d :: r => uptoBulk d + uptoBulkAll r
def uptoBulkEntries {H : Type} : List (Lit × DataW H) → Nat
  | [] => 0
  | x :: r => uptoBulkEntry x + uptoBulkEntries r
def uptoBulkEntry {H : Type} : Lit × DataW H → Nat
  | (.string bytes, d) => bytes.length + uptoBulk d + 1
  | (_, d) => uptoBulk d + 1
 end
def uptoSmall : (H : Type) → List (DataW H) → Bool := fun _ ds => decide (uptoBulkAll ds ≤ 1048576)
def OpenSpec.upto (s : _root_.Go.ChangeSpec) : _root_.Go.OpenSpec := { _root_.Go.OpenSpec.ofChange s with cond := some uptoSmall }

/-- 'gladstonelaw08.KeyChecks', WHERE WHAT IT READS IS OF BULK AT MOST 1048576: true; the input reads as it did. -/
def keyChecksUptoRow : OpenClaim := { program := "ytoaaoiipickclaagreat", sum := "18601b7c4143975cd1bf5b6fba77fb6a6fb157880db2ee3b95cad801deaed852", func := "gladstone/gladstonelaw08.KeyChecks", spec := "keyChecks", inPlace := ["(*sync.WaitGroup).Add", "internal/race.ReleaseMerge", "internal/race.Disable", "internal/race.Enable", "internal/synctest.IsInBubble", "internal/synctest.Associate[sync.WaitGroup]", "sync.fatal", "sync/atomic.OrUint64", "sync/atomic.AddUint64", "internal/race.Read", "sync/atomic.LoadUint64", "sync/atomic.StoreUint64", "internal/synctest.Disassociate[sync.WaitGroup]", "sync.runtime_Semrelease", "(*sync.WaitGroup).Done", "(*sync.WaitGroup).Wait", "internal/race.Acquire", "internal/synctest.IsAssociated[sync.WaitGroup]", "sync/atomic.CompareAndSwapUint64", "internal/race.Write", "sync.runtime_SemacquireWaitGroup"], unfollowed := true, recurses := true, plainKeys := false, leaving := true, apart := false, narrowed := true }
def KeyChecksUptoSaid : Prop := keyChecksUptoRow.holds Tryz.pinned (OpenSpec.upto keyChecksSpec)

/-- 'gladstonelaw08.KeyCovers', WHERE WHAT IT READS IS OF BULK AT MOST 1048576: true; the input reads as it did. -/
def keyCoversUptoRow : OpenClaim := { program := "ytoaaoiipickclaagreat", sum := "18601b7c4143975cd1bf5b6fba77fb6a6fb157880db2ee3b95cad801deaed852", func := "gladstone/gladstonelaw08.KeyCovers", spec := "keyCovers", inPlace := ["(*sync.WaitGroup).Add", "internal/race.ReleaseMerge", "internal/race.Disable", "internal/race.Enable", "internal/synctest.IsInBubble", "internal/synctest.Associate[sync.WaitGroup]", "sync.fatal", "sync/atomic.OrUint64", "sync/atomic.AddUint64", "internal/race.Read", "sync/atomic.LoadUint64", "sync/atomic.StoreUint64", "internal/synctest.Disassociate[sync.WaitGroup]", "sync.runtime_Semrelease", "(*sync.WaitGroup).Done", "(*sync.WaitGroup).Wait", "internal/race.Acquire", "internal/synctest.IsAssociated[sync.WaitGroup]", "sync/atomic.CompareAndSwapUint64", "internal/race.Write", "sync.runtime_SemacquireWaitGroup"], unfollowed := true, recurses := true, plainKeys := false, leaving := true, apart := false, narrowed := true }
def KeyCoversUptoSaid : Prop := keyCoversUptoRow.holds Tryz.pinned (OpenSpec.upto keyCoversSpec)

/-- 'gladstonelaw08.KeyBags', WHERE WHAT IT READS IS OF BULK AT MOST 1048576: true; the input reads as it did. -/
def keyBagsUptoRow : OpenClaim := { program := "ytoaaoiipickclaagreat", sum := "18601b7c4143975cd1bf5b6fba77fb6a6fb157880db2ee3b95cad801deaed852", func := "gladstone/gladstonelaw08.KeyBags", spec := "keyBags", inPlace := ["(*sync.WaitGroup).Add", "internal/race.ReleaseMerge", "internal/race.Disable", "internal/race.Enable", "internal/synctest.IsInBubble", "internal/synctest.Associate[sync.WaitGroup]", "sync.fatal", "sync/atomic.OrUint64", "sync/atomic.AddUint64", "internal/race.Read", "sync/atomic.LoadUint64", "sync/atomic.StoreUint64", "internal/synctest.Disassociate[sync.WaitGroup]", "sync.runtime_Semrelease", "(*sync.WaitGroup).Done", "(*sync.WaitGroup).Wait", "internal/race.Acquire", "internal/synctest.IsAssociated[sync.WaitGroup]", "sync/atomic.CompareAndSwapUint64", "internal/race.Write", "sync.runtime_SemacquireWaitGroup"], unfollowed := true, recurses := true, plainKeys := false, leaving := true, apart := false, narrowed := true }
def KeyBagsUptoSaid : Prop := keyBagsUptoRow.holds Tryz.pinned (OpenSpec.upto keyBagsSpec)

/-- 'gladstonelaw08.KeyWorn', WHERE WHAT IT READS IS OF BULK AT MOST 1048576: true; the input reads as it did. -/
def keyWornUptoRow : OpenClaim := { program := "ytoaaoiipickclaagreat", sum := "18601b7c4143975cd1bf5b6fba77fb6a6fb157880db2ee3b95cad801deaed852", func := "gladstone/gladstonelaw08.KeyWorn", spec := "keyWorn", inPlace := ["(*sync.WaitGroup).Add", "internal/race.ReleaseMerge", "internal/race.Disable", "internal/race.Enable", "internal/synctest.IsInBubble", "internal/synctest.Associate[sync.WaitGroup]", "sync.fatal", "sync/atomic.OrUint64", "sync/atomic.AddUint64", "internal/race.Read", "sync/atomic.LoadUint64", "sync/atomic.StoreUint64", "internal/synctest.Disassociate[sync.WaitGroup]", "sync.runtime_Semrelease", "(*sync.WaitGroup).Done", "(*sync.WaitGroup).Wait", "internal/race.Acquire", "internal/synctest.IsAssociated[sync.WaitGroup]", "sync/atomic.CompareAndSwapUint64", "internal/race.Write", "sync.runtime_SemacquireWaitGroup"], unfollowed := true, recurses := true, plainKeys := false, leaving := true, apart := false, narrowed := true }
def KeyWornUptoSaid : Prop := keyWornUptoRow.holds Tryz.pinned (OpenSpec.upto keyWornSpec)

/-- 'gladstonelaw08.KeyWrong', WHERE WHAT IT READS IS OF BULK AT MOST 1048576: true; the input reads as it did. -/
def keyWrongUptoRow : OpenClaim := { program := "ytoaaoiipickclaagreat", sum := "18601b7c4143975cd1bf5b6fba77fb6a6fb157880db2ee3b95cad801deaed852", func := "gladstone/gladstonelaw08.KeyWrong", spec := "keyWrong", inPlace := ["(*sync.WaitGroup).Add", "internal/race.ReleaseMerge", "internal/race.Disable", "internal/race.Enable", "internal/synctest.IsInBubble", "internal/synctest.Associate[sync.WaitGroup]", "sync.fatal", "sync/atomic.OrUint64", "sync/atomic.AddUint64", "internal/race.Read", "sync/atomic.LoadUint64", "sync/atomic.StoreUint64", "internal/synctest.Disassociate[sync.WaitGroup]", "sync.runtime_Semrelease", "(*sync.WaitGroup).Done", "(*sync.WaitGroup).Wait", "internal/race.Acquire", "internal/synctest.IsAssociated[sync.WaitGroup]", "sync/atomic.CompareAndSwapUint64", "internal/race.Write", "sync.runtime_SemacquireWaitGroup"], unfollowed := true, recurses := true, plainKeys := false, leaving := true, apart := false, narrowed := true }
def KeyWrongUptoSaid : Prop := keyWrongUptoRow.holds Tryz.pinned (OpenSpec.upto keyWrongSpec)

/-- 'gladstonelaw08.KeyAsk', WHERE WHAT IT READS IS OF BULK AT MOST 1048576: true; the input reads as it did. -/
def keyAskUptoRow : OpenClaim := { program := "ytoaaoiipickclaagreat", sum := "18601b7c4143975cd1bf5b6fba77fb6a6fb157880db2ee3b95cad801deaed852", func := "gladstone/gladstonelaw08.KeyAsk", spec := "keyAsk", inPlace := ["(*sync.WaitGroup).Add", "internal/race.ReleaseMerge", "internal/race.Disable", "internal/race.Enable", "internal/synctest.IsInBubble", "internal/synctest.Associate[sync.WaitGroup]", "sync.fatal", "sync/atomic.OrUint64", "sync/atomic.AddUint64", "internal/race.Read", "sync/atomic.LoadUint64", "sync/atomic.StoreUint64", "internal/synctest.Disassociate[sync.WaitGroup]", "sync.runtime_Semrelease", "(*sync.WaitGroup).Done", "(*sync.WaitGroup).Wait", "internal/race.Acquire", "internal/synctest.IsAssociated[sync.WaitGroup]", "sync/atomic.CompareAndSwapUint64", "internal/race.Write", "sync.runtime_SemacquireWaitGroup"], unfollowed := true, recurses := true, plainKeys := false, leaving := true, apart := false, narrowed := true }
def KeyAskUptoSaid : Prop := keyAskUptoRow.holds Tryz.pinned (OpenSpec.upto keyAskSpec)

/-- 'gladstonelaw08.KeyCover', WHERE WHAT IT READS IS OF BULK AT MOST 1048576: true; the input reads as it did. -/
def keyCoverUptoRow : OpenClaim := { program := "ytoaaoiipickclaagreat", sum := "18601b7c4143975cd1bf5b6fba77fb6a6fb157880db2ee3b95cad801deaed852", func := "gladstone/gladstonelaw08.KeyCover", spec := "keyCover", inPlace := ["(*sync.WaitGroup).Add", "internal/race.ReleaseMerge", "internal/race.Disable", "internal/race.Enable", "internal/synctest.IsInBubble", "internal/synctest.Associate[sync.WaitGroup]", "sync.fatal", "sync/atomic.OrUint64", "sync/atomic.AddUint64", "internal/race.Read", "sync/atomic.LoadUint64", "sync/atomic.StoreUint64", "internal/synctest.Disassociate[sync.WaitGroup]", "sync.runtime_Semrelease", "(*sync.WaitGroup).Done", "(*sync.WaitGroup).Wait", "internal/race.Acquire", "internal/synctest.IsAssociated[sync.WaitGroup]", "sync/atomic.CompareAndSwapUint64", "internal/race.Write", "sync.runtime_SemacquireWaitGroup"], unfollowed := true, recurses := true, plainKeys := false, leaving := true, apart := false, narrowed := true }
def KeyCoverUptoSaid : Prop := keyCoverUptoRow.holds Tryz.pinned (OpenSpec.upto keyCoverSpec)

/-- 'gladstonelaw08.KeyAlike', WHERE WHAT IT READS IS OF BULK AT MOST 1048576: true; the input reads as it did. -/
def keyAlikeUptoRow : OpenClaim := { program := "ytoaaoiipickclaagreat", sum := "18601b7c4143975cd1bf5b6fba77fb6a6fb157880db2ee3b95cad801deaed852", func := "gladstone/gladstonelaw08.KeyAlike", spec := "keyAlike", inPlace := ["(*sync.WaitGroup).Add", "internal/race.ReleaseMerge", "internal/race.Disable", "internal/race.Enable", "internal/synctest.IsInBubble", "internal/synctest.Associate[sync.WaitGroup]", "sync.fatal", "sync/atomic.OrUint64", "sync/atomic.AddUint64", "internal/race.Read", "sync/atomic.LoadUint64", "sync/atomic.StoreUint64", "internal/synctest.Disassociate[sync.WaitGroup]", "sync.runtime_Semrelease", "(*sync.WaitGroup).Done", "(*sync.WaitGroup).Wait", "internal/race.Acquire", "internal/synctest.IsAssociated[sync.WaitGroup]", "sync/atomic.CompareAndSwapUint64", "internal/race.Write", "sync.runtime_SemacquireWaitGroup"], unfollowed := true, recurses := true, plainKeys := false, leaving := true, apart := false, narrowed := true }
def KeyAlikeUptoSaid : Prop := keyAlikeUptoRow.holds Tryz.pinned (OpenSpec.upto keyAlikeSpec)

/-- 'gladstonelaw08.KeyTell', WHERE WHAT IT READS IS OF BULK AT MOST 1048576: true; the input reads as it did. -/
def keyTellUptoRow : OpenClaim := { program := "ytoaaoiipickclaagreat", sum := "18601b7c4143975cd1bf5b6fba77fb6a6fb157880db2ee3b95cad801deaed852", func := "gladstone/gladstonelaw08.KeyTell", spec := "keyTell", inPlace := ["(*sync.WaitGroup).Add", "internal/race.ReleaseMerge", "internal/race.Disable", "internal/race.Enable", "internal/synctest.IsInBubble", "internal/synctest.Associate[sync.WaitGroup]", "sync.fatal", "sync/atomic.OrUint64", "sync/atomic.AddUint64", "internal/race.Read", "sync/atomic.LoadUint64", "sync/atomic.StoreUint64", "internal/synctest.Disassociate[sync.WaitGroup]", "sync.runtime_Semrelease", "(*sync.WaitGroup).Done", "(*sync.WaitGroup).Wait", "internal/race.Acquire", "internal/synctest.IsAssociated[sync.WaitGroup]", "sync/atomic.CompareAndSwapUint64", "internal/race.Write", "sync.runtime_SemacquireWaitGroup"], unfollowed := true, recurses := true, plainKeys := false, leaving := true, apart := false, narrowed := true }
def KeyTellUptoSaid : Prop := keyTellUptoRow.holds Tryz.pinned (OpenSpec.upto keyTellSpec)

/-- 'gladstonelaw08.KeyBag', WHERE WHAT IT READS IS OF BULK AT MOST 1048576: true; the input reads as it did. -/
def keyBagUptoRow : OpenClaim := { program := "ytoaaoiipickclaagreat", sum := "18601b7c4143975cd1bf5b6fba77fb6a6fb157880db2ee3b95cad801deaed852", func := "gladstone/gladstonelaw08.KeyBag", spec := "keyBag", inPlace := ["(*sync.WaitGroup).Add", "internal/race.ReleaseMerge", "internal/race.Disable", "internal/race.Enable", "internal/synctest.IsInBubble", "internal/synctest.Associate[sync.WaitGroup]", "sync.fatal", "sync/atomic.OrUint64", "sync/atomic.AddUint64", "internal/race.Read", "sync/atomic.LoadUint64", "sync/atomic.StoreUint64", "internal/synctest.Disassociate[sync.WaitGroup]", "sync.runtime_Semrelease", "(*sync.WaitGroup).Done", "(*sync.WaitGroup).Wait", "internal/race.Acquire", "internal/synctest.IsAssociated[sync.WaitGroup]", "sync/atomic.CompareAndSwapUint64", "internal/race.Write", "sync.runtime_SemacquireWaitGroup"], unfollowed := true, recurses := true, plainKeys := false, leaving := true, apart := false, narrowed := true }
def KeyBagUptoSaid : Prop := keyBagUptoRow.holds Tryz.pinned (OpenSpec.upto keyBagSpec)

/-- 'gladstonelaw08.KeyCut', WHERE WHAT IT READS IS OF BULK AT MOST 1048576: true; the input reads as it did. -/
def keyCutUptoRow : OpenClaim := { program := "ytoaaoiipickclaagreat", sum := "18601b7c4143975cd1bf5b6fba77fb6a6fb157880db2ee3b95cad801deaed852", func := "gladstone/gladstonelaw08.KeyCut", spec := "keyCut", inPlace := ["(*sync.WaitGroup).Add", "internal/race.ReleaseMerge", "internal/race.Disable", "internal/race.Enable", "internal/synctest.IsInBubble", "internal/synctest.Associate[sync.WaitGroup]", "sync.fatal", "sync/atomic.OrUint64", "sync/atomic.AddUint64", "internal/race.Read", "sync/atomic.LoadUint64", "sync/atomic.StoreUint64", "internal/synctest.Disassociate[sync.WaitGroup]", "sync.runtime_Semrelease", "(*sync.WaitGroup).Done", "(*sync.WaitGroup).Wait", "internal/race.Acquire", "internal/synctest.IsAssociated[sync.WaitGroup]", "sync/atomic.CompareAndSwapUint64", "internal/race.Write", "sync.runtime_SemacquireWaitGroup"], unfollowed := true, recurses := true, plainKeys := false, leaving := true, apart := false, narrowed := true }
def KeyCutUptoSaid : Prop := keyCutUptoRow.holds Tryz.pinned (OpenSpec.upto keyCutSpec)

/-- 'gladstonelaw08.KeyNumbered', WHERE WHAT IT READS IS OF BULK AT MOST 1048576: true; the input reads as it did. -/
def keyNumberedUptoRow : OpenClaim := { program := "ytoaaoiipickclaagreat", sum := "18601b7c4143975cd1bf5b6fba77fb6a6fb157880db2ee3b95cad801deaed852", func := "gladstone/gladstonelaw08.KeyNumbered", spec := "keyNumbered", inPlace := ["(*sync.WaitGroup).Add", "internal/race.ReleaseMerge", "internal/race.Disable", "internal/race.Enable", "internal/synctest.IsInBubble", "internal/synctest.Associate[sync.WaitGroup]", "sync.fatal", "sync/atomic.OrUint64", "sync/atomic.AddUint64", "internal/race.Read", "sync/atomic.LoadUint64", "sync/atomic.StoreUint64", "internal/synctest.Disassociate[sync.WaitGroup]", "sync.runtime_Semrelease", "(*sync.WaitGroup).Done", "(*sync.WaitGroup).Wait", "internal/race.Acquire", "internal/synctest.IsAssociated[sync.WaitGroup]", "sync/atomic.CompareAndSwapUint64", "internal/race.Write", "sync.runtime_SemacquireWaitGroup"], unfollowed := true, recurses := true, plainKeys := false, leaving := true, apart := false, narrowed := true }
def KeyNumberedUptoSaid : Prop := keyNumberedUptoRow.holds Tryz.pinned (OpenSpec.upto keyNumberedSpec)

/-- 'gladstonelaw08.KeyCounts', WHERE WHAT IT READS IS OF BULK AT MOST 1048576: true; the input reads as it did. -/
def keyCountsUptoRow : OpenClaim := { program := "ytoaaoiipickclaagreat", sum := "18601b7c4143975cd1bf5b6fba77fb6a6fb157880db2ee3b95cad801deaed852", func := "gladstone/gladstonelaw08.KeyCounts", spec := "keyCounts", inPlace := ["(*sync.WaitGroup).Add", "internal/race.ReleaseMerge", "internal/race.Disable", "internal/race.Enable", "internal/synctest.IsInBubble", "internal/synctest.Associate[sync.WaitGroup]", "sync.fatal", "sync/atomic.OrUint64", "sync/atomic.AddUint64", "internal/race.Read", "sync/atomic.LoadUint64", "sync/atomic.StoreUint64", "internal/synctest.Disassociate[sync.WaitGroup]", "sync.runtime_Semrelease", "(*sync.WaitGroup).Done", "(*sync.WaitGroup).Wait", "internal/race.Acquire", "internal/synctest.IsAssociated[sync.WaitGroup]", "sync/atomic.CompareAndSwapUint64", "internal/race.Write", "sync.runtime_SemacquireWaitGroup"], unfollowed := true, recurses := true, plainKeys := false, leaving := true, apart := false, narrowed := true }
def KeyCountsUptoSaid : Prop := keyCountsUptoRow.holds Tryz.pinned (OpenSpec.upto keyCountsSpec)

/-- 'gladstonelaw08.KeyAll', WHERE WHAT IT READS IS OF BULK AT MOST 1048576: true; the input reads as it did. -/
def keyAllUptoRow : OpenClaim := { program := "ytoaaoiipickclaagreat", sum := "18601b7c4143975cd1bf5b6fba77fb6a6fb157880db2ee3b95cad801deaed852", func := "gladstone/gladstonelaw08.KeyAll", spec := "keyAll", inPlace := ["(*sync.WaitGroup).Add", "internal/race.ReleaseMerge", "internal/race.Disable", "internal/race.Enable", "internal/synctest.IsInBubble", "internal/synctest.Associate[sync.WaitGroup]", "sync.fatal", "sync/atomic.OrUint64", "sync/atomic.AddUint64", "internal/race.Read", "sync/atomic.LoadUint64", "sync/atomic.StoreUint64", "internal/synctest.Disassociate[sync.WaitGroup]", "sync.runtime_Semrelease", "(*sync.WaitGroup).Done", "(*sync.WaitGroup).Wait", "internal/race.Acquire", "internal/synctest.IsAssociated[sync.WaitGroup]", "sync/atomic.CompareAndSwapUint64", "internal/race.Write", "sync.runtime_SemacquireWaitGroup"], unfollowed := true, recurses := true, plainKeys := false, leaving := true, apart := false, narrowed := true }
def KeyAllUptoSaid : Prop := keyAllUptoRow.holds Tryz.pinned (OpenSpec.upto keyAllSpec)

/-- 'gladstonelaw08.KeyTrue', WHERE WHAT IT READS IS OF BULK AT MOST 1048576: true; the input reads as it did. -/
def keyTrueUptoRow : OpenClaim := { program := "ytoaaoiipickclaagreat", sum := "18601b7c4143975cd1bf5b6fba77fb6a6fb157880db2ee3b95cad801deaed852", func := "gladstone/gladstonelaw08.KeyTrue", spec := "keyTrue", inPlace := ["(*sync.WaitGroup).Add", "internal/race.ReleaseMerge", "internal/race.Disable", "internal/race.Enable", "internal/synctest.IsInBubble", "internal/synctest.Associate[sync.WaitGroup]", "sync.fatal", "sync/atomic.OrUint64", "sync/atomic.AddUint64", "internal/race.Read", "sync/atomic.LoadUint64", "sync/atomic.StoreUint64", "internal/synctest.Disassociate[sync.WaitGroup]", "sync.runtime_Semrelease", "(*sync.WaitGroup).Done", "(*sync.WaitGroup).Wait", "internal/race.Acquire", "internal/synctest.IsAssociated[sync.WaitGroup]", "sync/atomic.CompareAndSwapUint64", "internal/race.Write", "sync.runtime_SemacquireWaitGroup"], unfollowed := true, recurses := true, plainKeys := false, leaving := true, apart := false, narrowed := true }
def KeyTrueUptoSaid : Prop := keyTrueUptoRow.holds Tryz.pinned (OpenSpec.upto keyTrueSpec)

/-- 'gladstonelaw08.KeyAsks', WHERE WHAT IT READS IS OF BULK AT MOST 1048576: true; the input reads as it did. -/
def keyAsksUptoRow : OpenClaim := { program := "ytoaaoiipickclaagreat", sum := "18601b7c4143975cd1bf5b6fba77fb6a6fb157880db2ee3b95cad801deaed852", func := "gladstone/gladstonelaw08.KeyAsks", spec := "keyAsks", inPlace := ["(*sync.WaitGroup).Add", "internal/race.ReleaseMerge", "internal/race.Disable", "internal/race.Enable", "internal/synctest.IsInBubble", "internal/synctest.Associate[sync.WaitGroup]", "sync.fatal", "sync/atomic.OrUint64", "sync/atomic.AddUint64", "internal/race.Read", "sync/atomic.LoadUint64", "sync/atomic.StoreUint64", "internal/synctest.Disassociate[sync.WaitGroup]", "sync.runtime_Semrelease", "(*sync.WaitGroup).Done", "(*sync.WaitGroup).Wait", "internal/race.Acquire", "internal/synctest.IsAssociated[sync.WaitGroup]", "sync/atomic.CompareAndSwapUint64", "internal/race.Write", "sync.runtime_SemacquireWaitGroup"], unfollowed := true, recurses := true, plainKeys := false, leaving := true, apart := false, narrowed := true }
def KeyAsksUptoSaid : Prop := keyAsksUptoRow.holds Tryz.pinned (OpenSpec.upto keyAsksSpec)

/-- 'gladstonelaw08.KeyNews', WHERE WHAT IT READS IS OF BULK AT MOST 1048576: true; the input reads as it did. -/
def keyNewsUptoRow : OpenClaim := { program := "ytoaaoiipickclaagreat", sum := "18601b7c4143975cd1bf5b6fba77fb6a6fb157880db2ee3b95cad801deaed852", func := "gladstone/gladstonelaw08.KeyNews", spec := "keyNews", inPlace := ["(*sync.WaitGroup).Add", "internal/race.ReleaseMerge", "internal/race.Disable", "internal/race.Enable", "internal/synctest.IsInBubble", "internal/synctest.Associate[sync.WaitGroup]", "sync.fatal", "sync/atomic.OrUint64", "sync/atomic.AddUint64", "internal/race.Read", "sync/atomic.LoadUint64", "sync/atomic.StoreUint64", "internal/synctest.Disassociate[sync.WaitGroup]", "sync.runtime_Semrelease", "(*sync.WaitGroup).Done", "(*sync.WaitGroup).Wait", "internal/race.Acquire", "internal/synctest.IsAssociated[sync.WaitGroup]", "sync/atomic.CompareAndSwapUint64", "internal/race.Write", "sync.runtime_SemacquireWaitGroup"], unfollowed := true, recurses := true, plainKeys := false, leaving := true, apart := false, narrowed := true }
def KeyNewsUptoSaid : Prop := keyNewsUptoRow.holds Tryz.pinned (OpenSpec.upto keyNewsSpec)

/-- 'gladstonelaw08.KeyMaster', WHERE WHAT IT READS IS OF BULK AT MOST 1048576: true; the input reads as it did. -/
def keyMasterUptoRow : OpenClaim := { program := "ytoaaoiipickclaagreat", sum := "18601b7c4143975cd1bf5b6fba77fb6a6fb157880db2ee3b95cad801deaed852", func := "gladstone/gladstonelaw08.KeyMaster", spec := "keyMaster", inPlace := ["(*sync.WaitGroup).Add", "internal/race.ReleaseMerge", "internal/race.Disable", "internal/race.Enable", "internal/synctest.IsInBubble", "internal/synctest.Associate[sync.WaitGroup]", "sync.fatal", "sync/atomic.OrUint64", "sync/atomic.AddUint64", "internal/race.Read", "sync/atomic.LoadUint64", "sync/atomic.StoreUint64", "internal/synctest.Disassociate[sync.WaitGroup]", "sync.runtime_Semrelease", "(*sync.WaitGroup).Done", "(*sync.WaitGroup).Wait", "internal/race.Acquire", "internal/synctest.IsAssociated[sync.WaitGroup]", "sync/atomic.CompareAndSwapUint64", "internal/race.Write", "sync.runtime_SemacquireWaitGroup"], unfollowed := true, recurses := true, plainKeys := false, leaving := true, apart := false, narrowed := true }
def KeyMasterUptoSaid : Prop := keyMasterUptoRow.holds Tryz.pinned (OpenSpec.upto keyMasterSpec)

/-- 'gladstonelaw08.KeyMore', WHERE WHAT IT READS IS OF BULK AT MOST 1048576: true; the input reads as it did. -/
def keyMoreUptoRow : OpenClaim := { program := "ytoaaoiipickclaagreat", sum := "18601b7c4143975cd1bf5b6fba77fb6a6fb157880db2ee3b95cad801deaed852", func := "gladstone/gladstonelaw08.KeyMore", spec := "keyMore", inPlace := ["(*sync.WaitGroup).Add", "internal/race.ReleaseMerge", "internal/race.Disable", "internal/race.Enable", "internal/synctest.IsInBubble", "internal/synctest.Associate[sync.WaitGroup]", "sync.fatal", "sync/atomic.OrUint64", "sync/atomic.AddUint64", "internal/race.Read", "sync/atomic.LoadUint64", "sync/atomic.StoreUint64", "internal/synctest.Disassociate[sync.WaitGroup]", "sync.runtime_Semrelease", "(*sync.WaitGroup).Done", "(*sync.WaitGroup).Wait", "internal/race.Acquire", "internal/synctest.IsAssociated[sync.WaitGroup]", "sync/atomic.CompareAndSwapUint64", "internal/race.Write", "sync.runtime_SemacquireWaitGroup"], unfollowed := true, recurses := true, plainKeys := false, leaving := true, apart := false, narrowed := true }
def KeyMoreUptoSaid : Prop := keyMoreUptoRow.holds Tryz.pinned (OpenSpec.upto keyMoreSpec)

/-- 'gladstonelaw08.KeyTurned', WHERE WHAT IT READS IS OF BULK AT MOST 1048576: true; the input reads as it did. -/
def keyTurnedUptoRow : OpenClaim := { program := "ytoaaoiipickclaagreat", sum := "18601b7c4143975cd1bf5b6fba77fb6a6fb157880db2ee3b95cad801deaed852", func := "gladstone/gladstonelaw08.KeyTurned", spec := "keyTurned", inPlace := ["(*sync.WaitGroup).Add", "internal/race.ReleaseMerge", "internal/race.Disable", "internal/race.Enable", "internal/synctest.IsInBubble", "internal/synctest.Associate[sync.WaitGroup]", "sync.fatal", "sync/atomic.OrUint64", "sync/atomic.AddUint64", "internal/race.Read", "sync/atomic.LoadUint64", "sync/atomic.StoreUint64", "internal/synctest.Disassociate[sync.WaitGroup]", "sync.runtime_Semrelease", "(*sync.WaitGroup).Done", "(*sync.WaitGroup).Wait", "internal/race.Acquire", "internal/synctest.IsAssociated[sync.WaitGroup]", "sync/atomic.CompareAndSwapUint64", "internal/race.Write", "sync.runtime_SemacquireWaitGroup"], unfollowed := true, recurses := true, plainKeys := false, leaving := true, apart := false, narrowed := true }
def KeyTurnedUptoSaid : Prop := keyTurnedUptoRow.holds Tryz.pinned (OpenSpec.upto keyTurnedSpec)

/-- 'gladstonelaw08.KeyKnown', WHERE WHAT IT READS IS OF BULK AT MOST 1048576: true; the input reads as it did. -/
def keyKnownUptoRow : OpenClaim := { program := "ytoaaoiipickclaagreat", sum := "18601b7c4143975cd1bf5b6fba77fb6a6fb157880db2ee3b95cad801deaed852", func := "gladstone/gladstonelaw08.KeyKnown", spec := "keyKnown", inPlace := ["(*sync.WaitGroup).Add", "internal/race.ReleaseMerge", "internal/race.Disable", "internal/race.Enable", "internal/synctest.IsInBubble", "internal/synctest.Associate[sync.WaitGroup]", "sync.fatal", "sync/atomic.OrUint64", "sync/atomic.AddUint64", "internal/race.Read", "sync/atomic.LoadUint64", "sync/atomic.StoreUint64", "internal/synctest.Disassociate[sync.WaitGroup]", "sync.runtime_Semrelease", "(*sync.WaitGroup).Done", "(*sync.WaitGroup).Wait", "internal/race.Acquire", "internal/synctest.IsAssociated[sync.WaitGroup]", "sync/atomic.CompareAndSwapUint64", "internal/race.Write", "sync.runtime_SemacquireWaitGroup"], unfollowed := true, recurses := true, plainKeys := false, leaving := true, apart := false, narrowed := true }
def KeyKnownUptoSaid : Prop := keyKnownUptoRow.holds Tryz.pinned (OpenSpec.upto keyKnownSpec)

end Rows
end Go.Proofs.YtoaaoiipickclaaGreat
