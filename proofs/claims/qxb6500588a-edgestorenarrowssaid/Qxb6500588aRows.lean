/-
  No cell of these rows narrows 'for every input' (looked for: loops, veiled, ifaces, maps, wideKeys, modest, calm, conditions, laid).
  DERIVED. THE GIVEN ROWS OF THIS SEAT. 11 by the template 'for every input the law returns true; each argument reads behind the call as it read before'; 0 by the template 'total and deterministic' (their statements: Qxb6500588aTotals.lean).
  GIVEN WITH THE SEED: the statements are not yours to turn. If you find one false, say at which input.
  Laid BY PROGRAM, IN A SANDBOX (cutbox-rows.mjs): the forced cells as the released guide's own fill.sh prints them over the translation e7319c3885daa7d9… (all of the seat's roots in one cut). By AI agents, Wed Nov 11 2026. No macro, syntax, notation, axiom, sorry.
-/
import Derived.Test.Qxb6500588aChecked
import GoSem.Claim
import GoSem.ClaimJoined
import GoSem.ClaimMapViews
import Derived.JoinedTies
import Derived.KernelRfl
namespace Go.Proofs.Qxb6500588a
/- THE CELL 'sum', in the pinned program and in every row, IS THE sha256 OF THE DUMP (.gsa) THAT Qxb6500588aProg.lean LOADS. Nothing in Lean hashes anything: it is a label: what it is worth is what the hold of that sum in a sandbox is worth. -/
noncomputable def Try.pinned : Pinned := { name := "qxb6500588a", sum := "e7319c3885daa7d978908231999029d47ab1881f03e42aa85915c0ebb124dba8", checked := Try.checked }
namespace Rows
def none {H : Type} : Left H := { results := [], args := [] }

/-- 'flagslaw.EdgeOrUintptr': WHATEVER THE INPUT: true; the input reads as it did. -/
def edgeOrUintptrSpec : ChangeSpec := { name := "edgeOrUintptr", fn := fun _ => fun
  | [d] => { results := [.lit (.bool true)], args := [d] }
  | _ => none }
def edgeOrUintptrRow : OpenClaim := { program := "qxb6500588a", sum := "e7319c3885daa7d978908231999029d47ab1881f03e42aa85915c0ebb124dba8", func := "e2e/flagslaw.EdgeOrUintptr", spec := "edgeOrUintptr", inPlace := ["sync/atomic.StoreInt32", "sync/atomic.StoreUint32", "sync/atomic.StoreInt64", "sync/atomic.StoreUint64", "sync/atomic.StoreUintptr", "(*sync.WaitGroup).Add", "internal/race.ReleaseMerge", "internal/race.Disable", "internal/race.Enable", "internal/synctest.IsInBubble", "internal/synctest.Associate[sync.WaitGroup]", "sync.fatal", "sync/atomic.OrUint64", "sync/atomic.AddUint64", "internal/race.Read", "sync/atomic.LoadUint64", "internal/synctest.Disassociate[sync.WaitGroup]", "sync.runtime_Semrelease", "(*sync.WaitGroup).Done", "sync/atomic.OrInt32", "sync/atomic.OrUint32", "sync/atomic.OrInt64", "sync/atomic.OrUintptr", "sync/atomic.AndInt32", "sync/atomic.AndUint32", "sync/atomic.AndInt64", "sync/atomic.AndUint64", "sync/atomic.AndUintptr", "sync/atomic.LoadInt32", "sync/atomic.LoadUint32", "sync/atomic.LoadInt64", "sync/atomic.LoadUintptr", "sync/atomic.CompareAndSwapInt32", "sync/atomic.CompareAndSwapUint32", "sync/atomic.CompareAndSwapInt64", "sync/atomic.CompareAndSwapUint64", "sync/atomic.CompareAndSwapUintptr", "sync/atomic.AddInt32", "sync/atomic.AddUint32", "sync/atomic.AddInt64", "sync/atomic.AddUintptr", "sync/atomic.SwapUint32", "(*sync.WaitGroup).Go", "(*sync.WaitGroup).Go$1", "(*sync.WaitGroup).Go$1$1", "(*sync.WaitGroup).Wait", "internal/race.Acquire", "internal/synctest.IsAssociated[sync.WaitGroup]", "internal/race.Write", "sync.runtime_SemacquireWaitGroup"], unfollowed := true, recurses := true, apart := false }
def EdgeOrUintptrSaid : Prop := edgeOrUintptrRow.holds Try.pinned (OpenSpec.ofChange edgeOrUintptrSpec)

/-- ITS FALSE NEIGHBOUR: 'it returns false'. Refute it at one input. -/
def edgeOrUintptrWrong : ChangeSpec := { name := "edgeOrUintptr", fn := fun _ => fun
  | [d] => { results := [.lit (.bool false)], args := [d] }
  | _ => none }
def EdgeOrUintptrWrongFalsely : Prop := edgeOrUintptrRow.holds Try.pinned (OpenSpec.ofChange edgeOrUintptrWrong)

/-- 'flagslaw.EdgeAndUintptr': WHATEVER THE INPUT: true; the input reads as it did. -/
def edgeAndUintptrSpec : ChangeSpec := { name := "edgeAndUintptr", fn := fun _ => fun
  | [d] => { results := [.lit (.bool true)], args := [d] }
  | _ => none }
def edgeAndUintptrRow : OpenClaim := { program := "qxb6500588a", sum := "e7319c3885daa7d978908231999029d47ab1881f03e42aa85915c0ebb124dba8", func := "e2e/flagslaw.EdgeAndUintptr", spec := "edgeAndUintptr", inPlace := ["sync/atomic.StoreInt32", "sync/atomic.StoreUint32", "sync/atomic.StoreInt64", "sync/atomic.StoreUint64", "sync/atomic.StoreUintptr", "(*sync.WaitGroup).Add", "internal/race.ReleaseMerge", "internal/race.Disable", "internal/race.Enable", "internal/synctest.IsInBubble", "internal/synctest.Associate[sync.WaitGroup]", "sync.fatal", "sync/atomic.OrUint64", "sync/atomic.AddUint64", "internal/race.Read", "sync/atomic.LoadUint64", "internal/synctest.Disassociate[sync.WaitGroup]", "sync.runtime_Semrelease", "(*sync.WaitGroup).Done", "sync/atomic.OrInt32", "sync/atomic.OrUint32", "sync/atomic.OrInt64", "sync/atomic.OrUintptr", "sync/atomic.AndInt32", "sync/atomic.AndUint32", "sync/atomic.AndInt64", "sync/atomic.AndUint64", "sync/atomic.AndUintptr", "sync/atomic.LoadInt32", "sync/atomic.LoadUint32", "sync/atomic.LoadInt64", "sync/atomic.LoadUintptr", "sync/atomic.CompareAndSwapInt32", "sync/atomic.CompareAndSwapUint32", "sync/atomic.CompareAndSwapInt64", "sync/atomic.CompareAndSwapUint64", "sync/atomic.CompareAndSwapUintptr", "sync/atomic.AddInt32", "sync/atomic.AddUint32", "sync/atomic.AddInt64", "sync/atomic.AddUintptr", "sync/atomic.SwapUint32", "(*sync.WaitGroup).Go", "(*sync.WaitGroup).Go$1", "(*sync.WaitGroup).Go$1$1", "(*sync.WaitGroup).Wait", "internal/race.Acquire", "internal/synctest.IsAssociated[sync.WaitGroup]", "internal/race.Write", "sync.runtime_SemacquireWaitGroup"], unfollowed := true, recurses := true, apart := false }
def EdgeAndUintptrSaid : Prop := edgeAndUintptrRow.holds Try.pinned (OpenSpec.ofChange edgeAndUintptrSpec)

/-- ITS FALSE NEIGHBOUR: 'it returns false'. Refute it at one input. -/
def edgeAndUintptrWrong : ChangeSpec := { name := "edgeAndUintptr", fn := fun _ => fun
  | [d] => { results := [.lit (.bool false)], args := [d] }
  | _ => none }
def EdgeAndUintptrWrongFalsely : Prop := edgeAndUintptrRow.holds Try.pinned (OpenSpec.ofChange edgeAndUintptrWrong)

/-- 'flagslaw.EdgeAddUintptrWraps': WHATEVER THE INPUT: true; the input reads as it did. -/
def edgeAddUintptrWrapsSpec : ChangeSpec := { name := "edgeAddUintptrWraps", fn := fun _ => fun
  | [d] => { results := [.lit (.bool true)], args := [d] }
  | _ => none }
def edgeAddUintptrWrapsRow : OpenClaim := { program := "qxb6500588a", sum := "e7319c3885daa7d978908231999029d47ab1881f03e42aa85915c0ebb124dba8", func := "e2e/flagslaw.EdgeAddUintptrWraps", spec := "edgeAddUintptrWraps", inPlace := ["sync/atomic.StoreInt32", "sync/atomic.StoreUint32", "sync/atomic.StoreInt64", "sync/atomic.StoreUint64", "sync/atomic.StoreUintptr", "(*sync.WaitGroup).Add", "internal/race.ReleaseMerge", "internal/race.Disable", "internal/race.Enable", "internal/synctest.IsInBubble", "internal/synctest.Associate[sync.WaitGroup]", "sync.fatal", "sync/atomic.OrUint64", "sync/atomic.AddUint64", "internal/race.Read", "sync/atomic.LoadUint64", "internal/synctest.Disassociate[sync.WaitGroup]", "sync.runtime_Semrelease", "(*sync.WaitGroup).Done", "sync/atomic.OrInt32", "sync/atomic.OrUint32", "sync/atomic.OrInt64", "sync/atomic.OrUintptr", "sync/atomic.AndInt32", "sync/atomic.AndUint32", "sync/atomic.AndInt64", "sync/atomic.AndUint64", "sync/atomic.AndUintptr", "sync/atomic.LoadInt32", "sync/atomic.LoadUint32", "sync/atomic.LoadInt64", "sync/atomic.LoadUintptr", "sync/atomic.CompareAndSwapInt32", "sync/atomic.CompareAndSwapUint32", "sync/atomic.CompareAndSwapInt64", "sync/atomic.CompareAndSwapUint64", "sync/atomic.CompareAndSwapUintptr", "sync/atomic.AddInt32", "sync/atomic.AddUint32", "sync/atomic.AddInt64", "sync/atomic.AddUintptr", "sync/atomic.SwapUint32", "(*sync.WaitGroup).Go", "(*sync.WaitGroup).Go$1", "(*sync.WaitGroup).Go$1$1", "(*sync.WaitGroup).Wait", "internal/race.Acquire", "internal/synctest.IsAssociated[sync.WaitGroup]", "internal/race.Write", "sync.runtime_SemacquireWaitGroup"], unfollowed := true, recurses := true, apart := false }
def EdgeAddUintptrWrapsSaid : Prop := edgeAddUintptrWrapsRow.holds Try.pinned (OpenSpec.ofChange edgeAddUintptrWrapsSpec)

/-- ITS FALSE NEIGHBOUR: 'it returns false'. Refute it at one input. -/
def edgeAddUintptrWrapsWrong : ChangeSpec := { name := "edgeAddUintptrWraps", fn := fun _ => fun
  | [d] => { results := [.lit (.bool false)], args := [d] }
  | _ => none }
def EdgeAddUintptrWrapsWrongFalsely : Prop := edgeAddUintptrWrapsRow.holds Try.pinned (OpenSpec.ofChange edgeAddUintptrWrapsWrong)

/-- 'flagslaw.EdgeAddUintptrDraws': WHATEVER THE INPUT: true; the input reads as it did. -/
def edgeAddUintptrDrawsSpec : ChangeSpec := { name := "edgeAddUintptrDraws", fn := fun _ => fun
  | [d] => { results := [.lit (.bool true)], args := [d] }
  | _ => none }
def edgeAddUintptrDrawsRow : OpenClaim := { program := "qxb6500588a", sum := "e7319c3885daa7d978908231999029d47ab1881f03e42aa85915c0ebb124dba8", func := "e2e/flagslaw.EdgeAddUintptrDraws", spec := "edgeAddUintptrDraws", inPlace := ["(*sync.WaitGroup).Add", "internal/race.ReleaseMerge", "internal/race.Disable", "internal/race.Enable", "internal/synctest.IsInBubble", "internal/synctest.Associate[sync.WaitGroup]", "sync.fatal", "sync/atomic.OrUint64", "sync/atomic.AddUint64", "internal/race.Read", "sync/atomic.LoadUint64", "sync/atomic.StoreUint64", "internal/synctest.Disassociate[sync.WaitGroup]", "sync.runtime_Semrelease", "(*sync.WaitGroup).Done", "sync/atomic.OrInt32", "sync/atomic.OrUint32", "sync/atomic.OrInt64", "sync/atomic.OrUintptr", "sync/atomic.AndInt32", "sync/atomic.AndUint32", "sync/atomic.AndInt64", "sync/atomic.AndUint64", "sync/atomic.AndUintptr", "sync/atomic.LoadInt32", "sync/atomic.LoadUint32", "sync/atomic.LoadInt64", "sync/atomic.LoadUintptr", "sync/atomic.CompareAndSwapInt32", "sync/atomic.CompareAndSwapUint32", "sync/atomic.CompareAndSwapInt64", "sync/atomic.CompareAndSwapUint64", "sync/atomic.CompareAndSwapUintptr", "sync/atomic.AddInt32", "sync/atomic.AddUint32", "sync/atomic.AddInt64", "sync/atomic.AddUintptr", "sync/atomic.SwapUint32", "(*sync.WaitGroup).Go", "(*sync.WaitGroup).Go$1", "(*sync.WaitGroup).Go$1$1", "(*sync.WaitGroup).Wait", "internal/race.Acquire", "internal/synctest.IsAssociated[sync.WaitGroup]", "internal/race.Write", "sync.runtime_SemacquireWaitGroup"], unfollowed := true, recurses := true, apart := false }
def EdgeAddUintptrDrawsSaid : Prop := edgeAddUintptrDrawsRow.holds Try.pinned (OpenSpec.ofChange edgeAddUintptrDrawsSpec)

/-- ITS FALSE NEIGHBOUR: 'it returns false'. Refute it at one input. -/
def edgeAddUintptrDrawsWrong : ChangeSpec := { name := "edgeAddUintptrDraws", fn := fun _ => fun
  | [d] => { results := [.lit (.bool false)], args := [d] }
  | _ => none }
def EdgeAddUintptrDrawsWrongFalsely : Prop := edgeAddUintptrDrawsRow.holds Try.pinned (OpenSpec.ofChange edgeAddUintptrDrawsWrong)

/-- 'flagslaw.EdgeSwapUintptr': WHATEVER THE INPUT: true; the input reads as it did. -/
def edgeSwapUintptrSpec : ChangeSpec := { name := "edgeSwapUintptr", fn := fun _ => fun
  | [d] => { results := [.lit (.bool true)], args := [d] }
  | _ => none }
def edgeSwapUintptrRow : OpenClaim := { program := "qxb6500588a", sum := "e7319c3885daa7d978908231999029d47ab1881f03e42aa85915c0ebb124dba8", func := "e2e/flagslaw.EdgeSwapUintptr", spec := "edgeSwapUintptr", inPlace := ["sync/atomic.StoreInt32", "sync/atomic.StoreUint32", "sync/atomic.StoreInt64", "sync/atomic.StoreUint64", "sync/atomic.StoreUintptr", "sync/atomic.SwapInt32", "sync/atomic.SwapUint32", "sync/atomic.SwapInt64", "sync/atomic.SwapUint64", "sync/atomic.SwapUintptr", "sync/atomic.LoadInt32", "sync/atomic.LoadUint32", "sync/atomic.LoadInt64", "sync/atomic.LoadUint64", "sync/atomic.LoadUintptr"], apart := false }
def EdgeSwapUintptrSaid : Prop := edgeSwapUintptrRow.holds Try.pinned (OpenSpec.ofChange edgeSwapUintptrSpec)

/-- ITS FALSE NEIGHBOUR: 'it returns false'. Refute it at one input. -/
def edgeSwapUintptrWrong : ChangeSpec := { name := "edgeSwapUintptr", fn := fun _ => fun
  | [d] => { results := [.lit (.bool false)], args := [d] }
  | _ => none }
def EdgeSwapUintptrWrongFalsely : Prop := edgeSwapUintptrRow.holds Try.pinned (OpenSpec.ofChange edgeSwapUintptrWrong)

/-- 'flagslaw.EdgeCasUintptr': WHATEVER THE INPUT: true; the input reads as it did. -/
def edgeCasUintptrSpec : ChangeSpec := { name := "edgeCasUintptr", fn := fun _ => fun
  | [d] => { results := [.lit (.bool true)], args := [d] }
  | _ => none }
def edgeCasUintptrRow : OpenClaim := { program := "qxb6500588a", sum := "e7319c3885daa7d978908231999029d47ab1881f03e42aa85915c0ebb124dba8", func := "e2e/flagslaw.EdgeCasUintptr", spec := "edgeCasUintptr", inPlace := ["sync/atomic.StoreInt32", "sync/atomic.StoreUint32", "sync/atomic.StoreInt64", "sync/atomic.StoreUint64", "sync/atomic.StoreUintptr", "sync/atomic.CompareAndSwapInt32", "sync/atomic.CompareAndSwapUint32", "sync/atomic.CompareAndSwapInt64", "sync/atomic.CompareAndSwapUint64", "sync/atomic.CompareAndSwapUintptr", "sync/atomic.LoadInt32", "sync/atomic.LoadUint32", "sync/atomic.LoadInt64", "sync/atomic.LoadUint64", "sync/atomic.LoadUintptr"], apart := false }
def EdgeCasUintptrSaid : Prop := edgeCasUintptrRow.holds Try.pinned (OpenSpec.ofChange edgeCasUintptrSpec)

/-- ITS FALSE NEIGHBOUR: 'it returns false'. Refute it at one input. -/
def edgeCasUintptrWrong : ChangeSpec := { name := "edgeCasUintptr", fn := fun _ => fun
  | [d] => { results := [.lit (.bool false)], args := [d] }
  | _ => none }
def EdgeCasUintptrWrongFalsely : Prop := edgeCasUintptrRow.holds Try.pinned (OpenSpec.ofChange edgeCasUintptrWrong)

/-- 'flagslaw.EdgeFieldUintptr': WHATEVER THE INPUT: true; the input reads as it did. -/
def edgeFieldUintptrSpec : ChangeSpec := { name := "edgeFieldUintptr", fn := fun _ => fun
  | [d] => { results := [.lit (.bool true)], args := [d] }
  | _ => none }
def edgeFieldUintptrRow : OpenClaim := { program := "qxb6500588a", sum := "e7319c3885daa7d978908231999029d47ab1881f03e42aa85915c0ebb124dba8", func := "e2e/flagslaw.EdgeFieldUintptr", spec := "edgeFieldUintptr", inPlace := ["sync/atomic.StoreInt32", "sync/atomic.StoreUint32", "sync/atomic.StoreInt64", "sync/atomic.StoreUint64", "sync/atomic.StoreUintptr", "(*sync.WaitGroup).Add", "internal/race.ReleaseMerge", "internal/race.Disable", "internal/race.Enable", "internal/synctest.IsInBubble", "internal/synctest.Associate[sync.WaitGroup]", "sync.fatal", "sync/atomic.OrUint64", "sync/atomic.AddUint64", "internal/race.Read", "sync/atomic.LoadUint64", "internal/synctest.Disassociate[sync.WaitGroup]", "sync.runtime_Semrelease", "(*sync.WaitGroup).Done", "sync/atomic.OrInt32", "sync/atomic.OrUint32", "sync/atomic.OrInt64", "sync/atomic.OrUintptr", "sync/atomic.AndInt32", "sync/atomic.AndUint32", "sync/atomic.AndInt64", "sync/atomic.AndUint64", "sync/atomic.AndUintptr", "sync/atomic.LoadInt32", "sync/atomic.LoadUint32", "sync/atomic.LoadInt64", "sync/atomic.LoadUintptr", "sync/atomic.CompareAndSwapInt32", "sync/atomic.CompareAndSwapUint32", "sync/atomic.CompareAndSwapInt64", "sync/atomic.CompareAndSwapUint64", "sync/atomic.CompareAndSwapUintptr", "sync/atomic.AddInt32", "sync/atomic.AddUint32", "sync/atomic.AddInt64", "sync/atomic.AddUintptr", "sync/atomic.SwapUint32", "(*sync.WaitGroup).Go", "(*sync.WaitGroup).Go$1", "(*sync.WaitGroup).Go$1$1", "(*sync.WaitGroup).Wait", "internal/race.Acquire", "internal/synctest.IsAssociated[sync.WaitGroup]", "internal/race.Write", "sync.runtime_SemacquireWaitGroup"], unfollowed := true, recurses := true, apart := false }
def EdgeFieldUintptrSaid : Prop := edgeFieldUintptrRow.holds Try.pinned (OpenSpec.ofChange edgeFieldUintptrSpec)

/-- ITS FALSE NEIGHBOUR: 'it returns false'. Refute it at one input. -/
def edgeFieldUintptrWrong : ChangeSpec := { name := "edgeFieldUintptr", fn := fun _ => fun
  | [d] => { results := [.lit (.bool false)], args := [d] }
  | _ => none }
def EdgeFieldUintptrWrongFalsely : Prop := edgeFieldUintptrRow.holds Try.pinned (OpenSpec.ofChange edgeFieldUintptrWrong)

/-- 'flagslaw.EdgeStoreNarrows': WHATEVER THE INPUT: true; the input reads as it did. -/
def edgeStoreNarrowsSpec : ChangeSpec := { name := "edgeStoreNarrows", fn := fun _ => fun
  | [d] => { results := [.lit (.bool true)], args := [d] }
  | _ => none }
def edgeStoreNarrowsRow : OpenClaim := { program := "qxb6500588a", sum := "e7319c3885daa7d978908231999029d47ab1881f03e42aa85915c0ebb124dba8", func := "e2e/flagslaw.EdgeStoreNarrows", spec := "edgeStoreNarrows", inPlace := ["sync/atomic.StoreInt32", "sync/atomic.StoreUint32", "sync/atomic.StoreInt64", "sync/atomic.StoreUint64", "sync/atomic.StoreUintptr", "sync/atomic.LoadInt32", "sync/atomic.LoadUint32", "sync/atomic.LoadInt64", "sync/atomic.LoadUint64", "sync/atomic.LoadUintptr"], apart := false }
def EdgeStoreNarrowsSaid : Prop := edgeStoreNarrowsRow.holds Try.pinned (OpenSpec.ofChange edgeStoreNarrowsSpec)

/-- ITS FALSE NEIGHBOUR: 'it returns false'. Refute it at one input. -/
def edgeStoreNarrowsWrong : ChangeSpec := { name := "edgeStoreNarrows", fn := fun _ => fun
  | [d] => { results := [.lit (.bool false)], args := [d] }
  | _ => none }
def EdgeStoreNarrowsWrongFalsely : Prop := edgeStoreNarrowsRow.holds Try.pinned (OpenSpec.ofChange edgeStoreNarrowsWrong)

/-- 'flagslaw.EdgeCollectorLosesNoLane': WHATEVER THE INPUT: true; the input reads as it did. -/
def edgeCollectorLosesNoLaneSpec : ChangeSpec := { name := "edgeCollectorLosesNoLane", fn := fun _ => fun
  | [d] => { results := [.lit (.bool true)], args := [d] }
  | _ => none }
def edgeCollectorLosesNoLaneRow : OpenClaim := { program := "qxb6500588a", sum := "e7319c3885daa7d978908231999029d47ab1881f03e42aa85915c0ebb124dba8", func := "e2e/flagslaw.EdgeCollectorLosesNoLane", spec := "edgeCollectorLosesNoLane", inPlace := ["(*sync.WaitGroup).Add", "internal/race.ReleaseMerge", "internal/race.Disable", "internal/race.Enable", "internal/synctest.IsInBubble", "internal/synctest.Associate[sync.WaitGroup]", "sync.fatal", "sync/atomic.OrUint64", "sync/atomic.AddUint64", "internal/race.Read", "sync/atomic.LoadUint64", "sync/atomic.StoreUint64", "internal/synctest.Disassociate[sync.WaitGroup]", "sync.runtime_Semrelease", "(*sync.WaitGroup).Done", "sync/atomic.OrInt32", "sync/atomic.OrUint32", "sync/atomic.OrInt64", "sync/atomic.OrUintptr", "sync/atomic.AndInt32", "sync/atomic.AndUint32", "sync/atomic.AndInt64", "sync/atomic.AndUint64", "sync/atomic.AndUintptr", "sync/atomic.LoadInt32", "sync/atomic.LoadUint32", "sync/atomic.LoadInt64", "sync/atomic.LoadUintptr", "sync/atomic.CompareAndSwapInt32", "sync/atomic.CompareAndSwapUint32", "sync/atomic.CompareAndSwapInt64", "sync/atomic.CompareAndSwapUint64", "sync/atomic.CompareAndSwapUintptr", "sync/atomic.AddInt32", "sync/atomic.AddUint32", "sync/atomic.AddInt64", "sync/atomic.AddUintptr", "sync/atomic.SwapUint32", "(*sync.WaitGroup).Go", "(*sync.WaitGroup).Go$1", "(*sync.WaitGroup).Go$1$1", "(*sync.WaitGroup).Wait", "internal/race.Acquire", "internal/synctest.IsAssociated[sync.WaitGroup]", "internal/race.Write", "sync.runtime_SemacquireWaitGroup"], unfollowed := true, recurses := true, apart := false }
def EdgeCollectorLosesNoLaneSaid : Prop := edgeCollectorLosesNoLaneRow.holds Try.pinned (OpenSpec.ofChange edgeCollectorLosesNoLaneSpec)

/-- ITS FALSE NEIGHBOUR: 'it returns false'. Refute it at one input. -/
def edgeCollectorLosesNoLaneWrong : ChangeSpec := { name := "edgeCollectorLosesNoLane", fn := fun _ => fun
  | [d] => { results := [.lit (.bool false)], args := [d] }
  | _ => none }
def EdgeCollectorLosesNoLaneWrongFalsely : Prop := edgeCollectorLosesNoLaneRow.holds Try.pinned (OpenSpec.ofChange edgeCollectorLosesNoLaneWrong)

/-- 'flagslaw.EdgeFullLane': WHATEVER THE INPUT: true; the input reads as it did. -/
def edgeFullLaneSpec : ChangeSpec := { name := "edgeFullLane", fn := fun _ => fun
  | [d] => { results := [.lit (.bool true)], args := [d] }
  | _ => none }
def edgeFullLaneRow : OpenClaim := { program := "qxb6500588a", sum := "e7319c3885daa7d978908231999029d47ab1881f03e42aa85915c0ebb124dba8", func := "e2e/flagslaw.EdgeFullLane", spec := "edgeFullLane", inPlace := ["(*sync.WaitGroup).Add", "internal/race.ReleaseMerge", "internal/race.Disable", "internal/race.Enable", "internal/synctest.IsInBubble", "internal/synctest.Associate[sync.WaitGroup]", "sync.fatal", "sync/atomic.OrUint64", "sync/atomic.AddUint64", "internal/race.Read", "sync/atomic.LoadUint64", "sync/atomic.StoreUint64", "internal/synctest.Disassociate[sync.WaitGroup]", "sync.runtime_Semrelease", "(*sync.WaitGroup).Done", "sync/atomic.OrInt32", "sync/atomic.OrUint32", "sync/atomic.OrInt64", "sync/atomic.OrUintptr", "sync/atomic.AndInt32", "sync/atomic.AndUint32", "sync/atomic.AndInt64", "sync/atomic.AndUint64", "sync/atomic.AndUintptr", "sync/atomic.LoadInt32", "sync/atomic.LoadUint32", "sync/atomic.LoadInt64", "sync/atomic.LoadUintptr", "sync/atomic.CompareAndSwapInt32", "sync/atomic.CompareAndSwapUint32", "sync/atomic.CompareAndSwapInt64", "sync/atomic.CompareAndSwapUint64", "sync/atomic.CompareAndSwapUintptr", "sync/atomic.AddInt32", "sync/atomic.AddUint32", "sync/atomic.AddInt64", "sync/atomic.AddUintptr", "sync/atomic.SwapUint32", "(*sync.WaitGroup).Go", "(*sync.WaitGroup).Go$1", "(*sync.WaitGroup).Go$1$1", "(*sync.WaitGroup).Wait", "internal/race.Acquire", "internal/synctest.IsAssociated[sync.WaitGroup]", "internal/race.Write", "sync.runtime_SemacquireWaitGroup"], unfollowed := true, recurses := true, apart := false }
def EdgeFullLaneSaid : Prop := edgeFullLaneRow.holds Try.pinned (OpenSpec.ofChange edgeFullLaneSpec)

/-- ITS FALSE NEIGHBOUR: 'it returns false'. Refute it at one input. -/
def edgeFullLaneWrong : ChangeSpec := { name := "edgeFullLane", fn := fun _ => fun
  | [d] => { results := [.lit (.bool false)], args := [d] }
  | _ => none }
def EdgeFullLaneWrongFalsely : Prop := edgeFullLaneRow.holds Try.pinned (OpenSpec.ofChange edgeFullLaneWrong)

/-- 'flagslaw.Keeps': WHATEVER THE INPUT: true; the input reads as it did. -/
def keepsSpec : ChangeSpec := { name := "keeps", fn := fun _ => fun
  | [d] => { results := [.lit (.bool true)], args := [d] }
  | _ => none }
def keepsRow : OpenClaim := { program := "qxb6500588a", sum := "e7319c3885daa7d978908231999029d47ab1881f03e42aa85915c0ebb124dba8", func := "e2e/flagslaw.Keeps", spec := "keeps", inPlace := ["sync/atomic.LoadInt32", "sync/atomic.LoadUint32", "sync/atomic.LoadInt64", "sync/atomic.LoadUint64", "sync/atomic.LoadUintptr", "(*sync.WaitGroup).Add", "internal/race.ReleaseMerge", "internal/race.Disable", "internal/race.Enable", "internal/synctest.IsInBubble", "internal/synctest.Associate[sync.WaitGroup]", "sync.fatal", "sync/atomic.OrUint64", "sync/atomic.AddUint64", "internal/race.Read", "sync/atomic.StoreUint64", "internal/synctest.Disassociate[sync.WaitGroup]", "sync.runtime_Semrelease", "(*sync.WaitGroup).Done", "sync/atomic.OrInt32", "sync/atomic.OrUint32", "sync/atomic.OrInt64", "sync/atomic.OrUintptr", "sync/atomic.AndInt32", "sync/atomic.AndUint32", "sync/atomic.AndInt64", "sync/atomic.AndUint64", "sync/atomic.AndUintptr", "sync/atomic.CompareAndSwapInt32", "sync/atomic.CompareAndSwapUint32", "sync/atomic.CompareAndSwapInt64", "sync/atomic.CompareAndSwapUint64", "sync/atomic.CompareAndSwapUintptr", "sync/atomic.AddInt32", "sync/atomic.AddUint32", "sync/atomic.AddInt64", "sync/atomic.AddUintptr", "sync/atomic.SwapUint32", "(*sync.WaitGroup).Go", "(*sync.WaitGroup).Go$1", "(*sync.WaitGroup).Go$1$1", "(*sync.WaitGroup).Wait", "internal/race.Acquire", "internal/synctest.IsAssociated[sync.WaitGroup]", "internal/race.Write", "sync.runtime_SemacquireWaitGroup", "sync/atomic.SwapInt32", "sync/atomic.SwapInt64", "sync/atomic.SwapUint64", "sync/atomic.SwapUintptr", "sync/atomic.StoreInt32", "sync/atomic.StoreUint32", "sync/atomic.StoreInt64", "sync/atomic.StoreUintptr"], unfollowed := true, recurses := true, apart := false }
def KeepsSaid : Prop := keepsRow.holds Try.pinned (OpenSpec.ofChange keepsSpec)

/-- ITS FALSE NEIGHBOUR: 'it returns false'. Refute it at one input. -/
def keepsWrong : ChangeSpec := { name := "keeps", fn := fun _ => fun
  | [d] => { results := [.lit (.bool false)], args := [d] }
  | _ => none }
def KeepsWrongFalsely : Prop := keepsRow.holds Try.pinned (OpenSpec.ofChange keepsWrong)

end Rows
end Go.Proofs.Qxb6500588a
