/-
  No cell of these rows narrows 'for every input' (looked for: loops, veiled, ifaces, maps, wideKeys, modest, calm, conditions, laid).
  DERIVED. THE GIVEN ROWS OF THIS SEAT. 14 by the template 'for every input the law returns true; each argument reads behind the call as it read before'; 0 by the template 'total and deterministic' (their statements: Qxb6500586aTotals.lean).
  GIVEN WITH THE SEED: the statements are not yours to turn. If you find one false, say at which input.
  Laid BY PROGRAM, IN A SANDBOX (cutbox-rows.mjs): the forced cells as the released guide's own fill.sh prints them over the translation bf10aac2e3b9b11e… (all of the seat's roots in one cut). By AI agents, Wed Nov 11 2026. No macro, syntax, notation, axiom, sorry.
-/
import Derived.Test.Qxb6500586aChecked
import GoSem.Claim
import GoSem.ClaimJoined
import GoSem.ClaimMapViews
import Derived.JoinedTies
import Derived.KernelRfl
namespace Go.Proofs.Qxb6500586a
/- THE CELL 'sum', in the pinned program and in every row, IS THE sha256 OF THE DUMP (.gsa) THAT Qxb6500586aProg.lean LOADS. Nothing in Lean hashes anything: it is a label: what it is worth is what the hold of that sum in a sandbox is worth. -/
noncomputable def Try.pinned : Pinned := { name := "qxb6500586a", sum := "bf10aac2e3b9b11e033187af4913b8574fe65cb0c43b3bc78b3393087535a45e", checked := Try.checked }
namespace Rows
def none {H : Type} : Left H := { results := [], args := [] }

/-- 'flagslaw.EdgeOrInt32': WHATEVER THE INPUT: true; the input reads as it did. -/
def edgeOrInt32Spec : ChangeSpec := { name := "edgeOrInt32", fn := fun _ => fun
  | [d] => { results := [.lit (.bool true)], args := [d] }
  | _ => none }
def edgeOrInt32Row : OpenClaim := { program := "qxb6500586a", sum := "bf10aac2e3b9b11e033187af4913b8574fe65cb0c43b3bc78b3393087535a45e", func := "e2e/flagslaw.EdgeOrInt32", spec := "edgeOrInt32", inPlace := ["sync/atomic.StoreInt32", "sync/atomic.StoreUint32", "sync/atomic.StoreInt64", "sync/atomic.StoreUint64", "sync/atomic.StoreUintptr", "(*sync.WaitGroup).Add", "internal/race.ReleaseMerge", "internal/race.Disable", "internal/race.Enable", "internal/synctest.IsInBubble", "internal/synctest.Associate[sync.WaitGroup]", "sync.fatal", "sync/atomic.OrUint64", "sync/atomic.AddUint64", "internal/race.Read", "sync/atomic.LoadUint64", "internal/synctest.Disassociate[sync.WaitGroup]", "sync.runtime_Semrelease", "(*sync.WaitGroup).Done", "sync/atomic.OrInt32", "sync/atomic.OrUint32", "sync/atomic.OrInt64", "sync/atomic.OrUintptr", "sync/atomic.AndInt32", "sync/atomic.AndUint32", "sync/atomic.AndInt64", "sync/atomic.AndUint64", "sync/atomic.AndUintptr", "sync/atomic.LoadInt32", "sync/atomic.LoadUint32", "sync/atomic.LoadInt64", "sync/atomic.LoadUintptr", "sync/atomic.CompareAndSwapInt32", "sync/atomic.CompareAndSwapUint32", "sync/atomic.CompareAndSwapInt64", "sync/atomic.CompareAndSwapUint64", "sync/atomic.CompareAndSwapUintptr", "sync/atomic.AddInt32", "sync/atomic.AddUint32", "sync/atomic.AddInt64", "sync/atomic.AddUintptr", "sync/atomic.SwapUint32", "(*sync.WaitGroup).Go", "(*sync.WaitGroup).Go$1", "(*sync.WaitGroup).Go$1$1", "(*sync.WaitGroup).Wait", "internal/race.Acquire", "internal/synctest.IsAssociated[sync.WaitGroup]", "internal/race.Write", "sync.runtime_SemacquireWaitGroup"], unfollowed := true, recurses := true, apart := false }
def EdgeOrInt32Said : Prop := edgeOrInt32Row.holds Try.pinned (OpenSpec.ofChange edgeOrInt32Spec)

/-- ITS FALSE NEIGHBOUR: 'it returns false'. Refute it at one input. -/
def edgeOrInt32Wrong : ChangeSpec := { name := "edgeOrInt32", fn := fun _ => fun
  | [d] => { results := [.lit (.bool false)], args := [d] }
  | _ => none }
def EdgeOrInt32WrongFalsely : Prop := edgeOrInt32Row.holds Try.pinned (OpenSpec.ofChange edgeOrInt32Wrong)

/-- 'flagslaw.EdgeAndInt32': WHATEVER THE INPUT: true; the input reads as it did. -/
def edgeAndInt32Spec : ChangeSpec := { name := "edgeAndInt32", fn := fun _ => fun
  | [d] => { results := [.lit (.bool true)], args := [d] }
  | _ => none }
def edgeAndInt32Row : OpenClaim := { program := "qxb6500586a", sum := "bf10aac2e3b9b11e033187af4913b8574fe65cb0c43b3bc78b3393087535a45e", func := "e2e/flagslaw.EdgeAndInt32", spec := "edgeAndInt32", inPlace := ["sync/atomic.StoreInt32", "sync/atomic.StoreUint32", "sync/atomic.StoreInt64", "sync/atomic.StoreUint64", "sync/atomic.StoreUintptr", "(*sync.WaitGroup).Add", "internal/race.ReleaseMerge", "internal/race.Disable", "internal/race.Enable", "internal/synctest.IsInBubble", "internal/synctest.Associate[sync.WaitGroup]", "sync.fatal", "sync/atomic.OrUint64", "sync/atomic.AddUint64", "internal/race.Read", "sync/atomic.LoadUint64", "internal/synctest.Disassociate[sync.WaitGroup]", "sync.runtime_Semrelease", "(*sync.WaitGroup).Done", "sync/atomic.OrInt32", "sync/atomic.OrUint32", "sync/atomic.OrInt64", "sync/atomic.OrUintptr", "sync/atomic.AndInt32", "sync/atomic.AndUint32", "sync/atomic.AndInt64", "sync/atomic.AndUint64", "sync/atomic.AndUintptr", "sync/atomic.LoadInt32", "sync/atomic.LoadUint32", "sync/atomic.LoadInt64", "sync/atomic.LoadUintptr", "sync/atomic.CompareAndSwapInt32", "sync/atomic.CompareAndSwapUint32", "sync/atomic.CompareAndSwapInt64", "sync/atomic.CompareAndSwapUint64", "sync/atomic.CompareAndSwapUintptr", "sync/atomic.AddInt32", "sync/atomic.AddUint32", "sync/atomic.AddInt64", "sync/atomic.AddUintptr", "sync/atomic.SwapUint32", "(*sync.WaitGroup).Go", "(*sync.WaitGroup).Go$1", "(*sync.WaitGroup).Go$1$1", "(*sync.WaitGroup).Wait", "internal/race.Acquire", "internal/synctest.IsAssociated[sync.WaitGroup]", "internal/race.Write", "sync.runtime_SemacquireWaitGroup"], unfollowed := true, recurses := true, apart := false }
def EdgeAndInt32Said : Prop := edgeAndInt32Row.holds Try.pinned (OpenSpec.ofChange edgeAndInt32Spec)

/-- ITS FALSE NEIGHBOUR: 'it returns false'. Refute it at one input. -/
def edgeAndInt32Wrong : ChangeSpec := { name := "edgeAndInt32", fn := fun _ => fun
  | [d] => { results := [.lit (.bool false)], args := [d] }
  | _ => none }
def EdgeAndInt32WrongFalsely : Prop := edgeAndInt32Row.holds Try.pinned (OpenSpec.ofChange edgeAndInt32Wrong)

/-- 'flagslaw.EdgeAddInt32Wraps': WHATEVER THE INPUT: true; the input reads as it did. -/
def edgeAddInt32WrapsSpec : ChangeSpec := { name := "edgeAddInt32Wraps", fn := fun _ => fun
  | [d] => { results := [.lit (.bool true)], args := [d] }
  | _ => none }
def edgeAddInt32WrapsRow : OpenClaim := { program := "qxb6500586a", sum := "bf10aac2e3b9b11e033187af4913b8574fe65cb0c43b3bc78b3393087535a45e", func := "e2e/flagslaw.EdgeAddInt32Wraps", spec := "edgeAddInt32Wraps", inPlace := ["sync/atomic.StoreInt32", "sync/atomic.StoreUint32", "sync/atomic.StoreInt64", "sync/atomic.StoreUint64", "sync/atomic.StoreUintptr", "(*sync.WaitGroup).Add", "internal/race.ReleaseMerge", "internal/race.Disable", "internal/race.Enable", "internal/synctest.IsInBubble", "internal/synctest.Associate[sync.WaitGroup]", "sync.fatal", "sync/atomic.OrUint64", "sync/atomic.AddUint64", "internal/race.Read", "sync/atomic.LoadUint64", "internal/synctest.Disassociate[sync.WaitGroup]", "sync.runtime_Semrelease", "(*sync.WaitGroup).Done", "sync/atomic.OrInt32", "sync/atomic.OrUint32", "sync/atomic.OrInt64", "sync/atomic.OrUintptr", "sync/atomic.AndInt32", "sync/atomic.AndUint32", "sync/atomic.AndInt64", "sync/atomic.AndUint64", "sync/atomic.AndUintptr", "sync/atomic.LoadInt32", "sync/atomic.LoadUint32", "sync/atomic.LoadInt64", "sync/atomic.LoadUintptr", "sync/atomic.CompareAndSwapInt32", "sync/atomic.CompareAndSwapUint32", "sync/atomic.CompareAndSwapInt64", "sync/atomic.CompareAndSwapUint64", "sync/atomic.CompareAndSwapUintptr", "sync/atomic.AddInt32", "sync/atomic.AddUint32", "sync/atomic.AddInt64", "sync/atomic.AddUintptr", "sync/atomic.SwapUint32", "(*sync.WaitGroup).Go", "(*sync.WaitGroup).Go$1", "(*sync.WaitGroup).Go$1$1", "(*sync.WaitGroup).Wait", "internal/race.Acquire", "internal/synctest.IsAssociated[sync.WaitGroup]", "internal/race.Write", "sync.runtime_SemacquireWaitGroup"], unfollowed := true, recurses := true, apart := false }
def EdgeAddInt32WrapsSaid : Prop := edgeAddInt32WrapsRow.holds Try.pinned (OpenSpec.ofChange edgeAddInt32WrapsSpec)

/-- ITS FALSE NEIGHBOUR: 'it returns false'. Refute it at one input. -/
def edgeAddInt32WrapsWrong : ChangeSpec := { name := "edgeAddInt32Wraps", fn := fun _ => fun
  | [d] => { results := [.lit (.bool false)], args := [d] }
  | _ => none }
def EdgeAddInt32WrapsWrongFalsely : Prop := edgeAddInt32WrapsRow.holds Try.pinned (OpenSpec.ofChange edgeAddInt32WrapsWrong)

/-- 'flagslaw.EdgeAddInt32Draws': WHATEVER THE INPUT: true; the input reads as it did. -/
def edgeAddInt32DrawsSpec : ChangeSpec := { name := "edgeAddInt32Draws", fn := fun _ => fun
  | [d] => { results := [.lit (.bool true)], args := [d] }
  | _ => none }
def edgeAddInt32DrawsRow : OpenClaim := { program := "qxb6500586a", sum := "bf10aac2e3b9b11e033187af4913b8574fe65cb0c43b3bc78b3393087535a45e", func := "e2e/flagslaw.EdgeAddInt32Draws", spec := "edgeAddInt32Draws", inPlace := ["(*sync.WaitGroup).Add", "internal/race.ReleaseMerge", "internal/race.Disable", "internal/race.Enable", "internal/synctest.IsInBubble", "internal/synctest.Associate[sync.WaitGroup]", "sync.fatal", "sync/atomic.OrUint64", "sync/atomic.AddUint64", "internal/race.Read", "sync/atomic.LoadUint64", "sync/atomic.StoreUint64", "internal/synctest.Disassociate[sync.WaitGroup]", "sync.runtime_Semrelease", "(*sync.WaitGroup).Done", "sync/atomic.OrInt32", "sync/atomic.OrUint32", "sync/atomic.OrInt64", "sync/atomic.OrUintptr", "sync/atomic.AndInt32", "sync/atomic.AndUint32", "sync/atomic.AndInt64", "sync/atomic.AndUint64", "sync/atomic.AndUintptr", "sync/atomic.LoadInt32", "sync/atomic.LoadUint32", "sync/atomic.LoadInt64", "sync/atomic.LoadUintptr", "sync/atomic.CompareAndSwapInt32", "sync/atomic.CompareAndSwapUint32", "sync/atomic.CompareAndSwapInt64", "sync/atomic.CompareAndSwapUint64", "sync/atomic.CompareAndSwapUintptr", "sync/atomic.AddInt32", "sync/atomic.AddUint32", "sync/atomic.AddInt64", "sync/atomic.AddUintptr", "sync/atomic.SwapUint32", "(*sync.WaitGroup).Go", "(*sync.WaitGroup).Go$1", "(*sync.WaitGroup).Go$1$1", "(*sync.WaitGroup).Wait", "internal/race.Acquire", "internal/synctest.IsAssociated[sync.WaitGroup]", "internal/race.Write", "sync.runtime_SemacquireWaitGroup"], unfollowed := true, recurses := true, apart := false }
def EdgeAddInt32DrawsSaid : Prop := edgeAddInt32DrawsRow.holds Try.pinned (OpenSpec.ofChange edgeAddInt32DrawsSpec)

/-- ITS FALSE NEIGHBOUR: 'it returns false'. Refute it at one input. -/
def edgeAddInt32DrawsWrong : ChangeSpec := { name := "edgeAddInt32Draws", fn := fun _ => fun
  | [d] => { results := [.lit (.bool false)], args := [d] }
  | _ => none }
def EdgeAddInt32DrawsWrongFalsely : Prop := edgeAddInt32DrawsRow.holds Try.pinned (OpenSpec.ofChange edgeAddInt32DrawsWrong)

/-- 'flagslaw.EdgeSwapInt32': WHATEVER THE INPUT: true; the input reads as it did. -/
def edgeSwapInt32Spec : ChangeSpec := { name := "edgeSwapInt32", fn := fun _ => fun
  | [d] => { results := [.lit (.bool true)], args := [d] }
  | _ => none }
def edgeSwapInt32Row : OpenClaim := { program := "qxb6500586a", sum := "bf10aac2e3b9b11e033187af4913b8574fe65cb0c43b3bc78b3393087535a45e", func := "e2e/flagslaw.EdgeSwapInt32", spec := "edgeSwapInt32", inPlace := ["sync/atomic.StoreInt32", "sync/atomic.StoreUint32", "sync/atomic.StoreInt64", "sync/atomic.StoreUint64", "sync/atomic.StoreUintptr", "sync/atomic.SwapInt32", "sync/atomic.SwapUint32", "sync/atomic.SwapInt64", "sync/atomic.SwapUint64", "sync/atomic.SwapUintptr", "sync/atomic.LoadInt32", "sync/atomic.LoadUint32", "sync/atomic.LoadInt64", "sync/atomic.LoadUint64", "sync/atomic.LoadUintptr"], apart := false }
def EdgeSwapInt32Said : Prop := edgeSwapInt32Row.holds Try.pinned (OpenSpec.ofChange edgeSwapInt32Spec)

/-- ITS FALSE NEIGHBOUR: 'it returns false'. Refute it at one input. -/
def edgeSwapInt32Wrong : ChangeSpec := { name := "edgeSwapInt32", fn := fun _ => fun
  | [d] => { results := [.lit (.bool false)], args := [d] }
  | _ => none }
def EdgeSwapInt32WrongFalsely : Prop := edgeSwapInt32Row.holds Try.pinned (OpenSpec.ofChange edgeSwapInt32Wrong)

/-- 'flagslaw.EdgeCasInt32': WHATEVER THE INPUT: true; the input reads as it did. -/
def edgeCasInt32Spec : ChangeSpec := { name := "edgeCasInt32", fn := fun _ => fun
  | [d] => { results := [.lit (.bool true)], args := [d] }
  | _ => none }
def edgeCasInt32Row : OpenClaim := { program := "qxb6500586a", sum := "bf10aac2e3b9b11e033187af4913b8574fe65cb0c43b3bc78b3393087535a45e", func := "e2e/flagslaw.EdgeCasInt32", spec := "edgeCasInt32", inPlace := ["sync/atomic.StoreInt32", "sync/atomic.StoreUint32", "sync/atomic.StoreInt64", "sync/atomic.StoreUint64", "sync/atomic.StoreUintptr", "sync/atomic.CompareAndSwapInt32", "sync/atomic.CompareAndSwapUint32", "sync/atomic.CompareAndSwapInt64", "sync/atomic.CompareAndSwapUint64", "sync/atomic.CompareAndSwapUintptr", "sync/atomic.LoadInt32", "sync/atomic.LoadUint32", "sync/atomic.LoadInt64", "sync/atomic.LoadUint64", "sync/atomic.LoadUintptr"], apart := false }
def EdgeCasInt32Said : Prop := edgeCasInt32Row.holds Try.pinned (OpenSpec.ofChange edgeCasInt32Spec)

/-- ITS FALSE NEIGHBOUR: 'it returns false'. Refute it at one input. -/
def edgeCasInt32Wrong : ChangeSpec := { name := "edgeCasInt32", fn := fun _ => fun
  | [d] => { results := [.lit (.bool false)], args := [d] }
  | _ => none }
def EdgeCasInt32WrongFalsely : Prop := edgeCasInt32Row.holds Try.pinned (OpenSpec.ofChange edgeCasInt32Wrong)

/-- 'flagslaw.EdgeFieldInt32': WHATEVER THE INPUT: true; the input reads as it did. -/
def edgeFieldInt32Spec : ChangeSpec := { name := "edgeFieldInt32", fn := fun _ => fun
  | [d] => { results := [.lit (.bool true)], args := [d] }
  | _ => none }
def edgeFieldInt32Row : OpenClaim := { program := "qxb6500586a", sum := "bf10aac2e3b9b11e033187af4913b8574fe65cb0c43b3bc78b3393087535a45e", func := "e2e/flagslaw.EdgeFieldInt32", spec := "edgeFieldInt32", inPlace := ["sync/atomic.StoreInt32", "sync/atomic.StoreUint32", "sync/atomic.StoreInt64", "sync/atomic.StoreUint64", "sync/atomic.StoreUintptr", "(*sync.WaitGroup).Add", "internal/race.ReleaseMerge", "internal/race.Disable", "internal/race.Enable", "internal/synctest.IsInBubble", "internal/synctest.Associate[sync.WaitGroup]", "sync.fatal", "sync/atomic.OrUint64", "sync/atomic.AddUint64", "internal/race.Read", "sync/atomic.LoadUint64", "internal/synctest.Disassociate[sync.WaitGroup]", "sync.runtime_Semrelease", "(*sync.WaitGroup).Done", "sync/atomic.OrInt32", "sync/atomic.OrUint32", "sync/atomic.OrInt64", "sync/atomic.OrUintptr", "sync/atomic.AndInt32", "sync/atomic.AndUint32", "sync/atomic.AndInt64", "sync/atomic.AndUint64", "sync/atomic.AndUintptr", "sync/atomic.LoadInt32", "sync/atomic.LoadUint32", "sync/atomic.LoadInt64", "sync/atomic.LoadUintptr", "sync/atomic.CompareAndSwapInt32", "sync/atomic.CompareAndSwapUint32", "sync/atomic.CompareAndSwapInt64", "sync/atomic.CompareAndSwapUint64", "sync/atomic.CompareAndSwapUintptr", "sync/atomic.AddInt32", "sync/atomic.AddUint32", "sync/atomic.AddInt64", "sync/atomic.AddUintptr", "sync/atomic.SwapUint32", "(*sync.WaitGroup).Go", "(*sync.WaitGroup).Go$1", "(*sync.WaitGroup).Go$1$1", "(*sync.WaitGroup).Wait", "internal/race.Acquire", "internal/synctest.IsAssociated[sync.WaitGroup]", "internal/race.Write", "sync.runtime_SemacquireWaitGroup"], unfollowed := true, recurses := true, apart := false }
def EdgeFieldInt32Said : Prop := edgeFieldInt32Row.holds Try.pinned (OpenSpec.ofChange edgeFieldInt32Spec)

/-- ITS FALSE NEIGHBOUR: 'it returns false'. Refute it at one input. -/
def edgeFieldInt32Wrong : ChangeSpec := { name := "edgeFieldInt32", fn := fun _ => fun
  | [d] => { results := [.lit (.bool false)], args := [d] }
  | _ => none }
def EdgeFieldInt32WrongFalsely : Prop := edgeFieldInt32Row.holds Try.pinned (OpenSpec.ofChange edgeFieldInt32Wrong)

/-- 'flagslaw.EdgeOrUint32': WHATEVER THE INPUT: true; the input reads as it did. -/
def edgeOrUint32Spec : ChangeSpec := { name := "edgeOrUint32", fn := fun _ => fun
  | [d] => { results := [.lit (.bool true)], args := [d] }
  | _ => none }
def edgeOrUint32Row : OpenClaim := { program := "qxb6500586a", sum := "bf10aac2e3b9b11e033187af4913b8574fe65cb0c43b3bc78b3393087535a45e", func := "e2e/flagslaw.EdgeOrUint32", spec := "edgeOrUint32", inPlace := ["sync/atomic.StoreInt32", "sync/atomic.StoreUint32", "sync/atomic.StoreInt64", "sync/atomic.StoreUint64", "sync/atomic.StoreUintptr", "(*sync.WaitGroup).Add", "internal/race.ReleaseMerge", "internal/race.Disable", "internal/race.Enable", "internal/synctest.IsInBubble", "internal/synctest.Associate[sync.WaitGroup]", "sync.fatal", "sync/atomic.OrUint64", "sync/atomic.AddUint64", "internal/race.Read", "sync/atomic.LoadUint64", "internal/synctest.Disassociate[sync.WaitGroup]", "sync.runtime_Semrelease", "(*sync.WaitGroup).Done", "sync/atomic.OrInt32", "sync/atomic.OrUint32", "sync/atomic.OrInt64", "sync/atomic.OrUintptr", "sync/atomic.AndInt32", "sync/atomic.AndUint32", "sync/atomic.AndInt64", "sync/atomic.AndUint64", "sync/atomic.AndUintptr", "sync/atomic.LoadInt32", "sync/atomic.LoadUint32", "sync/atomic.LoadInt64", "sync/atomic.LoadUintptr", "sync/atomic.CompareAndSwapInt32", "sync/atomic.CompareAndSwapUint32", "sync/atomic.CompareAndSwapInt64", "sync/atomic.CompareAndSwapUint64", "sync/atomic.CompareAndSwapUintptr", "sync/atomic.AddInt32", "sync/atomic.AddUint32", "sync/atomic.AddInt64", "sync/atomic.AddUintptr", "sync/atomic.SwapUint32", "(*sync.WaitGroup).Go", "(*sync.WaitGroup).Go$1", "(*sync.WaitGroup).Go$1$1", "(*sync.WaitGroup).Wait", "internal/race.Acquire", "internal/synctest.IsAssociated[sync.WaitGroup]", "internal/race.Write", "sync.runtime_SemacquireWaitGroup"], unfollowed := true, recurses := true, apart := false }
def EdgeOrUint32Said : Prop := edgeOrUint32Row.holds Try.pinned (OpenSpec.ofChange edgeOrUint32Spec)

/-- ITS FALSE NEIGHBOUR: 'it returns false'. Refute it at one input. -/
def edgeOrUint32Wrong : ChangeSpec := { name := "edgeOrUint32", fn := fun _ => fun
  | [d] => { results := [.lit (.bool false)], args := [d] }
  | _ => none }
def EdgeOrUint32WrongFalsely : Prop := edgeOrUint32Row.holds Try.pinned (OpenSpec.ofChange edgeOrUint32Wrong)

/-- 'flagslaw.EdgeAndUint32': WHATEVER THE INPUT: true; the input reads as it did. -/
def edgeAndUint32Spec : ChangeSpec := { name := "edgeAndUint32", fn := fun _ => fun
  | [d] => { results := [.lit (.bool true)], args := [d] }
  | _ => none }
def edgeAndUint32Row : OpenClaim := { program := "qxb6500586a", sum := "bf10aac2e3b9b11e033187af4913b8574fe65cb0c43b3bc78b3393087535a45e", func := "e2e/flagslaw.EdgeAndUint32", spec := "edgeAndUint32", inPlace := ["sync/atomic.StoreInt32", "sync/atomic.StoreUint32", "sync/atomic.StoreInt64", "sync/atomic.StoreUint64", "sync/atomic.StoreUintptr", "(*sync.WaitGroup).Add", "internal/race.ReleaseMerge", "internal/race.Disable", "internal/race.Enable", "internal/synctest.IsInBubble", "internal/synctest.Associate[sync.WaitGroup]", "sync.fatal", "sync/atomic.OrUint64", "sync/atomic.AddUint64", "internal/race.Read", "sync/atomic.LoadUint64", "internal/synctest.Disassociate[sync.WaitGroup]", "sync.runtime_Semrelease", "(*sync.WaitGroup).Done", "sync/atomic.OrInt32", "sync/atomic.OrUint32", "sync/atomic.OrInt64", "sync/atomic.OrUintptr", "sync/atomic.AndInt32", "sync/atomic.AndUint32", "sync/atomic.AndInt64", "sync/atomic.AndUint64", "sync/atomic.AndUintptr", "sync/atomic.LoadInt32", "sync/atomic.LoadUint32", "sync/atomic.LoadInt64", "sync/atomic.LoadUintptr", "sync/atomic.CompareAndSwapInt32", "sync/atomic.CompareAndSwapUint32", "sync/atomic.CompareAndSwapInt64", "sync/atomic.CompareAndSwapUint64", "sync/atomic.CompareAndSwapUintptr", "sync/atomic.AddInt32", "sync/atomic.AddUint32", "sync/atomic.AddInt64", "sync/atomic.AddUintptr", "sync/atomic.SwapUint32", "(*sync.WaitGroup).Go", "(*sync.WaitGroup).Go$1", "(*sync.WaitGroup).Go$1$1", "(*sync.WaitGroup).Wait", "internal/race.Acquire", "internal/synctest.IsAssociated[sync.WaitGroup]", "internal/race.Write", "sync.runtime_SemacquireWaitGroup"], unfollowed := true, recurses := true, apart := false }
def EdgeAndUint32Said : Prop := edgeAndUint32Row.holds Try.pinned (OpenSpec.ofChange edgeAndUint32Spec)

/-- ITS FALSE NEIGHBOUR: 'it returns false'. Refute it at one input. -/
def edgeAndUint32Wrong : ChangeSpec := { name := "edgeAndUint32", fn := fun _ => fun
  | [d] => { results := [.lit (.bool false)], args := [d] }
  | _ => none }
def EdgeAndUint32WrongFalsely : Prop := edgeAndUint32Row.holds Try.pinned (OpenSpec.ofChange edgeAndUint32Wrong)

/-- 'flagslaw.EdgeAddUint32Wraps': WHATEVER THE INPUT: true; the input reads as it did. -/
def edgeAddUint32WrapsSpec : ChangeSpec := { name := "edgeAddUint32Wraps", fn := fun _ => fun
  | [d] => { results := [.lit (.bool true)], args := [d] }
  | _ => none }
def edgeAddUint32WrapsRow : OpenClaim := { program := "qxb6500586a", sum := "bf10aac2e3b9b11e033187af4913b8574fe65cb0c43b3bc78b3393087535a45e", func := "e2e/flagslaw.EdgeAddUint32Wraps", spec := "edgeAddUint32Wraps", inPlace := ["sync/atomic.StoreInt32", "sync/atomic.StoreUint32", "sync/atomic.StoreInt64", "sync/atomic.StoreUint64", "sync/atomic.StoreUintptr", "(*sync.WaitGroup).Add", "internal/race.ReleaseMerge", "internal/race.Disable", "internal/race.Enable", "internal/synctest.IsInBubble", "internal/synctest.Associate[sync.WaitGroup]", "sync.fatal", "sync/atomic.OrUint64", "sync/atomic.AddUint64", "internal/race.Read", "sync/atomic.LoadUint64", "internal/synctest.Disassociate[sync.WaitGroup]", "sync.runtime_Semrelease", "(*sync.WaitGroup).Done", "sync/atomic.OrInt32", "sync/atomic.OrUint32", "sync/atomic.OrInt64", "sync/atomic.OrUintptr", "sync/atomic.AndInt32", "sync/atomic.AndUint32", "sync/atomic.AndInt64", "sync/atomic.AndUint64", "sync/atomic.AndUintptr", "sync/atomic.LoadInt32", "sync/atomic.LoadUint32", "sync/atomic.LoadInt64", "sync/atomic.LoadUintptr", "sync/atomic.CompareAndSwapInt32", "sync/atomic.CompareAndSwapUint32", "sync/atomic.CompareAndSwapInt64", "sync/atomic.CompareAndSwapUint64", "sync/atomic.CompareAndSwapUintptr", "sync/atomic.AddInt32", "sync/atomic.AddUint32", "sync/atomic.AddInt64", "sync/atomic.AddUintptr", "sync/atomic.SwapUint32", "(*sync.WaitGroup).Go", "(*sync.WaitGroup).Go$1", "(*sync.WaitGroup).Go$1$1", "(*sync.WaitGroup).Wait", "internal/race.Acquire", "internal/synctest.IsAssociated[sync.WaitGroup]", "internal/race.Write", "sync.runtime_SemacquireWaitGroup"], unfollowed := true, recurses := true, apart := false }
def EdgeAddUint32WrapsSaid : Prop := edgeAddUint32WrapsRow.holds Try.pinned (OpenSpec.ofChange edgeAddUint32WrapsSpec)

/-- ITS FALSE NEIGHBOUR: 'it returns false'. Refute it at one input. -/
def edgeAddUint32WrapsWrong : ChangeSpec := { name := "edgeAddUint32Wraps", fn := fun _ => fun
  | [d] => { results := [.lit (.bool false)], args := [d] }
  | _ => none }
def EdgeAddUint32WrapsWrongFalsely : Prop := edgeAddUint32WrapsRow.holds Try.pinned (OpenSpec.ofChange edgeAddUint32WrapsWrong)

/-- 'flagslaw.EdgeAddUint32Draws': WHATEVER THE INPUT: true; the input reads as it did. -/
def edgeAddUint32DrawsSpec : ChangeSpec := { name := "edgeAddUint32Draws", fn := fun _ => fun
  | [d] => { results := [.lit (.bool true)], args := [d] }
  | _ => none }
def edgeAddUint32DrawsRow : OpenClaim := { program := "qxb6500586a", sum := "bf10aac2e3b9b11e033187af4913b8574fe65cb0c43b3bc78b3393087535a45e", func := "e2e/flagslaw.EdgeAddUint32Draws", spec := "edgeAddUint32Draws", inPlace := ["(*sync.WaitGroup).Add", "internal/race.ReleaseMerge", "internal/race.Disable", "internal/race.Enable", "internal/synctest.IsInBubble", "internal/synctest.Associate[sync.WaitGroup]", "sync.fatal", "sync/atomic.OrUint64", "sync/atomic.AddUint64", "internal/race.Read", "sync/atomic.LoadUint64", "sync/atomic.StoreUint64", "internal/synctest.Disassociate[sync.WaitGroup]", "sync.runtime_Semrelease", "(*sync.WaitGroup).Done", "sync/atomic.OrInt32", "sync/atomic.OrUint32", "sync/atomic.OrInt64", "sync/atomic.OrUintptr", "sync/atomic.AndInt32", "sync/atomic.AndUint32", "sync/atomic.AndInt64", "sync/atomic.AndUint64", "sync/atomic.AndUintptr", "sync/atomic.LoadInt32", "sync/atomic.LoadUint32", "sync/atomic.LoadInt64", "sync/atomic.LoadUintptr", "sync/atomic.CompareAndSwapInt32", "sync/atomic.CompareAndSwapUint32", "sync/atomic.CompareAndSwapInt64", "sync/atomic.CompareAndSwapUint64", "sync/atomic.CompareAndSwapUintptr", "sync/atomic.AddInt32", "sync/atomic.AddUint32", "sync/atomic.AddInt64", "sync/atomic.AddUintptr", "sync/atomic.SwapUint32", "(*sync.WaitGroup).Go", "(*sync.WaitGroup).Go$1", "(*sync.WaitGroup).Go$1$1", "(*sync.WaitGroup).Wait", "internal/race.Acquire", "internal/synctest.IsAssociated[sync.WaitGroup]", "internal/race.Write", "sync.runtime_SemacquireWaitGroup"], unfollowed := true, recurses := true, apart := false }
def EdgeAddUint32DrawsSaid : Prop := edgeAddUint32DrawsRow.holds Try.pinned (OpenSpec.ofChange edgeAddUint32DrawsSpec)

/-- ITS FALSE NEIGHBOUR: 'it returns false'. Refute it at one input. -/
def edgeAddUint32DrawsWrong : ChangeSpec := { name := "edgeAddUint32Draws", fn := fun _ => fun
  | [d] => { results := [.lit (.bool false)], args := [d] }
  | _ => none }
def EdgeAddUint32DrawsWrongFalsely : Prop := edgeAddUint32DrawsRow.holds Try.pinned (OpenSpec.ofChange edgeAddUint32DrawsWrong)

/-- 'flagslaw.EdgeSwapUint32': WHATEVER THE INPUT: true; the input reads as it did. -/
def edgeSwapUint32Spec : ChangeSpec := { name := "edgeSwapUint32", fn := fun _ => fun
  | [d] => { results := [.lit (.bool true)], args := [d] }
  | _ => none }
def edgeSwapUint32Row : OpenClaim := { program := "qxb6500586a", sum := "bf10aac2e3b9b11e033187af4913b8574fe65cb0c43b3bc78b3393087535a45e", func := "e2e/flagslaw.EdgeSwapUint32", spec := "edgeSwapUint32", inPlace := ["sync/atomic.StoreInt32", "sync/atomic.StoreUint32", "sync/atomic.StoreInt64", "sync/atomic.StoreUint64", "sync/atomic.StoreUintptr", "sync/atomic.SwapInt32", "sync/atomic.SwapUint32", "sync/atomic.SwapInt64", "sync/atomic.SwapUint64", "sync/atomic.SwapUintptr", "sync/atomic.LoadInt32", "sync/atomic.LoadUint32", "sync/atomic.LoadInt64", "sync/atomic.LoadUint64", "sync/atomic.LoadUintptr"], apart := false }
def EdgeSwapUint32Said : Prop := edgeSwapUint32Row.holds Try.pinned (OpenSpec.ofChange edgeSwapUint32Spec)

/-- ITS FALSE NEIGHBOUR: 'it returns false'. Refute it at one input. -/
def edgeSwapUint32Wrong : ChangeSpec := { name := "edgeSwapUint32", fn := fun _ => fun
  | [d] => { results := [.lit (.bool false)], args := [d] }
  | _ => none }
def EdgeSwapUint32WrongFalsely : Prop := edgeSwapUint32Row.holds Try.pinned (OpenSpec.ofChange edgeSwapUint32Wrong)

/-- 'flagslaw.EdgeCasUint32': WHATEVER THE INPUT: true; the input reads as it did. -/
def edgeCasUint32Spec : ChangeSpec := { name := "edgeCasUint32", fn := fun _ => fun
  | [d] => { results := [.lit (.bool true)], args := [d] }
  | _ => none }
def edgeCasUint32Row : OpenClaim := { program := "qxb6500586a", sum := "bf10aac2e3b9b11e033187af4913b8574fe65cb0c43b3bc78b3393087535a45e", func := "e2e/flagslaw.EdgeCasUint32", spec := "edgeCasUint32", inPlace := ["sync/atomic.StoreInt32", "sync/atomic.StoreUint32", "sync/atomic.StoreInt64", "sync/atomic.StoreUint64", "sync/atomic.StoreUintptr", "sync/atomic.CompareAndSwapInt32", "sync/atomic.CompareAndSwapUint32", "sync/atomic.CompareAndSwapInt64", "sync/atomic.CompareAndSwapUint64", "sync/atomic.CompareAndSwapUintptr", "sync/atomic.LoadInt32", "sync/atomic.LoadUint32", "sync/atomic.LoadInt64", "sync/atomic.LoadUint64", "sync/atomic.LoadUintptr"], apart := false }
def EdgeCasUint32Said : Prop := edgeCasUint32Row.holds Try.pinned (OpenSpec.ofChange edgeCasUint32Spec)

/-- ITS FALSE NEIGHBOUR: 'it returns false'. Refute it at one input. -/
def edgeCasUint32Wrong : ChangeSpec := { name := "edgeCasUint32", fn := fun _ => fun
  | [d] => { results := [.lit (.bool false)], args := [d] }
  | _ => none }
def EdgeCasUint32WrongFalsely : Prop := edgeCasUint32Row.holds Try.pinned (OpenSpec.ofChange edgeCasUint32Wrong)

/-- 'flagslaw.EdgeFieldUint32': WHATEVER THE INPUT: true; the input reads as it did. -/
def edgeFieldUint32Spec : ChangeSpec := { name := "edgeFieldUint32", fn := fun _ => fun
  | [d] => { results := [.lit (.bool true)], args := [d] }
  | _ => none }
def edgeFieldUint32Row : OpenClaim := { program := "qxb6500586a", sum := "bf10aac2e3b9b11e033187af4913b8574fe65cb0c43b3bc78b3393087535a45e", func := "e2e/flagslaw.EdgeFieldUint32", spec := "edgeFieldUint32", inPlace := ["sync/atomic.StoreInt32", "sync/atomic.StoreUint32", "sync/atomic.StoreInt64", "sync/atomic.StoreUint64", "sync/atomic.StoreUintptr", "(*sync.WaitGroup).Add", "internal/race.ReleaseMerge", "internal/race.Disable", "internal/race.Enable", "internal/synctest.IsInBubble", "internal/synctest.Associate[sync.WaitGroup]", "sync.fatal", "sync/atomic.OrUint64", "sync/atomic.AddUint64", "internal/race.Read", "sync/atomic.LoadUint64", "internal/synctest.Disassociate[sync.WaitGroup]", "sync.runtime_Semrelease", "(*sync.WaitGroup).Done", "sync/atomic.OrInt32", "sync/atomic.OrUint32", "sync/atomic.OrInt64", "sync/atomic.OrUintptr", "sync/atomic.AndInt32", "sync/atomic.AndUint32", "sync/atomic.AndInt64", "sync/atomic.AndUint64", "sync/atomic.AndUintptr", "sync/atomic.LoadInt32", "sync/atomic.LoadUint32", "sync/atomic.LoadInt64", "sync/atomic.LoadUintptr", "sync/atomic.CompareAndSwapInt32", "sync/atomic.CompareAndSwapUint32", "sync/atomic.CompareAndSwapInt64", "sync/atomic.CompareAndSwapUint64", "sync/atomic.CompareAndSwapUintptr", "sync/atomic.AddInt32", "sync/atomic.AddUint32", "sync/atomic.AddInt64", "sync/atomic.AddUintptr", "sync/atomic.SwapUint32", "(*sync.WaitGroup).Go", "(*sync.WaitGroup).Go$1", "(*sync.WaitGroup).Go$1$1", "(*sync.WaitGroup).Wait", "internal/race.Acquire", "internal/synctest.IsAssociated[sync.WaitGroup]", "internal/race.Write", "sync.runtime_SemacquireWaitGroup"], unfollowed := true, recurses := true, apart := false }
def EdgeFieldUint32Said : Prop := edgeFieldUint32Row.holds Try.pinned (OpenSpec.ofChange edgeFieldUint32Spec)

/-- ITS FALSE NEIGHBOUR: 'it returns false'. Refute it at one input. -/
def edgeFieldUint32Wrong : ChangeSpec := { name := "edgeFieldUint32", fn := fun _ => fun
  | [d] => { results := [.lit (.bool false)], args := [d] }
  | _ => none }
def EdgeFieldUint32WrongFalsely : Prop := edgeFieldUint32Row.holds Try.pinned (OpenSpec.ofChange edgeFieldUint32Wrong)

end Rows
end Go.Proofs.Qxb6500586a
