/-
  No cell of these rows narrows 'for every input' (looked for: loops, veiled, ifaces, maps, wideKeys, modest, calm, conditions, laid).
  DERIVED. THE GIVEN ROWS OF THIS SEAT. 14 by the template 'for every input the law returns true; each argument reads behind the call as it read before'; 0 by the template 'total and deterministic' (their statements: Qxb6500587aTotals.lean).
  GIVEN WITH THE SEED: the statements are not yours to turn. If you find one false, say at which input.
  Laid BY PROGRAM, IN A SANDBOX (cutbox-rows.mjs): the forced cells as the released guide's own fill.sh prints them over the translation 9928bd9ee97b3158… (all of the seat's roots in one cut). By AI agents, Wed Nov 11 2026. No macro, syntax, notation, axiom, sorry.
-/
import Derived.Test.Qxb6500587aChecked
import GoSem.Claim
import GoSem.ClaimJoined
import GoSem.ClaimMapViews
import Derived.JoinedTies
import Derived.KernelRfl
namespace Go.Proofs.Qxb6500587a
/- THE CELL 'sum', in the pinned program and in every row, IS THE sha256 OF THE DUMP (.gsa) THAT Qxb6500587aProg.lean LOADS. Nothing in Lean hashes anything: it is a label: what it is worth is what the hold of that sum in a sandbox is worth. -/
noncomputable def Try.pinned : Pinned := { name := "qxb6500587a", sum := "9928bd9ee97b3158f75746a1ce52ec6be26a0562e27b06ba3afc44c3161c275a", checked := Try.checked }
namespace Rows
def none {H : Type} : Left H := { results := [], args := [] }

/-- 'flagslaw.EdgeOrInt64': WHATEVER THE INPUT: true; the input reads as it did. -/
def edgeOrInt64Spec : ChangeSpec := { name := "edgeOrInt64", fn := fun _ => fun
  | [d] => { results := [.lit (.bool true)], args := [d] }
  | _ => none }
def edgeOrInt64Row : OpenClaim := { program := "qxb6500587a", sum := "9928bd9ee97b3158f75746a1ce52ec6be26a0562e27b06ba3afc44c3161c275a", func := "e2e/flagslaw.EdgeOrInt64", spec := "edgeOrInt64", inPlace := ["sync/atomic.StoreInt32", "sync/atomic.StoreUint32", "sync/atomic.StoreInt64", "sync/atomic.StoreUint64", "sync/atomic.StoreUintptr", "(*sync.WaitGroup).Add", "internal/race.ReleaseMerge", "internal/race.Disable", "internal/race.Enable", "internal/synctest.IsInBubble", "internal/synctest.Associate[sync.WaitGroup]", "sync.fatal", "sync/atomic.OrUint64", "sync/atomic.AddUint64", "internal/race.Read", "sync/atomic.LoadUint64", "internal/synctest.Disassociate[sync.WaitGroup]", "sync.runtime_Semrelease", "(*sync.WaitGroup).Done", "sync/atomic.OrInt32", "sync/atomic.OrUint32", "sync/atomic.OrInt64", "sync/atomic.OrUintptr", "sync/atomic.AndInt32", "sync/atomic.AndUint32", "sync/atomic.AndInt64", "sync/atomic.AndUint64", "sync/atomic.AndUintptr", "sync/atomic.LoadInt32", "sync/atomic.LoadUint32", "sync/atomic.LoadInt64", "sync/atomic.LoadUintptr", "sync/atomic.CompareAndSwapInt32", "sync/atomic.CompareAndSwapUint32", "sync/atomic.CompareAndSwapInt64", "sync/atomic.CompareAndSwapUint64", "sync/atomic.CompareAndSwapUintptr", "sync/atomic.AddInt32", "sync/atomic.AddUint32", "sync/atomic.AddInt64", "sync/atomic.AddUintptr", "sync/atomic.SwapUint32", "(*sync.WaitGroup).Go", "(*sync.WaitGroup).Go$1", "(*sync.WaitGroup).Go$1$1", "(*sync.WaitGroup).Wait", "internal/race.Acquire", "internal/synctest.IsAssociated[sync.WaitGroup]", "internal/race.Write", "sync.runtime_SemacquireWaitGroup"], unfollowed := true, recurses := true, apart := false }
def EdgeOrInt64Said : Prop := edgeOrInt64Row.holds Try.pinned (OpenSpec.ofChange edgeOrInt64Spec)

/-- ITS FALSE NEIGHBOUR: 'it returns false'. Refute it at one input. -/
def edgeOrInt64Wrong : ChangeSpec := { name := "edgeOrInt64", fn := fun _ => fun
  | [d] => { results := [.lit (.bool false)], args := [d] }
  | _ => none }
def EdgeOrInt64WrongFalsely : Prop := edgeOrInt64Row.holds Try.pinned (OpenSpec.ofChange edgeOrInt64Wrong)

/-- 'flagslaw.EdgeAndInt64': WHATEVER THE INPUT: true; the input reads as it did. -/
def edgeAndInt64Spec : ChangeSpec := { name := "edgeAndInt64", fn := fun _ => fun
  | [d] => { results := [.lit (.bool true)], args := [d] }
  | _ => none }
def edgeAndInt64Row : OpenClaim := { program := "qxb6500587a", sum := "9928bd9ee97b3158f75746a1ce52ec6be26a0562e27b06ba3afc44c3161c275a", func := "e2e/flagslaw.EdgeAndInt64", spec := "edgeAndInt64", inPlace := ["sync/atomic.StoreInt32", "sync/atomic.StoreUint32", "sync/atomic.StoreInt64", "sync/atomic.StoreUint64", "sync/atomic.StoreUintptr", "(*sync.WaitGroup).Add", "internal/race.ReleaseMerge", "internal/race.Disable", "internal/race.Enable", "internal/synctest.IsInBubble", "internal/synctest.Associate[sync.WaitGroup]", "sync.fatal", "sync/atomic.OrUint64", "sync/atomic.AddUint64", "internal/race.Read", "sync/atomic.LoadUint64", "internal/synctest.Disassociate[sync.WaitGroup]", "sync.runtime_Semrelease", "(*sync.WaitGroup).Done", "sync/atomic.OrInt32", "sync/atomic.OrUint32", "sync/atomic.OrInt64", "sync/atomic.OrUintptr", "sync/atomic.AndInt32", "sync/atomic.AndUint32", "sync/atomic.AndInt64", "sync/atomic.AndUint64", "sync/atomic.AndUintptr", "sync/atomic.LoadInt32", "sync/atomic.LoadUint32", "sync/atomic.LoadInt64", "sync/atomic.LoadUintptr", "sync/atomic.CompareAndSwapInt32", "sync/atomic.CompareAndSwapUint32", "sync/atomic.CompareAndSwapInt64", "sync/atomic.CompareAndSwapUint64", "sync/atomic.CompareAndSwapUintptr", "sync/atomic.AddInt32", "sync/atomic.AddUint32", "sync/atomic.AddInt64", "sync/atomic.AddUintptr", "sync/atomic.SwapUint32", "(*sync.WaitGroup).Go", "(*sync.WaitGroup).Go$1", "(*sync.WaitGroup).Go$1$1", "(*sync.WaitGroup).Wait", "internal/race.Acquire", "internal/synctest.IsAssociated[sync.WaitGroup]", "internal/race.Write", "sync.runtime_SemacquireWaitGroup"], unfollowed := true, recurses := true, apart := false }
def EdgeAndInt64Said : Prop := edgeAndInt64Row.holds Try.pinned (OpenSpec.ofChange edgeAndInt64Spec)

/-- ITS FALSE NEIGHBOUR: 'it returns false'. Refute it at one input. -/
def edgeAndInt64Wrong : ChangeSpec := { name := "edgeAndInt64", fn := fun _ => fun
  | [d] => { results := [.lit (.bool false)], args := [d] }
  | _ => none }
def EdgeAndInt64WrongFalsely : Prop := edgeAndInt64Row.holds Try.pinned (OpenSpec.ofChange edgeAndInt64Wrong)

/-- 'flagslaw.EdgeAddInt64Wraps': WHATEVER THE INPUT: true; the input reads as it did. -/
def edgeAddInt64WrapsSpec : ChangeSpec := { name := "edgeAddInt64Wraps", fn := fun _ => fun
  | [d] => { results := [.lit (.bool true)], args := [d] }
  | _ => none }
def edgeAddInt64WrapsRow : OpenClaim := { program := "qxb6500587a", sum := "9928bd9ee97b3158f75746a1ce52ec6be26a0562e27b06ba3afc44c3161c275a", func := "e2e/flagslaw.EdgeAddInt64Wraps", spec := "edgeAddInt64Wraps", inPlace := ["sync/atomic.StoreInt32", "sync/atomic.StoreUint32", "sync/atomic.StoreInt64", "sync/atomic.StoreUint64", "sync/atomic.StoreUintptr", "(*sync.WaitGroup).Add", "internal/race.ReleaseMerge", "internal/race.Disable", "internal/race.Enable", "internal/synctest.IsInBubble", "internal/synctest.Associate[sync.WaitGroup]", "sync.fatal", "sync/atomic.OrUint64", "sync/atomic.AddUint64", "internal/race.Read", "sync/atomic.LoadUint64", "internal/synctest.Disassociate[sync.WaitGroup]", "sync.runtime_Semrelease", "(*sync.WaitGroup).Done", "sync/atomic.OrInt32", "sync/atomic.OrUint32", "sync/atomic.OrInt64", "sync/atomic.OrUintptr", "sync/atomic.AndInt32", "sync/atomic.AndUint32", "sync/atomic.AndInt64", "sync/atomic.AndUint64", "sync/atomic.AndUintptr", "sync/atomic.LoadInt32", "sync/atomic.LoadUint32", "sync/atomic.LoadInt64", "sync/atomic.LoadUintptr", "sync/atomic.CompareAndSwapInt32", "sync/atomic.CompareAndSwapUint32", "sync/atomic.CompareAndSwapInt64", "sync/atomic.CompareAndSwapUint64", "sync/atomic.CompareAndSwapUintptr", "sync/atomic.AddInt32", "sync/atomic.AddUint32", "sync/atomic.AddInt64", "sync/atomic.AddUintptr", "sync/atomic.SwapUint32", "(*sync.WaitGroup).Go", "(*sync.WaitGroup).Go$1", "(*sync.WaitGroup).Go$1$1", "(*sync.WaitGroup).Wait", "internal/race.Acquire", "internal/synctest.IsAssociated[sync.WaitGroup]", "internal/race.Write", "sync.runtime_SemacquireWaitGroup"], unfollowed := true, recurses := true, apart := false }
def EdgeAddInt64WrapsSaid : Prop := edgeAddInt64WrapsRow.holds Try.pinned (OpenSpec.ofChange edgeAddInt64WrapsSpec)

/-- ITS FALSE NEIGHBOUR: 'it returns false'. Refute it at one input. -/
def edgeAddInt64WrapsWrong : ChangeSpec := { name := "edgeAddInt64Wraps", fn := fun _ => fun
  | [d] => { results := [.lit (.bool false)], args := [d] }
  | _ => none }
def EdgeAddInt64WrapsWrongFalsely : Prop := edgeAddInt64WrapsRow.holds Try.pinned (OpenSpec.ofChange edgeAddInt64WrapsWrong)

/-- 'flagslaw.EdgeAddInt64Draws': WHATEVER THE INPUT: true; the input reads as it did. -/
def edgeAddInt64DrawsSpec : ChangeSpec := { name := "edgeAddInt64Draws", fn := fun _ => fun
  | [d] => { results := [.lit (.bool true)], args := [d] }
  | _ => none }
def edgeAddInt64DrawsRow : OpenClaim := { program := "qxb6500587a", sum := "9928bd9ee97b3158f75746a1ce52ec6be26a0562e27b06ba3afc44c3161c275a", func := "e2e/flagslaw.EdgeAddInt64Draws", spec := "edgeAddInt64Draws", inPlace := ["(*sync.WaitGroup).Add", "internal/race.ReleaseMerge", "internal/race.Disable", "internal/race.Enable", "internal/synctest.IsInBubble", "internal/synctest.Associate[sync.WaitGroup]", "sync.fatal", "sync/atomic.OrUint64", "sync/atomic.AddUint64", "internal/race.Read", "sync/atomic.LoadUint64", "sync/atomic.StoreUint64", "internal/synctest.Disassociate[sync.WaitGroup]", "sync.runtime_Semrelease", "(*sync.WaitGroup).Done", "sync/atomic.OrInt32", "sync/atomic.OrUint32", "sync/atomic.OrInt64", "sync/atomic.OrUintptr", "sync/atomic.AndInt32", "sync/atomic.AndUint32", "sync/atomic.AndInt64", "sync/atomic.AndUint64", "sync/atomic.AndUintptr", "sync/atomic.LoadInt32", "sync/atomic.LoadUint32", "sync/atomic.LoadInt64", "sync/atomic.LoadUintptr", "sync/atomic.CompareAndSwapInt32", "sync/atomic.CompareAndSwapUint32", "sync/atomic.CompareAndSwapInt64", "sync/atomic.CompareAndSwapUint64", "sync/atomic.CompareAndSwapUintptr", "sync/atomic.AddInt32", "sync/atomic.AddUint32", "sync/atomic.AddInt64", "sync/atomic.AddUintptr", "sync/atomic.SwapUint32", "(*sync.WaitGroup).Go", "(*sync.WaitGroup).Go$1", "(*sync.WaitGroup).Go$1$1", "(*sync.WaitGroup).Wait", "internal/race.Acquire", "internal/synctest.IsAssociated[sync.WaitGroup]", "internal/race.Write", "sync.runtime_SemacquireWaitGroup"], unfollowed := true, recurses := true, apart := false }
def EdgeAddInt64DrawsSaid : Prop := edgeAddInt64DrawsRow.holds Try.pinned (OpenSpec.ofChange edgeAddInt64DrawsSpec)

/-- ITS FALSE NEIGHBOUR: 'it returns false'. Refute it at one input. -/
def edgeAddInt64DrawsWrong : ChangeSpec := { name := "edgeAddInt64Draws", fn := fun _ => fun
  | [d] => { results := [.lit (.bool false)], args := [d] }
  | _ => none }
def EdgeAddInt64DrawsWrongFalsely : Prop := edgeAddInt64DrawsRow.holds Try.pinned (OpenSpec.ofChange edgeAddInt64DrawsWrong)

/-- 'flagslaw.EdgeSwapInt64': WHATEVER THE INPUT: true; the input reads as it did. -/
def edgeSwapInt64Spec : ChangeSpec := { name := "edgeSwapInt64", fn := fun _ => fun
  | [d] => { results := [.lit (.bool true)], args := [d] }
  | _ => none }
def edgeSwapInt64Row : OpenClaim := { program := "qxb6500587a", sum := "9928bd9ee97b3158f75746a1ce52ec6be26a0562e27b06ba3afc44c3161c275a", func := "e2e/flagslaw.EdgeSwapInt64", spec := "edgeSwapInt64", inPlace := ["sync/atomic.StoreInt32", "sync/atomic.StoreUint32", "sync/atomic.StoreInt64", "sync/atomic.StoreUint64", "sync/atomic.StoreUintptr", "sync/atomic.SwapInt32", "sync/atomic.SwapUint32", "sync/atomic.SwapInt64", "sync/atomic.SwapUint64", "sync/atomic.SwapUintptr", "sync/atomic.LoadInt32", "sync/atomic.LoadUint32", "sync/atomic.LoadInt64", "sync/atomic.LoadUint64", "sync/atomic.LoadUintptr"], apart := false }
def EdgeSwapInt64Said : Prop := edgeSwapInt64Row.holds Try.pinned (OpenSpec.ofChange edgeSwapInt64Spec)

/-- ITS FALSE NEIGHBOUR: 'it returns false'. Refute it at one input. -/
def edgeSwapInt64Wrong : ChangeSpec := { name := "edgeSwapInt64", fn := fun _ => fun
  | [d] => { results := [.lit (.bool false)], args := [d] }
  | _ => none }
def EdgeSwapInt64WrongFalsely : Prop := edgeSwapInt64Row.holds Try.pinned (OpenSpec.ofChange edgeSwapInt64Wrong)

/-- 'flagslaw.EdgeCasInt64': WHATEVER THE INPUT: true; the input reads as it did. -/
def edgeCasInt64Spec : ChangeSpec := { name := "edgeCasInt64", fn := fun _ => fun
  | [d] => { results := [.lit (.bool true)], args := [d] }
  | _ => none }
def edgeCasInt64Row : OpenClaim := { program := "qxb6500587a", sum := "9928bd9ee97b3158f75746a1ce52ec6be26a0562e27b06ba3afc44c3161c275a", func := "e2e/flagslaw.EdgeCasInt64", spec := "edgeCasInt64", inPlace := ["sync/atomic.StoreInt32", "sync/atomic.StoreUint32", "sync/atomic.StoreInt64", "sync/atomic.StoreUint64", "sync/atomic.StoreUintptr", "sync/atomic.CompareAndSwapInt32", "sync/atomic.CompareAndSwapUint32", "sync/atomic.CompareAndSwapInt64", "sync/atomic.CompareAndSwapUint64", "sync/atomic.CompareAndSwapUintptr", "sync/atomic.LoadInt32", "sync/atomic.LoadUint32", "sync/atomic.LoadInt64", "sync/atomic.LoadUint64", "sync/atomic.LoadUintptr"], apart := false }
def EdgeCasInt64Said : Prop := edgeCasInt64Row.holds Try.pinned (OpenSpec.ofChange edgeCasInt64Spec)

/-- ITS FALSE NEIGHBOUR: 'it returns false'. Refute it at one input. -/
def edgeCasInt64Wrong : ChangeSpec := { name := "edgeCasInt64", fn := fun _ => fun
  | [d] => { results := [.lit (.bool false)], args := [d] }
  | _ => none }
def EdgeCasInt64WrongFalsely : Prop := edgeCasInt64Row.holds Try.pinned (OpenSpec.ofChange edgeCasInt64Wrong)

/-- 'flagslaw.EdgeFieldInt64': WHATEVER THE INPUT: true; the input reads as it did. -/
def edgeFieldInt64Spec : ChangeSpec := { name := "edgeFieldInt64", fn := fun _ => fun
  | [d] => { results := [.lit (.bool true)], args := [d] }
  | _ => none }
def edgeFieldInt64Row : OpenClaim := { program := "qxb6500587a", sum := "9928bd9ee97b3158f75746a1ce52ec6be26a0562e27b06ba3afc44c3161c275a", func := "e2e/flagslaw.EdgeFieldInt64", spec := "edgeFieldInt64", inPlace := ["sync/atomic.StoreInt32", "sync/atomic.StoreUint32", "sync/atomic.StoreInt64", "sync/atomic.StoreUint64", "sync/atomic.StoreUintptr", "(*sync.WaitGroup).Add", "internal/race.ReleaseMerge", "internal/race.Disable", "internal/race.Enable", "internal/synctest.IsInBubble", "internal/synctest.Associate[sync.WaitGroup]", "sync.fatal", "sync/atomic.OrUint64", "sync/atomic.AddUint64", "internal/race.Read", "sync/atomic.LoadUint64", "internal/synctest.Disassociate[sync.WaitGroup]", "sync.runtime_Semrelease", "(*sync.WaitGroup).Done", "sync/atomic.OrInt32", "sync/atomic.OrUint32", "sync/atomic.OrInt64", "sync/atomic.OrUintptr", "sync/atomic.AndInt32", "sync/atomic.AndUint32", "sync/atomic.AndInt64", "sync/atomic.AndUint64", "sync/atomic.AndUintptr", "sync/atomic.LoadInt32", "sync/atomic.LoadUint32", "sync/atomic.LoadInt64", "sync/atomic.LoadUintptr", "sync/atomic.CompareAndSwapInt32", "sync/atomic.CompareAndSwapUint32", "sync/atomic.CompareAndSwapInt64", "sync/atomic.CompareAndSwapUint64", "sync/atomic.CompareAndSwapUintptr", "sync/atomic.AddInt32", "sync/atomic.AddUint32", "sync/atomic.AddInt64", "sync/atomic.AddUintptr", "sync/atomic.SwapUint32", "(*sync.WaitGroup).Go", "(*sync.WaitGroup).Go$1", "(*sync.WaitGroup).Go$1$1", "(*sync.WaitGroup).Wait", "internal/race.Acquire", "internal/synctest.IsAssociated[sync.WaitGroup]", "internal/race.Write", "sync.runtime_SemacquireWaitGroup"], unfollowed := true, recurses := true, apart := false }
def EdgeFieldInt64Said : Prop := edgeFieldInt64Row.holds Try.pinned (OpenSpec.ofChange edgeFieldInt64Spec)

/-- ITS FALSE NEIGHBOUR: 'it returns false'. Refute it at one input. -/
def edgeFieldInt64Wrong : ChangeSpec := { name := "edgeFieldInt64", fn := fun _ => fun
  | [d] => { results := [.lit (.bool false)], args := [d] }
  | _ => none }
def EdgeFieldInt64WrongFalsely : Prop := edgeFieldInt64Row.holds Try.pinned (OpenSpec.ofChange edgeFieldInt64Wrong)

/-- 'flagslaw.EdgeOrUint64': WHATEVER THE INPUT: true; the input reads as it did. -/
def edgeOrUint64Spec : ChangeSpec := { name := "edgeOrUint64", fn := fun _ => fun
  | [d] => { results := [.lit (.bool true)], args := [d] }
  | _ => none }
def edgeOrUint64Row : OpenClaim := { program := "qxb6500587a", sum := "9928bd9ee97b3158f75746a1ce52ec6be26a0562e27b06ba3afc44c3161c275a", func := "e2e/flagslaw.EdgeOrUint64", spec := "edgeOrUint64", inPlace := ["sync/atomic.StoreInt32", "sync/atomic.StoreUint32", "sync/atomic.StoreInt64", "sync/atomic.StoreUint64", "sync/atomic.StoreUintptr", "(*sync.WaitGroup).Add", "internal/race.ReleaseMerge", "internal/race.Disable", "internal/race.Enable", "internal/synctest.IsInBubble", "internal/synctest.Associate[sync.WaitGroup]", "sync.fatal", "sync/atomic.OrUint64", "sync/atomic.AddUint64", "internal/race.Read", "sync/atomic.LoadUint64", "internal/synctest.Disassociate[sync.WaitGroup]", "sync.runtime_Semrelease", "(*sync.WaitGroup).Done", "sync/atomic.OrInt32", "sync/atomic.OrUint32", "sync/atomic.OrInt64", "sync/atomic.OrUintptr", "sync/atomic.AndInt32", "sync/atomic.AndUint32", "sync/atomic.AndInt64", "sync/atomic.AndUint64", "sync/atomic.AndUintptr", "sync/atomic.LoadInt32", "sync/atomic.LoadUint32", "sync/atomic.LoadInt64", "sync/atomic.LoadUintptr", "sync/atomic.CompareAndSwapInt32", "sync/atomic.CompareAndSwapUint32", "sync/atomic.CompareAndSwapInt64", "sync/atomic.CompareAndSwapUint64", "sync/atomic.CompareAndSwapUintptr", "sync/atomic.AddInt32", "sync/atomic.AddUint32", "sync/atomic.AddInt64", "sync/atomic.AddUintptr", "sync/atomic.SwapUint32", "(*sync.WaitGroup).Go", "(*sync.WaitGroup).Go$1", "(*sync.WaitGroup).Go$1$1", "(*sync.WaitGroup).Wait", "internal/race.Acquire", "internal/synctest.IsAssociated[sync.WaitGroup]", "internal/race.Write", "sync.runtime_SemacquireWaitGroup"], unfollowed := true, recurses := true, apart := false }
def EdgeOrUint64Said : Prop := edgeOrUint64Row.holds Try.pinned (OpenSpec.ofChange edgeOrUint64Spec)

/-- ITS FALSE NEIGHBOUR: 'it returns false'. Refute it at one input. -/
def edgeOrUint64Wrong : ChangeSpec := { name := "edgeOrUint64", fn := fun _ => fun
  | [d] => { results := [.lit (.bool false)], args := [d] }
  | _ => none }
def EdgeOrUint64WrongFalsely : Prop := edgeOrUint64Row.holds Try.pinned (OpenSpec.ofChange edgeOrUint64Wrong)

/-- 'flagslaw.EdgeAndUint64': WHATEVER THE INPUT: true; the input reads as it did. -/
def edgeAndUint64Spec : ChangeSpec := { name := "edgeAndUint64", fn := fun _ => fun
  | [d] => { results := [.lit (.bool true)], args := [d] }
  | _ => none }
def edgeAndUint64Row : OpenClaim := { program := "qxb6500587a", sum := "9928bd9ee97b3158f75746a1ce52ec6be26a0562e27b06ba3afc44c3161c275a", func := "e2e/flagslaw.EdgeAndUint64", spec := "edgeAndUint64", inPlace := ["sync/atomic.StoreInt32", "sync/atomic.StoreUint32", "sync/atomic.StoreInt64", "sync/atomic.StoreUint64", "sync/atomic.StoreUintptr", "(*sync.WaitGroup).Add", "internal/race.ReleaseMerge", "internal/race.Disable", "internal/race.Enable", "internal/synctest.IsInBubble", "internal/synctest.Associate[sync.WaitGroup]", "sync.fatal", "sync/atomic.OrUint64", "sync/atomic.AddUint64", "internal/race.Read", "sync/atomic.LoadUint64", "internal/synctest.Disassociate[sync.WaitGroup]", "sync.runtime_Semrelease", "(*sync.WaitGroup).Done", "sync/atomic.OrInt32", "sync/atomic.OrUint32", "sync/atomic.OrInt64", "sync/atomic.OrUintptr", "sync/atomic.AndInt32", "sync/atomic.AndUint32", "sync/atomic.AndInt64", "sync/atomic.AndUint64", "sync/atomic.AndUintptr", "sync/atomic.LoadInt32", "sync/atomic.LoadUint32", "sync/atomic.LoadInt64", "sync/atomic.LoadUintptr", "sync/atomic.CompareAndSwapInt32", "sync/atomic.CompareAndSwapUint32", "sync/atomic.CompareAndSwapInt64", "sync/atomic.CompareAndSwapUint64", "sync/atomic.CompareAndSwapUintptr", "sync/atomic.AddInt32", "sync/atomic.AddUint32", "sync/atomic.AddInt64", "sync/atomic.AddUintptr", "sync/atomic.SwapUint32", "(*sync.WaitGroup).Go", "(*sync.WaitGroup).Go$1", "(*sync.WaitGroup).Go$1$1", "(*sync.WaitGroup).Wait", "internal/race.Acquire", "internal/synctest.IsAssociated[sync.WaitGroup]", "internal/race.Write", "sync.runtime_SemacquireWaitGroup"], unfollowed := true, recurses := true, apart := false }
def EdgeAndUint64Said : Prop := edgeAndUint64Row.holds Try.pinned (OpenSpec.ofChange edgeAndUint64Spec)

/-- ITS FALSE NEIGHBOUR: 'it returns false'. Refute it at one input. -/
def edgeAndUint64Wrong : ChangeSpec := { name := "edgeAndUint64", fn := fun _ => fun
  | [d] => { results := [.lit (.bool false)], args := [d] }
  | _ => none }
def EdgeAndUint64WrongFalsely : Prop := edgeAndUint64Row.holds Try.pinned (OpenSpec.ofChange edgeAndUint64Wrong)

/-- 'flagslaw.EdgeAddUint64Wraps': WHATEVER THE INPUT: true; the input reads as it did. -/
def edgeAddUint64WrapsSpec : ChangeSpec := { name := "edgeAddUint64Wraps", fn := fun _ => fun
  | [d] => { results := [.lit (.bool true)], args := [d] }
  | _ => none }
def edgeAddUint64WrapsRow : OpenClaim := { program := "qxb6500587a", sum := "9928bd9ee97b3158f75746a1ce52ec6be26a0562e27b06ba3afc44c3161c275a", func := "e2e/flagslaw.EdgeAddUint64Wraps", spec := "edgeAddUint64Wraps", inPlace := ["sync/atomic.StoreInt32", "sync/atomic.StoreUint32", "sync/atomic.StoreInt64", "sync/atomic.StoreUint64", "sync/atomic.StoreUintptr", "(*sync.WaitGroup).Add", "internal/race.ReleaseMerge", "internal/race.Disable", "internal/race.Enable", "internal/synctest.IsInBubble", "internal/synctest.Associate[sync.WaitGroup]", "sync.fatal", "sync/atomic.OrUint64", "sync/atomic.AddUint64", "internal/race.Read", "sync/atomic.LoadUint64", "internal/synctest.Disassociate[sync.WaitGroup]", "sync.runtime_Semrelease", "(*sync.WaitGroup).Done", "sync/atomic.OrInt32", "sync/atomic.OrUint32", "sync/atomic.OrInt64", "sync/atomic.OrUintptr", "sync/atomic.AndInt32", "sync/atomic.AndUint32", "sync/atomic.AndInt64", "sync/atomic.AndUint64", "sync/atomic.AndUintptr", "sync/atomic.LoadInt32", "sync/atomic.LoadUint32", "sync/atomic.LoadInt64", "sync/atomic.LoadUintptr", "sync/atomic.CompareAndSwapInt32", "sync/atomic.CompareAndSwapUint32", "sync/atomic.CompareAndSwapInt64", "sync/atomic.CompareAndSwapUint64", "sync/atomic.CompareAndSwapUintptr", "sync/atomic.AddInt32", "sync/atomic.AddUint32", "sync/atomic.AddInt64", "sync/atomic.AddUintptr", "sync/atomic.SwapUint32", "(*sync.WaitGroup).Go", "(*sync.WaitGroup).Go$1", "(*sync.WaitGroup).Go$1$1", "(*sync.WaitGroup).Wait", "internal/race.Acquire", "internal/synctest.IsAssociated[sync.WaitGroup]", "internal/race.Write", "sync.runtime_SemacquireWaitGroup"], unfollowed := true, recurses := true, apart := false }
def EdgeAddUint64WrapsSaid : Prop := edgeAddUint64WrapsRow.holds Try.pinned (OpenSpec.ofChange edgeAddUint64WrapsSpec)

/-- ITS FALSE NEIGHBOUR: 'it returns false'. Refute it at one input. -/
def edgeAddUint64WrapsWrong : ChangeSpec := { name := "edgeAddUint64Wraps", fn := fun _ => fun
  | [d] => { results := [.lit (.bool false)], args := [d] }
  | _ => none }
def EdgeAddUint64WrapsWrongFalsely : Prop := edgeAddUint64WrapsRow.holds Try.pinned (OpenSpec.ofChange edgeAddUint64WrapsWrong)

/-- 'flagslaw.EdgeAddUint64Draws': WHATEVER THE INPUT: true; the input reads as it did. -/
def edgeAddUint64DrawsSpec : ChangeSpec := { name := "edgeAddUint64Draws", fn := fun _ => fun
  | [d] => { results := [.lit (.bool true)], args := [d] }
  | _ => none }
def edgeAddUint64DrawsRow : OpenClaim := { program := "qxb6500587a", sum := "9928bd9ee97b3158f75746a1ce52ec6be26a0562e27b06ba3afc44c3161c275a", func := "e2e/flagslaw.EdgeAddUint64Draws", spec := "edgeAddUint64Draws", inPlace := ["(*sync.WaitGroup).Add", "internal/race.ReleaseMerge", "internal/race.Disable", "internal/race.Enable", "internal/synctest.IsInBubble", "internal/synctest.Associate[sync.WaitGroup]", "sync.fatal", "sync/atomic.OrUint64", "sync/atomic.AddUint64", "internal/race.Read", "sync/atomic.LoadUint64", "sync/atomic.StoreUint64", "internal/synctest.Disassociate[sync.WaitGroup]", "sync.runtime_Semrelease", "(*sync.WaitGroup).Done", "sync/atomic.OrInt32", "sync/atomic.OrUint32", "sync/atomic.OrInt64", "sync/atomic.OrUintptr", "sync/atomic.AndInt32", "sync/atomic.AndUint32", "sync/atomic.AndInt64", "sync/atomic.AndUint64", "sync/atomic.AndUintptr", "sync/atomic.LoadInt32", "sync/atomic.LoadUint32", "sync/atomic.LoadInt64", "sync/atomic.LoadUintptr", "sync/atomic.CompareAndSwapInt32", "sync/atomic.CompareAndSwapUint32", "sync/atomic.CompareAndSwapInt64", "sync/atomic.CompareAndSwapUint64", "sync/atomic.CompareAndSwapUintptr", "sync/atomic.AddInt32", "sync/atomic.AddUint32", "sync/atomic.AddInt64", "sync/atomic.AddUintptr", "sync/atomic.SwapUint32", "(*sync.WaitGroup).Go", "(*sync.WaitGroup).Go$1", "(*sync.WaitGroup).Go$1$1", "(*sync.WaitGroup).Wait", "internal/race.Acquire", "internal/synctest.IsAssociated[sync.WaitGroup]", "internal/race.Write", "sync.runtime_SemacquireWaitGroup"], unfollowed := true, recurses := true, apart := false }
def EdgeAddUint64DrawsSaid : Prop := edgeAddUint64DrawsRow.holds Try.pinned (OpenSpec.ofChange edgeAddUint64DrawsSpec)

/-- ITS FALSE NEIGHBOUR: 'it returns false'. Refute it at one input. -/
def edgeAddUint64DrawsWrong : ChangeSpec := { name := "edgeAddUint64Draws", fn := fun _ => fun
  | [d] => { results := [.lit (.bool false)], args := [d] }
  | _ => none }
def EdgeAddUint64DrawsWrongFalsely : Prop := edgeAddUint64DrawsRow.holds Try.pinned (OpenSpec.ofChange edgeAddUint64DrawsWrong)

/-- 'flagslaw.EdgeSwapUint64': WHATEVER THE INPUT: true; the input reads as it did. -/
def edgeSwapUint64Spec : ChangeSpec := { name := "edgeSwapUint64", fn := fun _ => fun
  | [d] => { results := [.lit (.bool true)], args := [d] }
  | _ => none }
def edgeSwapUint64Row : OpenClaim := { program := "qxb6500587a", sum := "9928bd9ee97b3158f75746a1ce52ec6be26a0562e27b06ba3afc44c3161c275a", func := "e2e/flagslaw.EdgeSwapUint64", spec := "edgeSwapUint64", inPlace := ["sync/atomic.StoreInt32", "sync/atomic.StoreUint32", "sync/atomic.StoreInt64", "sync/atomic.StoreUint64", "sync/atomic.StoreUintptr", "sync/atomic.SwapInt32", "sync/atomic.SwapUint32", "sync/atomic.SwapInt64", "sync/atomic.SwapUint64", "sync/atomic.SwapUintptr", "sync/atomic.LoadInt32", "sync/atomic.LoadUint32", "sync/atomic.LoadInt64", "sync/atomic.LoadUint64", "sync/atomic.LoadUintptr"], apart := false }
def EdgeSwapUint64Said : Prop := edgeSwapUint64Row.holds Try.pinned (OpenSpec.ofChange edgeSwapUint64Spec)

/-- ITS FALSE NEIGHBOUR: 'it returns false'. Refute it at one input. -/
def edgeSwapUint64Wrong : ChangeSpec := { name := "edgeSwapUint64", fn := fun _ => fun
  | [d] => { results := [.lit (.bool false)], args := [d] }
  | _ => none }
def EdgeSwapUint64WrongFalsely : Prop := edgeSwapUint64Row.holds Try.pinned (OpenSpec.ofChange edgeSwapUint64Wrong)

/-- 'flagslaw.EdgeCasUint64': WHATEVER THE INPUT: true; the input reads as it did. -/
def edgeCasUint64Spec : ChangeSpec := { name := "edgeCasUint64", fn := fun _ => fun
  | [d] => { results := [.lit (.bool true)], args := [d] }
  | _ => none }
def edgeCasUint64Row : OpenClaim := { program := "qxb6500587a", sum := "9928bd9ee97b3158f75746a1ce52ec6be26a0562e27b06ba3afc44c3161c275a", func := "e2e/flagslaw.EdgeCasUint64", spec := "edgeCasUint64", inPlace := ["sync/atomic.StoreInt32", "sync/atomic.StoreUint32", "sync/atomic.StoreInt64", "sync/atomic.StoreUint64", "sync/atomic.StoreUintptr", "sync/atomic.CompareAndSwapInt32", "sync/atomic.CompareAndSwapUint32", "sync/atomic.CompareAndSwapInt64", "sync/atomic.CompareAndSwapUint64", "sync/atomic.CompareAndSwapUintptr", "sync/atomic.LoadInt32", "sync/atomic.LoadUint32", "sync/atomic.LoadInt64", "sync/atomic.LoadUint64", "sync/atomic.LoadUintptr"], apart := false }
def EdgeCasUint64Said : Prop := edgeCasUint64Row.holds Try.pinned (OpenSpec.ofChange edgeCasUint64Spec)

/-- ITS FALSE NEIGHBOUR: 'it returns false'. Refute it at one input. -/
def edgeCasUint64Wrong : ChangeSpec := { name := "edgeCasUint64", fn := fun _ => fun
  | [d] => { results := [.lit (.bool false)], args := [d] }
  | _ => none }
def EdgeCasUint64WrongFalsely : Prop := edgeCasUint64Row.holds Try.pinned (OpenSpec.ofChange edgeCasUint64Wrong)

/-- 'flagslaw.EdgeFieldUint64': WHATEVER THE INPUT: true; the input reads as it did. -/
def edgeFieldUint64Spec : ChangeSpec := { name := "edgeFieldUint64", fn := fun _ => fun
  | [d] => { results := [.lit (.bool true)], args := [d] }
  | _ => none }
def edgeFieldUint64Row : OpenClaim := { program := "qxb6500587a", sum := "9928bd9ee97b3158f75746a1ce52ec6be26a0562e27b06ba3afc44c3161c275a", func := "e2e/flagslaw.EdgeFieldUint64", spec := "edgeFieldUint64", inPlace := ["sync/atomic.StoreInt32", "sync/atomic.StoreUint32", "sync/atomic.StoreInt64", "sync/atomic.StoreUint64", "sync/atomic.StoreUintptr", "(*sync.WaitGroup).Add", "internal/race.ReleaseMerge", "internal/race.Disable", "internal/race.Enable", "internal/synctest.IsInBubble", "internal/synctest.Associate[sync.WaitGroup]", "sync.fatal", "sync/atomic.OrUint64", "sync/atomic.AddUint64", "internal/race.Read", "sync/atomic.LoadUint64", "internal/synctest.Disassociate[sync.WaitGroup]", "sync.runtime_Semrelease", "(*sync.WaitGroup).Done", "sync/atomic.OrInt32", "sync/atomic.OrUint32", "sync/atomic.OrInt64", "sync/atomic.OrUintptr", "sync/atomic.AndInt32", "sync/atomic.AndUint32", "sync/atomic.AndInt64", "sync/atomic.AndUint64", "sync/atomic.AndUintptr", "sync/atomic.LoadInt32", "sync/atomic.LoadUint32", "sync/atomic.LoadInt64", "sync/atomic.LoadUintptr", "sync/atomic.CompareAndSwapInt32", "sync/atomic.CompareAndSwapUint32", "sync/atomic.CompareAndSwapInt64", "sync/atomic.CompareAndSwapUint64", "sync/atomic.CompareAndSwapUintptr", "sync/atomic.AddInt32", "sync/atomic.AddUint32", "sync/atomic.AddInt64", "sync/atomic.AddUintptr", "sync/atomic.SwapUint32", "(*sync.WaitGroup).Go", "(*sync.WaitGroup).Go$1", "(*sync.WaitGroup).Go$1$1", "(*sync.WaitGroup).Wait", "internal/race.Acquire", "internal/synctest.IsAssociated[sync.WaitGroup]", "internal/race.Write", "sync.runtime_SemacquireWaitGroup"], unfollowed := true, recurses := true, apart := false }
def EdgeFieldUint64Said : Prop := edgeFieldUint64Row.holds Try.pinned (OpenSpec.ofChange edgeFieldUint64Spec)

/-- ITS FALSE NEIGHBOUR: 'it returns false'. Refute it at one input. -/
def edgeFieldUint64Wrong : ChangeSpec := { name := "edgeFieldUint64", fn := fun _ => fun
  | [d] => { results := [.lit (.bool false)], args := [d] }
  | _ => none }
def EdgeFieldUint64WrongFalsely : Prop := edgeFieldUint64Row.holds Try.pinned (OpenSpec.ofChange edgeFieldUint64Wrong)

end Rows
end Go.Proofs.Qxb6500587a
