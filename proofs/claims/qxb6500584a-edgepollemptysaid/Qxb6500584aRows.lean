/-
  No cell of these rows narrows 'for every input' (looked for: loops, veiled, ifaces, maps, wideKeys, modest, calm, conditions, laid).
  DERIVED. THE GIVEN ROWS OF THIS SEAT. 11 by the template 'for every input the law returns true; each argument reads behind the call as it read before'; 0 by the template 'total and deterministic' (their statements: Qxb6500584aTotals.lean).
  GIVEN WITH THE SEED: the statements are not yours to turn. If you find one false, say at which input.
  Laid BY PROGRAM, IN A SANDBOX (cutbox-rows.mjs): the forced cells as the released guide's own fill.sh prints them over the translation 17f730b8d4465ab8… (all of the seat's roots in one cut). By AI agents, Wed Nov 11 2026. No macro, syntax, notation, axiom, sorry.
-/
import Derived.Test.Qxb6500584aChecked
import GoSem.Claim
import GoSem.ClaimJoined
import GoSem.ClaimMapViews
import Derived.JoinedTies
import Derived.KernelRfl
namespace Go.Proofs.Qxb6500584a
/- THE CELL 'sum', in the pinned program and in every row, IS THE sha256 OF THE DUMP (.gsa) THAT Qxb6500584aProg.lean LOADS. Nothing in Lean hashes anything: it is a label: what it is worth is what the hold of that sum in a sandbox is worth. -/
noncomputable def Try.pinned : Pinned := { name := "qxb6500584a", sum := "17f730b8d4465ab8ef192ad9e915bdca43860f94cd01c28bb604c8f303dc0ed1", checked := Try.checked }
namespace Rows
def none {H : Type} : Left H := { results := [], args := [] }

/-- 'muxlaw.EdgeSumBrim': WHATEVER THE INPUT: true; the input reads as it did. -/
def edgeSumBrimSpec : ChangeSpec := { name := "edgeSumBrim", fn := fun _ => fun
  | [] => { results := [.lit (.bool true)], args := [] }
  | _ => none }
def edgeSumBrimRow : OpenClaim := { program := "qxb6500584a", sum := "17f730b8d4465ab8ef192ad9e915bdca43860f94cd01c28bb604c8f303dc0ed1", func := "e2e/muxlaw.EdgeSumBrim", spec := "edgeSumBrim", apart := false }
def EdgeSumBrimSaid : Prop := edgeSumBrimRow.holds Try.pinned (OpenSpec.ofChange edgeSumBrimSpec)

/-- ITS FALSE NEIGHBOUR: 'it returns false'. Refute it at one input. -/
def edgeSumBrimWrong : ChangeSpec := { name := "edgeSumBrim", fn := fun _ => fun
  | [] => { results := [.lit (.bool false)], args := [] }
  | _ => none }
def EdgeSumBrimWrongFalsely : Prop := edgeSumBrimRow.holds Try.pinned (OpenSpec.ofChange edgeSumBrimWrong)

/-- 'muxlaw.EdgeMergeTwice': WHATEVER THE INPUT: true; the input reads as it did. -/
def edgeMergeTwiceSpec : ChangeSpec := { name := "edgeMergeTwice", fn := fun _ => fun
  | [] => { results := [.lit (.bool true)], args := [] }
  | _ => none }
def edgeMergeTwiceRow : OpenClaim := { program := "qxb6500584a", sum := "17f730b8d4465ab8ef192ad9e915bdca43860f94cd01c28bb604c8f303dc0ed1", func := "e2e/muxlaw.EdgeMergeTwice", spec := "edgeMergeTwice", apart := false }
def EdgeMergeTwiceSaid : Prop := edgeMergeTwiceRow.holds Try.pinned (OpenSpec.ofChange edgeMergeTwiceSpec)

/-- ITS FALSE NEIGHBOUR: 'it returns false'. Refute it at one input. -/
def edgeMergeTwiceWrong : ChangeSpec := { name := "edgeMergeTwice", fn := fun _ => fun
  | [] => { results := [.lit (.bool false)], args := [] }
  | _ => none }
def EdgeMergeTwiceWrongFalsely : Prop := edgeMergeTwiceRow.holds Try.pinned (OpenSpec.ofChange edgeMergeTwiceWrong)

/-- 'muxlaw.EdgeTakeNone': WHATEVER THE INPUT: true; the input reads as it did. -/
def edgeTakeNoneSpec : ChangeSpec := { name := "edgeTakeNone", fn := fun _ => fun
  | [] => { results := [.lit (.bool true)], args := [] }
  | _ => none }
def edgeTakeNoneRow : OpenClaim := { program := "qxb6500584a", sum := "17f730b8d4465ab8ef192ad9e915bdca43860f94cd01c28bb604c8f303dc0ed1", func := "e2e/muxlaw.EdgeTakeNone", spec := "edgeTakeNone", apart := false }
def EdgeTakeNoneSaid : Prop := edgeTakeNoneRow.holds Try.pinned (OpenSpec.ofChange edgeTakeNoneSpec)

/-- ITS FALSE NEIGHBOUR: 'it returns false'. Refute it at one input. -/
def edgeTakeNoneWrong : ChangeSpec := { name := "edgeTakeNone", fn := fun _ => fun
  | [] => { results := [.lit (.bool false)], args := [] }
  | _ => none }
def EdgeTakeNoneWrongFalsely : Prop := edgeTakeNoneRow.holds Try.pinned (OpenSpec.ofChange edgeTakeNoneWrong)

/-- 'muxlaw.EdgeTakeAll': WHATEVER THE INPUT: true; the input reads as it did. -/
def edgeTakeAllSpec : ChangeSpec := { name := "edgeTakeAll", fn := fun _ => fun
  | [] => { results := [.lit (.bool true)], args := [] }
  | _ => none }
def edgeTakeAllRow : OpenClaim := { program := "qxb6500584a", sum := "17f730b8d4465ab8ef192ad9e915bdca43860f94cd01c28bb604c8f303dc0ed1", func := "e2e/muxlaw.EdgeTakeAll", spec := "edgeTakeAll", apart := false }
def EdgeTakeAllSaid : Prop := edgeTakeAllRow.holds Try.pinned (OpenSpec.ofChange edgeTakeAllSpec)

/-- ITS FALSE NEIGHBOUR: 'it returns false'. Refute it at one input. -/
def edgeTakeAllWrong : ChangeSpec := { name := "edgeTakeAll", fn := fun _ => fun
  | [] => { results := [.lit (.bool false)], args := [] }
  | _ => none }
def EdgeTakeAllWrongFalsely : Prop := edgeTakeAllRow.holds Try.pinned (OpenSpec.ofChange edgeTakeAllWrong)

/-- 'muxlaw.EdgeTakeEmpty': WHATEVER THE INPUT: true; the input reads as it did. -/
def edgeTakeEmptySpec : ChangeSpec := { name := "edgeTakeEmpty", fn := fun _ => fun
  | [] => { results := [.lit (.bool true)], args := [] }
  | _ => none }
def edgeTakeEmptyRow : OpenClaim := { program := "qxb6500584a", sum := "17f730b8d4465ab8ef192ad9e915bdca43860f94cd01c28bb604c8f303dc0ed1", func := "e2e/muxlaw.EdgeTakeEmpty", spec := "edgeTakeEmpty", apart := false }
def EdgeTakeEmptySaid : Prop := edgeTakeEmptyRow.holds Try.pinned (OpenSpec.ofChange edgeTakeEmptySpec)

/-- ITS FALSE NEIGHBOUR: 'it returns false'. Refute it at one input. -/
def edgeTakeEmptyWrong : ChangeSpec := { name := "edgeTakeEmpty", fn := fun _ => fun
  | [] => { results := [.lit (.bool false)], args := [] }
  | _ => none }
def EdgeTakeEmptyWrongFalsely : Prop := edgeTakeEmptyRow.holds Try.pinned (OpenSpec.ofChange edgeTakeEmptyWrong)

/-- 'muxlaw.EdgePollEmpty': WHATEVER THE INPUT: true; the input reads as it did. -/
def edgePollEmptySpec : ChangeSpec := { name := "edgePollEmpty", fn := fun _ => fun
  | [] => { results := [.lit (.bool true)], args := [] }
  | _ => none }
def edgePollEmptyRow : OpenClaim := { program := "qxb6500584a", sum := "17f730b8d4465ab8ef192ad9e915bdca43860f94cd01c28bb604c8f303dc0ed1", func := "e2e/muxlaw.EdgePollEmpty", spec := "edgePollEmpty", apart := false }
def EdgePollEmptySaid : Prop := edgePollEmptyRow.holds Try.pinned (OpenSpec.ofChange edgePollEmptySpec)

/-- ITS FALSE NEIGHBOUR: 'it returns false'. Refute it at one input. -/
def edgePollEmptyWrong : ChangeSpec := { name := "edgePollEmpty", fn := fun _ => fun
  | [] => { results := [.lit (.bool false)], args := [] }
  | _ => none }
def EdgePollEmptyWrongFalsely : Prop := edgePollEmptyRow.holds Try.pinned (OpenSpec.ofChange edgePollEmptyWrong)

/-- 'muxlaw.EdgeTrayFull': WHATEVER THE INPUT: true; the input reads as it did. -/
def edgeTrayFullSpec : ChangeSpec := { name := "edgeTrayFull", fn := fun _ => fun
  | [] => { results := [.lit (.bool true)], args := [] }
  | _ => none }
def edgeTrayFullRow : OpenClaim := { program := "qxb6500584a", sum := "17f730b8d4465ab8ef192ad9e915bdca43860f94cd01c28bb604c8f303dc0ed1", func := "e2e/muxlaw.EdgeTrayFull", spec := "edgeTrayFull", apart := false }
def EdgeTrayFullSaid : Prop := edgeTrayFullRow.holds Try.pinned (OpenSpec.ofChange edgeTrayFullSpec)

/-- ITS FALSE NEIGHBOUR: 'it returns false'. Refute it at one input. -/
def edgeTrayFullWrong : ChangeSpec := { name := "edgeTrayFull", fn := fun _ => fun
  | [] => { results := [.lit (.bool false)], args := [] }
  | _ => none }
def EdgeTrayFullWrongFalsely : Prop := edgeTrayFullRow.holds Try.pinned (OpenSpec.ofChange edgeTrayFullWrong)

/-- 'muxlaw.EdgeFlushEmpty': WHATEVER THE INPUT: true; the input reads as it did. -/
def edgeFlushEmptySpec : ChangeSpec := { name := "edgeFlushEmpty", fn := fun _ => fun
  | [] => { results := [.lit (.bool true)], args := [] }
  | _ => none }
def edgeFlushEmptyRow : OpenClaim := { program := "qxb6500584a", sum := "17f730b8d4465ab8ef192ad9e915bdca43860f94cd01c28bb604c8f303dc0ed1", func := "e2e/muxlaw.EdgeFlushEmpty", spec := "edgeFlushEmpty", apart := false }
def EdgeFlushEmptySaid : Prop := edgeFlushEmptyRow.holds Try.pinned (OpenSpec.ofChange edgeFlushEmptySpec)

/-- ITS FALSE NEIGHBOUR: 'it returns false'. Refute it at one input. -/
def edgeFlushEmptyWrong : ChangeSpec := { name := "edgeFlushEmpty", fn := fun _ => fun
  | [] => { results := [.lit (.bool false)], args := [] }
  | _ => none }
def EdgeFlushEmptyWrongFalsely : Prop := edgeFlushEmptyRow.holds Try.pinned (OpenSpec.ofChange edgeFlushEmptyWrong)

/-- 'muxlaw.EdgeFlushFull': WHATEVER THE INPUT: true; the input reads as it did. -/
def edgeFlushFullSpec : ChangeSpec := { name := "edgeFlushFull", fn := fun _ => fun
  | [] => { results := [.lit (.bool true)], args := [] }
  | _ => none }
def edgeFlushFullRow : OpenClaim := { program := "qxb6500584a", sum := "17f730b8d4465ab8ef192ad9e915bdca43860f94cd01c28bb604c8f303dc0ed1", func := "e2e/muxlaw.EdgeFlushFull", spec := "edgeFlushFull", apart := false }
def EdgeFlushFullSaid : Prop := edgeFlushFullRow.holds Try.pinned (OpenSpec.ofChange edgeFlushFullSpec)

/-- ITS FALSE NEIGHBOUR: 'it returns false'. Refute it at one input. -/
def edgeFlushFullWrong : ChangeSpec := { name := "edgeFlushFull", fn := fun _ => fun
  | [] => { results := [.lit (.bool false)], args := [] }
  | _ => none }
def EdgeFlushFullWrongFalsely : Prop := edgeFlushFullRow.holds Try.pinned (OpenSpec.ofChange edgeFlushFullWrong)

/-- 'muxlaw.EdgeFlushTwice': WHATEVER THE INPUT: true; the input reads as it did. -/
def edgeFlushTwiceSpec : ChangeSpec := { name := "edgeFlushTwice", fn := fun _ => fun
  | [] => { results := [.lit (.bool true)], args := [] }
  | _ => none }
def edgeFlushTwiceRow : OpenClaim := { program := "qxb6500584a", sum := "17f730b8d4465ab8ef192ad9e915bdca43860f94cd01c28bb604c8f303dc0ed1", func := "e2e/muxlaw.EdgeFlushTwice", spec := "edgeFlushTwice", apart := false }
def EdgeFlushTwiceSaid : Prop := edgeFlushTwiceRow.holds Try.pinned (OpenSpec.ofChange edgeFlushTwiceSpec)

/-- ITS FALSE NEIGHBOUR: 'it returns false'. Refute it at one input. -/
def edgeFlushTwiceWrong : ChangeSpec := { name := "edgeFlushTwice", fn := fun _ => fun
  | [] => { results := [.lit (.bool false)], args := [] }
  | _ => none }
def EdgeFlushTwiceWrongFalsely : Prop := edgeFlushTwiceRow.holds Try.pinned (OpenSpec.ofChange edgeFlushTwiceWrong)

/-- 'muxlaw.EdgeShowTwice': WHATEVER THE INPUT: true; the input reads as it did. -/
def edgeShowTwiceSpec : ChangeSpec := { name := "edgeShowTwice", fn := fun _ => fun
  | [] => { results := [.lit (.bool true)], args := [] }
  | _ => none }
def edgeShowTwiceRow : OpenClaim := { program := "qxb6500584a", sum := "17f730b8d4465ab8ef192ad9e915bdca43860f94cd01c28bb604c8f303dc0ed1", func := "e2e/muxlaw.EdgeShowTwice", spec := "edgeShowTwice", apart := false }
def EdgeShowTwiceSaid : Prop := edgeShowTwiceRow.holds Try.pinned (OpenSpec.ofChange edgeShowTwiceSpec)

/-- ITS FALSE NEIGHBOUR: 'it returns false'. Refute it at one input. -/
def edgeShowTwiceWrong : ChangeSpec := { name := "edgeShowTwice", fn := fun _ => fun
  | [] => { results := [.lit (.bool false)], args := [] }
  | _ => none }
def EdgeShowTwiceWrongFalsely : Prop := edgeShowTwiceRow.holds Try.pinned (OpenSpec.ofChange edgeShowTwiceWrong)

end Rows
end Go.Proofs.Qxb6500584a
