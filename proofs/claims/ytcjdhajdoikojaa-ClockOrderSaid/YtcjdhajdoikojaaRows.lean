/-
  No cell of these rows narrows 'for every input' (looked for: loops, veiled, ifaces, maps, wideKeys, modest, calm, conditions, laid).
  DERIVED. THE GIVEN ROWS OF THIS SEAT. 12 by the template 'for every input the law returns true; each argument reads behind the call as it read before'; 0 by the template 'total and deterministic' (their statements: YtcjdhajdoikojaaTotals.lean).
  GIVEN WITH THE SEED: the statements are not yours to turn. If you find one false, say at which input.
  Laid BY PROGRAM, IN A SANDBOX (cutbox-rows.mjs): the forced cells as the released guide's own fill.sh prints them over the translation 67c9b27ad558e44c… (all of the seat's roots in one cut). By AI agents, Wed Nov 11 2026. No macro, syntax, notation, axiom, sorry.
-/
import Derived.Test.YtcjdhajdoikojaaChecked
import GoSem.Claim
import GoSem.ClaimJoined
import GoSem.ClaimMapViews
import Derived.JoinedTies
import Derived.KernelRfl
namespace Go.Proofs.Ytcjdhajdoikojaa
/- THE CELL 'sum', in the pinned program and in every row, IS THE sha256 OF THE DUMP (.gsa) THAT YtcjdhajdoikojaaProg.lean LOADS. Nothing in Lean hashes anything: it is a label: what it is worth is what the hold of that sum in a sandbox is worth. -/
noncomputable def Try.pinned : Pinned := { name := "ytcjdhajdoikojaa", sum := "67c9b27ad558e44c9b476b3410a2c0b33954464e68738f7ac04b573c879c9f30", checked := Try.checked }
namespace Rows
def none {H : Type} : Left H := { results := [], args := [] }

/-- 'isobathlaw05.ClockTree': WHATEVER THE INPUT: true; the input reads as it did. -/
def clockTreeSpec : ChangeSpec := { name := "clockTree", fn := fun _ => fun
  | [d1, d2, d3, d4, d5, d6] => { results := [.lit (.bool true)], args := [d1, d2, d3, d4, d5, d6] }
  | _ => none }
def clockTreeRow : OpenClaim := { program := "ytcjdhajdoikojaa", sum := "67c9b27ad558e44c9b476b3410a2c0b33954464e68738f7ac04b573c879c9f30", func := "isobath/isobathlaw05.ClockTree", spec := "clockTree", unfollowed := true, recurses := true, apart := false }
def ClockTreeSaid : Prop := clockTreeRow.holds Try.pinned (OpenSpec.ofChange clockTreeSpec)

/-- ITS FALSE NEIGHBOUR: 'it returns false'. Refute it at one input. -/
def clockTreeWrong : ChangeSpec := { name := "clockTree", fn := fun _ => fun
  | [d1, d2, d3, d4, d5, d6] => { results := [.lit (.bool false)], args := [d1, d2, d3, d4, d5, d6] }
  | _ => none }
def ClockTreeWrongFalsely : Prop := clockTreeRow.holds Try.pinned (OpenSpec.ofChange clockTreeWrong)

/-- 'isobathlaw05.ClockMore': WHATEVER THE INPUT: true; the input reads as it did. -/
def clockMoreSpec : ChangeSpec := { name := "clockMore", fn := fun _ => fun
  | [d1, d2, d3, d4, d5] => { results := [.lit (.bool true)], args := [d1, d2, d3, d4, d5] }
  | _ => none }
def clockMoreRow : OpenClaim := { program := "ytcjdhajdoikojaa", sum := "67c9b27ad558e44c9b476b3410a2c0b33954464e68738f7ac04b573c879c9f30", func := "isobath/isobathlaw05.ClockMore", spec := "clockMore", unfollowed := true, recurses := true, apart := false }
def ClockMoreSaid : Prop := clockMoreRow.holds Try.pinned (OpenSpec.ofChange clockMoreSpec)

/-- ITS FALSE NEIGHBOUR: 'it returns false'. Refute it at one input. -/
def clockMoreWrong : ChangeSpec := { name := "clockMore", fn := fun _ => fun
  | [d1, d2, d3, d4, d5] => { results := [.lit (.bool false)], args := [d1, d2, d3, d4, d5] }
  | _ => none }
def ClockMoreWrongFalsely : Prop := clockMoreRow.holds Try.pinned (OpenSpec.ofChange clockMoreWrong)

/-- 'isobathlaw05.ClockSlow': WHATEVER THE INPUT: true; the input reads as it did. -/
def clockSlowSpec : ChangeSpec := { name := "clockSlow", fn := fun _ => fun
  | [d1, d2, d3] => { results := [.lit (.bool true)], args := [d1, d2, d3] }
  | _ => none }
def clockSlowRow : OpenClaim := { program := "ytcjdhajdoikojaa", sum := "67c9b27ad558e44c9b476b3410a2c0b33954464e68738f7ac04b573c879c9f30", func := "isobath/isobathlaw05.ClockSlow", spec := "clockSlow", unfollowed := true, recurses := true, apart := false }
def ClockSlowSaid : Prop := clockSlowRow.holds Try.pinned (OpenSpec.ofChange clockSlowSpec)

/-- ITS FALSE NEIGHBOUR: 'it returns false'. Refute it at one input. -/
def clockSlowWrong : ChangeSpec := { name := "clockSlow", fn := fun _ => fun
  | [d1, d2, d3] => { results := [.lit (.bool false)], args := [d1, d2, d3] }
  | _ => none }
def ClockSlowWrongFalsely : Prop := clockSlowRow.holds Try.pinned (OpenSpec.ofChange clockSlowWrong)

/-- 'isobathlaw05.ClockDue': WHATEVER THE INPUT: true; the input reads as it did. -/
def clockDueSpec : ChangeSpec := { name := "clockDue", fn := fun _ => fun
  | [d1, d2, d3] => { results := [.lit (.bool true)], args := [d1, d2, d3] }
  | _ => none }
def clockDueRow : OpenClaim := { program := "ytcjdhajdoikojaa", sum := "67c9b27ad558e44c9b476b3410a2c0b33954464e68738f7ac04b573c879c9f30", func := "isobath/isobathlaw05.ClockDue", spec := "clockDue", unfollowed := true, recurses := true, apart := false }
def ClockDueSaid : Prop := clockDueRow.holds Try.pinned (OpenSpec.ofChange clockDueSpec)

/-- ITS FALSE NEIGHBOUR: 'it returns false'. Refute it at one input. -/
def clockDueWrong : ChangeSpec := { name := "clockDue", fn := fun _ => fun
  | [d1, d2, d3] => { results := [.lit (.bool false)], args := [d1, d2, d3] }
  | _ => none }
def ClockDueWrongFalsely : Prop := clockDueRow.holds Try.pinned (OpenSpec.ofChange clockDueWrong)

/-- 'isobathlaw05.ClockHolds': WHATEVER THE INPUT: true; the input reads as it did. -/
def clockHoldsSpec : ChangeSpec := { name := "clockHolds", fn := fun _ => fun
  | [d1, d2, d3, d4] => { results := [.lit (.bool true)], args := [d1, d2, d3, d4] }
  | _ => none }
def clockHoldsRow : OpenClaim := { program := "ytcjdhajdoikojaa", sum := "67c9b27ad558e44c9b476b3410a2c0b33954464e68738f7ac04b573c879c9f30", func := "isobath/isobathlaw05.ClockHolds", spec := "clockHolds", unfollowed := true, recurses := true, apart := false }
def ClockHoldsSaid : Prop := clockHoldsRow.holds Try.pinned (OpenSpec.ofChange clockHoldsSpec)

/-- ITS FALSE NEIGHBOUR: 'it returns false'. Refute it at one input. -/
def clockHoldsWrong : ChangeSpec := { name := "clockHolds", fn := fun _ => fun
  | [d1, d2, d3, d4] => { results := [.lit (.bool false)], args := [d1, d2, d3, d4] }
  | _ => none }
def ClockHoldsWrongFalsely : Prop := clockHoldsRow.holds Try.pinned (OpenSpec.ofChange clockHoldsWrong)

/-- 'isobathlaw05.ClockOffsets': WHATEVER THE INPUT: true; the input reads as it did. -/
def clockOffsetsSpec : ChangeSpec := { name := "clockOffsets", fn := fun _ => fun
  | [d1, d2, d3, d4] => { results := [.lit (.bool true)], args := [d1, d2, d3, d4] }
  | _ => none }
def clockOffsetsRow : OpenClaim := { program := "ytcjdhajdoikojaa", sum := "67c9b27ad558e44c9b476b3410a2c0b33954464e68738f7ac04b573c879c9f30", func := "isobath/isobathlaw05.ClockOffsets", spec := "clockOffsets", unfollowed := true, recurses := true, apart := false }
def ClockOffsetsSaid : Prop := clockOffsetsRow.holds Try.pinned (OpenSpec.ofChange clockOffsetsSpec)

/-- ITS FALSE NEIGHBOUR: 'it returns false'. Refute it at one input. -/
def clockOffsetsWrong : ChangeSpec := { name := "clockOffsets", fn := fun _ => fun
  | [d1, d2, d3, d4] => { results := [.lit (.bool false)], args := [d1, d2, d3, d4] }
  | _ => none }
def ClockOffsetsWrongFalsely : Prop := clockOffsetsRow.holds Try.pinned (OpenSpec.ofChange clockOffsetsWrong)

/-- 'isobathlaw05.ClockTimes': WHATEVER THE INPUT: true; the input reads as it did. -/
def clockTimesSpec : ChangeSpec := { name := "clockTimes", fn := fun _ => fun
  | [d1, d2] => { results := [.lit (.bool true)], args := [d1, d2] }
  | _ => none }
def clockTimesRow : OpenClaim := { program := "ytcjdhajdoikojaa", sum := "67c9b27ad558e44c9b476b3410a2c0b33954464e68738f7ac04b573c879c9f30", func := "isobath/isobathlaw05.ClockTimes", spec := "clockTimes", unfollowed := true, recurses := true, apart := false }
def ClockTimesSaid : Prop := clockTimesRow.holds Try.pinned (OpenSpec.ofChange clockTimesSpec)

/-- ITS FALSE NEIGHBOUR: 'it returns false'. Refute it at one input. -/
def clockTimesWrong : ChangeSpec := { name := "clockTimes", fn := fun _ => fun
  | [d1, d2] => { results := [.lit (.bool false)], args := [d1, d2] }
  | _ => none }
def ClockTimesWrongFalsely : Prop := clockTimesRow.holds Try.pinned (OpenSpec.ofChange clockTimesWrong)

/-- 'isobathlaw05.ClockPairs': WHATEVER THE INPUT: true; the input reads as it did. -/
def clockPairsSpec : ChangeSpec := { name := "clockPairs", fn := fun _ => fun
  | [d1, d2, d3, d4] => { results := [.lit (.bool true)], args := [d1, d2, d3, d4] }
  | _ => none }
def clockPairsRow : OpenClaim := { program := "ytcjdhajdoikojaa", sum := "67c9b27ad558e44c9b476b3410a2c0b33954464e68738f7ac04b573c879c9f30", func := "isobath/isobathlaw05.ClockPairs", spec := "clockPairs", unfollowed := true, recurses := true, apart := false }
def ClockPairsSaid : Prop := clockPairsRow.holds Try.pinned (OpenSpec.ofChange clockPairsSpec)

/-- ITS FALSE NEIGHBOUR: 'it returns false'. Refute it at one input. -/
def clockPairsWrong : ChangeSpec := { name := "clockPairs", fn := fun _ => fun
  | [d1, d2, d3, d4] => { results := [.lit (.bool false)], args := [d1, d2, d3, d4] }
  | _ => none }
def ClockPairsWrongFalsely : Prop := clockPairsRow.holds Try.pinned (OpenSpec.ofChange clockPairsWrong)

/-- 'isobathlaw05.ClockContradicts': WHATEVER THE INPUT: true; the input reads as it did. -/
def clockContradictsSpec : ChangeSpec := { name := "clockContradicts", fn := fun _ => fun
  | [d1, d2] => { results := [.lit (.bool true)], args := [d1, d2] }
  | _ => none }
def clockContradictsRow : OpenClaim := { program := "ytcjdhajdoikojaa", sum := "67c9b27ad558e44c9b476b3410a2c0b33954464e68738f7ac04b573c879c9f30", func := "isobath/isobathlaw05.ClockContradicts", spec := "clockContradicts", unfollowed := true, recurses := true, apart := false }
def ClockContradictsSaid : Prop := clockContradictsRow.holds Try.pinned (OpenSpec.ofChange clockContradictsSpec)

/-- ITS FALSE NEIGHBOUR: 'it returns false'. Refute it at one input. -/
def clockContradictsWrong : ChangeSpec := { name := "clockContradicts", fn := fun _ => fun
  | [d1, d2] => { results := [.lit (.bool false)], args := [d1, d2] }
  | _ => none }
def ClockContradictsWrongFalsely : Prop := clockContradictsRow.holds Try.pinned (OpenSpec.ofChange clockContradictsWrong)

/-- 'isobathlaw05.ClockEvents': WHATEVER THE INPUT: true; the input reads as it did. -/
def clockEventsSpec : ChangeSpec := { name := "clockEvents", fn := fun _ => fun
  | [d1, d2, d3] => { results := [.lit (.bool true)], args := [d1, d2, d3] }
  | _ => none }
def clockEventsRow : OpenClaim := { program := "ytcjdhajdoikojaa", sum := "67c9b27ad558e44c9b476b3410a2c0b33954464e68738f7ac04b573c879c9f30", func := "isobath/isobathlaw05.ClockEvents", spec := "clockEvents", unfollowed := true, recurses := true, apart := false }
def ClockEventsSaid : Prop := clockEventsRow.holds Try.pinned (OpenSpec.ofChange clockEventsSpec)

/-- ITS FALSE NEIGHBOUR: 'it returns false'. Refute it at one input. -/
def clockEventsWrong : ChangeSpec := { name := "clockEvents", fn := fun _ => fun
  | [d1, d2, d3] => { results := [.lit (.bool false)], args := [d1, d2, d3] }
  | _ => none }
def ClockEventsWrongFalsely : Prop := clockEventsRow.holds Try.pinned (OpenSpec.ofChange clockEventsWrong)

/-- 'isobathlaw05.ClockOrder': WHATEVER THE INPUT: true; the input reads as it did. -/
def clockOrderSpec : ChangeSpec := { name := "clockOrder", fn := fun _ => fun
  | [d1, d2] => { results := [.lit (.bool true)], args := [d1, d2] }
  | _ => none }
def clockOrderRow : OpenClaim := { program := "ytcjdhajdoikojaa", sum := "67c9b27ad558e44c9b476b3410a2c0b33954464e68738f7ac04b573c879c9f30", func := "isobath/isobathlaw05.ClockOrder", spec := "clockOrder", unfollowed := true, recurses := true, apart := false }
def ClockOrderSaid : Prop := clockOrderRow.holds Try.pinned (OpenSpec.ofChange clockOrderSpec)

/-- ITS FALSE NEIGHBOUR: 'it returns false'. Refute it at one input. -/
def clockOrderWrong : ChangeSpec := { name := "clockOrder", fn := fun _ => fun
  | [d1, d2] => { results := [.lit (.bool false)], args := [d1, d2] }
  | _ => none }
def ClockOrderWrongFalsely : Prop := clockOrderRow.holds Try.pinned (OpenSpec.ofChange clockOrderWrong)

/-- 'isobathlaw05.ClockKnown': WHATEVER THE INPUT: true; the input reads as it did. -/
def clockKnownSpec : ChangeSpec := { name := "clockKnown", fn := fun _ => fun
  | [] => { results := [.lit (.bool true)], args := [] }
  | _ => none }
def clockKnownRow : OpenClaim := { program := "ytcjdhajdoikojaa", sum := "67c9b27ad558e44c9b476b3410a2c0b33954464e68738f7ac04b573c879c9f30", func := "isobath/isobathlaw05.ClockKnown", spec := "clockKnown", unfollowed := true, recurses := true, apart := false }
def ClockKnownSaid : Prop := clockKnownRow.holds Try.pinned (OpenSpec.ofChange clockKnownSpec)

/-- ITS FALSE NEIGHBOUR: 'it returns false'. Refute it at one input. -/
def clockKnownWrong : ChangeSpec := { name := "clockKnown", fn := fun _ => fun
  | [] => { results := [.lit (.bool false)], args := [] }
  | _ => none }
def ClockKnownWrongFalsely : Prop := clockKnownRow.holds Try.pinned (OpenSpec.ofChange clockKnownWrong)

/- THE SECOND FORM. 'bulk': how many values and letters a reading holds, each counted each time it is reached (what is shared counts as often as it is met; a slice's spare places count too). A statement '..UptoSaid' is the law's where the arguments, and the package variables that the reading takes, are together of bulk at most 1048576: NARROWER than '..Said'. Prove '..Said' where nothing that the law and all that it calls make is longer than what came in: it says more and counts as full. Else prove '..UptoSaid'. A law counts once. -/
mutual
def uptoBulk {H : Type} : DataW H → Nat
  | .lit (.string bytes) => bytes.length + 1
  | .lit _ => 1
  | .nil => 1
  | .ptr d => uptoBulk d + 1
  | .slice elems spare => uptoBulkAll elems + uptoBulkAll spare + 1
  | .agg parts => uptoBulkAll parts + 1
  | .iface _ d => uptoBulk d + 1
  | .map entries => uptoBulkEntries entries + 1
  | .held _ => 1
def uptoBulkAll {H : Type} : List (DataW H) → Nat
  | [] => 0
  | d :: r => uptoBulk d + uptoBulkAll r
def uptoBulkEntries {H : Type} : List (Lit × DataW H) → Nat
  | [] => 0
  | x :: r => uptoBulkEntry x + uptoBulkEntries r
def uptoBulkEntry {H : Type} : Lit × DataW H → Nat
  | (.string bytes, d) => bytes.length + uptoBulk d + 1
  | (_, d) => uptoBulk d + 1
 end
def uptoSmall : (H : Type) → List (DataW H) → Bool := fun _ ds => decide (uptoBulkAll ds ≤ 1048576)
def OpenSpec.upto (s : _root_.Go.ChangeSpec) : _root_.Go.OpenSpec := { _root_.Go.OpenSpec.ofChange s with cond := some uptoSmall }

/-- 'isobathlaw05.ClockTree', WHERE WHAT IT READS IS OF BULK AT MOST 1048576: true; the input reads as it did. -/
def clockTreeUptoRow : OpenClaim := { program := "ytcjdhajdoikojaa", sum := "67c9b27ad558e44c9b476b3410a2c0b33954464e68738f7ac04b573c879c9f30", func := "isobath/isobathlaw05.ClockTree", spec := "clockTree", unfollowed := true, recurses := true, apart := false, narrowed := true }
def ClockTreeUptoSaid : Prop := clockTreeUptoRow.holds Try.pinned (OpenSpec.upto clockTreeSpec)

/-- 'isobathlaw05.ClockMore', WHERE WHAT IT READS IS OF BULK AT MOST 1048576: true; the input reads as it did. -/
def clockMoreUptoRow : OpenClaim := { program := "ytcjdhajdoikojaa", sum := "67c9b27ad558e44c9b476b3410a2c0b33954464e68738f7ac04b573c879c9f30", func := "isobath/isobathlaw05.ClockMore", spec := "clockMore", unfollowed := true, recurses := true, apart := false, narrowed := true }
def ClockMoreUptoSaid : Prop := clockMoreUptoRow.holds Try.pinned (OpenSpec.upto clockMoreSpec)

/-- 'isobathlaw05.ClockSlow', WHERE WHAT IT READS IS OF BULK AT MOST 1048576: true; the input reads as it did. -/
def clockSlowUptoRow : OpenClaim := { program := "ytcjdhajdoikojaa", sum := "67c9b27ad558e44c9b476b3410a2c0b33954464e68738f7ac04b573c879c9f30", func := "isobath/isobathlaw05.ClockSlow", spec := "clockSlow", unfollowed := true, recurses := true, apart := false, narrowed := true }
def ClockSlowUptoSaid : Prop := clockSlowUptoRow.holds Try.pinned (OpenSpec.upto clockSlowSpec)

/-- 'isobathlaw05.ClockDue', WHERE WHAT IT READS IS OF BULK AT MOST 1048576: true; the input reads as it did. -/
def clockDueUptoRow : OpenClaim := { program := "ytcjdhajdoikojaa", sum := "67c9b27ad558e44c9b476b3410a2c0b33954464e68738f7ac04b573c879c9f30", func := "isobath/isobathlaw05.ClockDue", spec := "clockDue", unfollowed := true, recurses := true, apart := false, narrowed := true }
def ClockDueUptoSaid : Prop := clockDueUptoRow.holds Try.pinned (OpenSpec.upto clockDueSpec)

/-- 'isobathlaw05.ClockHolds', WHERE WHAT IT READS IS OF BULK AT MOST 1048576: true; the input reads as it did. -/
def clockHoldsUptoRow : OpenClaim := { program := "ytcjdhajdoikojaa", sum := "67c9b27ad558e44c9b476b3410a2c0b33954464e68738f7ac04b573c879c9f30", func := "isobath/isobathlaw05.ClockHolds", spec := "clockHolds", unfollowed := true, recurses := true, apart := false, narrowed := true }
def ClockHoldsUptoSaid : Prop := clockHoldsUptoRow.holds Try.pinned (OpenSpec.upto clockHoldsSpec)

/-- 'isobathlaw05.ClockOffsets', WHERE WHAT IT READS IS OF BULK AT MOST 1048576: true; the input reads as it did. -/
def clockOffsetsUptoRow : OpenClaim := { program := "ytcjdhajdoikojaa", sum := "67c9b27ad558e44c9b476b3410a2c0b33954464e68738f7ac04b573c879c9f30", func := "isobath/isobathlaw05.ClockOffsets", spec := "clockOffsets", unfollowed := true, recurses := true, apart := false, narrowed := true }
def ClockOffsetsUptoSaid : Prop := clockOffsetsUptoRow.holds Try.pinned (OpenSpec.upto clockOffsetsSpec)

/-- 'isobathlaw05.ClockTimes', WHERE WHAT IT READS IS OF BULK AT MOST 1048576: true; the input reads as it did. -/
def clockTimesUptoRow : OpenClaim := { program := "ytcjdhajdoikojaa", sum := "67c9b27ad558e44c9b476b3410a2c0b33954464e68738f7ac04b573c879c9f30", func := "isobath/isobathlaw05.ClockTimes", spec := "clockTimes", unfollowed := true, recurses := true, apart := false, narrowed := true }
def ClockTimesUptoSaid : Prop := clockTimesUptoRow.holds Try.pinned (OpenSpec.upto clockTimesSpec)

/-- 'isobathlaw05.ClockPairs', WHERE WHAT IT READS IS OF BULK AT MOST 1048576: true; the input reads as it did. -/
def clockPairsUptoRow : OpenClaim := { program := "ytcjdhajdoikojaa", sum := "67c9b27ad558e44c9b476b3410a2c0b33954464e68738f7ac04b573c879c9f30", func := "isobath/isobathlaw05.ClockPairs", spec := "clockPairs", unfollowed := true, recurses := true, apart := false, narrowed := true }
def ClockPairsUptoSaid : Prop := clockPairsUptoRow.holds Try.pinned (OpenSpec.upto clockPairsSpec)

/-- 'isobathlaw05.ClockContradicts', WHERE WHAT IT READS IS OF BULK AT MOST 1048576: true; the input reads as it did. -/
def clockContradictsUptoRow : OpenClaim := { program := "ytcjdhajdoikojaa", sum := "67c9b27ad558e44c9b476b3410a2c0b33954464e68738f7ac04b573c879c9f30", func := "isobath/isobathlaw05.ClockContradicts", spec := "clockContradicts", unfollowed := true, recurses := true, apart := false, narrowed := true }
def ClockContradictsUptoSaid : Prop := clockContradictsUptoRow.holds Try.pinned (OpenSpec.upto clockContradictsSpec)

/-- 'isobathlaw05.ClockEvents', WHERE WHAT IT READS IS OF BULK AT MOST 1048576: true; the input reads as it did. -/
def clockEventsUptoRow : OpenClaim := { program := "ytcjdhajdoikojaa", sum := "67c9b27ad558e44c9b476b3410a2c0b33954464e68738f7ac04b573c879c9f30", func := "isobath/isobathlaw05.ClockEvents", spec := "clockEvents", unfollowed := true, recurses := true, apart := false, narrowed := true }
def ClockEventsUptoSaid : Prop := clockEventsUptoRow.holds Try.pinned (OpenSpec.upto clockEventsSpec)

/-- 'isobathlaw05.ClockOrder', WHERE WHAT IT READS IS OF BULK AT MOST 1048576: true; the input reads as it did. -/
def clockOrderUptoRow : OpenClaim := { program := "ytcjdhajdoikojaa", sum := "67c9b27ad558e44c9b476b3410a2c0b33954464e68738f7ac04b573c879c9f30", func := "isobath/isobathlaw05.ClockOrder", spec := "clockOrder", unfollowed := true, recurses := true, apart := false, narrowed := true }
def ClockOrderUptoSaid : Prop := clockOrderUptoRow.holds Try.pinned (OpenSpec.upto clockOrderSpec)

/-- 'isobathlaw05.ClockKnown', WHERE WHAT IT READS IS OF BULK AT MOST 1048576: true; the input reads as it did. -/
def clockKnownUptoRow : OpenClaim := { program := "ytcjdhajdoikojaa", sum := "67c9b27ad558e44c9b476b3410a2c0b33954464e68738f7ac04b573c879c9f30", func := "isobath/isobathlaw05.ClockKnown", spec := "clockKnown", unfollowed := true, recurses := true, apart := false, narrowed := true }
def ClockKnownUptoSaid : Prop := clockKnownUptoRow.holds Try.pinned (OpenSpec.upto clockKnownSpec)

end Rows
end Go.Proofs.Ytcjdhajdoikojaa
