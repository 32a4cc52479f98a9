/-
  No cell of these rows narrows 'for every input' (looked for: loops, veiled, ifaces, maps, wideKeys, modest, calm, conditions, laid).
  DERIVED. THE GIVEN ROWS OF THIS SEAT. 15 by the template 'for every input the law returns true; each argument reads behind the call as it read before'; 0 by the template 'total and deterministic' (their statements: YtmhaiihjfgfaoaaTotals.lean).
  GIVEN WITH THE SEED: the statements are not yours to turn. If you find one false, say at which input.
  Laid BY PROGRAM, IN A SANDBOX (cutbox-rows.mjs): the forced cells as the released guide's own fill.sh prints them over the translation fd7fdee40ac630b4… (all of the seat's roots in one cut). By AI agents, Wed Nov 11 2026. No macro, syntax, notation, axiom, sorry.
-/
import Derived.Test.YtmhaiihjfgfaoaaChecked
import GoSem.Claim
import GoSem.ClaimJoined
import GoSem.ClaimMapViews
import Derived.JoinedTies
import Derived.KernelRfl
namespace Go.Proofs.Ytmhaiihjfgfaoaa
/- THE CELL 'sum', in the pinned program and in every row, IS THE sha256 OF THE DUMP (.gsa) THAT YtmhaiihjfgfaoaaProg.lean LOADS. Nothing in Lean hashes anything: it is a label: what it is worth is what the hold of that sum in a sandbox is worth. -/
noncomputable def Try.pinned : Pinned := { name := "ytmhaiihjfgfaoaa", sum := "fd7fdee40ac630b4d689dda29a406c98bc08daa73a1e5150bbd78836688df5eb", checked := Try.checked }
namespace Rows
def none {H : Type} : Left H := { results := [], args := [] }

/-- 'isobathlaw03.GliderIsotone': WHATEVER THE INPUT: true; the input reads as it did. -/
def gliderIsotoneSpec : ChangeSpec := { name := "gliderIsotone", fn := fun _ => fun
  | [d1, d2, d3, d4, d5, d6, d7, d8] => { results := [.lit (.bool true)], args := [d1, d2, d3, d4, d5, d6, d7, d8] }
  | _ => none }
def gliderIsotoneRow : OpenClaim := { program := "ytmhaiihjfgfaoaa", sum := "fd7fdee40ac630b4d689dda29a406c98bc08daa73a1e5150bbd78836688df5eb", func := "isobath/isobathlaw03.GliderIsotone", spec := "gliderIsotone", unfollowed := true, recurses := true, apart := false }
def GliderIsotoneSaid : Prop := gliderIsotoneRow.holds Try.pinned (OpenSpec.ofChange gliderIsotoneSpec)

/-- ITS FALSE NEIGHBOUR: 'it returns false'. Refute it at one input. -/
def gliderIsotoneWrong : ChangeSpec := { name := "gliderIsotone", fn := fun _ => fun
  | [d1, d2, d3, d4, d5, d6, d7, d8] => { results := [.lit (.bool false)], args := [d1, d2, d3, d4, d5, d6, d7, d8] }
  | _ => none }
def GliderIsotoneWrongFalsely : Prop := gliderIsotoneRow.holds Try.pinned (OpenSpec.ofChange gliderIsotoneWrong)

/-- 'isobathlaw03.GliderSeas': WHATEVER THE INPUT: true; the input reads as it did. -/
def gliderSeasSpec : ChangeSpec := { name := "gliderSeas", fn := fun _ => fun
  | [d1, d2, d3, d4, d5, d6] => { results := [.lit (.bool true)], args := [d1, d2, d3, d4, d5, d6] }
  | _ => none }
def gliderSeasRow : OpenClaim := { program := "ytmhaiihjfgfaoaa", sum := "fd7fdee40ac630b4d689dda29a406c98bc08daa73a1e5150bbd78836688df5eb", func := "isobath/isobathlaw03.GliderSeas", spec := "gliderSeas", unfollowed := true, recurses := true, apart := false }
def GliderSeasSaid : Prop := gliderSeasRow.holds Try.pinned (OpenSpec.ofChange gliderSeasSpec)

/-- ITS FALSE NEIGHBOUR: 'it returns false'. Refute it at one input. -/
def gliderSeasWrong : ChangeSpec := { name := "gliderSeas", fn := fun _ => fun
  | [d1, d2, d3, d4, d5, d6] => { results := [.lit (.bool false)], args := [d1, d2, d3, d4, d5, d6] }
  | _ => none }
def GliderSeasWrongFalsely : Prop := gliderSeasRow.holds Try.pinned (OpenSpec.ofChange gliderSeasWrong)

/-- 'isobathlaw03.GliderDives': WHATEVER THE INPUT: true; the input reads as it did. -/
def gliderDivesSpec : ChangeSpec := { name := "gliderDives", fn := fun _ => fun
  | [d1, d2, d3, d4, d5, d6] => { results := [.lit (.bool true)], args := [d1, d2, d3, d4, d5, d6] }
  | _ => none }
def gliderDivesRow : OpenClaim := { program := "ytmhaiihjfgfaoaa", sum := "fd7fdee40ac630b4d689dda29a406c98bc08daa73a1e5150bbd78836688df5eb", func := "isobath/isobathlaw03.GliderDives", spec := "gliderDives", unfollowed := true, recurses := true, apart := false }
def GliderDivesSaid : Prop := gliderDivesRow.holds Try.pinned (OpenSpec.ofChange gliderDivesSpec)

/-- ITS FALSE NEIGHBOUR: 'it returns false'. Refute it at one input. -/
def gliderDivesWrong : ChangeSpec := { name := "gliderDives", fn := fun _ => fun
  | [d1, d2, d3, d4, d5, d6] => { results := [.lit (.bool false)], args := [d1, d2, d3, d4, d5, d6] }
  | _ => none }
def GliderDivesWrongFalsely : Prop := gliderDivesRow.holds Try.pinned (OpenSpec.ofChange gliderDivesWrong)

/-- 'isobathlaw03.GliderHolds': WHATEVER THE INPUT: true; the input reads as it did. -/
def gliderHoldsSpec : ChangeSpec := { name := "gliderHolds", fn := fun _ => fun
  | [d1, d2, d3, d4, d5, d6, d7] => { results := [.lit (.bool true)], args := [d1, d2, d3, d4, d5, d6, d7] }
  | _ => none }
def gliderHoldsRow : OpenClaim := { program := "ytmhaiihjfgfaoaa", sum := "fd7fdee40ac630b4d689dda29a406c98bc08daa73a1e5150bbd78836688df5eb", func := "isobath/isobathlaw03.GliderHolds", spec := "gliderHolds", unfollowed := true, recurses := true, apart := false }
def GliderHoldsSaid : Prop := gliderHoldsRow.holds Try.pinned (OpenSpec.ofChange gliderHoldsSpec)

/-- ITS FALSE NEIGHBOUR: 'it returns false'. Refute it at one input. -/
def gliderHoldsWrong : ChangeSpec := { name := "gliderHolds", fn := fun _ => fun
  | [d1, d2, d3, d4, d5, d6, d7] => { results := [.lit (.bool false)], args := [d1, d2, d3, d4, d5, d6, d7] }
  | _ => none }
def GliderHoldsWrongFalsely : Prop := gliderHoldsRow.holds Try.pinned (OpenSpec.ofChange gliderHoldsWrong)

/-- 'isobathlaw03.GliderLasts': WHATEVER THE INPUT: true; the input reads as it did. -/
def gliderLastsSpec : ChangeSpec := { name := "gliderLasts", fn := fun _ => fun
  | [d1, d2, d3, d4, d5] => { results := [.lit (.bool true)], args := [d1, d2, d3, d4, d5] }
  | _ => none }
def gliderLastsRow : OpenClaim := { program := "ytmhaiihjfgfaoaa", sum := "fd7fdee40ac630b4d689dda29a406c98bc08daa73a1e5150bbd78836688df5eb", func := "isobath/isobathlaw03.GliderLasts", spec := "gliderLasts", unfollowed := true, recurses := true, apart := false }
def GliderLastsSaid : Prop := gliderLastsRow.holds Try.pinned (OpenSpec.ofChange gliderLastsSpec)

/-- ITS FALSE NEIGHBOUR: 'it returns false'. Refute it at one input. -/
def gliderLastsWrong : ChangeSpec := { name := "gliderLasts", fn := fun _ => fun
  | [d1, d2, d3, d4, d5] => { results := [.lit (.bool false)], args := [d1, d2, d3, d4, d5] }
  | _ => none }
def GliderLastsWrongFalsely : Prop := gliderLastsRow.holds Try.pinned (OpenSpec.ofChange gliderLastsWrong)

/-- 'isobathlaw03.GliderVisits': WHATEVER THE INPUT: true; the input reads as it did. -/
def gliderVisitsSpec : ChangeSpec := { name := "gliderVisits", fn := fun _ => fun
  | [d1, d2] => { results := [.lit (.bool true)], args := [d1, d2] }
  | _ => none }
def gliderVisitsRow : OpenClaim := { program := "ytmhaiihjfgfaoaa", sum := "fd7fdee40ac630b4d689dda29a406c98bc08daa73a1e5150bbd78836688df5eb", func := "isobath/isobathlaw03.GliderVisits", spec := "gliderVisits", unfollowed := true, recurses := true, apart := false }
def GliderVisitsSaid : Prop := gliderVisitsRow.holds Try.pinned (OpenSpec.ofChange gliderVisitsSpec)

/-- ITS FALSE NEIGHBOUR: 'it returns false'. Refute it at one input. -/
def gliderVisitsWrong : ChangeSpec := { name := "gliderVisits", fn := fun _ => fun
  | [d1, d2] => { results := [.lit (.bool false)], args := [d1, d2] }
  | _ => none }
def GliderVisitsWrongFalsely : Prop := gliderVisitsRow.holds Try.pinned (OpenSpec.ofChange gliderVisitsWrong)

/-- 'isobathlaw03.GliderSwarm': WHATEVER THE INPUT: true; the input reads as it did. -/
def gliderSwarmSpec : ChangeSpec := { name := "gliderSwarm", fn := fun _ => fun
  | [d1, d2, d3] => { results := [.lit (.bool true)], args := [d1, d2, d3] }
  | _ => none }
def gliderSwarmRow : OpenClaim := { program := "ytmhaiihjfgfaoaa", sum := "fd7fdee40ac630b4d689dda29a406c98bc08daa73a1e5150bbd78836688df5eb", func := "isobath/isobathlaw03.GliderSwarm", spec := "gliderSwarm", unfollowed := true, recurses := true, apart := false }
def GliderSwarmSaid : Prop := gliderSwarmRow.holds Try.pinned (OpenSpec.ofChange gliderSwarmSpec)

/-- ITS FALSE NEIGHBOUR: 'it returns false'. Refute it at one input. -/
def gliderSwarmWrong : ChangeSpec := { name := "gliderSwarm", fn := fun _ => fun
  | [d1, d2, d3] => { results := [.lit (.bool false)], args := [d1, d2, d3] }
  | _ => none }
def GliderSwarmWrongFalsely : Prop := gliderSwarmRow.holds Try.pinned (OpenSpec.ofChange gliderSwarmWrong)

/-- 'isobathlaw03.GliderEnergies': WHATEVER THE INPUT: true; the input reads as it did. -/
def gliderEnergiesSpec : ChangeSpec := { name := "gliderEnergies", fn := fun _ => fun
  | [d1, d2, d3, d4, d5, d6] => { results := [.lit (.bool true)], args := [d1, d2, d3, d4, d5, d6] }
  | _ => none }
def gliderEnergiesRow : OpenClaim := { program := "ytmhaiihjfgfaoaa", sum := "fd7fdee40ac630b4d689dda29a406c98bc08daa73a1e5150bbd78836688df5eb", func := "isobath/isobathlaw03.GliderEnergies", spec := "gliderEnergies", unfollowed := true, recurses := true, apart := false }
def GliderEnergiesSaid : Prop := gliderEnergiesRow.holds Try.pinned (OpenSpec.ofChange gliderEnergiesSpec)

/-- ITS FALSE NEIGHBOUR: 'it returns false'. Refute it at one input. -/
def gliderEnergiesWrong : ChangeSpec := { name := "gliderEnergies", fn := fun _ => fun
  | [d1, d2, d3, d4, d5, d6] => { results := [.lit (.bool false)], args := [d1, d2, d3, d4, d5, d6] }
  | _ => none }
def GliderEnergiesWrongFalsely : Prop := gliderEnergiesRow.holds Try.pinned (OpenSpec.ofChange gliderEnergiesWrong)

/-- 'isobathlaw03.GliderFetch': WHATEVER THE INPUT: true; the input reads as it did. -/
def gliderFetchSpec : ChangeSpec := { name := "gliderFetch", fn := fun _ => fun
  | [d1, d2, d3, d4, d5, d6, d7, d8, d9] => { results := [.lit (.bool true)], args := [d1, d2, d3, d4, d5, d6, d7, d8, d9] }
  | _ => none }
def gliderFetchRow : OpenClaim := { program := "ytmhaiihjfgfaoaa", sum := "fd7fdee40ac630b4d689dda29a406c98bc08daa73a1e5150bbd78836688df5eb", func := "isobath/isobathlaw03.GliderFetch", spec := "gliderFetch", unfollowed := true, recurses := true, apart := false }
def GliderFetchSaid : Prop := gliderFetchRow.holds Try.pinned (OpenSpec.ofChange gliderFetchSpec)

/-- ITS FALSE NEIGHBOUR: 'it returns false'. Refute it at one input. -/
def gliderFetchWrong : ChangeSpec := { name := "gliderFetch", fn := fun _ => fun
  | [d1, d2, d3, d4, d5, d6, d7, d8, d9] => { results := [.lit (.bool false)], args := [d1, d2, d3, d4, d5, d6, d7, d8, d9] }
  | _ => none }
def GliderFetchWrongFalsely : Prop := gliderFetchRow.holds Try.pinned (OpenSpec.ofChange gliderFetchWrong)

/-- 'isobathlaw03.GliderStays': WHATEVER THE INPUT: true; the input reads as it did. -/
def gliderStaysSpec : ChangeSpec := { name := "gliderStays", fn := fun _ => fun
  | [d1, d2, d3, d4, d5, d6] => { results := [.lit (.bool true)], args := [d1, d2, d3, d4, d5, d6] }
  | _ => none }
def gliderStaysRow : OpenClaim := { program := "ytmhaiihjfgfaoaa", sum := "fd7fdee40ac630b4d689dda29a406c98bc08daa73a1e5150bbd78836688df5eb", func := "isobath/isobathlaw03.GliderStays", spec := "gliderStays", unfollowed := true, recurses := true, apart := false }
def GliderStaysSaid : Prop := gliderStaysRow.holds Try.pinned (OpenSpec.ofChange gliderStaysSpec)

/-- ITS FALSE NEIGHBOUR: 'it returns false'. Refute it at one input. -/
def gliderStaysWrong : ChangeSpec := { name := "gliderStays", fn := fun _ => fun
  | [d1, d2, d3, d4, d5, d6] => { results := [.lit (.bool false)], args := [d1, d2, d3, d4, d5, d6] }
  | _ => none }
def GliderStaysWrongFalsely : Prop := gliderStaysRow.holds Try.pinned (OpenSpec.ofChange gliderStaysWrong)

/-- 'isobathlaw03.GliderReaches': WHATEVER THE INPUT: true; the input reads as it did. -/
def gliderReachesSpec : ChangeSpec := { name := "gliderReaches", fn := fun _ => fun
  | [d1, d2, d3, d4, d5, d6, d7] => { results := [.lit (.bool true)], args := [d1, d2, d3, d4, d5, d6, d7] }
  | _ => none }
def gliderReachesRow : OpenClaim := { program := "ytmhaiihjfgfaoaa", sum := "fd7fdee40ac630b4d689dda29a406c98bc08daa73a1e5150bbd78836688df5eb", func := "isobath/isobathlaw03.GliderReaches", spec := "gliderReaches", unfollowed := true, recurses := true, apart := false }
def GliderReachesSaid : Prop := gliderReachesRow.holds Try.pinned (OpenSpec.ofChange gliderReachesSpec)

/-- ITS FALSE NEIGHBOUR: 'it returns false'. Refute it at one input. -/
def gliderReachesWrong : ChangeSpec := { name := "gliderReaches", fn := fun _ => fun
  | [d1, d2, d3, d4, d5, d6, d7] => { results := [.lit (.bool false)], args := [d1, d2, d3, d4, d5, d6, d7] }
  | _ => none }
def GliderReachesWrongFalsely : Prop := gliderReachesRow.holds Try.pinned (OpenSpec.ofChange gliderReachesWrong)

/-- 'isobathlaw03.GliderPlans': WHATEVER THE INPUT: true; the input reads as it did. -/
def gliderPlansSpec : ChangeSpec := { name := "gliderPlans", fn := fun _ => fun
  | [d1, d2, d3, d4, d5, d6, d7, d8] => { results := [.lit (.bool true)], args := [d1, d2, d3, d4, d5, d6, d7, d8] }
  | _ => none }
def gliderPlansRow : OpenClaim := { program := "ytmhaiihjfgfaoaa", sum := "fd7fdee40ac630b4d689dda29a406c98bc08daa73a1e5150bbd78836688df5eb", func := "isobath/isobathlaw03.GliderPlans", spec := "gliderPlans", unfollowed := true, recurses := true, apart := false }
def GliderPlansSaid : Prop := gliderPlansRow.holds Try.pinned (OpenSpec.ofChange gliderPlansSpec)

/-- ITS FALSE NEIGHBOUR: 'it returns false'. Refute it at one input. -/
def gliderPlansWrong : ChangeSpec := { name := "gliderPlans", fn := fun _ => fun
  | [d1, d2, d3, d4, d5, d6, d7, d8] => { results := [.lit (.bool false)], args := [d1, d2, d3, d4, d5, d6, d7, d8] }
  | _ => none }
def GliderPlansWrongFalsely : Prop := gliderPlansRow.holds Try.pinned (OpenSpec.ofChange gliderPlansWrong)

/-- 'isobathlaw03.GliderBest': WHATEVER THE INPUT: true; the input reads as it did. -/
def gliderBestSpec : ChangeSpec := { name := "gliderBest", fn := fun _ => fun
  | [d1, d2, d3, d4, d5, d6, d7, d8] => { results := [.lit (.bool true)], args := [d1, d2, d3, d4, d5, d6, d7, d8] }
  | _ => none }
def gliderBestRow : OpenClaim := { program := "ytmhaiihjfgfaoaa", sum := "fd7fdee40ac630b4d689dda29a406c98bc08daa73a1e5150bbd78836688df5eb", func := "isobath/isobathlaw03.GliderBest", spec := "gliderBest", unfollowed := true, recurses := true, apart := false }
def GliderBestSaid : Prop := gliderBestRow.holds Try.pinned (OpenSpec.ofChange gliderBestSpec)

/-- ITS FALSE NEIGHBOUR: 'it returns false'. Refute it at one input. -/
def gliderBestWrong : ChangeSpec := { name := "gliderBest", fn := fun _ => fun
  | [d1, d2, d3, d4, d5, d6, d7, d8] => { results := [.lit (.bool false)], args := [d1, d2, d3, d4, d5, d6, d7, d8] }
  | _ => none }
def GliderBestWrongFalsely : Prop := gliderBestRow.holds Try.pinned (OpenSpec.ofChange gliderBestWrong)

/-- 'isobathlaw03.GliderKnown': WHATEVER THE INPUT: true; the input reads as it did. -/
def gliderKnownSpec : ChangeSpec := { name := "gliderKnown", fn := fun _ => fun
  | [] => { results := [.lit (.bool true)], args := [] }
  | _ => none }
def gliderKnownRow : OpenClaim := { program := "ytmhaiihjfgfaoaa", sum := "fd7fdee40ac630b4d689dda29a406c98bc08daa73a1e5150bbd78836688df5eb", func := "isobath/isobathlaw03.GliderKnown", spec := "gliderKnown", unfollowed := true, recurses := true, apart := false }
def GliderKnownSaid : Prop := gliderKnownRow.holds Try.pinned (OpenSpec.ofChange gliderKnownSpec)

/-- ITS FALSE NEIGHBOUR: 'it returns false'. Refute it at one input. -/
def gliderKnownWrong : ChangeSpec := { name := "gliderKnown", fn := fun _ => fun
  | [] => { results := [.lit (.bool false)], args := [] }
  | _ => none }
def GliderKnownWrongFalsely : Prop := gliderKnownRow.holds Try.pinned (OpenSpec.ofChange gliderKnownWrong)

/-- 'isobathlaw03.GliderNever': WHATEVER THE INPUT: true; the input reads as it did. -/
def gliderNeverSpec : ChangeSpec := { name := "gliderNever", fn := fun _ => fun
  | [d1, d2, d3, d4, d5, d6, d7, d8] => { results := [.lit (.bool true)], args := [d1, d2, d3, d4, d5, d6, d7, d8] }
  | _ => none }
def gliderNeverRow : OpenClaim := { program := "ytmhaiihjfgfaoaa", sum := "fd7fdee40ac630b4d689dda29a406c98bc08daa73a1e5150bbd78836688df5eb", func := "isobath/isobathlaw03.GliderNever", spec := "gliderNever", unfollowed := true, recurses := true, apart := false }
def GliderNeverSaid : Prop := gliderNeverRow.holds Try.pinned (OpenSpec.ofChange gliderNeverSpec)

/-- ITS FALSE NEIGHBOUR: 'it returns false'. Refute it at one input. -/
def gliderNeverWrong : ChangeSpec := { name := "gliderNever", fn := fun _ => fun
  | [d1, d2, d3, d4, d5, d6, d7, d8] => { results := [.lit (.bool false)], args := [d1, d2, d3, d4, d5, d6, d7, d8] }
  | _ => none }
def GliderNeverWrongFalsely : Prop := gliderNeverRow.holds Try.pinned (OpenSpec.ofChange gliderNeverWrong)

/- THE SECOND FORM. 'bulk': how many values and letters a reading holds, each counted each time it is reached (what is shared counts as often as it is met; a slice's spare places count too). A statement '..UptoSaid' is the law's where the arguments, and the package variables that the reading takes, are together of bulk at most 1048576: NARROWER than '..Said'. Prove '..Said' where nothing that the law and all that it calls make is longer than what came in: it says more and counts as full. Else prove '..UptoSaid'. A law counts once. -/
mutual
def uptoBulk {H : Type} : DataW H → Nat
  | .lit (.string bytes) => bytes.length + 1
  | .lit _ => 1
  | .nil => 1
  | .ptr d => uptoBulk d + 1
  | .slice elems spare => uptoBulkAll elems + uptoBulkAll spare + 1
  | .agg parts => uptoBulkAll parts + 1
  | .iface _ d => uptoBulk d + 1
  | .map entries => uptoBulkEntries entries + 1
  | .held _ => 1
def uptoBulkAll {H : Type} : List (DataW H) → Nat
  | [] => 0
  | d :: r => uptoBulk d + uptoBulkAll r
def uptoBulkEntries {H : Type} : List (Lit × DataW H) → Nat
  | [] => 0
  | x :: r => uptoBulkEntry x + uptoBulkEntries r
def uptoBulkEntry {H : Type} : Lit × DataW H → Nat
  | (.string bytes, d) => bytes.length + uptoBulk d + 1
  | (_, d) => uptoBulk d + 1
 end
def uptoSmall : (H : Type) → List (DataW H) → Bool := fun _ ds => decide (uptoBulkAll ds ≤ 1048576)
def OpenSpec.upto (s : _root_.Go.ChangeSpec) : _root_.Go.OpenSpec := { _root_.Go.OpenSpec.ofChange s with cond := some uptoSmall }

/-- 'isobathlaw03.GliderIsotone', WHERE WHAT IT READS IS OF BULK AT MOST 1048576: true; the input reads as it did. -/
def gliderIsotoneUptoRow : OpenClaim := { program := "ytmhaiihjfgfaoaa", sum := "fd7fdee40ac630b4d689dda29a406c98bc08daa73a1e5150bbd78836688df5eb", func := "isobath/isobathlaw03.GliderIsotone", spec := "gliderIsotone", unfollowed := true, recurses := true, apart := false, narrowed := true }
def GliderIsotoneUptoSaid : Prop := gliderIsotoneUptoRow.holds Try.pinned (OpenSpec.upto gliderIsotoneSpec)

/-- 'isobathlaw03.GliderSeas', WHERE WHAT IT READS IS OF BULK AT MOST 1048576: true; the input reads as it did. -/
def gliderSeasUptoRow : OpenClaim := { program := "ytmhaiihjfgfaoaa", sum := "fd7fdee40ac630b4d689dda29a406c98bc08daa73a1e5150bbd78836688df5eb", func := "isobath/isobathlaw03.GliderSeas", spec := "gliderSeas", unfollowed := true, recurses := true, apart := false, narrowed := true }
def GliderSeasUptoSaid : Prop := gliderSeasUptoRow.holds Try.pinned (OpenSpec.upto gliderSeasSpec)

/-- 'isobathlaw03.GliderDives', WHERE WHAT IT READS IS OF BULK AT MOST 1048576: true; the input reads as it did. -/
def gliderDivesUptoRow : OpenClaim := { program := "ytmhaiihjfgfaoaa", sum := "fd7fdee40ac630b4d689dda29a406c98bc08daa73a1e5150bbd78836688df5eb", func := "isobath/isobathlaw03.GliderDives", spec := "gliderDives", unfollowed := true, recurses := true, apart := false, narrowed := true }
def GliderDivesUptoSaid : Prop := gliderDivesUptoRow.holds Try.pinned (OpenSpec.upto gliderDivesSpec)

/-- 'isobathlaw03.GliderHolds', WHERE WHAT IT READS IS OF BULK AT MOST 1048576: true; the input reads as it did. -/
def gliderHoldsUptoRow : OpenClaim := { program := "ytmhaiihjfgfaoaa", sum := "fd7fdee40ac630b4d689dda29a406c98bc08daa73a1e5150bbd78836688df5eb", func := "isobath/isobathlaw03.GliderHolds", spec := "gliderHolds", unfollowed := true, recurses := true, apart := false, narrowed := true }
def GliderHoldsUptoSaid : Prop := gliderHoldsUptoRow.holds Try.pinned (OpenSpec.upto gliderHoldsSpec)

/-- 'isobathlaw03.GliderLasts', WHERE WHAT IT READS IS OF BULK AT MOST 1048576: true; the input reads as it did. -/
def gliderLastsUptoRow : OpenClaim := { program := "ytmhaiihjfgfaoaa", sum := "fd7fdee40ac630b4d689dda29a406c98bc08daa73a1e5150bbd78836688df5eb", func := "isobath/isobathlaw03.GliderLasts", spec := "gliderLasts", unfollowed := true, recurses := true, apart := false, narrowed := true }
def GliderLastsUptoSaid : Prop := gliderLastsUptoRow.holds Try.pinned (OpenSpec.upto gliderLastsSpec)

/-- 'isobathlaw03.GliderVisits', WHERE WHAT IT READS IS OF BULK AT MOST 1048576: true; the input reads as it did. -/
def gliderVisitsUptoRow : OpenClaim := { program := "ytmhaiihjfgfaoaa", sum := "fd7fdee40ac630b4d689dda29a406c98bc08daa73a1e5150bbd78836688df5eb", func := "isobath/isobathlaw03.GliderVisits", spec := "gliderVisits", unfollowed := true, recurses := true, apart := false, narrowed := true }
def GliderVisitsUptoSaid : Prop := gliderVisitsUptoRow.holds Try.pinned (OpenSpec.upto gliderVisitsSpec)

/-- 'isobathlaw03.GliderSwarm', WHERE WHAT IT READS IS OF BULK AT MOST 1048576: true; the input reads as it did. -/
def gliderSwarmUptoRow : OpenClaim := { program := "ytmhaiihjfgfaoaa", sum := "fd7fdee40ac630b4d689dda29a406c98bc08daa73a1e5150bbd78836688df5eb", func := "isobath/isobathlaw03.GliderSwarm", spec := "gliderSwarm", unfollowed := true, recurses := true, apart := false, narrowed := true }
def GliderSwarmUptoSaid : Prop := gliderSwarmUptoRow.holds Try.pinned (OpenSpec.upto gliderSwarmSpec)

/-- 'isobathlaw03.GliderEnergies', WHERE WHAT IT READS IS OF BULK AT MOST 1048576: true; the input reads as it did. -/
def gliderEnergiesUptoRow : OpenClaim := { program := "ytmhaiihjfgfaoaa", sum := "fd7fdee40ac630b4d689dda29a406c98bc08daa73a1e5150bbd78836688df5eb", func := "isobath/isobathlaw03.GliderEnergies", spec := "gliderEnergies", unfollowed := true, recurses := true, apart := false, narrowed := true }
def GliderEnergiesUptoSaid : Prop := gliderEnergiesUptoRow.holds Try.pinned (OpenSpec.upto gliderEnergiesSpec)

/-- 'isobathlaw03.GliderFetch', WHERE WHAT IT READS IS OF BULK AT MOST 1048576: true; the input reads as it did. -/
def gliderFetchUptoRow : OpenClaim := { program := "ytmhaiihjfgfaoaa", sum := "fd7fdee40ac630b4d689dda29a406c98bc08daa73a1e5150bbd78836688df5eb", func := "isobath/isobathlaw03.GliderFetch", spec := "gliderFetch", unfollowed := true, recurses := true, apart := false, narrowed := true }
def GliderFetchUptoSaid : Prop := gliderFetchUptoRow.holds Try.pinned (OpenSpec.upto gliderFetchSpec)

/-- 'isobathlaw03.GliderStays', WHERE WHAT IT READS IS OF BULK AT MOST 1048576: true; the input reads as it did. -/
def gliderStaysUptoRow : OpenClaim := { program := "ytmhaiihjfgfaoaa", sum := "fd7fdee40ac630b4d689dda29a406c98bc08daa73a1e5150bbd78836688df5eb", func := "isobath/isobathlaw03.GliderStays", spec := "gliderStays", unfollowed := true, recurses := true, apart := false, narrowed := true }
def GliderStaysUptoSaid : Prop := gliderStaysUptoRow.holds Try.pinned (OpenSpec.upto gliderStaysSpec)

/-- 'isobathlaw03.GliderReaches', WHERE WHAT IT READS IS OF BULK AT MOST 1048576: true; the input reads as it did. -/
def gliderReachesUptoRow : OpenClaim := { program := "ytmhaiihjfgfaoaa", sum := "fd7fdee40ac630b4d689dda29a406c98bc08daa73a1e5150bbd78836688df5eb", func := "isobath/isobathlaw03.GliderReaches", spec := "gliderReaches", unfollowed := true, recurses := true, apart := false, narrowed := true }
def GliderReachesUptoSaid : Prop := gliderReachesUptoRow.holds Try.pinned (OpenSpec.upto gliderReachesSpec)

/-- 'isobathlaw03.GliderPlans', WHERE WHAT IT READS IS OF BULK AT MOST 1048576: true; the input reads as it did. -/
def gliderPlansUptoRow : OpenClaim := { program := "ytmhaiihjfgfaoaa", sum := "fd7fdee40ac630b4d689dda29a406c98bc08daa73a1e5150bbd78836688df5eb", func := "isobath/isobathlaw03.GliderPlans", spec := "gliderPlans", unfollowed := true, recurses := true, apart := false, narrowed := true }
def GliderPlansUptoSaid : Prop := gliderPlansUptoRow.holds Try.pinned (OpenSpec.upto gliderPlansSpec)

/-- 'isobathlaw03.GliderBest', WHERE WHAT IT READS IS OF BULK AT MOST 1048576: true; the input reads as it did. -/
def gliderBestUptoRow : OpenClaim := { program := "ytmhaiihjfgfaoaa", sum := "fd7fdee40ac630b4d689dda29a406c98bc08daa73a1e5150bbd78836688df5eb", func := "isobath/isobathlaw03.GliderBest", spec := "gliderBest", unfollowed := true, recurses := true, apart := false, narrowed := true }
def GliderBestUptoSaid : Prop := gliderBestUptoRow.holds Try.pinned (OpenSpec.upto gliderBestSpec)

/-- 'isobathlaw03.GliderKnown', WHERE WHAT IT READS IS OF BULK AT MOST 1048576: true; the input reads as it did. -/
def gliderKnownUptoRow : OpenClaim := { program := "ytmhaiihjfgfaoaa", sum := "fd7fdee40ac630b4d689dda29a406c98bc08daa73a1e5150bbd78836688df5eb", func := "isobath/isobathlaw03.GliderKnown", spec := "gliderKnown", unfollowed := true, recurses := true, apart := false, narrowed := true }
def GliderKnownUptoSaid : Prop := gliderKnownUptoRow.holds Try.pinned (OpenSpec.upto gliderKnownSpec)

/-- 'isobathlaw03.GliderNever', WHERE WHAT IT READS IS OF BULK AT MOST 1048576: true; the input reads as it did. -/
def gliderNeverUptoRow : OpenClaim := { program := "ytmhaiihjfgfaoaa", sum := "fd7fdee40ac630b4d689dda29a406c98bc08daa73a1e5150bbd78836688df5eb", func := "isobath/isobathlaw03.GliderNever", spec := "gliderNever", unfollowed := true, recurses := true, apart := false, narrowed := true }
def GliderNeverUptoSaid : Prop := gliderNeverUptoRow.holds Try.pinned (OpenSpec.upto gliderNeverSpec)

end Rows
end Go.Proofs.Ytmhaiihjfgfaoaa
