/-
  No cell of these rows narrows 'for every input' (looked for: loops, veiled, ifaces, maps, wideKeys, modest, calm, conditions, laid).
  DERIVED. THE GIVEN ROWS OF THIS SEAT. 8 by the template 'for every input the law returns true; each argument reads behind the call as it read before'; 0 by the template 'total and deterministic' (their statements: YthglkoddmpicdaaTotals.lean).
  GIVEN WITH THE SEED: the statements are not yours to turn. If you find one false, say at which input.
  Laid BY PROGRAM, IN A SANDBOX (cutbox-rows.mjs): the forced cells as the released guide's own fill.sh prints them over the translation 66df93b9ac83abf1… (all of the seat's roots in one cut). By AI agents, Wed Nov 11 2026. No macro, syntax, notation, axiom, sorry.
-/
import Derived.Test.YthglkoddmpicdaaChecked
import GoSem.Claim
import GoSem.ClaimJoined
import GoSem.ClaimMapViews
import Derived.JoinedTies
import Derived.KernelRfl
namespace Go.Proofs.Ythglkoddmpicdaa
/- THE CELL 'sum', in the pinned program and in every row, IS THE sha256 OF THE DUMP (.gsa) THAT YthglkoddmpicdaaProg.lean LOADS. Nothing in Lean hashes anything: it is a label: what it is worth is what the hold of that sum in a sandbox is worth. -/
noncomputable def Try.pinned : Pinned := { name := "ythglkoddmpicdaa", sum := "66df93b9ac83abf1578a76d25ce053ab5bbf2128a91490ca4b02c60d1125a846", checked := Try.checked }
namespace Rows
def none {H : Type} : Left H := { results := [], args := [] }

/-- 'isobathtop.TopCurrents': WHATEVER THE INPUT: true; the input reads as it did. -/
def topCurrentsSpec : ChangeSpec := { name := "topCurrents", fn := fun _ => fun
  | [d1, d2, d3, d4, d5] => { results := [.lit (.bool true)], args := [d1, d2, d3, d4, d5] }
  | _ => none }
def topCurrentsRow : OpenClaim := { program := "ythglkoddmpicdaa", sum := "66df93b9ac83abf1578a76d25ce053ab5bbf2128a91490ca4b02c60d1125a846", func := "isobath/isobathtop.TopCurrents", spec := "topCurrents", unfollowed := true, recurses := true, apart := false }
def TopCurrentsSaid : Prop := topCurrentsRow.holds Try.pinned (OpenSpec.ofChange topCurrentsSpec)

/-- ITS FALSE NEIGHBOUR: 'it returns false'. Refute it at one input. -/
def topCurrentsWrong : ChangeSpec := { name := "topCurrents", fn := fun _ => fun
  | [d1, d2, d3, d4, d5] => { results := [.lit (.bool false)], args := [d1, d2, d3, d4, d5] }
  | _ => none }
def TopCurrentsWrongFalsely : Prop := topCurrentsRow.holds Try.pinned (OpenSpec.ofChange topCurrentsWrong)

/-- 'isobathtop.TopInside': WHATEVER THE INPUT: true; the input reads as it did. -/
def topInsideSpec : ChangeSpec := { name := "topInside", fn := fun _ => fun
  | [d1, d2, d3, d4, d5] => { results := [.lit (.bool true)], args := [d1, d2, d3, d4, d5] }
  | _ => none }
def topInsideRow : OpenClaim := { program := "ythglkoddmpicdaa", sum := "66df93b9ac83abf1578a76d25ce053ab5bbf2128a91490ca4b02c60d1125a846", func := "isobath/isobathtop.TopInside", spec := "topInside", unfollowed := true, recurses := true, apart := false }
def TopInsideSaid : Prop := topInsideRow.holds Try.pinned (OpenSpec.ofChange topInsideSpec)

/-- ITS FALSE NEIGHBOUR: 'it returns false'. Refute it at one input. -/
def topInsideWrong : ChangeSpec := { name := "topInside", fn := fun _ => fun
  | [d1, d2, d3, d4, d5] => { results := [.lit (.bool false)], args := [d1, d2, d3, d4, d5] }
  | _ => none }
def TopInsideWrongFalsely : Prop := topInsideRow.holds Try.pinned (OpenSpec.ofChange topInsideWrong)

/-- 'isobathtop.TopOwnPath': WHATEVER THE INPUT: true; the input reads as it did. -/
def topOwnPathSpec : ChangeSpec := { name := "topOwnPath", fn := fun _ => fun
  | [d1, d2, d3, d4] => { results := [.lit (.bool true)], args := [d1, d2, d3, d4] }
  | _ => none }
def topOwnPathRow : OpenClaim := { program := "ythglkoddmpicdaa", sum := "66df93b9ac83abf1578a76d25ce053ab5bbf2128a91490ca4b02c60d1125a846", func := "isobath/isobathtop.TopOwnPath", spec := "topOwnPath", unfollowed := true, recurses := true, apart := false }
def TopOwnPathSaid : Prop := topOwnPathRow.holds Try.pinned (OpenSpec.ofChange topOwnPathSpec)

/-- ITS FALSE NEIGHBOUR: 'it returns false'. Refute it at one input. -/
def topOwnPathWrong : ChangeSpec := { name := "topOwnPath", fn := fun _ => fun
  | [d1, d2, d3, d4] => { results := [.lit (.bool false)], args := [d1, d2, d3, d4] }
  | _ => none }
def TopOwnPathWrongFalsely : Prop := topOwnPathRow.holds Try.pinned (OpenSpec.ofChange topOwnPathWrong)

/-- 'isobathtop.TopDisplaced': WHATEVER THE INPUT: true; the input reads as it did. -/
def topDisplacedSpec : ChangeSpec := { name := "topDisplaced", fn := fun _ => fun
  | [d1, d2, d3, d4, d5] => { results := [.lit (.bool true)], args := [d1, d2, d3, d4, d5] }
  | _ => none }
def topDisplacedRow : OpenClaim := { program := "ythglkoddmpicdaa", sum := "66df93b9ac83abf1578a76d25ce053ab5bbf2128a91490ca4b02c60d1125a846", func := "isobath/isobathtop.TopDisplaced", spec := "topDisplaced", unfollowed := true, recurses := true, apart := false }
def TopDisplacedSaid : Prop := topDisplacedRow.holds Try.pinned (OpenSpec.ofChange topDisplacedSpec)

/-- ITS FALSE NEIGHBOUR: 'it returns false'. Refute it at one input. -/
def topDisplacedWrong : ChangeSpec := { name := "topDisplaced", fn := fun _ => fun
  | [d1, d2, d3, d4, d5] => { results := [.lit (.bool false)], args := [d1, d2, d3, d4, d5] }
  | _ => none }
def TopDisplacedWrongFalsely : Prop := topDisplacedRow.holds Try.pinned (OpenSpec.ofChange topDisplacedWrong)

/-- 'isobathtop.TopBefore': WHATEVER THE INPUT: true; the input reads as it did. -/
def topBeforeSpec : ChangeSpec := { name := "topBefore", fn := fun _ => fun
  | [d] => { results := [.lit (.bool true)], args := [d] }
  | _ => none }
def topBeforeRow : OpenClaim := { program := "ythglkoddmpicdaa", sum := "66df93b9ac83abf1578a76d25ce053ab5bbf2128a91490ca4b02c60d1125a846", func := "isobath/isobathtop.TopBefore", spec := "topBefore", unfollowed := true, recurses := true, apart := false }
def TopBeforeSaid : Prop := topBeforeRow.holds Try.pinned (OpenSpec.ofChange topBeforeSpec)

/-- ITS FALSE NEIGHBOUR: 'it returns false'. Refute it at one input. -/
def topBeforeWrong : ChangeSpec := { name := "topBefore", fn := fun _ => fun
  | [d] => { results := [.lit (.bool false)], args := [d] }
  | _ => none }
def TopBeforeWrongFalsely : Prop := topBeforeRow.holds Try.pinned (OpenSpec.ofChange topBeforeWrong)

/-- 'isobathtop.TopOffset': WHATEVER THE INPUT: true; the input reads as it did. -/
def topOffsetSpec : ChangeSpec := { name := "topOffset", fn := fun _ => fun
  | [d1, d2] => { results := [.lit (.bool true)], args := [d1, d2] }
  | _ => none }
def topOffsetRow : OpenClaim := { program := "ythglkoddmpicdaa", sum := "66df93b9ac83abf1578a76d25ce053ab5bbf2128a91490ca4b02c60d1125a846", func := "isobath/isobathtop.TopOffset", spec := "topOffset", unfollowed := true, recurses := true, apart := false }
def TopOffsetSaid : Prop := topOffsetRow.holds Try.pinned (OpenSpec.ofChange topOffsetSpec)

/-- ITS FALSE NEIGHBOUR: 'it returns false'. Refute it at one input. -/
def topOffsetWrong : ChangeSpec := { name := "topOffset", fn := fun _ => fun
  | [d1, d2] => { results := [.lit (.bool false)], args := [d1, d2] }
  | _ => none }
def TopOffsetWrongFalsely : Prop := topOffsetRow.holds Try.pinned (OpenSpec.ofChange topOffsetWrong)

/-- 'isobathtop.TopSearched': WHATEVER THE INPUT: true; the input reads as it did. -/
def topSearchedSpec : ChangeSpec := { name := "topSearched", fn := fun _ => fun
  | [d1, d2, d3, d4, d5, d6] => { results := [.lit (.bool true)], args := [d1, d2, d3, d4, d5, d6] }
  | _ => none }
def topSearchedRow : OpenClaim := { program := "ythglkoddmpicdaa", sum := "66df93b9ac83abf1578a76d25ce053ab5bbf2128a91490ca4b02c60d1125a846", func := "isobath/isobathtop.TopSearched", spec := "topSearched", unfollowed := true, recurses := true, apart := false }
def TopSearchedSaid : Prop := topSearchedRow.holds Try.pinned (OpenSpec.ofChange topSearchedSpec)

/-- ITS FALSE NEIGHBOUR: 'it returns false'. Refute it at one input. -/
def topSearchedWrong : ChangeSpec := { name := "topSearched", fn := fun _ => fun
  | [d1, d2, d3, d4, d5, d6] => { results := [.lit (.bool false)], args := [d1, d2, d3, d4, d5, d6] }
  | _ => none }
def TopSearchedWrongFalsely : Prop := topSearchedRow.holds Try.pinned (OpenSpec.ofChange topSearchedWrong)

/-- 'isobathtop.TopLogged': WHATEVER THE INPUT: true; the input reads as it did. -/
def topLoggedSpec : ChangeSpec := { name := "topLogged", fn := fun _ => fun
  | [d1, d2, d3, d4] => { results := [.lit (.bool true)], args := [d1, d2, d3, d4] }
  | _ => none }
def topLoggedRow : OpenClaim := { program := "ythglkoddmpicdaa", sum := "66df93b9ac83abf1578a76d25ce053ab5bbf2128a91490ca4b02c60d1125a846", func := "isobath/isobathtop.TopLogged", spec := "topLogged", unfollowed := true, recurses := true, apart := false }
def TopLoggedSaid : Prop := topLoggedRow.holds Try.pinned (OpenSpec.ofChange topLoggedSpec)

/-- ITS FALSE NEIGHBOUR: 'it returns false'. Refute it at one input. -/
def topLoggedWrong : ChangeSpec := { name := "topLogged", fn := fun _ => fun
  | [d1, d2, d3, d4] => { results := [.lit (.bool false)], args := [d1, d2, d3, d4] }
  | _ => none }
def TopLoggedWrongFalsely : Prop := topLoggedRow.holds Try.pinned (OpenSpec.ofChange topLoggedWrong)

/- THE SECOND FORM. 'bulk': how many values and letters a reading holds, each counted each time it is reached (what is shared counts as often as it is met; a slice's spare places count too). A statement '..UptoSaid' is the law's where the arguments, and the package variables that the reading takes, are together of bulk at most 1048576: NARROWER than '..Said'. Prove '..Said' where nothing that the law and all that it calls make is longer than what came in: it says more and counts as full. Else prove '..UptoSaid'. A law counts once. -/
mutual
def uptoBulk {H : Type} : DataW H → Nat
  | .lit (.string bytes) => bytes.length + 1
  | .lit _ => 1
  | .nil => 1
  | .ptr d => uptoBulk d + 1
  | .slice elems spare => uptoBulkAll elems + uptoBulkAll spare + 1
  | .agg parts => uptoBulkAll parts + 1
  | .iface _ d => uptoBulk d + 1
  | .map entries => uptoBulkEntries entries + 1
  | .held _ => 1
def uptoBulkAll {H : Type} : List (DataW H) → Nat
  | [] => 0
  | d :: r => uptoBulk d + uptoBulkAll r
def uptoBulkEntries {H : Type} : List (Lit × DataW H) → Nat
  | [] => 0
  | x :: r => uptoBulkEntry x + uptoBulkEntries r
def uptoBulkEntry {H : Type} : Lit × DataW H → Nat
  | (.string bytes, d) => bytes.length + uptoBulk d + 1
  | (_, d) => uptoBulk d + 1
 end
def uptoSmall : (H : Type) → List (DataW H) → Bool := fun _ ds => decide (uptoBulkAll ds ≤ 1048576)
def OpenSpec.upto (s : _root_.Go.ChangeSpec) : _root_.Go.OpenSpec := { _root_.Go.OpenSpec.ofChange s with cond := some uptoSmall }

/-- 'isobathtop.TopCurrents', WHERE WHAT IT READS IS OF BULK AT MOST 1048576: true; the input reads as it did. -/
def topCurrentsUptoRow : OpenClaim := { program := "ythglkoddmpicdaa", sum := "66df93b9ac83abf1578a76d25ce053ab5bbf2128a91490ca4b02c60d1125a846", func := "isobath/isobathtop.TopCurrents", spec := "topCurrents", unfollowed := true, recurses := true, apart := false, narrowed := true }
def TopCurrentsUptoSaid : Prop := topCurrentsUptoRow.holds Try.pinned (OpenSpec.upto topCurrentsSpec)

/-- 'isobathtop.TopInside', WHERE WHAT IT READS IS OF BULK AT MOST 1048576: true; the input reads as it did. -/
def topInsideUptoRow : OpenClaim := { program := "ythglkoddmpicdaa", sum := "66df93b9ac83abf1578a76d25ce053ab5bbf2128a91490ca4b02c60d1125a846", func := "isobath/isobathtop.TopInside", spec := "topInside", unfollowed := true, recurses := true, apart := false, narrowed := true }
def TopInsideUptoSaid : Prop := topInsideUptoRow.holds Try.pinned (OpenSpec.upto topInsideSpec)

/-- 'isobathtop.TopOwnPath', WHERE WHAT IT READS IS OF BULK AT MOST 1048576: true; the input reads as it did. -/
def topOwnPathUptoRow : OpenClaim := { program := "ythglkoddmpicdaa", sum := "66df93b9ac83abf1578a76d25ce053ab5bbf2128a91490ca4b02c60d1125a846", func := "isobath/isobathtop.TopOwnPath", spec := "topOwnPath", unfollowed := true, recurses := true, apart := false, narrowed := true }
def TopOwnPathUptoSaid : Prop := topOwnPathUptoRow.holds Try.pinned (OpenSpec.upto topOwnPathSpec)

/-- 'isobathtop.TopDisplaced', WHERE WHAT IT READS IS OF BULK AT MOST 1048576: true; the input reads as it did. -/
def topDisplacedUptoRow : OpenClaim := { program := "ythglkoddmpicdaa", sum := "66df93b9ac83abf1578a76d25ce053ab5bbf2128a91490ca4b02c60d1125a846", func := "isobath/isobathtop.TopDisplaced", spec := "topDisplaced", unfollowed := true, recurses := true, apart := false, narrowed := true }
def TopDisplacedUptoSaid : Prop := topDisplacedUptoRow.holds Try.pinned (OpenSpec.upto topDisplacedSpec)

/-- 'isobathtop.TopBefore', WHERE WHAT IT READS IS OF BULK AT MOST 1048576: true; the input reads as it did. -/
def topBeforeUptoRow : OpenClaim := { program := "ythglkoddmpicdaa", sum := "66df93b9ac83abf1578a76d25ce053ab5bbf2128a91490ca4b02c60d1125a846", func := "isobath/isobathtop.TopBefore", spec := "topBefore", unfollowed := true, recurses := true, apart := false, narrowed := true }
def TopBeforeUptoSaid : Prop := topBeforeUptoRow.holds Try.pinned (OpenSpec.upto topBeforeSpec)

/-- 'isobathtop.TopOffset', WHERE WHAT IT READS IS OF BULK AT MOST 1048576: true; the input reads as it did. -/
def topOffsetUptoRow : OpenClaim := { program := "ythglkoddmpicdaa", sum := "66df93b9ac83abf1578a76d25ce053ab5bbf2128a91490ca4b02c60d1125a846", func := "isobath/isobathtop.TopOffset", spec := "topOffset", unfollowed := true, recurses := true, apart := false, narrowed := true }
def TopOffsetUptoSaid : Prop := topOffsetUptoRow.holds Try.pinned (OpenSpec.upto topOffsetSpec)

/-- 'isobathtop.TopSearched', WHERE WHAT IT READS IS OF BULK AT MOST 1048576: true; the input reads as it did. -/
def topSearchedUptoRow : OpenClaim := { program := "ythglkoddmpicdaa", sum := "66df93b9ac83abf1578a76d25ce053ab5bbf2128a91490ca4b02c60d1125a846", func := "isobath/isobathtop.TopSearched", spec := "topSearched", unfollowed := true, recurses := true, apart := false, narrowed := true }
def TopSearchedUptoSaid : Prop := topSearchedUptoRow.holds Try.pinned (OpenSpec.upto topSearchedSpec)

/-- 'isobathtop.TopLogged', WHERE WHAT IT READS IS OF BULK AT MOST 1048576: true; the input reads as it did. -/
def topLoggedUptoRow : OpenClaim := { program := "ythglkoddmpicdaa", sum := "66df93b9ac83abf1578a76d25ce053ab5bbf2128a91490ca4b02c60d1125a846", func := "isobath/isobathtop.TopLogged", spec := "topLogged", unfollowed := true, recurses := true, apart := false, narrowed := true }
def TopLoggedUptoSaid : Prop := topLoggedUptoRow.holds Try.pinned (OpenSpec.upto topLoggedSpec)

end Rows
end Go.Proofs.Ythglkoddmpicdaa
