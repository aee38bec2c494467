/-
  No cell of these rows narrows 'for every input' (looked for: loops, veiled, ifaces, maps, wideKeys, modest, calm, conditions, laid).
  DERIVED. THE GIVEN ROWS OF THIS SEAT. 12 by the template 'for every input the law returns true; each argument reads behind the call as it read before'; 0 by the template 'total and deterministic' (their statements: YtclakmennjjomaaGreatTotals.lean).
  GIVEN WITH THE SEED: the statements are not yours to turn. If you find one false, say at which input.
  Laid BY PROGRAM, IN A SANDBOX (cutbox-rows.mjs): the forced cells as the released guide's own fill.sh prints them over the translation dd51d1c1e37c78af… (all of the seat's roots in one cut). By AI agents, Wed Nov 11 2026. No macro, syntax, notation, axiom, sorry.
-/
import Derived.Test.YtclakmennjjomaaGreatChecked
import GoSem.Claim
import GoSem.ClaimJoined
import GoSem.ClaimMapViews
import Derived.JoinedTies
import Derived.KernelRfl
namespace Go.Proofs.YtclakmennjjomaaGreat
/- THE CELL 'sum', in the pinned program and in every row, IS THE sha256 OF THE DUMP (.gsa) THAT YtclakmennjjomaaGreatProg.lean LOADS. Nothing in Lean hashes anything: it is a label: what it is worth is what the hold of that sum in a sandbox is worth. -/
noncomputable def Tryz.pinned : Pinned := { name := "ytclakmennjjomaagreat", sum := "dd51d1c1e37c78af41789a208f40f0ce4454a8dfb52116663156c1e7432c6019", checked := Tryz.checked }
namespace Rows
def none {H : Type} : Left H := { results := [], args := [] }

/-- 'amblelaw09.ControlChooses': WHATEVER THE INPUT: true; the input reads as it did. -/
def controlChoosesSpec : ChangeSpec := { name := "controlChooses", fn := fun _ => fun
  | [d1, d2] => { results := [.lit (.bool true)], args := [d1, d2] }
  | _ => none }
def controlChoosesRow : OpenClaim := { program := "ytclakmennjjomaagreat", sum := "dd51d1c1e37c78af41789a208f40f0ce4454a8dfb52116663156c1e7432c6019", func := "amble/amblelaw09.ControlChooses", spec := "controlChooses", unfollowed := true, recurses := true, apart := false }
def ControlChoosesSaid : Prop := controlChoosesRow.holds Tryz.pinned (OpenSpec.ofChange controlChoosesSpec)

/-- ITS FALSE NEIGHBOUR: 'it returns false'. Refute it at one input. -/
def controlChoosesWrong : ChangeSpec := { name := "controlChooses", fn := fun _ => fun
  | [d1, d2] => { results := [.lit (.bool false)], args := [d1, d2] }
  | _ => none }
def ControlChoosesWrongFalsely : Prop := controlChoosesRow.holds Tryz.pinned (OpenSpec.ofChange controlChoosesWrong)

/-- 'amblelaw09.ControlWishes': WHATEVER THE INPUT: true; the input reads as it did. -/
def controlWishesSpec : ChangeSpec := { name := "controlWishes", fn := fun _ => fun
  | [d1, d2, d3] => { results := [.lit (.bool true)], args := [d1, d2, d3] }
  | _ => none }
def controlWishesRow : OpenClaim := { program := "ytclakmennjjomaagreat", sum := "dd51d1c1e37c78af41789a208f40f0ce4454a8dfb52116663156c1e7432c6019", func := "amble/amblelaw09.ControlWishes", spec := "controlWishes", unfollowed := true, recurses := true, apart := false }
def ControlWishesSaid : Prop := controlWishesRow.holds Tryz.pinned (OpenSpec.ofChange controlWishesSpec)

/-- ITS FALSE NEIGHBOUR: 'it returns false'. Refute it at one input. -/
def controlWishesWrong : ChangeSpec := { name := "controlWishes", fn := fun _ => fun
  | [d1, d2, d3] => { results := [.lit (.bool false)], args := [d1, d2, d3] }
  | _ => none }
def ControlWishesWrongFalsely : Prop := controlWishesRow.holds Tryz.pinned (OpenSpec.ofChange controlWishesWrong)

/-- 'amblelaw09.ControlAllows': WHATEVER THE INPUT: true; the input reads as it did. -/
def controlAllowsSpec : ChangeSpec := { name := "controlAllows", fn := fun _ => fun
  | [d1, d2, d3, d4] => { results := [.lit (.bool true)], args := [d1, d2, d3, d4] }
  | _ => none }
def controlAllowsRow : OpenClaim := { program := "ytclakmennjjomaagreat", sum := "dd51d1c1e37c78af41789a208f40f0ce4454a8dfb52116663156c1e7432c6019", func := "amble/amblelaw09.ControlAllows", spec := "controlAllows", unfollowed := true, recurses := true, apart := false }
def ControlAllowsSaid : Prop := controlAllowsRow.holds Tryz.pinned (OpenSpec.ofChange controlAllowsSpec)

/-- ITS FALSE NEIGHBOUR: 'it returns false'. Refute it at one input. -/
def controlAllowsWrong : ChangeSpec := { name := "controlAllows", fn := fun _ => fun
  | [d1, d2, d3, d4] => { results := [.lit (.bool false)], args := [d1, d2, d3, d4] }
  | _ => none }
def ControlAllowsWrongFalsely : Prop := controlAllowsRow.holds Tryz.pinned (OpenSpec.ofChange controlAllowsWrong)

/-- 'amblelaw09.ControlHeats': WHATEVER THE INPUT: true; the input reads as it did. -/
def controlHeatsSpec : ChangeSpec := { name := "controlHeats", fn := fun _ => fun
  | [d1, d2, d3] => { results := [.lit (.bool true)], args := [d1, d2, d3] }
  | _ => none }
def controlHeatsRow : OpenClaim := { program := "ytclakmennjjomaagreat", sum := "dd51d1c1e37c78af41789a208f40f0ce4454a8dfb52116663156c1e7432c6019", func := "amble/amblelaw09.ControlHeats", spec := "controlHeats", unfollowed := true, recurses := true, apart := false }
def ControlHeatsSaid : Prop := controlHeatsRow.holds Tryz.pinned (OpenSpec.ofChange controlHeatsSpec)

/-- ITS FALSE NEIGHBOUR: 'it returns false'. Refute it at one input. -/
def controlHeatsWrong : ChangeSpec := { name := "controlHeats", fn := fun _ => fun
  | [d1, d2, d3] => { results := [.lit (.bool false)], args := [d1, d2, d3] }
  | _ => none }
def ControlHeatsWrongFalsely : Prop := controlHeatsRow.holds Tryz.pinned (OpenSpec.ofChange controlHeatsWrong)

/-- 'amblelaw09.ControlCosts': WHATEVER THE INPUT: true; the input reads as it did. -/
def controlCostsSpec : ChangeSpec := { name := "controlCosts", fn := fun _ => fun
  | [d1, d2, d3] => { results := [.lit (.bool true)], args := [d1, d2, d3] }
  | _ => none }
def controlCostsRow : OpenClaim := { program := "ytclakmennjjomaagreat", sum := "dd51d1c1e37c78af41789a208f40f0ce4454a8dfb52116663156c1e7432c6019", func := "amble/amblelaw09.ControlCosts", spec := "controlCosts", unfollowed := true, recurses := true, apart := false }
def ControlCostsSaid : Prop := controlCostsRow.holds Tryz.pinned (OpenSpec.ofChange controlCostsSpec)

/-- ITS FALSE NEIGHBOUR: 'it returns false'. Refute it at one input. -/
def controlCostsWrong : ChangeSpec := { name := "controlCosts", fn := fun _ => fun
  | [d1, d2, d3] => { results := [.lit (.bool false)], args := [d1, d2, d3] }
  | _ => none }
def ControlCostsWrongFalsely : Prop := controlCostsRow.holds Tryz.pinned (OpenSpec.ofChange controlCostsWrong)

/-- 'amblelaw09.ControlReins': WHATEVER THE INPUT: true; the input reads as it did. -/
def controlReinsSpec : ChangeSpec := { name := "controlReins", fn := fun _ => fun
  | [d1, d2, d3, d4] => { results := [.lit (.bool true)], args := [d1, d2, d3, d4] }
  | _ => none }
def controlReinsRow : OpenClaim := { program := "ytclakmennjjomaagreat", sum := "dd51d1c1e37c78af41789a208f40f0ce4454a8dfb52116663156c1e7432c6019", func := "amble/amblelaw09.ControlReins", spec := "controlReins", unfollowed := true, recurses := true, apart := false }
def ControlReinsSaid : Prop := controlReinsRow.holds Tryz.pinned (OpenSpec.ofChange controlReinsSpec)

/-- ITS FALSE NEIGHBOUR: 'it returns false'. Refute it at one input. -/
def controlReinsWrong : ChangeSpec := { name := "controlReins", fn := fun _ => fun
  | [d1, d2, d3, d4] => { results := [.lit (.bool false)], args := [d1, d2, d3, d4] }
  | _ => none }
def ControlReinsWrongFalsely : Prop := controlReinsRow.holds Tryz.pinned (OpenSpec.ofChange controlReinsWrong)

/-- 'amblelaw09.ControlStops': WHATEVER THE INPUT: true; the input reads as it did. -/
def controlStopsSpec : ChangeSpec := { name := "controlStops", fn := fun _ => fun
  | [d1, d2, d3] => { results := [.lit (.bool true)], args := [d1, d2, d3] }
  | _ => none }
def controlStopsRow : OpenClaim := { program := "ytclakmennjjomaagreat", sum := "dd51d1c1e37c78af41789a208f40f0ce4454a8dfb52116663156c1e7432c6019", func := "amble/amblelaw09.ControlStops", spec := "controlStops", unfollowed := true, recurses := true, apart := false }
def ControlStopsSaid : Prop := controlStopsRow.holds Tryz.pinned (OpenSpec.ofChange controlStopsSpec)

/-- ITS FALSE NEIGHBOUR: 'it returns false'. Refute it at one input. -/
def controlStopsWrong : ChangeSpec := { name := "controlStops", fn := fun _ => fun
  | [d1, d2, d3] => { results := [.lit (.bool false)], args := [d1, d2, d3] }
  | _ => none }
def ControlStopsWrongFalsely : Prop := controlStopsRow.holds Tryz.pinned (OpenSpec.ofChange controlStopsWrong)

/-- 'amblelaw09.ControlEvals': WHATEVER THE INPUT: true; the input reads as it did. -/
def controlEvalsSpec : ChangeSpec := { name := "controlEvals", fn := fun _ => fun
  | [d1, d2] => { results := [.lit (.bool true)], args := [d1, d2] }
  | _ => none }
def controlEvalsRow : OpenClaim := { program := "ytclakmennjjomaagreat", sum := "dd51d1c1e37c78af41789a208f40f0ce4454a8dfb52116663156c1e7432c6019", func := "amble/amblelaw09.ControlEvals", spec := "controlEvals", unfollowed := true, recurses := true, apart := false }
def ControlEvalsSaid : Prop := controlEvalsRow.holds Tryz.pinned (OpenSpec.ofChange controlEvalsSpec)

/-- ITS FALSE NEIGHBOUR: 'it returns false'. Refute it at one input. -/
def controlEvalsWrong : ChangeSpec := { name := "controlEvals", fn := fun _ => fun
  | [d1, d2] => { results := [.lit (.bool false)], args := [d1, d2] }
  | _ => none }
def ControlEvalsWrongFalsely : Prop := controlEvalsRow.holds Tryz.pinned (OpenSpec.ofChange controlEvalsWrong)

/-- 'amblelaw09.ControlRanges': WHATEVER THE INPUT: true; the input reads as it did. -/
def controlRangesSpec : ChangeSpec := { name := "controlRanges", fn := fun _ => fun
  | [d1, d2] => { results := [.lit (.bool true)], args := [d1, d2] }
  | _ => none }
def controlRangesRow : OpenClaim := { program := "ytclakmennjjomaagreat", sum := "dd51d1c1e37c78af41789a208f40f0ce4454a8dfb52116663156c1e7432c6019", func := "amble/amblelaw09.ControlRanges", spec := "controlRanges", unfollowed := true, recurses := true, apart := false }
def ControlRangesSaid : Prop := controlRangesRow.holds Tryz.pinned (OpenSpec.ofChange controlRangesSpec)

/-- ITS FALSE NEIGHBOUR: 'it returns false'. Refute it at one input. -/
def controlRangesWrong : ChangeSpec := { name := "controlRanges", fn := fun _ => fun
  | [d1, d2] => { results := [.lit (.bool false)], args := [d1, d2] }
  | _ => none }
def ControlRangesWrongFalsely : Prop := controlRangesRow.holds Tryz.pinned (OpenSpec.ofChange controlRangesWrong)

/-- 'amblelaw09.ControlCompiles': WHATEVER THE INPUT: true; the input reads as it did. -/
def controlCompilesSpec : ChangeSpec := { name := "controlCompiles", fn := fun _ => fun
  | [d1, d2, d3] => { results := [.lit (.bool true)], args := [d1, d2, d3] }
  | _ => none }
def controlCompilesRow : OpenClaim := { program := "ytclakmennjjomaagreat", sum := "dd51d1c1e37c78af41789a208f40f0ce4454a8dfb52116663156c1e7432c6019", func := "amble/amblelaw09.ControlCompiles", spec := "controlCompiles", unfollowed := true, recurses := true, apart := false }
def ControlCompilesSaid : Prop := controlCompilesRow.holds Tryz.pinned (OpenSpec.ofChange controlCompilesSpec)

/-- ITS FALSE NEIGHBOUR: 'it returns false'. Refute it at one input. -/
def controlCompilesWrong : ChangeSpec := { name := "controlCompiles", fn := fun _ => fun
  | [d1, d2, d3] => { results := [.lit (.bool false)], args := [d1, d2, d3] }
  | _ => none }
def ControlCompilesWrongFalsely : Prop := controlCompilesRow.holds Tryz.pinned (OpenSpec.ofChange controlCompilesWrong)

/-- 'amblelaw09.ControlFits': WHATEVER THE INPUT: true; the input reads as it did. -/
def controlFitsSpec : ChangeSpec := { name := "controlFits", fn := fun _ => fun
  | [d1, d2, d3] => { results := [.lit (.bool true)], args := [d1, d2, d3] }
  | _ => none }
def controlFitsRow : OpenClaim := { program := "ytclakmennjjomaagreat", sum := "dd51d1c1e37c78af41789a208f40f0ce4454a8dfb52116663156c1e7432c6019", func := "amble/amblelaw09.ControlFits", spec := "controlFits", unfollowed := true, recurses := true, apart := false }
def ControlFitsSaid : Prop := controlFitsRow.holds Tryz.pinned (OpenSpec.ofChange controlFitsSpec)

/-- ITS FALSE NEIGHBOUR: 'it returns false'. Refute it at one input. -/
def controlFitsWrong : ChangeSpec := { name := "controlFits", fn := fun _ => fun
  | [d1, d2, d3] => { results := [.lit (.bool false)], args := [d1, d2, d3] }
  | _ => none }
def ControlFitsWrongFalsely : Prop := controlFitsRow.holds Tryz.pinned (OpenSpec.ofChange controlFitsWrong)

/-- 'amblelaw09.ControlBounds': WHATEVER THE INPUT: true; the input reads as it did. -/
def controlBoundsSpec : ChangeSpec := { name := "controlBounds", fn := fun _ => fun
  | [d1, d2, d3, d4] => { results := [.lit (.bool true)], args := [d1, d2, d3, d4] }
  | _ => none }
def controlBoundsRow : OpenClaim := { program := "ytclakmennjjomaagreat", sum := "dd51d1c1e37c78af41789a208f40f0ce4454a8dfb52116663156c1e7432c6019", func := "amble/amblelaw09.ControlBounds", spec := "controlBounds", unfollowed := true, recurses := true, apart := false }
def ControlBoundsSaid : Prop := controlBoundsRow.holds Tryz.pinned (OpenSpec.ofChange controlBoundsSpec)

/-- ITS FALSE NEIGHBOUR: 'it returns false'. Refute it at one input. -/
def controlBoundsWrong : ChangeSpec := { name := "controlBounds", fn := fun _ => fun
  | [d1, d2, d3, d4] => { results := [.lit (.bool false)], args := [d1, d2, d3, d4] }
  | _ => none }
def ControlBoundsWrongFalsely : Prop := controlBoundsRow.holds Tryz.pinned (OpenSpec.ofChange controlBoundsWrong)

/- THE SECOND FORM. 'bulk': how many values and letters a reading holds, each counted each time it is reached (what is shared counts as often as it is met; a slice's spare places count too). A statement '..UptoSaid' is the law's where the arguments, and the package variables that the reading takes, are together of bulk at most 1048576: NARROWER than '..Said'. Prove '..Said' where nothing that the law and all that it calls make is longer than what came in: it says more and counts as full. Else prove '..UptoSaid'. A law counts once. -/
mutual
def uptoBulk {H : Type} : DataW H → Nat
  | .lit (.string bytes) => bytes.length + 1
  | .lit _ => 1
  | .nil => 1
  | .ptr d => uptoBulk d + 1
  | .slice elems spare => uptoBulkAll elems + uptoBulkAll spare + 1
  | .agg parts => uptoBulkAll parts + 1
  | .iface _ d => uptoBulk d + 1
  | .map entries => uptoBulkEntries entries + 1
  | .held _ => 1
def uptoBulkAll {H : Type} : List (DataW H) → Nat
  | [] => 0
  | d :: r => uptoBulk d + uptoBulkAll r
def uptoBulkEntries {H : Type} : List (Lit × DataW H) → Nat
  | [] => 0
  | x :: r => uptoBulkEntry x + uptoBulkEntries r
def uptoBulkEntry {H : Type} : Lit × DataW H → Nat
  | (.string bytes, d) => bytes.length + uptoBulk d + 1
  | (_, d) => uptoBulk d + 1
 end
def uptoSmall : (H : Type) → List (DataW H) → Bool := fun _ ds => decide (uptoBulkAll ds ≤ 1048576)
def OpenSpec.upto (s : _root_.Go.ChangeSpec) : _root_.Go.OpenSpec := { _root_.Go.OpenSpec.ofChange s with cond := some uptoSmall }

/-- 'amblelaw09.ControlChooses', WHERE WHAT IT READS IS OF BULK AT MOST 1048576: true; the input reads as it did. -/
def controlChoosesUptoRow : OpenClaim := { program := "ytclakmennjjomaagreat", sum := "dd51d1c1e37c78af41789a208f40f0ce4454a8dfb52116663156c1e7432c6019", func := "amble/amblelaw09.ControlChooses", spec := "controlChooses", unfollowed := true, recurses := true, apart := false, narrowed := true }
def ControlChoosesUptoSaid : Prop := controlChoosesUptoRow.holds Tryz.pinned (OpenSpec.upto controlChoosesSpec)

/-- 'amblelaw09.ControlWishes', WHERE WHAT IT READS IS OF BULK AT MOST 1048576: true; the input reads as it did. -/
def controlWishesUptoRow : OpenClaim := { program := "ytclakmennjjomaagreat", sum := "dd51d1c1e37c78af41789a208f40f0ce4454a8dfb52116663156c1e7432c6019", func := "amble/amblelaw09.ControlWishes", spec := "controlWishes", unfollowed := true, recurses := true, apart := false, narrowed := true }
def ControlWishesUptoSaid : Prop := controlWishesUptoRow.holds Tryz.pinned (OpenSpec.upto controlWishesSpec)

/-- 'amblelaw09.ControlAllows', WHERE WHAT IT READS IS OF BULK AT MOST 1048576: true; the input reads as it did. -/
def controlAllowsUptoRow : OpenClaim := { program := "ytclakmennjjomaagreat", sum := "dd51d1c1e37c78af41789a208f40f0ce4454a8dfb52116663156c1e7432c6019", func := "amble/amblelaw09.ControlAllows", spec := "controlAllows", unfollowed := true, recurses := true, apart := false, narrowed := true }
def ControlAllowsUptoSaid : Prop := controlAllowsUptoRow.holds Tryz.pinned (OpenSpec.upto controlAllowsSpec)

/-- 'amblelaw09.ControlHeats', WHERE WHAT IT READS IS OF BULK AT MOST 1048576: true; the input reads as it did. -/
def controlHeatsUptoRow : OpenClaim := { program := "ytclakmennjjomaagreat", sum := "dd51d1c1e37c78af41789a208f40f0ce4454a8dfb52116663156c1e7432c6019", func := "amble/amblelaw09.ControlHeats", spec := "controlHeats", unfollowed := true, recurses := true, apart := false, narrowed := true }
def ControlHeatsUptoSaid : Prop := controlHeatsUptoRow.holds Tryz.pinned (OpenSpec.upto controlHeatsSpec)

/-- 'amblelaw09.ControlCosts', WHERE WHAT IT READS IS OF BULK AT MOST 1048576: true; the input reads as it did. -/
def controlCostsUptoRow : OpenClaim := { program := "ytclakmennjjomaagreat", sum := "dd51d1c1e37c78af41789a208f40f0ce4454a8dfb52116663156c1e7432c6019", func := "amble/amblelaw09.ControlCosts", spec := "controlCosts", unfollowed := true, recurses := true, apart := false, narrowed := true }
def ControlCostsUptoSaid : Prop := controlCostsUptoRow.holds Tryz.pinned (OpenSpec.upto controlCostsSpec)

/-- 'amblelaw09.ControlReins', WHERE WHAT IT READS IS OF BULK AT MOST 1048576: true; the input reads as it did. -/
def controlReinsUptoRow : OpenClaim := { program := "ytclakmennjjomaagreat", sum := "dd51d1c1e37c78af41789a208f40f0ce4454a8dfb52116663156c1e7432c6019", func := "amble/amblelaw09.ControlReins", spec := "controlReins", unfollowed := true, recurses := true, apart := false, narrowed := true }
def ControlReinsUptoSaid : Prop := controlReinsUptoRow.holds Tryz.pinned (OpenSpec.upto controlReinsSpec)

/-- 'amblelaw09.ControlStops', WHERE WHAT IT READS IS OF BULK AT MOST 1048576: true; the input reads as it did. -/
def controlStopsUptoRow : OpenClaim := { program := "ytclakmennjjomaagreat", sum := "dd51d1c1e37c78af41789a208f40f0ce4454a8dfb52116663156c1e7432c6019", func := "amble/amblelaw09.ControlStops", spec := "controlStops", unfollowed := true, recurses := true, apart := false, narrowed := true }
def ControlStopsUptoSaid : Prop := controlStopsUptoRow.holds Tryz.pinned (OpenSpec.upto controlStopsSpec)

/-- 'amblelaw09.ControlEvals', WHERE WHAT IT READS IS OF BULK AT MOST 1048576: true; the input reads as it did. -/
def controlEvalsUptoRow : OpenClaim := { program := "ytclakmennjjomaagreat", sum := "dd51d1c1e37c78af41789a208f40f0ce4454a8dfb52116663156c1e7432c6019", func := "amble/amblelaw09.ControlEvals", spec := "controlEvals", unfollowed := true, recurses := true, apart := false, narrowed := true }
def ControlEvalsUptoSaid : Prop := controlEvalsUptoRow.holds Tryz.pinned (OpenSpec.upto controlEvalsSpec)

/-- 'amblelaw09.ControlRanges', WHERE WHAT IT READS IS OF BULK AT MOST 1048576: true; the input reads as it did. -/
def controlRangesUptoRow : OpenClaim := { program := "ytclakmennjjomaagreat", sum := "dd51d1c1e37c78af41789a208f40f0ce4454a8dfb52116663156c1e7432c6019", func := "amble/amblelaw09.ControlRanges", spec := "controlRanges", unfollowed := true, recurses := true, apart := false, narrowed := true }
def ControlRangesUptoSaid : Prop := controlRangesUptoRow.holds Tryz.pinned (OpenSpec.upto controlRangesSpec)

/-- 'amblelaw09.ControlCompiles', WHERE WHAT IT READS IS OF BULK AT MOST 1048576: true; the input reads as it did. -/
def controlCompilesUptoRow : OpenClaim := { program := "ytclakmennjjomaagreat", sum := "dd51d1c1e37c78af41789a208f40f0ce4454a8dfb52116663156c1e7432c6019", func := "amble/amblelaw09.ControlCompiles", spec := "controlCompiles", unfollowed := true, recurses := true, apart := false, narrowed := true }
def ControlCompilesUptoSaid : Prop := controlCompilesUptoRow.holds Tryz.pinned (OpenSpec.upto controlCompilesSpec)

/-- 'amblelaw09.ControlFits', WHERE WHAT IT READS IS OF BULK AT MOST 1048576: true; the input reads as it did. -/
def controlFitsUptoRow : OpenClaim := { program := "ytclakmennjjomaagreat", sum := "dd51d1c1e37c78af41789a208f40f0ce4454a8dfb52116663156c1e7432c6019", func := "amble/amblelaw09.ControlFits", spec := "controlFits", unfollowed := true, recurses := true, apart := false, narrowed := true }
def ControlFitsUptoSaid : Prop := controlFitsUptoRow.holds Tryz.pinned (OpenSpec.upto controlFitsSpec)

/-- 'amblelaw09.ControlBounds', WHERE WHAT IT READS IS OF BULK AT MOST 1048576: true; the input reads as it did. -/
def controlBoundsUptoRow : OpenClaim := { program := "ytclakmennjjomaagreat", sum := "dd51d1c1e37c78af41789a208f40f0ce4454a8dfb52116663156c1e7432c6019", func := "amble/amblelaw09.ControlBounds", spec := "controlBounds", unfollowed := true, recurses := true, apart := false, narrowed := true }
def ControlBoundsUptoSaid : Prop := controlBoundsUptoRow.holds Tryz.pinned (OpenSpec.upto controlBoundsSpec)

end Rows
end Go.Proofs.YtclakmennjjomaaGreat
