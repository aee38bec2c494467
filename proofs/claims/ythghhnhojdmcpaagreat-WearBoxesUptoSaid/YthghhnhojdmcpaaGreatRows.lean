/-
  No cell of these rows narrows 'for every input' (looked for: loops, veiled, ifaces, maps, wideKeys, modest, calm, conditions, laid).
  DERIVED. THE GIVEN ROWS OF THIS SEAT. 7 by the template 'for every input the law returns true; each argument reads behind the call as it read before'; 0 by the template 'total and deterministic' (their statements: YthghhnhojdmcpaaGreatTotals.lean).
  GIVEN WITH THE SEED: the statements are not yours to turn. If you find one false, say at which input.
  Laid BY PROGRAM, IN A SANDBOX (cutbox-rows.mjs): the forced cells as the released guide's own fill.sh prints them over the translation 72a08b7e22921bec… (all of the seat's roots in one cut). By AI agents, Wed Nov 11 2026. No macro, syntax, notation, axiom, sorry.
-/
import Derived.Test.YthghhnhojdmcpaaGreatChecked
import GoSem.Claim
import GoSem.ClaimJoined
import GoSem.ClaimMapViews
import Derived.JoinedTies
import Derived.KernelRfl
namespace Go.Proofs.YthghhnhojdmcpaaGreat
/- THE CELL 'sum', in the pinned program and in every row, IS THE sha256 OF THE DUMP (.gsa) THAT YthghhnhojdmcpaaGreatProg.lean LOADS. Nothing in Lean hashes anything: it is a label: what it is worth is what the hold of that sum in a sandbox is worth. -/
noncomputable def Tryz.pinned : Pinned := { name := "ythghhnhojdmcpaagreat", sum := "72a08b7e22921beca8ffe9b35cc2d67404f5de204b451077461f2c53c46a2fff", checked := Tryz.checked }
namespace Rows
def none {H : Type} : Left H := { results := [], args := [] }

/-- 'amblelaw11.WearStops': WHATEVER THE INPUT: true; the input reads as it did. -/
def wearStopsSpec : ChangeSpec := { name := "wearStops", fn := fun _ => fun
  | [d1, d2] => { results := [.lit (.bool true)], args := [d1, d2] }
  | _ => none }
def wearStopsRow : OpenClaim := { program := "ythghhnhojdmcpaagreat", sum := "72a08b7e22921beca8ffe9b35cc2d67404f5de204b451077461f2c53c46a2fff", func := "amble/amblelaw11.WearStops", spec := "wearStops", unfollowed := true, recurses := true, apart := false }
def WearStopsSaid : Prop := wearStopsRow.holds Tryz.pinned (OpenSpec.ofChange wearStopsSpec)

/-- ITS FALSE NEIGHBOUR: 'it returns false'. Refute it at one input. -/
def wearStopsWrong : ChangeSpec := { name := "wearStops", fn := fun _ => fun
  | [d1, d2] => { results := [.lit (.bool false)], args := [d1, d2] }
  | _ => none }
def WearStopsWrongFalsely : Prop := wearStopsRow.holds Tryz.pinned (OpenSpec.ofChange wearStopsWrong)

/-- 'amblelaw11.WearMirrors': WHATEVER THE INPUT: true; the input reads as it did. -/
def wearMirrorsSpec : ChangeSpec := { name := "wearMirrors", fn := fun _ => fun
  | [d1, d2] => { results := [.lit (.bool true)], args := [d1, d2] }
  | _ => none }
def wearMirrorsRow : OpenClaim := { program := "ythghhnhojdmcpaagreat", sum := "72a08b7e22921beca8ffe9b35cc2d67404f5de204b451077461f2c53c46a2fff", func := "amble/amblelaw11.WearMirrors", spec := "wearMirrors", unfollowed := true, recurses := true, apart := false }
def WearMirrorsSaid : Prop := wearMirrorsRow.holds Tryz.pinned (OpenSpec.ofChange wearMirrorsSpec)

/-- ITS FALSE NEIGHBOUR: 'it returns false'. Refute it at one input. -/
def wearMirrorsWrong : ChangeSpec := { name := "wearMirrors", fn := fun _ => fun
  | [d1, d2] => { results := [.lit (.bool false)], args := [d1, d2] }
  | _ => none }
def WearMirrorsWrongFalsely : Prop := wearMirrorsRow.holds Tryz.pinned (OpenSpec.ofChange wearMirrorsWrong)

/-- 'amblelaw11.WearChecks': WHATEVER THE INPUT: true; the input reads as it did. -/
def wearChecksSpec : ChangeSpec := { name := "wearChecks", fn := fun _ => fun
  | [d1, d2, d3] => { results := [.lit (.bool true)], args := [d1, d2, d3] }
  | _ => none }
def wearChecksRow : OpenClaim := { program := "ythghhnhojdmcpaagreat", sum := "72a08b7e22921beca8ffe9b35cc2d67404f5de204b451077461f2c53c46a2fff", func := "amble/amblelaw11.WearChecks", spec := "wearChecks", unfollowed := true, recurses := true, apart := false }
def WearChecksSaid : Prop := wearChecksRow.holds Tryz.pinned (OpenSpec.ofChange wearChecksSpec)

/-- ITS FALSE NEIGHBOUR: 'it returns false'. Refute it at one input. -/
def wearChecksWrong : ChangeSpec := { name := "wearChecks", fn := fun _ => fun
  | [d1, d2, d3] => { results := [.lit (.bool false)], args := [d1, d2, d3] }
  | _ => none }
def WearChecksWrongFalsely : Prop := wearChecksRow.holds Tryz.pinned (OpenSpec.ofChange wearChecksWrong)

/-- 'amblelaw11.WearActs': WHATEVER THE INPUT: true; the input reads as it did. -/
def wearActsSpec : ChangeSpec := { name := "wearActs", fn := fun _ => fun
  | [d1, d2, d3] => { results := [.lit (.bool true)], args := [d1, d2, d3] }
  | _ => none }
def wearActsRow : OpenClaim := { program := "ythghhnhojdmcpaagreat", sum := "72a08b7e22921beca8ffe9b35cc2d67404f5de204b451077461f2c53c46a2fff", func := "amble/amblelaw11.WearActs", spec := "wearActs", unfollowed := true, recurses := true, apart := false }
def WearActsSaid : Prop := wearActsRow.holds Tryz.pinned (OpenSpec.ofChange wearActsSpec)

/-- ITS FALSE NEIGHBOUR: 'it returns false'. Refute it at one input. -/
def wearActsWrong : ChangeSpec := { name := "wearActs", fn := fun _ => fun
  | [d1, d2, d3] => { results := [.lit (.bool false)], args := [d1, d2, d3] }
  | _ => none }
def WearActsWrongFalsely : Prop := wearActsRow.holds Tryz.pinned (OpenSpec.ofChange wearActsWrong)

/-- 'amblelaw11.WearBoxes': WHATEVER THE INPUT: true; the input reads as it did. -/
def wearBoxesSpec : ChangeSpec := { name := "wearBoxes", fn := fun _ => fun
  | [d1, d2] => { results := [.lit (.bool true)], args := [d1, d2] }
  | _ => none }
def wearBoxesRow : OpenClaim := { program := "ythghhnhojdmcpaagreat", sum := "72a08b7e22921beca8ffe9b35cc2d67404f5de204b451077461f2c53c46a2fff", func := "amble/amblelaw11.WearBoxes", spec := "wearBoxes", unfollowed := true, recurses := true, apart := false }
def WearBoxesSaid : Prop := wearBoxesRow.holds Tryz.pinned (OpenSpec.ofChange wearBoxesSpec)

/-- ITS FALSE NEIGHBOUR: 'it returns false'. Refute it at one input. -/
def wearBoxesWrong : ChangeSpec := { name := "wearBoxes", fn := fun _ => fun
  | [d1, d2] => { results := [.lit (.bool false)], args := [d1, d2] }
  | _ => none }
def WearBoxesWrongFalsely : Prop := wearBoxesRow.holds Tryz.pinned (OpenSpec.ofChange wearBoxesWrong)

/-- 'amblelaw11.WearBest': WHATEVER THE INPUT: true; the input reads as it did. -/
def wearBestSpec : ChangeSpec := { name := "wearBest", fn := fun _ => fun
  | [d1, d2, d3, d4] => { results := [.lit (.bool true)], args := [d1, d2, d3, d4] }
  | _ => none }
def wearBestRow : OpenClaim := { program := "ythghhnhojdmcpaagreat", sum := "72a08b7e22921beca8ffe9b35cc2d67404f5de204b451077461f2c53c46a2fff", func := "amble/amblelaw11.WearBest", spec := "wearBest", unfollowed := true, recurses := true, apart := false }
def WearBestSaid : Prop := wearBestRow.holds Tryz.pinned (OpenSpec.ofChange wearBestSpec)

/-- ITS FALSE NEIGHBOUR: 'it returns false'. Refute it at one input. -/
def wearBestWrong : ChangeSpec := { name := "wearBest", fn := fun _ => fun
  | [d1, d2, d3, d4] => { results := [.lit (.bool false)], args := [d1, d2, d3, d4] }
  | _ => none }
def WearBestWrongFalsely : Prop := wearBestRow.holds Tryz.pinned (OpenSpec.ofChange wearBestWrong)

/-- 'amblelaw11.WearProves': WHATEVER THE INPUT: true; the input reads as it did. -/
def wearProvesSpec : ChangeSpec := { name := "wearProves", fn := fun _ => fun
  | [d1, d2, d3, d4, d5, d6] => { results := [.lit (.bool true)], args := [d1, d2, d3, d4, d5, d6] }
  | _ => none }
def wearProvesRow : OpenClaim := { program := "ythghhnhojdmcpaagreat", sum := "72a08b7e22921beca8ffe9b35cc2d67404f5de204b451077461f2c53c46a2fff", func := "amble/amblelaw11.WearProves", spec := "wearProves", unfollowed := true, recurses := true, apart := false }
def WearProvesSaid : Prop := wearProvesRow.holds Tryz.pinned (OpenSpec.ofChange wearProvesSpec)

/-- ITS FALSE NEIGHBOUR: 'it returns false'. Refute it at one input. -/
def wearProvesWrong : ChangeSpec := { name := "wearProves", fn := fun _ => fun
  | [d1, d2, d3, d4, d5, d6] => { results := [.lit (.bool false)], args := [d1, d2, d3, d4, d5, d6] }
  | _ => none }
def WearProvesWrongFalsely : Prop := wearProvesRow.holds Tryz.pinned (OpenSpec.ofChange wearProvesWrong)

/- THE SECOND FORM. 'bulk': how many values and letters a reading holds, each counted each time it is reached (what is shared counts as often as it is met; a slice's spare places count too). A statement '..UptoSaid' is the law's where the arguments, and the package variables that the reading takes, are together of bulk at most 1048576: NARROWER than '..Said'. Prove '..Said' where nothing that the law and all that it calls make is longer than what came in: it says more and counts as full. Else prove '..UptoSaid'. A law counts once. -/
mutual
def uptoBulk {H : Type} : DataW H → Nat
  | .lit (.string bytes) => bytes.length + 1
  | .lit _ => 1
  | .nil => 1
  | .ptr d => uptoBulk d + 1
  | .slice elems spare => uptoBulkAll elems + uptoBulkAll spare + 1
  | .agg parts => uptoBulkAll parts + 1
  | .iface _ d => uptoBulk d + 1
  | .map entries => uptoBulkEntries entries + 1
  | .held _ => 1
def uptoBulkAll {H : Type} : List (DataW H) → Nat
  | [] => 0
  | d :: r => uptoBulk d + uptoBulkAll r
def uptoBulkEntries {H : Type} : List (Lit × DataW H) → Nat
  | [] => 0
  | x :: r => uptoBulkEntry x + uptoBulkEntries r
def uptoBulkEntry {H : Type} : Lit × DataW H → Nat
  | (.string bytes, d) => bytes.length + uptoBulk d + 1
  | (_, d) => uptoBulk d + 1
 end
def uptoSmall : (H : Type) → List (DataW H) → Bool := fun _ ds => decide (uptoBulkAll ds ≤ 1048576)
def OpenSpec.upto (s : _root_.Go.ChangeSpec) : _root_.Go.OpenSpec := { _root_.Go.OpenSpec.ofChange s with cond := some uptoSmall }

/-- 'amblelaw11.WearStops', WHERE WHAT IT READS IS OF BULK AT MOST 1048576: true; the input reads as it did. -/
def wearStopsUptoRow : OpenClaim := { program := "ythghhnhojdmcpaagreat", sum := "72a08b7e22921beca8ffe9b35cc2d67404f5de204b451077461f2c53c46a2fff", func := "amble/amblelaw11.WearStops", spec := "wearStops", unfollowed := true, recurses := true, apart := false, narrowed := true }
def WearStopsUptoSaid : Prop := wearStopsUptoRow.holds Tryz.pinned (OpenSpec.upto wearStopsSpec)

/-- 'amblelaw11.WearMirrors', WHERE WHAT IT READS IS OF BULK AT MOST 1048576: true; the input reads as it did. -/
def wearMirrorsUptoRow : OpenClaim := { program := "ythghhnhojdmcpaagreat", sum := "72a08b7e22921beca8ffe9b35cc2d67404f5de204b451077461f2c53c46a2fff", func := "amble/amblelaw11.WearMirrors", spec := "wearMirrors", unfollowed := true, recurses := true, apart := false, narrowed := true }
def WearMirrorsUptoSaid : Prop := wearMirrorsUptoRow.holds Tryz.pinned (OpenSpec.upto wearMirrorsSpec)

/-- 'amblelaw11.WearChecks', WHERE WHAT IT READS IS OF BULK AT MOST 1048576: true; the input reads as it did. -/
def wearChecksUptoRow : OpenClaim := { program := "ythghhnhojdmcpaagreat", sum := "72a08b7e22921beca8ffe9b35cc2d67404f5de204b451077461f2c53c46a2fff", func := "amble/amblelaw11.WearChecks", spec := "wearChecks", unfollowed := true, recurses := true, apart := false, narrowed := true }
def WearChecksUptoSaid : Prop := wearChecksUptoRow.holds Tryz.pinned (OpenSpec.upto wearChecksSpec)

/-- 'amblelaw11.WearActs', WHERE WHAT IT READS IS OF BULK AT MOST 1048576: true; the input reads as it did. -/
def wearActsUptoRow : OpenClaim := { program := "ythghhnhojdmcpaagreat", sum := "72a08b7e22921beca8ffe9b35cc2d67404f5de204b451077461f2c53c46a2fff", func := "amble/amblelaw11.WearActs", spec := "wearActs", unfollowed := true, recurses := true, apart := false, narrowed := true }
def WearActsUptoSaid : Prop := wearActsUptoRow.holds Tryz.pinned (OpenSpec.upto wearActsSpec)

/-- 'amblelaw11.WearBoxes', WHERE WHAT IT READS IS OF BULK AT MOST 1048576: true; the input reads as it did. -/
def wearBoxesUptoRow : OpenClaim := { program := "ythghhnhojdmcpaagreat", sum := "72a08b7e22921beca8ffe9b35cc2d67404f5de204b451077461f2c53c46a2fff", func := "amble/amblelaw11.WearBoxes", spec := "wearBoxes", unfollowed := true, recurses := true, apart := false, narrowed := true }
def WearBoxesUptoSaid : Prop := wearBoxesUptoRow.holds Tryz.pinned (OpenSpec.upto wearBoxesSpec)

/-- 'amblelaw11.WearBest', WHERE WHAT IT READS IS OF BULK AT MOST 1048576: true; the input reads as it did. -/
def wearBestUptoRow : OpenClaim := { program := "ythghhnhojdmcpaagreat", sum := "72a08b7e22921beca8ffe9b35cc2d67404f5de204b451077461f2c53c46a2fff", func := "amble/amblelaw11.WearBest", spec := "wearBest", unfollowed := true, recurses := true, apart := false, narrowed := true }
def WearBestUptoSaid : Prop := wearBestUptoRow.holds Tryz.pinned (OpenSpec.upto wearBestSpec)

/-- 'amblelaw11.WearProves', WHERE WHAT IT READS IS OF BULK AT MOST 1048576: true; the input reads as it did. -/
def wearProvesUptoRow : OpenClaim := { program := "ythghhnhojdmcpaagreat", sum := "72a08b7e22921beca8ffe9b35cc2d67404f5de204b451077461f2c53c46a2fff", func := "amble/amblelaw11.WearProves", spec := "wearProves", unfollowed := true, recurses := true, apart := false, narrowed := true }
def WearProvesUptoSaid : Prop := wearProvesUptoRow.holds Tryz.pinned (OpenSpec.upto wearProvesSpec)

end Rows
end Go.Proofs.YthghhnhojdmcpaaGreat
