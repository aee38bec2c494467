/-
  No cell of these rows narrows 'for every input' (looked for: loops, veiled, ifaces, maps, wideKeys, modest, calm, conditions, laid).
  DERIVED. THE GIVEN ROWS OF THIS SEAT. 3 by the template 'for every input the law returns true; each argument reads behind the call as it read before'; 0 by the template 'total and deterministic' (their statements: YthghhnhojdmcpaaTotals.lean).
  GIVEN WITH THE SEED: the statements are not yours to turn. If you find one false, say at which input.
  Laid BY PROGRAM, IN A SANDBOX (cutbox-rows.mjs): the forced cells as the released guide's own fill.sh prints them over the translation 3812bb22370ea29b… (all of the seat's roots in one cut). By AI agents, Wed Nov 11 2026. No macro, syntax, notation, axiom, sorry.
-/
import Derived.Test.YthghhnhojdmcpaaChecked
import GoSem.Claim
import GoSem.ClaimJoined
import GoSem.ClaimMapViews
import Derived.JoinedTies
import Derived.KernelRfl
namespace Go.Proofs.Ythghhnhojdmcpaa
/- THE CELL 'sum', in the pinned program and in every row, IS THE sha256 OF THE DUMP (.gsa) THAT YthghhnhojdmcpaaProg.lean LOADS. Nothing in Lean hashes anything: it is a label: what it is worth is what the hold of that sum in a sandbox is worth. -/
noncomputable def Try.pinned : Pinned := { name := "ythghhnhojdmcpaa", sum := "3812bb22370ea29b52d7c2d3dd3d621c376eb71635e3fad3e6dee3e900f646ac", checked := Try.checked }
namespace Rows
def none {H : Type} : Left H := { results := [], args := [] }

/-- 'amblelaw11.WearTimely': WHATEVER THE INPUT: true; the input reads as it did. -/
def wearTimelySpec : ChangeSpec := { name := "wearTimely", fn := fun _ => fun
  | [d1, d2, d3] => { results := [.lit (.bool true)], args := [d1, d2, d3] }
  | _ => none }
def wearTimelyRow : OpenClaim := { program := "ythghhnhojdmcpaa", sum := "3812bb22370ea29b52d7c2d3dd3d621c376eb71635e3fad3e6dee3e900f646ac", func := "amble/amblelaw11.WearTimely", spec := "wearTimely", unfollowed := true, recurses := true, apart := false }
def WearTimelySaid : Prop := wearTimelyRow.holds Try.pinned (OpenSpec.ofChange wearTimelySpec)

/-- ITS FALSE NEIGHBOUR: 'it returns false'. Refute it at one input. -/
def wearTimelyWrong : ChangeSpec := { name := "wearTimely", fn := fun _ => fun
  | [d1, d2, d3] => { results := [.lit (.bool false)], args := [d1, d2, d3] }
  | _ => none }
def WearTimelyWrongFalsely : Prop := wearTimelyRow.holds Try.pinned (OpenSpec.ofChange wearTimelyWrong)

/-- 'amblelaw11.WearLimits': WHATEVER THE INPUT: true; the input reads as it did. -/
def wearLimitsSpec : ChangeSpec := { name := "wearLimits", fn := fun _ => fun
  | [d1, d2] => { results := [.lit (.bool true)], args := [d1, d2] }
  | _ => none }
def wearLimitsRow : OpenClaim := { program := "ythghhnhojdmcpaa", sum := "3812bb22370ea29b52d7c2d3dd3d621c376eb71635e3fad3e6dee3e900f646ac", func := "amble/amblelaw11.WearLimits", spec := "wearLimits", unfollowed := true, recurses := true, apart := false }
def WearLimitsSaid : Prop := wearLimitsRow.holds Try.pinned (OpenSpec.ofChange wearLimitsSpec)

/-- ITS FALSE NEIGHBOUR: 'it returns false'. Refute it at one input. -/
def wearLimitsWrong : ChangeSpec := { name := "wearLimits", fn := fun _ => fun
  | [d1, d2] => { results := [.lit (.bool false)], args := [d1, d2] }
  | _ => none }
def WearLimitsWrongFalsely : Prop := wearLimitsRow.holds Try.pinned (OpenSpec.ofChange wearLimitsWrong)

/-- 'amblelaw11.WearTaught': WHATEVER THE INPUT: true; the input reads as it did. -/
def wearTaughtSpec : ChangeSpec := { name := "wearTaught", fn := fun _ => fun
  | [d1, d2] => { results := [.lit (.bool true)], args := [d1, d2] }
  | _ => none }
def wearTaughtRow : OpenClaim := { program := "ythghhnhojdmcpaa", sum := "3812bb22370ea29b52d7c2d3dd3d621c376eb71635e3fad3e6dee3e900f646ac", func := "amble/amblelaw11.WearTaught", spec := "wearTaught", unfollowed := true, recurses := true, apart := false }
def WearTaughtSaid : Prop := wearTaughtRow.holds Try.pinned (OpenSpec.ofChange wearTaughtSpec)

/-- ITS FALSE NEIGHBOUR: 'it returns false'. Refute it at one input. -/
def wearTaughtWrong : ChangeSpec := { name := "wearTaught", fn := fun _ => fun
  | [d1, d2] => { results := [.lit (.bool false)], args := [d1, d2] }
  | _ => none }
def WearTaughtWrongFalsely : Prop := wearTaughtRow.holds Try.pinned (OpenSpec.ofChange wearTaughtWrong)

/- THE SECOND FORM. 'bulk': how many values and letters a reading holds, each counted each time it is reached (what is shared counts as often as it is met; a slice's spare places count too). A statement '..UptoSaid' is the law's where the arguments, and the package variables that the reading takes, are together of bulk at most 1048576: NARROWER than '..Said'. Prove '..Said' where nothing that the law and all that it calls make is longer than what came in: it says more and counts as full. Else prove '..UptoSaid'. A law counts once. -/
mutual
def uptoBulk {H : Type} : DataW H → Nat
  | .lit (.string bytes) => bytes.length + 1
  | .lit _ => 1
  | .nil => 1
  | .ptr d => uptoBulk d + 1
  | .slice elems spare => uptoBulkAll elems + uptoBulkAll spare + 1
  | .agg parts => uptoBulkAll parts + 1
  | .iface _ d => uptoBulk d + 1
  | .map entries => uptoBulkEntries entries + 1
  | .held _ => 1
def uptoBulkAll {H : Type} : List (DataW H) → Nat
  | [] => 0
  | d :: r => uptoBulk d + uptoBulkAll r
def uptoBulkEntries {H : Type} : List (Lit × DataW H) → Nat
  | [] => 0
  | x :: r => uptoBulkEntry x + uptoBulkEntries r
def uptoBulkEntry {H : Type} : Lit × DataW H → Nat
  | (.string bytes, d) => bytes.length + uptoBulk d + 1
  | (_, d) => uptoBulk d + 1
 end
def uptoSmall : (H : Type) → List (DataW H) → Bool := fun _ ds => decide (uptoBulkAll ds ≤ 1048576)
def OpenSpec.upto (s : _root_.Go.ChangeSpec) : _root_.Go.OpenSpec := { _root_.Go.OpenSpec.ofChange s with cond := some uptoSmall }

/-- 'amblelaw11.WearTimely', WHERE WHAT IT READS IS OF BULK AT MOST 1048576: true; the input reads as it did. -/
def wearTimelyUptoRow : OpenClaim := { program := "ythghhnhojdmcpaa", sum := "3812bb22370ea29b52d7c2d3dd3d621c376eb71635e3fad3e6dee3e900f646ac", func := "amble/amblelaw11.WearTimely", spec := "wearTimely", unfollowed := true, recurses := true, apart := false, narrowed := true }
def WearTimelyUptoSaid : Prop := wearTimelyUptoRow.holds Try.pinned (OpenSpec.upto wearTimelySpec)

/-- 'amblelaw11.WearLimits', WHERE WHAT IT READS IS OF BULK AT MOST 1048576: true; the input reads as it did. -/
def wearLimitsUptoRow : OpenClaim := { program := "ythghhnhojdmcpaa", sum := "3812bb22370ea29b52d7c2d3dd3d621c376eb71635e3fad3e6dee3e900f646ac", func := "amble/amblelaw11.WearLimits", spec := "wearLimits", unfollowed := true, recurses := true, apart := false, narrowed := true }
def WearLimitsUptoSaid : Prop := wearLimitsUptoRow.holds Try.pinned (OpenSpec.upto wearLimitsSpec)

/-- 'amblelaw11.WearTaught', WHERE WHAT IT READS IS OF BULK AT MOST 1048576: true; the input reads as it did. -/
def wearTaughtUptoRow : OpenClaim := { program := "ythghhnhojdmcpaa", sum := "3812bb22370ea29b52d7c2d3dd3d621c376eb71635e3fad3e6dee3e900f646ac", func := "amble/amblelaw11.WearTaught", spec := "wearTaught", unfollowed := true, recurses := true, apart := false, narrowed := true }
def WearTaughtUptoSaid : Prop := wearTaughtUptoRow.holds Try.pinned (OpenSpec.upto wearTaughtSpec)

end Rows
end Go.Proofs.Ythghhnhojdmcpaa
