/-
  PROVED HERE: ControlReins returns true, and its arguments read behind the call as before, for every input of bulk at most 1048576.
  CONDITIONS: none beyond the given statement's own.
-/
import Derived.Test.YtclakmennjjomaaGreatP7
set_option linter.all false
namespace Go.Proofs.YtclakmennjjomaaGreat.controlReins
open Go.Ev
theorem reach:((Rows.controlReinsUptoRow.inPlace==Tryz.prog.inPlace 8)&&(Rows.controlReinsUptoRow.unfollowed==Tryz.prog.unfollowed 8)&&(Rows.controlReinsUptoRow.recurses==Tryz.prog.recurses 8)&&(Rows.controlReinsUptoRow.named==Tryz.prog.varsNamed 8))=true:=by kernel_rfl
theorem heard:(Tryz.prog.stopsHeard&&Tryz.prog.mayEnter&&(Rows.controlReinsUptoRow.lifted==Tryz.prog.liftsFinal)&&(Tryz.prog.make==some Rows.controlReinsUptoRow.make))=true:=by kernel_rfl
set_option maxRecDepth 100000 in
theorem closed:joinedFacts Tryz.prog 8 Tryz.f8 (Rows.OpenSpec.upto Rows.controlReinsSpec).bare Rows.controlReinsUptoRow=true:=by
 have h1:=reach
 have h2:=heard
 rw [joinedFacts]
 simp only [Bool.and_eq_true] at h1 h2 ⊢
 repeat' apply And.intro
 all_goals first
  | with_reducible exact h1.1.1.1
  | with_reducible exact h1.1.1.2
  | with_reducible exact h1.1.2
  | with_reducible exact h1.2
  | with_reducible exact h2.1.1.1
  | with_reducible exact h2.1.1.2
  | with_reducible exact h2.1.2
  | with_reducible exact h2.2
  | kernel_rfl
set_option maxRecDepth 100000 in
theorem proved:Rows.ControlReinsUptoSaid:=
 OpenClaim.holds_of_cond 8 Tryz.f8 rfl rfl rfl rfl rfl rfl rfl ⟨rfl,rfl,rfl,rfl,rfl⟩ rfl rfl rfl rfl rfl (by kernel_rfl) fnd closed
  (of_decide_eq_true (by kernel_rfl)) (by unfold Func.isWrapper;first | (rw [if_pos (by decide+kernel)];kernel_rfl) | (rw [if_neg (by decide+kernel)];exact ⟨rfl,rfl⟩))
  (fun os started H enc _ F=>lifted os started H enc F)
end Go.Proofs.YtclakmennjjomaaGreat.controlReins
