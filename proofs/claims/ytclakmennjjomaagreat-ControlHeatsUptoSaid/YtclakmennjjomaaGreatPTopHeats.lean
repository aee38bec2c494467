/-
  PROVED HERE: ControlHeats returns true, and its arguments read behind the call as before, for every input of bulk at most 1048576.
  CONDITIONS: none beyond the given statement's own.
-/
import Derived.Test.YtclakmennjjomaaGreatP6
set_option linter.all false
namespace Go.Proofs.YtclakmennjjomaaGreat.controlHeats
open Go.Ev
theorem reach:((Rows.controlHeatsUptoRow.inPlace==Tryz.prog.inPlace 6)&&(Rows.controlHeatsUptoRow.unfollowed==Tryz.prog.unfollowed 6)&&(Rows.controlHeatsUptoRow.recurses==Tryz.prog.recurses 6)&&(Rows.controlHeatsUptoRow.named==Tryz.prog.varsNamed 6))=true:=by kernel_rfl
theorem heard:(Tryz.prog.stopsHeard&&Tryz.prog.mayEnter&&(Rows.controlHeatsUptoRow.lifted==Tryz.prog.liftsFinal)&&(Tryz.prog.make==some Rows.controlHeatsUptoRow.make))=true:=by kernel_rfl
set_option maxRecDepth 100000 in
theorem closed:joinedFacts Tryz.prog 6 Tryz.f6 (Rows.OpenSpec.upto Rows.controlHeatsSpec).bare Rows.controlHeatsUptoRow=true:=by
 have h1:=reach
 have h2:=heard
 rw [joinedFacts]
 simp only [Bool.and_eq_true] at h1 h2 ⊢
 repeat' apply And.intro
 all_goals first
  | with_reducible exact h1.1.1.1
  | with_reducible exact h1.1.1.2
  | with_reducible exact h1.1.2
  | with_reducible exact h1.2
  | with_reducible exact h2.1.1.1
  | with_reducible exact h2.1.1.2
  | with_reducible exact h2.1.2
  | with_reducible exact h2.2
  | kernel_rfl
set_option maxRecDepth 100000 in
theorem proved:Rows.ControlHeatsUptoSaid:=
 OpenClaim.holds_of_cond 6 Tryz.f6 rfl rfl rfl rfl rfl rfl rfl ⟨rfl,rfl,rfl,rfl,rfl⟩ rfl rfl rfl rfl rfl (by kernel_rfl) fnd closed
  (of_decide_eq_true (by kernel_rfl)) (by unfold Func.isWrapper;first | (rw [if_pos (by decide+kernel)];kernel_rfl) | (rw [if_neg (by decide+kernel)];exact ⟨rfl,rfl⟩))
  (fun os started H enc _ F=>lifted os started H enc F)
end Go.Proofs.YtclakmennjjomaaGreat.controlHeats
