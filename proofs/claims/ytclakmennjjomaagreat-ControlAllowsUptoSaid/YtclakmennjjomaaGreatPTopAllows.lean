/-
  PROVED HERE: ControlAllows returns true, and its arguments read behind the call as before, for every input of bulk at most 1048576.
  CONDITIONS: none beyond the given statement's own.
-/
import Derived.Test.YtclakmennjjomaaGreatP7
set_option linter.all false
namespace Go.Proofs.YtclakmennjjomaaGreat.controlAllows
open Go.Ev
theorem reach:((Rows.controlAllowsUptoRow.inPlace==Tryz.prog.inPlace 5)&&(Rows.controlAllowsUptoRow.unfollowed==Tryz.prog.unfollowed 5)&&(Rows.controlAllowsUptoRow.recurses==Tryz.prog.recurses 5)&&(Rows.controlAllowsUptoRow.named==Tryz.prog.varsNamed 5))=true:=by kernel_rfl
theorem heard:(Tryz.prog.stopsHeard&&Tryz.prog.mayEnter&&(Rows.controlAllowsUptoRow.lifted==Tryz.prog.liftsFinal)&&(Tryz.prog.make==some Rows.controlAllowsUptoRow.make))=true:=by kernel_rfl
set_option maxRecDepth 100000 in
theorem closed:joinedFacts Tryz.prog 5 Tryz.f5 (Rows.OpenSpec.upto Rows.controlAllowsSpec).bare Rows.controlAllowsUptoRow=true:=by
 have h1:=reach
 have h2:=heard
 rw [joinedFacts]
 simp only [Bool.and_eq_true] at h1 h2 ⊢
 repeat' apply And.intro
 all_goals first
  | with_reducible exact h1.1.1.1
  | with_reducible exact h1.1.1.2
  | with_reducible exact h1.1.2
  | with_reducible exact h1.2
  | with_reducible exact h2.1.1.1
  | with_reducible exact h2.1.1.2
  | with_reducible exact h2.1.2
  | with_reducible exact h2.2
  | kernel_rfl
set_option maxRecDepth 100000 in
theorem proved:Rows.ControlAllowsUptoSaid:=
 OpenClaim.holds_of_cond 5 Tryz.f5 rfl rfl rfl rfl rfl rfl rfl ⟨rfl,rfl,rfl,rfl,rfl⟩ rfl rfl rfl rfl rfl (by kernel_rfl) fnd closed
  (of_decide_eq_true (by kernel_rfl)) (by unfold Func.isWrapper;first | (rw [if_pos (by decide+kernel)];kernel_rfl) | (rw [if_neg (by decide+kernel)];exact ⟨rfl,rfl⟩))
  (fun os started H enc _ F=>lifted os started H enc F)
end Go.Proofs.YtclakmennjjomaaGreat.controlAllows
