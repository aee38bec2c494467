/-
  PROVED HERE: WearBoxes returns true, and its arguments read behind the call as before, for every input of bulk at most 1048576.
  CONDITIONS: none beyond the given statement's own.
-/
import Derived.Test.YthghhnhojdmcpaaGreatP4
import Derived.Test.YthghhnhojdmcpaaGreatP5
set_option linter.all false
namespace Go.Proofs.YthghhnhojdmcpaaGreat.wearBoxes
open Go.Ev
theorem own:ownKnob Tryz.prog.godebug=none:=by kernel_rfl
theorem laid:laidOutB Tryz.prog=true:=by kernel_rfl
def shapes:List TD:=[.slice noteD,.int .i64]
theorem fnd:Tryz.prog.funcs[7]? =some Tryz.f7:=Tryz.func7
theorem tysB:(Tryz.f7.params.toList.zip shapes).all (fun p=>okT Tryz.prog 10 p.1&&tyIs Tryz.prog 10 p.1 p.2)=true:=by kernel_rfl
theorem tsB:Tryz.f7.params.toList.all (fun t=>Tryz.prog.readableRec t&&decide (t<Tryz.prog.types.size))=true:=by kernel_rfl
theorem resB:Tryz.f7.resultTypes=#[4]:=by kernel_rfl
theorem spec {H:Type} (ds:List (DataW H)) (svs:List SV) (h:IsArgs shapes ds svs):Rows.wearBoxesSpec.fn H ds={ results:=[.lit (.bool true)],args:=ds }:=by
 unfold shapes at h
 simp only [IsArgs] at h
 obtain ⟨d1,r1,x1,s1,rfl,rfl,h1,d2,r2,x2,s2,rfl,rfl,h2,rfl,rfl⟩:=h
 rfl
theorem run {H:Type} (ds:List (DataW H)) (svs:List SV) (h:IsArgs shapes ds svs) (hb:Rows.uptoBulkAll ds≤1048576):∃k,evV E k 7 svs=some (.one (.bool true)):=by
 unfold shapes at h
 simp only [IsArgs] at h
 obtain ⟨d1,r1,x1,s1,rfl,rfl,h1,d2,r2,x2,s2,rfl,rfl,h2,rfl,rfl⟩:=h
 obtain ⟨b1,hb⟩:=ygc hb
 obtain ⟨b2,hb⟩:=ygc hb
 obtain ⟨l,rfl,l1⟩:=ylv h1 b1
 obtain ⟨m,rfl,m1,m2⟩:=yrj h2
 have e:(2:Nat)^20=1048576:=by decide
 rw [←e] at l1
 obtain ⟨N,hN⟩:=yj4 l l1 m m1 m2
 exact ⟨N,hN N (Nat.le_refl N)⟩
set_option maxRecDepth 100000 in
theorem lifted (os:Os) (started:os.Started) (H:Type) (enc:TypeId×Value→H) (F:Stop.Interp):
  ReturnsInHanded {} Tryz.checked os 7 .any ((Rows.OpenSpec.upto Rows.wearBoxesSpec).pre6 enc Tryz.prog Tryz.f7 Rows.wearBoxesUptoRow.domain false) (((Rows.OpenSpec.upto Rows.wearBoxesSpec).at F).post enc Tryz.prog Tryz.f7 false true false false):=by
 refine returnsInHanded_of_cond (C:=Tryz.checked) (s:=Rows.OpenSpec.upto Rows.wearBoxesSpec) (k:=Rows.uptoSmall) rfl own started (by kernel_rfl) fnd
  (OpenSpec.witness (enc:=enc) (C:=Tryz.checked) (s:=Rows.OpenSpec.upto Rows.wearBoxesSpec) (k:=Rows.uptoSmall) rfl false ⟨#[],#[.slice none 0 0,.int .i64 0],[]⟩ 8 (by kernel_rfl) (by kernel_rfl) (by kernel_rfl)
   (x:=([.nil,.lit (.int .i64 0)],[],[])) (by kernel_rfl) rfl (by kernel_rfl)) ?_
 intro W base args ds gs before hval hW _ hk _
 refine yi4 (k:=10) (Ds:=shapes) fnd laid rfl (fun t ht=> ?_) resB (by kernel_rfl) (by kernel_rfl) (fun p hp=> ?_) (fun H ds svs h=>spec ds svs h) (fun H ds svs h hb=>run ds svs h hb) W base args ds gs before hval hW hk
 ·have:=List.all_eq_true.1 tsB t ht
  simpa using this
 ·have:=List.all_eq_true.1 tysB p hp
  simpa using this
theorem proved:Rows.WearBoxesUptoSaid:=
 OpenClaim.holds_of_cond 7 Tryz.f7 rfl rfl rfl rfl rfl rfl rfl ⟨rfl,rfl,rfl,rfl,rfl⟩ rfl rfl rfl rfl rfl (by kernel_rfl) fnd (by kernel_rfl)
  (of_decide_eq_true (by kernel_rfl)) (by unfold Func.isWrapper;first | (rw [if_pos (by decide+kernel)];kernel_rfl) | (rw [if_neg (by decide+kernel)];exact ⟨rfl,rfl⟩))
  (fun os started H enc _ F=>lifted os started H enc F)
end Go.Proofs.YthghhnhojdmcpaaGreat.wearBoxes
