import Derived.Test.YtclakmennjjomaaGreatP4
import Derived.Test.YtclakmennjjomaaGreatP6
set_option linter.all false
namespace Go.Proofs.YtclakmennjjomaaGreat.controlReins
open Go.Ev
theorem own:ownKnob Tryz.prog.godebug=none:=by kernel_rfl
theorem laid:laidOutB Tryz.prog=true:=by kernel_rfl
def shapes:List TD:=[jointD,.slice numD,lostD,.int .i64]
theorem fnd:Tryz.prog.funcs[8]? =some Tryz.f8:=Tryz.func8
theorem tysB:(Tryz.f8.params.toList.zip shapes).all (fun p=>okT Tryz.prog 10 p.1&&tyIs Tryz.prog 10 p.1 p.2)=true:=by kernel_rfl
theorem tsB:Tryz.f8.params.toList.all (fun t=>Tryz.prog.readableRec t&&decide (t<Tryz.prog.types.size))=true:=by kernel_rfl
theorem resB:Tryz.f8.resultTypes=#[4]:=by kernel_rfl
theorem spec {H:Type} (ds:List (DataW H)) (svs:List SV) (h:IsArgs shapes ds svs):Rows.controlReinsSpec.fn H ds={ results:=[.lit (.bool true)],args:=ds }:=by
 unfold shapes at h
 simp only [IsArgs] at h
 obtain ⟨d1,r1,x1,s1,rfl,rfl,h1,d2,r2,x2,s2,rfl,rfl,h2,d3,r3,x3,s3,rfl,rfl,h3,d4,r4,x4,s4,rfl,rfl,h4,rfl,rfl⟩:=h
 rfl
theorem run {H:Type} (ds:List (DataW H)) (svs:List SV) (h:IsArgs shapes ds svs) (hb:Rows.uptoBulkAll ds≤1048576):∃k,evV E k 8 svs=some (.one (.bool true)):=by
 unfold shapes at h
 simp only [IsArgs] at h
 obtain ⟨d1,r1,x1,s1,rfl,rfl,h1,d2,r2,x2,s2,rfl,rfl,h2,d3,r3,x3,s3,rfl,rfl,h3,d4,r4,x4,s4,rfl,rfl,h4,rfl,rfl⟩:=h
 obtain ⟨b1,hb⟩:=yc4 hb
 obtain ⟨b2,hb⟩:=yc4 hb
 obtain ⟨b3,hb⟩:=yc4 hb
 obtain ⟨b4,hb⟩:=yc4 hb
 obtain ⟨j,rfl⟩:=yu3 h1
 obtain ⟨l,rfl,l1⟩:=yz9 h2 b2
 obtain ⟨fa,fl,rfl,fa1,fa2,fl1,fl2⟩:=yx3 h3
 obtain ⟨m,rfl,m1,m2⟩:=yfc h4
 have e:(2:Nat)^20=1048576:=by decide
 rw [←e] at l1
 obtain ⟨N,hN⟩:=ysl j l l1 fa fl fa2 m
 exact ⟨N,hN N (Nat.le_refl N)⟩
set_option maxRecDepth 100000 in
theorem lifted (os:Os) (started:os.Started) (H:Type) (enc:TypeId×Value→H) (F:Stop.Interp):
  ReturnsInHanded {} Tryz.checked os 8 .any ((Rows.OpenSpec.upto Rows.controlReinsSpec).pre6 enc Tryz.prog Tryz.f8 Rows.controlReinsUptoRow.domain false) (((Rows.OpenSpec.upto Rows.controlReinsSpec).at F).post enc Tryz.prog Tryz.f8 false true false false):=by
 refine returnsInHanded_of_cond (C:=Tryz.checked) (s:=Rows.OpenSpec.upto Rows.controlReinsSpec) (k:=Rows.uptoSmall) rfl own started (by kernel_rfl) fnd
  (OpenSpec.witness (enc:=enc) (C:=Tryz.checked) (s:=Rows.OpenSpec.upto Rows.controlReinsSpec) (k:=Rows.uptoSmall) rfl false ⟨#[],#[.agg #[.int .i64 0,.int .i64 0,.int .u8 0,.int .i64 0,.int .i64 0,.int .u8 0,.int .i64 0,.int .i64 0,.int .u8 0,.int .i64 0,.int .i64 0,.int .u8 0,.int .i64 0,.int .i64 0,.int .u8 0,.int .i64 0,.int .i64 0,.int .u8 0,.int .i64 0],.slice none 0 0,.agg #[.int .i64 0,.int .i64 0],.int .i64 0],[]⟩ 8 (by kernel_rfl) (by kernel_rfl) (by kernel_rfl)
   (x:=([.agg [.agg [.lit (.int .i64 0),.lit (.int .i64 0),.lit (.int .u8 0)],.agg [.lit (.int .i64 0),.lit (.int .i64 0),.lit (.int .u8 0)],.agg [.lit (.int .i64 0),.lit (.int .i64 0),.lit (.int .u8 0)],.agg [.lit (.int .i64 0),.lit (.int .i64 0),.lit (.int .u8 0)],.agg [.lit (.int .i64 0),.lit (.int .i64 0),.lit (.int .u8 0)],.agg [.lit (.int .i64 0),.lit (.int .i64 0),.lit (.int .u8 0)],.lit (.int .i64 0)],.nil,.agg [.lit (.int .i64 0),.lit (.int .i64 0)],.lit (.int .i64 0)],[],[])) (by kernel_rfl) rfl (by kernel_rfl)) ?_
 intro W base args ds gs before hval hW _ hk _
 refine yot (k:=10) (Ds:=shapes) fnd laid rfl (fun t ht=> ?_) resB (by kernel_rfl) (by kernel_rfl) (fun p hp=> ?_) (fun H ds svs h=>spec ds svs h) (fun H ds svs h hb=>run ds svs h hb) W base args ds gs before hval hW hk
 ·have:=List.all_eq_true.1 tsB t ht
  simpa using this
 ·have:=List.all_eq_true.1 tysB p hp
  simpa using this
end Go.Proofs.YtclakmennjjomaaGreat.controlReins
