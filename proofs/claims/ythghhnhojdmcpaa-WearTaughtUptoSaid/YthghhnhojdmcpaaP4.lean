import Derived.Test.YthghhnhojdmcpaaP3
set_option linter.all false
namespace Go.Ev
open Go.Dig
def OutR (ob : Nat → Option AObj) (nx : Nat) (x : AV) (o : List Nat) : Prop :=
  (o = [] ∧ x = .nils) ∨ ∃ id ver, x = .rsl id ver 1 0 o.length false ∧ ob id = some (.row 1 (intE o) ver) ∧ id < nx
theorem frz_out {ob : Nat → Option AObj} {nx : Nat} {x : AV} {o : List Nat} (h : OutR ob nx x o) (fz : Nat → Nat) : ∃ fz', frz ob DEPTH fz x = some (fz', .sl false (intE o)) := by
  rcases h with ⟨rfl, rfl⟩ | ⟨id, ver, rfl, hid, _⟩
  · exact ⟨fz, rfl⟩
  · have hb : Nat.ble (0 + o.length) (intE o).length = true := by simp [intE]
    refine ⟨raise fz id (0 + o.length), ?_⟩
    rw [show DEPTH = 6 + 1 + 1 from rfl, frz_rsl, rowAt_of hid]
    simp only [hb, cond_true]
    rw [((intE_canon o).sub 0 o.length).frz ob 6]
    simp only [List.drop_zero, intE_take, List.take_length]
theorem frzS_out {ob : Nat → Option AObj} {nx : Nat} {x : AV} {o : List Nat} (h : OutR ob nx x o) (fz : Nat → Nat) : ∃ fz', frzS ob fz (.one x) = some (fz', .one (.sl false (intE o))) := by
  obtain ⟨fz', h⟩ := frz_out h fz
  exact ⟨fz', by simp only [frzS, h]⟩
theorem rtrim_out {n : Nat} {ob : Nat → Option AObj} {nx : Nat} {x : AV} {o : List Nat} (h : OutR ob nx x o) (hs : o.length < 2 ^ 60) (hd : ∀ d ∈ o, d < BT) (hn : o.length + 2 ≤ n) (fz : Nat → Nat) : ∃ fz', callV (evF E n) Id.ambleref01_trim [.one x] ob fz = some (.fzd fz' (.one (zD (val BT o)))) := by
  obtain ⟨m, rfl⟩ : ∃ m, n = m + 1 := ⟨n - 1, by omega⟩
  obtain ⟨fz', h⟩ := frzS_out h fz
  refine ⟨fz', ?_⟩
  rw [callV_ev]
  simp only [mapFz, h, rtrim_run o hs hd (show o.length + 1 ≤ m by omega), Option.map_some]
theorem intE_snoc (o : List Nat) (d : Nat) : intE o ++ [[AV.int .i64 (d : Int)]] = intE (o ++ [d]) := intE_append o [d]
theorem outR_new (ob : Nat → Option AObj) (q q2 d nx' : Nat) (h : q2 < nx') (y : AObj) : OutR (upd (upd ob q y) q2 (.row 1 [[AV.int .i64 (d : Int)]] 0)) nx' (.rsl q2 0 1 0 1 false) [d] :=
  .inr ⟨q2, 0, rfl, upd_same _ _ _, h⟩
theorem outR_app {ob : Nat → Option AObj} {id ver q d nx' : Nat} {o : List Nat} (h : id < nx') (y : AObj) : OutR (upd (upd ob q y) id (.row 1 (intE (o ++ [d])) (ver + 1))) nx' (.rsl id (ver + 1) 1 0 (o.length + 1) false) (o ++ [d]) :=
  .inr ⟨id, ver + 1, by simp, upd_same _ _ _, h⟩
theorem rowAt_other {ob : Nat → Option AObj} {id ver q : Nat} {es : List (List AV)} (hid : ob id = some (.row 1 es ver)) (hq : id ≠ q) (y : AObj) : rowAt (upd ob q y) id ver = some (1, es) := by
  refine rowAt_of ?_
  rw [upd_ne hq]; exact hid
def zC (z : Int) : List AV := [.bool (decide (z < 0)), zD z.natAbs]
def sV (z : Int) : SV := .agg (zC z)
theorem canS_s (z : Int) : CanS (sV z) := .agg _ fun x hx => by
  simp only [zC, List.mem_cons, List.not_mem_nil, or_false] at hx
  rcases hx with rfl | rfl
  · exact .bool _
  · exact .sl _
theorem rlen_pos (m : Nat) : ((((digs BT m).length : Nat) : Int) > 0) = (m ≠ 0) := by
  rw [eq_iff_iff]
  constructor
  · intro h e
    subst e
    rw [digs_zero] at h
    simp at h
  · intro h
    have := digs_ne_nil BT2 h
    have : (digs BT m).length ≠ 0 := fun e => this (List.length_eq_zero_iff.1 e)
    omega
theorem zC_sgn (neg : Bool) (m : Nat) : zC (sgn neg m) = [.bool (neg && decide (m ≠ 0)), zD m] := by
  unfold zC sgn
  cases neg with
  | false => simp
  | true =>
    simp only [if_true, Int.natAbs_neg, Int.natAbs_natCast, Bool.true_and]
    have : decide (-(m : Int) < 0) = decide (m ≠ 0) := by
      rw [decide_eq_decide]
      omega
    rw [this]
theorem signed_run (neg : Bool) (m n : Nat) : evV E (n + 1) Id.ambleref01_signed [.one (.bool neg), .one (zD m)] = some (sV (sgn neg m)) := by
  rw [evV_succ E_ambleref01_signed]
  unfold sV
  rw [zC_sgn]
  unfold zD
  cases neg with
  | true => simp only [go_sem, Fn.ambleref01_signed, rlen_pos]
  | false => simp only [go_sem, Fn.ambleref01_signed, rlen_pos]
theorem call_signed (neg : Bool) (m : Nat) (z : Int) (hz : sgn neg m = z) {n : Nat} (hn : 1 ≤ n) (ob : Nat → Option AObj) (fz : Nat → Nat) : callV (evF E n) Id.ambleref01_signed [.one (.bool neg), .one (zD m)] ob fz = some (.fzd fz (sV z)) := by
  obtain ⟨k, rfl⟩ : ∃ k, n = k + 1 := ⟨n - 1, by omega⟩
  rw [← hz]
  exact callV_can (signed_run neg m k) (can2 (canS_bool _) (canS_d _)) ob fz
section
variable {F : Caller} {fuel : Nat} {fz : Nat → Nat}
theorem top_loop {ob : Nat → Option AObj} {nx : Nat} (ds : List Nat) (fr : Nat) (hl : ds.length ≤ fr + 4) (hs : ds.length < 2 ^ 60) (hd : ∀ d ∈ ds, d < BT) : ∀ (m k : Nat), k = fr + m → k ≤ ds.length → ∀ (X : List (Nat × SV)) (N : Nat), m < N → ∃ X',
    loopN (evC F fuel Fn.ambleref01_top_L0) N ⟨env ((0, .one (.sl false (intE ds))) :: (1, .one (.int .i64 (fr : Int))) :: (5, .one (.int .i64 (val BT (ds.drop k) : Int))) :: (6, .one (.int .i64 ((k : Int) - 1))) :: X), ob, fz, nx⟩ =
      some (.ext 0, ⟨env ((0, .one (.sl false (intE ds))) :: (1, .one (.int .i64 (fr : Int))) :: (5, .one (.int .i64 (val BT (ds.drop fr) : Int))) :: X'), ob, fz, nx⟩)
  | 0, k, hk, hkl, X, N + 1, hN => by
    have hk' : k = fr := by omega
    subst hk'
    have h1 : (((k : Nat) : Int) - 1 ≥ ((k : Nat) : Int)) = False := by simp only [ge_iff_le, eq_iff_iff, iff_false]; omega
    refine ⟨[(6, .one (.int .i64 ((k : Int) - 1))), (12, .one (.bool false))], round_ext ?_⟩
    simp only [go_sem, Fn.ambleref01_top_L0, h1]
  | m + 1, k, hk, hkl, X, N + 1, hN => by
    obtain ⟨j, rfl⟩ : ∃ j, k = j + 1 := ⟨k - 1, by omega⟩
    have h0 : (((j + 1 : Nat) : Int) - 1) = (j : Nat) := by omega
    have h1 : (((j : Nat) : Int) ≥ ((fr : Nat) : Int)) = True := by simp only [ge_iff_le, eq_iff_iff, iff_true]; omega
    have hjl : j < ds.length := by omega
    have gd : ds[j]? = some ds[j] := by simp
    have e : ds.drop j = ds[j] :: ds.drop (j + 1) := List.drop_eq_getElem_cons hjl
    have hb : val BT (ds.drop j) < 10000000000000000 := by
      have h2 := val_lt BT2 (ds.drop j) (fun d h => hd d (List.mem_of_mem_drop h))
      have h3 : BT ^ (ds.drop j).length ≤ BT ^ 4 := Nat.pow_le_pow_right (by decide) (by simp; omega)
      exact Nat.lt_of_lt_of_le h2 (Nat.le_trans h3 (by decide))
    have hv : val BT (ds.drop j) = ds[j] + 10000 * val BT (ds.drop (j + 1)) := by rw [e]; rfl
    rw [hv] at hb
    have wm : IntKind.i64.wrap ((val BT (ds.drop (j + 1)) : Int) * 10000) = ((val BT (ds.drop (j + 1)) * 10000 : Nat) : Int) := by
      rw [show ((val BT (ds.drop (j + 1)) : Int) * 10000) = ((val BT (ds.drop (j + 1)) * 10000 : Nat) : Int) from (Int.natCast_mul _ 10000).symm]
      exact wi64 (by omega)
    have wa : IntKind.i64.wrap (((val BT (ds.drop (j + 1)) * 10000 : Nat) : Int) + (ds[j] : Int)) = (val BT (ds.drop j) : Int) := by
      rw [addi64 _ _ (by omega), hv]
      congr 1
      omega
    have wj : IntKind.i64.wrap ((j : Int) - 1) = (j : Int) - 1 := wrap_i64 (by omega)
    obtain ⟨X', h⟩ := top_loop ds fr hl hs hd m j (by omega) (by omega) [] N (by omega)
    refine ⟨X', ?_⟩
    rw [← h]
    refine round_nrm ?_
    generalize val BT (ds.drop j) = v1 at wa ⊢
    generalize val BT (ds.drop (j + 1)) = v0 at wm wa ⊢
    generalize v0 * 10000 = v2 at wm wa
    simp only [go_sem, Fn.ambleref01_top_L0, h0, h1, gd, wm, wa, wj]
end
theorem top_run (a fr : Nat) (hl : dlen BT a ≤ fr + 4) (hf : fr ≤ dlen BT a) (hs : dlen BT a < 2 ^ 60) {n : Nat} (hn : dlen BT a + 1 ≤ n) : evV E (n + 1) Id.ambleref01_top [.one (zD a), .one (.int .i64 (fr : Int))] = some (.one (.int .i64 (val BT ((digs BT a).drop fr) : Int))) := by
  rw [evV_succ E_ambleref01_top]
  unfold dlen at hl hf hs hn
  obtain ⟨X', h⟩ := top_loop (F := evF E n) (fuel := n) (ob := ob0) (fz := fz0) (nx := 0) (digs BT a) fr hl hs (digs_lt BT2 a) ((digs BT a).length - fr) (digs BT a).length (by omega) (Nat.le_refl _) [] n (by omega)
  rw [List.drop_length, val, show ((0 : Nat) : Int) = 0 from rfl] at h
  have hw : IntKind.i64.wrap (((digs BT a).length : Int) - 1) = ((digs BT a).length : Int) - 1 := wrap_i64 (by omega)
  unfold zD
  generalize val BT ((digs BT a).drop fr) = v at h ⊢
  simp only [go_sem, Fn.ambleref01_top, hw, h]
theorem minus_step (x y b : Nat) (hx : x < 10000) (hy : y < 10000) (hb : b ≤ 1) : ∃ (d b' : Nat), d < 10000 ∧ b' ≤ 1 ∧ d + y + b = x + 10000 * b' ∧ (b' = 0 → ((x : Int) - b - y) = (d : Int)) ∧ (b' = 1 → ∃ z : Int, ((x : Int) - b - y) = z ∧ (z < 0) = True ∧ IntKind.i64.wrap (z + 10000) = (d : Int)) := by
  by_cases h : y + b ≤ x
  · exact ⟨x - b - y, 0, by omega, by omega, by omega, fun _ => by omega, fun h => by omega⟩
  · exact ⟨x + 10000 - b - y, 1, by omega, by omega, by omega, fun h => by omega, fun _ => ⟨_, rfl, by simp; omega, by rw [wrap_i64 (by omega)]; omega⟩⟩
section
variable {F : Caller} {fuel : Nat} {fz : Nat → Nat}
theorem minus_round {ob : Nat → Option AObj} {nx : Nat} (ds es : List Nat) (i b : Nat) (hil : i < ds.length) (hs : ds.length < 2 ^ 40) (hd : ∀ d ∈ ds, d < BT) (he : ∀ d ∈ es, d < BT) (hb : b ≤ 1) (o : List Nat) (hol : o.length = i) (x : AV) (hO : OutR ob nx x o) (X : List (Nat × SV)) : ∃ (d b' : Nat) (x' : AV) (ob' : Nat → Option AObj),
    evC F fuel Fn.ambleref01_minus_L0 ⟨env ((0, .one (.sl false (intE ds))) :: (1, .one (.sl false (intE es))) :: (5, .one x) :: (6, .one (.int .i64 (b : Int))) :: (7, .one (.int .i64 (i : Int))) :: X), ob, fz, nx⟩ =
      some (.nrm, ⟨env [(0, .one (.sl false (intE ds))), (1, .one (.sl false (intE es))), (5, .one x'), (6, .one (.int .i64 (b' : Int))), (7, .one (.int .i64 ((i + 1 : Nat) : Int)))], ob', fz, nx + 5⟩) ∧ OutR ob' (nx + 5) x' (o ++ [d]) ∧ d < BT ∧ b' ≤ 1 ∧ d + es.getD i 0 + b = ds[i] + 10000 * b' := by
  have gd : ds[i]? = some ds[i] := by simp
  have hx : ds[i] < 10000 := hd _ (by simp)
  have hy : es.getD i 0 < 10000 := by
    rw [List.getD]
    cases h : es[i]? with
    | none => simp
    | some y => exact he y (List.mem_of_getElem? h)
  obtain ⟨d, b', h1, h2, h3, h4, h5⟩ := minus_step ds[i] (es.getD i 0) b hx hy hb
  have hlt : (((i : Nat) : Int) < ((ds.length : Nat) : Int)) = True := by simp; omega
  have wk : IntKind.i64.wrap ((i + 1 : Nat) : Int) = ((i + 1 : Nat) : Int) := wi64 (by omega)
  have hd1 : [[AV.int .i64 (d : Int)]] = intE [d] := rfl
  have dn : (((d : Nat) : Int) < 0) = False := by simp
  have hb' : b' = 0 ∨ b' = 1 := by omega
  have z0 : ((0 : Nat) : Int) = 0 := rfl
  have z1 : ((1 : Nat) : Int) = 1 := rfl
  generalize ds[i] = xd at *
  by_cases hie : i < es.length
  · have ge : es[i]? = some es[i] := by simp
    have hey : es.getD i 0 = es[i] := by rw [List.getD, ge]; rfl
    rw [hey] at h3 h4 h5 hy ⊢
    have g2 : (((i : Nat) : Int) < ((es.length : Nat) : Int)) = True := by simp; omega
    generalize es[i] = y at *
    have w1 : IntKind.i64.wrap ((xd : Int) - (b : Int)) = (xd : Int) - (b : Int) := wrap_i64 (by omega)
    have w2 : IntKind.i64.wrap ((xd : Int) - (b : Int) - (y : Int)) = (xd : Int) - (b : Int) - (y : Int) := wrap_i64 (by omega)
    rcases hb' with rfl | rfl
    · have w2 := w2.trans (h4 rfl)
      rcases hO with ⟨rfl, rfl⟩ | ⟨id, ver, rfl, hid, hlt'⟩
      · refine ⟨d, 0, _, _, ?_, outR_new ob (nx + 2) (nx + 3) d _ (by omega) (.row 1 [[AV.int .i64 (d : Int)]] 0), h1, by omega, h3⟩
        simp only [go_sem, Fn.ambleref01_minus_L0, hlt, gd, w1, g2, ge, w2, dn, add1, wk, okSz, ROOM, Nat.reduceBEq, z0]
      · have hl8 : (o.length + 1) * 8 ≤ 140737488355328 := by omega
        have hrow := rowAt_other hid (show id ≠ nx + 2 by omega) (.row 1 [[AV.int .i64 (d : Int)]] 0)
        refine ⟨d, 0, _, _, ?_, outR_app (ob := ob) (id := id) (ver := ver) (q := nx + 2) (d := d) (nx' := nx + 5) (by omega) (.row 1 [[AV.int .i64 (d : Int)]] 0), h1, by omega, h3⟩
        simp only [go_sem, Fn.ambleref01_minus_L0, hlt, gd, w1, g2, ge, w2, dn, add1, wk, okSz, ROOM, Nat.reduceBEq, hrow, hl8, intE_snoc, z0]
    · obtain ⟨z, e1, e2, e3⟩ := h5 rfl
      have w2 := w2.trans e1
      rcases hO with ⟨rfl, rfl⟩ | ⟨id, ver, rfl, hid, hlt'⟩
      · refine ⟨d, 1, _, _, ?_, outR_new ob (nx + 2) (nx + 3) d _ (by omega) (.row 1 [[AV.int .i64 (d : Int)]] 0), h1, by omega, h3⟩
        simp only [go_sem, Fn.ambleref01_minus_L0, hlt, gd, w1, g2, ge, w2, e2, e3, add1, wk, okSz, ROOM, Nat.reduceBEq, z1]
      · have hl8 : (o.length + 1) * 8 ≤ 140737488355328 := by omega
        have hrow := rowAt_other hid (show id ≠ nx + 2 by omega) (.row 1 [[AV.int .i64 (d : Int)]] 0)
        refine ⟨d, 1, _, _, ?_, outR_app (ob := ob) (id := id) (ver := ver) (q := nx + 2) (d := d) (nx' := nx + 5) (by omega) (.row 1 [[AV.int .i64 (d : Int)]] 0), h1, by omega, h3⟩
        simp only [go_sem, Fn.ambleref01_minus_L0, hlt, gd, w1, g2, ge, w2, e2, e3, add1, wk, okSz, ROOM, Nat.reduceBEq, hrow, hl8, intE_snoc, z1]
  · have hey : es.getD i 0 = 0 := by rw [List.getD, List.getElem?_eq_none (by omega)]; rfl
    rw [hey] at h3 h4 h5 hy ⊢
    have g2 : (((i : Nat) : Int) < ((es.length : Nat) : Int)) = False := by simp; omega
    have w1 : IntKind.i64.wrap ((xd : Int) - (b : Int)) = (xd : Int) - (b : Int) - ((0 : Nat) : Int) := by rw [wrap_i64 (by omega)]; omega
    rcases hb' with rfl | rfl
    · have w1 := w1.trans (h4 rfl)
      rcases hO with ⟨rfl, rfl⟩ | ⟨id, ver, rfl, hid, hlt'⟩
      · refine ⟨d, 0, _, _, ?_, outR_new ob (nx + 2) (nx + 3) d _ (by omega) (.row 1 [[AV.int .i64 (d : Int)]] 0), h1, by omega, h3⟩
        simp only [go_sem, Fn.ambleref01_minus_L0, hlt, gd, w1, g2, dn, add1, wk, okSz, ROOM, Nat.reduceBEq, z0]
      · have hl8 : (o.length + 1) * 8 ≤ 140737488355328 := by omega
        have hrow := rowAt_other hid (show id ≠ nx + 2 by omega) (.row 1 [[AV.int .i64 (d : Int)]] 0)
        refine ⟨d, 0, _, _, ?_, outR_app (ob := ob) (id := id) (ver := ver) (q := nx + 2) (d := d) (nx' := nx + 5) (by omega) (.row 1 [[AV.int .i64 (d : Int)]] 0), h1, by omega, h3⟩
        simp only [go_sem, Fn.ambleref01_minus_L0, hlt, gd, w1, g2, dn, add1, wk, okSz, ROOM, Nat.reduceBEq, hrow, hl8, intE_snoc, z0]
    · obtain ⟨z, e1, e2, e3⟩ := h5 rfl
      have w1 := w1.trans e1
      rcases hO with ⟨rfl, rfl⟩ | ⟨id, ver, rfl, hid, hlt'⟩
      · refine ⟨d, 1, _, _, ?_, outR_new ob (nx + 2) (nx + 3) d _ (by omega) (.row 1 [[AV.int .i64 (d : Int)]] 0), h1, by omega, h3⟩
        simp only [go_sem, Fn.ambleref01_minus_L0, hlt, gd, w1, g2, e2, e3, add1, wk, okSz, ROOM, Nat.reduceBEq, z1]
      · have hl8 : (o.length + 1) * 8 ≤ 140737488355328 := by omega
        have hrow := rowAt_other hid (show id ≠ nx + 2 by omega) (.row 1 [[AV.int .i64 (d : Int)]] 0)
        refine ⟨d, 1, _, _, ?_, outR_app (ob := ob) (id := id) (ver := ver) (q := nx + 2) (d := d) (nx' := nx + 5) (by omega) (.row 1 [[AV.int .i64 (d : Int)]] 0), h1, by omega, h3⟩
        simp only [go_sem, Fn.ambleref01_minus_L0, hlt, gd, w1, g2, e2, e3, add1, wk, okSz, ROOM, Nat.reduceBEq, hrow, hl8, intE_snoc, z1]
theorem minus_loop (ds es : List Nat) (hs : ds.length < 2 ^ 40) (hd : ∀ d ∈ ds, d < BT) (he : ∀ d ∈ es, d < BT) : ∀ (m i : Nat), i + m = ds.length → ∀ (ob : Nat → Option AObj) (nx b : Nat) (o : List Nat) (x : AV) (X : List (Nat × SV)), b ≤ 1 → o.length = i → (∀ d ∈ o, d < BT) → OutR ob nx x o → val BT o + val BT (es.take i) = val BT (ds.take i) + BT ^ i * b → ∀ N, m < N →
    ∃ (o' : List Nat) (x' : AV) (ob' : Nat → Option AObj) (nx' b' : Nat) (X' : List (Nat × SV)), loopN (evC F fuel Fn.ambleref01_minus_L0) N ⟨env ((0, .one (.sl false (intE ds))) :: (1, .one (.sl false (intE es))) :: (5, .one x) :: (6, .one (.int .i64 (b : Int))) :: (7, .one (.int .i64 (i : Int))) :: X), ob, fz, nx⟩ =
      some (.ext 0, ⟨env ((0, .one (.sl false (intE ds))) :: (1, .one (.sl false (intE es))) :: (5, .one x') :: X'), ob', fz, nx'⟩) ∧ OutR ob' nx' x' o' ∧ (∀ d ∈ o', d < BT) ∧ o'.length = ds.length ∧ b' ≤ 1 ∧ val BT o' + val BT (es.take ds.length) = val BT ds + BT ^ ds.length * b'
  | 0, i, hi, ob, nx, b, o, x, X, hb, hol, hod, hO, hinv, N + 1, hN => by
    have hi' : i = ds.length := by omega
    subst hi'
    rw [List.take_length] at hinv
    refine ⟨o, x, ob, nx, b, [(6, .one (.int .i64 (b : Int))), (7, .one (.int .i64 (ds.length : Int))), (12, .one (.bool false))], round_ext ?_, hO, hod, hol, hb, hinv⟩
    have h1 : (((ds.length : Nat) : Int) < ((ds.length : Nat) : Int)) = False := by simp
    simp only [go_sem, Fn.ambleref01_minus_L0, h1]
  | m + 1, i, hi, ob, nx, b, o, x, X, hb, hol, hod, hO, hinv, N + 1, hN => by
    have hil : i < ds.length := by omega
    obtain ⟨d, b', x', ob', hst, hO', hdl, hb', hdig⟩ := minus_round (F := F) (fuel := fuel) (fz := fz) ds es i b hil hs hd he hb o hol x hO X
    rw [round_nrm hst]
    refine minus_loop ds es hs hd he m (i + 1) (by omega) ob' (nx + 5) b' (o ++ [d]) x' [] hb' (by simp [hol]) ?_ hO' ?_ N (by omega)
    · intro z hz
      rcases List.mem_append.1 hz with h | h
      · exact hod z h
      · simp only [List.mem_cons, List.not_mem_nil, or_false] at h; rw [h]; exact hdl
    · have gd : ds[i]? = some ds[i] := by simp
      have td : ds.take (i + 1) = ds.take i ++ [ds[i]] := by rw [List.take_add_one, gd]; rfl
      have te : val BT (es.take (i + 1)) = val BT (es.take i) + BT ^ i * es.getD i 0 := by
        rw [List.take_add_one, List.getD]
        cases h : es[i]? with
        | none =>
          simp only [Option.toList_none, List.append_nil, Option.getD_none, Nat.mul_zero, Nat.add_zero]
        | some y =>
          have hl : i < es.length := (List.getElem?_eq_some_iff.1 h).1
          rw [Option.toList_some, val_snoc, List.length_take, Nat.min_eq_left (by omega)]
          rfl
      rw [td, te, val_snoc, val_snoc, hol, List.length_take, Nat.min_eq_left (by omega), Nat.pow_succ]
      have e1 : BT ^ i * d + BT ^ i * es.getD i 0 + BT ^ i * b = BT ^ i * ds[i] + BT ^ i * BT * b' := by
        rw [Nat.mul_assoc (BT ^ i) BT, ← Nat.mul_add, ← Nat.mul_add, ← Nat.mul_add, hdig]
        rfl
      omega
end
theorem rminus_run (a b : Nat) (hab : b ≤ a) (ha : dlen BT a < 2 ^ 40) {n : Nat} (hn : dlen BT a + 4 ≤ n) : evV E (n + 1) Id.ambleref01_minus [.one (zD a), .one (zD b)] = some (.one (zD (a - b))) := by
  rw [evV_succ E_ambleref01_minus]
  have hlen : dlen BT b ≤ dlen BT a := dlen_mono BT2 hab
  unfold dlen at ha hn hlen
  obtain ⟨o', x', ob', nx', b', X', hloop, h1, h2, h3, h4, h5⟩ := minus_loop (F := evF E n) (fuel := n) (fz := fz0) (digs BT a) (digs BT b) ha (digs_lt BT2 a) (digs_lt BT2 b) (digs BT a).length 0 (by omega) ob0 0 0 [] .nils [] (by omega) rfl (fun _ h => by simp at h) (.inl ⟨rfl, rfl⟩) (by simp [val]) n (by omega)
  rw [List.take_of_length_le hlen, val_digs BT2, val_digs BT2] at h5
  have hlt := val_lt BT2 o' h2
  rw [h3] at hlt
  have hb0 : b' = 0 := by
    rcases Nat.lt_or_ge b' 1 with h | h
    · omega
    · have : BT ^ (digs BT a).length * 1 ≤ BT ^ (digs BT a).length * b' := Nat.mul_le_mul_left _ h
      omega
  subst hb0
  have hv : val BT o' = a - b := by rw [Nat.mul_zero] at h5; omega
  obtain ⟨fz', htrim⟩ := rtrim_out (n := n) h1 (by omega) h2 (by omega) fz0
  rw [hv] at htrim
  rw [show ((0 : Nat) : Int) = 0 from rfl] at hloop
  unfold zD at htrim ⊢
  simp only [go_sem, Fn.ambleref01_minus, hloop, htrim]
end Go.Ev
namespace Go.Ev
open Go.Dig
theorem frzS_zout {ob : Nat → Option AObj} {nx : Nat} {x : AV} {o : List Nat} (h : OutR ob nx x o) (neg : Bool) (fz : Nat → Nat) : ∃ fz', frzS ob fz (.agg [.bool neg, x]) = some (fz', .agg [.bool neg, .sl false (intE o)]) := by
  obtain ⟨fz', h⟩ := frz_out h fz
  refine ⟨fz', ?_⟩
  simp only [frzS, mapFz, h, show frz ob DEPTH fz (.bool neg) = some (fz, .bool neg) from rfl]
theorem zint_step (z : Int) (h1 : -9223372036854775808 ≤ z) (h2 : z < 9223372036854775808) : ∃ (k z' : Int) (d : Nat), z.tmod 10000 = k ∧ ((k < 0) = (k < 0)) ∧ (if k < 0 then IntKind.i64.wrap (0 - k) else k) = (d : Int) ∧ IntKind.i64.wrap (z.tdiv 10000) = z' ∧ d = z.natAbs % 10000 ∧ z'.natAbs = z.natAbs / 10000 ∧ -9223372036854775808 ≤ z' ∧ z' < 9223372036854775808 := by
  obtain ⟨m, hm⟩ : ∃ m : Nat, m = z.natAbs := ⟨_, rfl⟩
  by_cases hz : z < 0
  · have e : z = -((m : Nat) : Int) := by omega
    have t1 : z.tmod 10000 = -((m % 10000 : Nat) : Int) := by rw [e, Int.neg_tmod, show ((10000 : Int)) = ((10000 : Nat) : Int) from rfl, ← Int.ofNat_tmod]
    have t2 : z.tdiv 10000 = -((m / 10000 : Nat) : Int) := by rw [e, Int.neg_tdiv, show ((10000 : Int)) = ((10000 : Nat) : Int) from rfl, ← Int.ofNat_tdiv]
    have w2 : IntKind.i64.wrap (z.tdiv 10000) = -((m / 10000 : Nat) : Int) := by rw [t2]; exact wrap_i64 (by omega)
    refine ⟨_, _, m % 10000, t1, rfl, ?_, w2, by rw [hm], by rw [hm]; omega, by omega, by omega⟩
    split
    · rw [wrap_i64 (by omega)]; omega
    · omega
  · have e : z = ((m : Nat) : Int) := by omega
    have t1 : z.tmod 10000 = ((m % 10000 : Nat) : Int) := by rw [e, show ((10000 : Int)) = ((10000 : Nat) : Int) from rfl, ← Int.ofNat_tmod]
    have t2 : z.tdiv 10000 = ((m / 10000 : Nat) : Int) := by rw [e, show ((10000 : Int)) = ((10000 : Nat) : Int) from rfl, ← Int.ofNat_tdiv]
    have w2 : IntKind.i64.wrap (z.tdiv 10000) = ((m / 10000 : Nat) : Int) := by rw [t2]; exact wrap_i64 (by omega)
    refine ⟨_, _, m % 10000, t1, rfl, ?_, w2, by rw [hm], by rw [hm]; omega, by omega, by omega⟩
    rw [if_neg (by omega)]
section
variable {F : Caller} {fuel : Nat} {fz : Nat → Nat}
theorem zint_round {ob : Nat → Option AObj} {nx : Nat} (hnx : 2 ≤ nx) (z : Int) (hz : z ≠ 0) (h1 : -9223372036854775808 ≤ z) (h2 : z < 9223372036854775808) (neg : Bool) (o : List Nat) (hol : o.length < 2 ^ 40) (x : AV) (hO : OutR ob nx x o) (hb : ob 1 = some (.box [.bool neg, x])) (hb0 : ob 0 = some (.box [.bool false, .nils])) (X : List (Nat × SV)) : ∃ (z' : Int) (x' : AV) (ob' : Nat → Option AObj),
    evC F fuel Fn.ambleref01_ZInt_L0 ⟨env ((0, .one (.int .i64 z)) :: (2, .one (.box 0 0)) :: (3, .one (.box 1 0)) :: X), ob, fz, nx⟩ =
      some (.nrm, ⟨env [(0, .one (.int .i64 z')), (2, .one (.box 0 0)), (3, .one (.box 1 0))], ob', fz, nx + 7⟩) ∧ OutR ob' (nx + 7) x' (o ++ [z.natAbs % 10000]) ∧ ob' 1 = some (.box [.bool neg, x']) ∧ ob' 0 = some (.box [.bool false, .nils]) ∧ z'.natAbs = z.natAbs / 10000 ∧ -9223372036854775808 ≤ z' ∧ z' < 9223372036854775808 := by
  obtain ⟨k, z', d, e1, _, e3, e4, e5, e6, e7, e8⟩ := zint_step z h1 h2
  rw [← e5]
  have hne : (z != 0) = true := by simp only [bne_iff_ne, ne_eq]; exact hz
  have t0 : ((10000 : Int) = 0) = False := by simp
  have p14 : (1 = nx + 4) = False := by simp only [eq_iff_iff, iff_false]; omega
  have p13 : (1 = nx + 3) = False := by simp only [eq_iff_iff, iff_false]; omega
  rcases hO with ⟨rfl, rfl⟩ | ⟨id, ver, rfl, hid, hlt'⟩
  · have fin : OutR (upd (upd (upd ob (nx + 3) (.row 1 [[AV.int .i64 (d : Int)]] 0)) (nx + 4) (.row 1 [[AV.int .i64 (d : Int)]] 0)) 1 (.box [.bool neg, .rsl (nx + 4) 0 1 0 1 false])) (nx + 7) (.rsl (nx + 4) 0 1 0 1 false) ([] ++ [d]) := by
      refine .inr ⟨nx + 4, 0, rfl, ?_, by omega⟩
      rw [upd_ne (by omega), upd_same]
      rfl
    refine ⟨z', _, _, ?_, fin, upd_same _ _ _, by rw [upd_ne (by omega), upd_ne (by omega), upd_ne (by omega)]; exact hb0, e6, e7, e8⟩
    by_cases hk : k < 0
    · have g : (k < 0) = True := by simp [hk]
      rw [if_pos hk] at e3
      simp only [go_sem, Fn.ambleref01_ZInt_L0, hne, t0, e1, g, e3, e4, hb, p14, p13, okSz, ROOM, Nat.reduceBEq]
    · have g : (k < 0) = False := by simp [hk]
      rw [if_neg hk] at e3
      subst e3
      simp only [go_sem, Fn.ambleref01_ZInt_L0, hne, t0, e1, g, e4, hb, p14, p13, okSz, ROOM, Nat.reduceBEq]
  · have hid1 : id ≠ 1 := fun e => by rw [e, hb] at hid; cases hid
    have hid0 : id ≠ 0 := fun e => by rw [e, hb0] at hid; cases hid
    have p1d : (1 = id) = False := by simp only [eq_iff_iff, iff_false]; omega
    have hl8 : (o.length + 1) * 8 ≤ 140737488355328 := by omega
    have hrow := rowAt_other hid (show id ≠ nx + 3 by omega) (.row 1 [[AV.int .i64 (d : Int)]] 0)
    have fin : OutR (upd (upd (upd ob (nx + 3) (.row 1 [[AV.int .i64 (d : Int)]] 0)) id (.row 1 (intE (o ++ [d])) (ver + 1))) 1 (.box [.bool neg, .rsl id (ver + 1) 1 0 (o.length + 1) false])) (nx + 7) (.rsl id (ver + 1) 1 0 (o.length + 1) false) (o ++ [d]) := by
      refine .inr ⟨id, ver + 1, by simp, ?_, by omega⟩
      rw [upd_ne hid1, upd_same]
    refine ⟨z', _, _, ?_, fin, upd_same _ _ _, by rw [upd_ne (by omega), upd_ne (Ne.symm hid0), upd_ne (by omega)]; exact hb0, e6, e7, e8⟩
    by_cases hk : k < 0
    · have g : (k < 0) = True := by simp [hk]
      rw [if_pos hk] at e3
      simp only [go_sem, Fn.ambleref01_ZInt_L0, hne, t0, e1, g, e3, e4, hb, p1d, p13, okSz, ROOM, Nat.reduceBEq, hrow, hl8, intE_snoc]
    · have g : (k < 0) = False := by simp [hk]
      rw [if_neg hk] at e3
      subst e3
      simp only [go_sem, Fn.ambleref01_ZInt_L0, hne, t0, e1, g, e4, hb, p1d, p13, okSz, ROOM, Nat.reduceBEq, hrow, hl8, intE_snoc]
theorem zint_loop (neg : Bool) : ∀ (m : Nat) (z : Int) (ob : Nat → Option AObj) (nx : Nat) (o : List Nat) (x : AV) (X : List (Nat × SV)), z.natAbs < BT ^ m → 2 ≤ nx → -9223372036854775808 ≤ z → z < 9223372036854775808 → o.length + m < 2 ^ 40 → OutR ob nx x o → ob 1 = some (.box [.bool neg, x]) → ob 0 = some (.box [.bool false, .nils]) → ∀ N, m < N →
    ∃ (x' : AV) (ob' : Nat → Option AObj) (nx' : Nat) (X' : List (Nat × SV)), loopN (evC F fuel Fn.ambleref01_ZInt_L0) N ⟨env ((0, .one (.int .i64 z)) :: (2, .one (.box 0 0)) :: (3, .one (.box 1 0)) :: X), ob, fz, nx⟩ =
      some (.ext 0, ⟨env ((2, .one (.box 0 0)) :: (3, .one (.box 1 0)) :: X'), ob', fz, nx'⟩) ∧ OutR ob' nx' x' (o ++ digs BT z.natAbs) ∧ ob' 1 = some (.box [.bool neg, x']) ∧ ob' 0 = some (.box [.bool false, .nils]) := by
  intro m
  induction m with
  | zero =>
    intro z ob nx o x X hm hnx h1 h2 hol hO hb hb0 N hN
    have hz : z = 0 := by rw [Nat.pow_zero] at hm; omega
    subst hz
    obtain ⟨M, rfl⟩ : ∃ M, N = M + 1 := ⟨N - 1, by omega⟩
    refine ⟨x, ob, nx, [(0, .one (.int .i64 0)), (9, .one (.bool false))], ?_, by rw [show (0 : Int).natAbs = 0 from rfl, digs_zero, List.append_nil]; exact hO, hb, hb0⟩
    have e : env ((2, SV.one (.box 0 0)) :: (3, .one (.box 1 0)) :: [(0, .one (.int .i64 0)), (9, .one (.bool false))]) = env [(0, .one (.int .i64 0)), (2, .one (.box 0 0)), (3, .one (.box 1 0)), (9, .one (.bool false))] := by
      funext j
      simp only [env_cons]
      by_cases h0 : 0 = j
      · subst h0; rfl
      · by_cases h2 : 2 = j
        · subst h2; rfl
        · by_cases h3 : 3 = j
          · subst h3; rfl
          · simp only [h0, h2, h3, if_false]
    rw [e]
    refine round_ext ?_
    have hne : ((0 : Int) != 0) = false := rfl
    simp only [go_sem, Fn.ambleref01_ZInt_L0, hne]
  | succ m ih =>
    intro z ob nx o x X hm hnx h1 h2 hol hO hb hb0 N hN
    obtain ⟨M, rfl⟩ : ∃ M, N = M + 1 := ⟨N - 1, by omega⟩
    by_cases hz : z = 0
    · exact ih z ob nx o x X (by rw [hz]; exact Nat.pow_pos (by decide)) hnx h1 h2 (by omega) hO hb hb0 (M + 1) (by omega)
    · obtain ⟨z', x', ob', hst, a1, a2, a3, a4, a5, a6⟩ := zint_round (F := F) (fuel := fuel) (fz := fz) hnx z hz h1 h2 neg o (by omega) x hO hb hb0 X
      have hz' : z'.natAbs < BT ^ m := by
        rw [a4]
        rw [Nat.pow_succ] at hm
        exact Nat.div_lt_of_lt_mul (by rw [Nat.mul_comm]; exact hm)
      obtain ⟨x2, ob2, nx2, X2, hl, b1, b2, b3⟩ := ih z' ob' (nx + 7) (o ++ [z.natAbs % 10000]) x' [] hz' (by omega) a5 a6 (by simp; omega) a1 a2 a3 M (by omega)
      refine ⟨x2, ob2, nx2, X2, by rw [round_nrm hst]; exact hl, ?_, b2, b3⟩
      rw [digs_pos BT2 (show z.natAbs ≠ 0 by omega)]
      rw [a4, List.append_assoc] at b1
      exact b1
end
theorem zint_run (z : Int) (h1 : -9223372036854775808 ≤ z) (h2 : z < 9223372036854775808) {n : Nat} (hn : 8 ≤ n) : evV E (n + 1) Id.ambleref01_ZInt [.one (.int .i64 z)] = some (sV z) := by
  rw [evV_succ E_ambleref01_ZInt]
  have hm : z.natAbs < BT ^ 5 := by
    have : (10000000000000000000 : Nat) ≤ BT ^ 5 := by decide
    omega
  obtain ⟨x', ob', nx', X', hloop, b1, b2, b3⟩ := zint_loop (F := evF E n) (fuel := n) (fz := fz0) (decide (z < 0)) 5 z (upd (upd ob0 0 (.box [.bool false, .nils])) 1 (.box [.bool (decide (z < 0)), .nils])) 2 [] .nils [] hm (by omega) h1 h2 (by decide) (.inl ⟨rfl, rfl⟩) rfl rfl n (by omega)
  rw [List.nil_append] at b1
  have b1' : OutR (upd ob' 0 (.box [.bool (decide (z < 0)), x'])) nx' x' (digs BT z.natAbs) := by
    rcases b1 with ⟨e1, e2⟩ | ⟨id, ver, e1, e2, e3⟩
    · exact .inl ⟨e1, e2⟩
    · refine .inr ⟨id, ver, e1, ?_, e3⟩
      rw [upd_ne (fun e => by rw [e, b3] at e2; cases e2)]
      exact e2
  obtain ⟨fz', hfr⟩ := frzS_zout b1' (decide (z < 0)) fz0
  unfold sV zC zD
  simp only [go_sem, Fn.ambleref01_ZInt, hloop, b2, b3, hfr]
end Go.Ev
namespace Go.Ev
open Go.Dig
theorem tmodT (x : Nat) : ((x : Int)).tmod 10000 = ((x % 10000 : Nat) : Int) := by
  rw [show ((10000 : Int)) = ((10000 : Nat) : Int) from rfl, ← Int.ofNat_tmod]
theorem tdivT (x : Nat) (h : x < 9223372036854775808) : IntKind.i64.wrap ((x : Int).tdiv 10000) = ((x / 10000 : Nat) : Int) := by
  rw [show ((10000 : Int)) = ((10000 : Nat) : Int) from rfl, ← Int.ofNat_tdiv]
  exact wi64 (by omega)
theorem times_step (u c x y : Nat) (hu : u < 10000) (hc : c < 10000) (hx : x < 10000) (hy : y < 10000) : ∃ s p t r q : Nat, IntKind.i64.wrap ((u : Int) + (c : Int)) = (s : Int) ∧ IntKind.i64.wrap ((x : Int) * (y : Int)) = (p : Int) ∧ IntKind.i64.wrap ((s : Int) + (p : Int)) = (t : Int) ∧ ((t : Int)).tmod 10000 = (r : Int) ∧ IntKind.i64.wrap ((t : Int).tdiv 10000) = (q : Int) ∧
    r < 10000 ∧ q < 10000 ∧ r + 10000 * q = u + c + x * y := by
  have hp : x * y ≤ 9999 * 9999 := Nat.mul_le_mul (by omega) (by omega)
  refine ⟨u + c, x * y, u + c + x * y, (u + c + x * y) % 10000, (u + c + x * y) / 10000, addi64 _ _ (by omega), ?_, addi64 _ _ (by omega), tmodT _, tdivT _ (by omega), Nat.mod_lt _ (by decide), by omega, by omega⟩
  rw [← Int.natCast_mul]
  exact wi64 (by omega)
section
variable {F : Caller} {fuel : Nat} {ob : Nat → Option AObj} {fz : Nat → Nat} {nx : Nat}
theorem rtimes_inner {id T i x : Nat} (hfz : fz id = 0) (ds es : List Nat) (hxi : ds[i]? = some x) (hT : T < 2 ^ 60) (hx : x < BT) (he : ∀ d ∈ es, d < BT) (hi : i + es.length < T) (V : Nat) : ∀ (m k : Nat), k + m = es.length → ∀ (o : List Nat) (c : Nat) (X : List (Nat × SV)), o.length = T → (∀ d ∈ o, d < BT) → c < BT → o[i + es.length]? = some 0 →
    val BT o + BT ^ (i + k) * c = V + BT ^ i * (x * val BT (es.take k)) → ∀ N, m + 1 < N → ∃ (o' : List Nat) (X' : List (Nat × SV)),
    loopN (evC F fuel Fn.ambleref01_times_L0) N ⟨env ((0, .one (.sl false (intE ds))) :: (1, .one (.sl false (intE es))) :: (5, .one (.rsl id 0 1 0 T false)) :: (6, .one (.int .i64 (i : Int))) :: (7, .one (.int .i64 (c : Int))) :: (8, .one (.int .i64 (k : Int))) :: X), upd ob id (.row 1 (intE o) 0), fz, nx⟩ =
      some (.ext 2, ⟨env ((0, .one (.sl false (intE ds))) :: (1, .one (.sl false (intE es))) :: (5, .one (.rsl id 0 1 0 T false)) :: (6, .one (.int .i64 (i : Int))) :: X'), upd ob id (.row 1 (intE o') 0), fz, nx⟩) ∧
      o'.length = T ∧ (∀ d ∈ o', d < BT) ∧ val BT o' = V + BT ^ i * (x * val BT es) ∧ ∀ j, i + es.length < j → o'[j]? = o[j]?
  | 0, k, hk, o, c, X, ho, hod, hc, hz, hinv, N, hN => by
    have hk' : k = es.length := by omega
    subst hk'
    rw [List.take_length] at hinv
    obtain ⟨M, rfl⟩ : ∃ M, N = M + 2 := ⟨N - 2, by omega⟩
    have h1 : (((es.length : Nat) : Int) < ((es.length : Nat) : Int)) = False := by simp
    have h1' : (((es.length + 1 : Nat) : Int) < ((es.length : Nat) : Int)) = False := by simp only [eq_iff_iff, iff_false]; omega
    by_cases hc0 : c = 0
    · subst hc0
      have g : (((0 : Nat) : Int) > 0) = False := by simp
      refine ⟨o, [(7, .one (.int .i64 ((0 : Nat) : Int))), (8, .one (.int .i64 (es.length : Int))), (29, .one (.bool false))], round_ext ?_, ho, hod, by rw [Nat.mul_zero, Nat.add_zero] at hinv; exact hinv, fun _ _ => rfl⟩
      simp only [go_sem, Fn.ambleref01_times_L0, h1, g]
    · have g : (((c : Nat) : Int) > 0) = True := by simp; omega
      have g0 : (((0 : Nat) : Int) > 0) = False := by simp
      have t0 : ((10000 : Int) = 0) = False := by simp
      have wi : IntKind.i64.wrap ((i : Int) + (es.length : Int)) = ((i + es.length : Nat) : Int) := addi64 _ _ (by omega)
      have ws : IntKind.i64.wrap (((0 : Nat) : Int) + (c : Int)) = (c : Int) := by rw [addi64 _ _ (by unfold BT at hc; omega), Nat.zero_add]
      have wr : ((c : Int)).tmod 10000 = (c : Int) := by rw [tmodT, Nat.mod_eq_of_lt (show c < 10000 from hc)]
      have wq : IntKind.i64.wrap ((c : Int).tdiv 10000) = ((0 : Nat) : Int) := by rw [tdivT _ (by unfold BT at hc; omega), Nat.div_eq_of_lt (show c < 10000 from hc)]
      have wk : IntKind.i64.wrap ((es.length + 1 : Nat) : Int) = ((es.length + 1 : Nat) : Int) := wi64 (by omega)
      have hst : evC F fuel Fn.ambleref01_times_L0 ⟨env ((0, .one (.sl false (intE ds))) :: (1, .one (.sl false (intE es))) :: (5, .one (.rsl id 0 1 0 T false)) :: (6, .one (.int .i64 (i : Int))) :: (7, .one (.int .i64 (c : Int))) :: (8, .one (.int .i64 (es.length : Int))) :: X), upd ob id (.row 1 (intE o) 0), fz, nx⟩ =
          some (.nrm, ⟨env [(0, .one (.sl false (intE ds))), (1, .one (.sl false (intE es))), (5, .one (.rsl id 0 1 0 T false)), (6, .one (.int .i64 (i : Int))), (7, .one (.int .i64 ((0 : Nat) : Int))), (8, .one (.int .i64 ((es.length + 1 : Nat) : Int)))], upd ob id (.row 1 (intE (o.set (i + es.length) c)) 0), fz, nx⟩) := by
        simp only [go_sem, Fn.ambleref01_times_L0, h1, g, wi, hi, hz, ws, wr, wq, t0, hfz, add1, wk]
      refine ⟨o.set (i + es.length) c, [(7, .one (.int .i64 ((0 : Nat) : Int))), (8, .one (.int .i64 ((es.length + 1 : Nat) : Int))), (29, .one (.bool false))], ?_, by simp [ho], ?_, ?_, ?_⟩
      · rw [round_nrm hst]
        refine round_ext ?_
        simp only [go_sem, Fn.ambleref01_times_L0, h1', g0]
      · intro d hd
        rcases List.mem_or_eq_of_mem_set hd with h | h
        · exact hod d h
        · rw [h]; exact hc
      · have hset := val_set BT o (i + es.length) c 0 hz
        rw [Nat.mul_zero, Nat.add_zero] at hset
        rw [hset, hinv]
      · intro j hj
        rw [List.getElem?_set_ne (by omega)]
  | m + 1, k, hk, o, c, X, ho, hod, hc, hz, hinv, N, hN => by
    obtain ⟨M, rfl⟩ : ∃ M, N = M + 1 := ⟨N - 1, by omega⟩
    have hke : k < es.length := by omega
    have hio : i + k < o.length := by omega
    have hikT : i + k < T := by omega
    have ge : es[k]? = some es[k] := by simp
    have go' : o[i + k]? = some o[i + k] := by simp
    obtain ⟨s, p, t, r, q, s1, s2, s3, s4, s5, s6, s7, s8⟩ := times_step o[i + k] c x es[k] (hod _ (by simp)) hc hx (he _ (by simp))
    have h1 : (((k : Nat) : Int) < ((es.length : Nat) : Int)) = True := by simp; omega
    have t0 : ((10000 : Int) = 0) = False := by simp
    have wi : IntKind.i64.wrap ((i : Int) + (k : Int)) = ((i + k : Nat) : Int) := addi64 _ _ (by omega)
    have wk : IntKind.i64.wrap ((k + 1 : Nat) : Int) = ((k + 1 : Nat) : Int) := wi64 (by omega)
    have hst : evC F fuel Fn.ambleref01_times_L0 ⟨env ((0, .one (.sl false (intE ds))) :: (1, .one (.sl false (intE es))) :: (5, .one (.rsl id 0 1 0 T false)) :: (6, .one (.int .i64 (i : Int))) :: (7, .one (.int .i64 (c : Int))) :: (8, .one (.int .i64 (k : Int))) :: X), upd ob id (.row 1 (intE o) 0), fz, nx⟩ =
        some (.nrm, ⟨env [(0, .one (.sl false (intE ds))), (1, .one (.sl false (intE es))), (5, .one (.rsl id 0 1 0 T false)), (6, .one (.int .i64 (i : Int))), (7, .one (.int .i64 (q : Int))), (8, .one (.int .i64 ((k + 1 : Nat) : Int)))], upd ob id (.row 1 (intE (o.set (i + k) r)) 0), fz, nx⟩) := by
      simp only [go_sem, Fn.ambleref01_times_L0, h1, wi, hikT, go', s1, hxi, ge, s2, s3, s4, s5, t0, hfz, add1, wk]
    have hset := val_set BT o (i + k) r o[i + k] go'
    obtain ⟨o', X', hl, a1, a2, a3, a4⟩ := rtimes_inner hfz ds es hxi hT hx he hi V m (k + 1) (by omega) (o.set (i + k) r) q [] (by simp [ho]) (by
      intro d hd
      rcases List.mem_or_eq_of_mem_set hd with h | h
      · exact hod d h
      · rw [h]; exact s6) s7 (by rw [List.getElem?_set_ne (by omega)]; exact hz) (by
      have te : es.take (k + 1) = es.take k ++ [es[k]] := by rw [List.take_add_one, ge]; rfl
      rw [te, val_snoc, List.length_take, Nat.min_eq_left (by omega), ← Nat.add_assoc, Nat.pow_succ, Nat.mul_add, Nat.mul_add]
      have e1 : BT ^ (i + k) * r + BT ^ (i + k) * BT * q = BT ^ (i + k) * o[i + k] + BT ^ (i + k) * c + BT ^ (i + k) * (x * es[k]) := by
        rw [Nat.mul_assoc (BT ^ (i + k)) BT, ← Nat.mul_add, ← Nat.mul_add, ← Nat.mul_add, show BT * q = 10000 * q from rfl, s8]
      have e2 : BT ^ i * (x * (BT ^ k * es[k])) = BT ^ (i + k) * (x * es[k]) := by
        rw [Nat.pow_add, Nat.mul_left_comm x, ← Nat.mul_assoc]
      rw [e2]
      omega) M (by omega)
    refine ⟨o', X', by rw [round_nrm hst]; exact hl, a1, a2, a3, fun j hj => ?_⟩
    rw [a4 j hj, List.getElem?_set_ne (by omega)]
theorem rtimes_outer {id T : Nat} (hfz : fz id = 0) (ds es : List Nat) (hTe : T = ds.length + es.length) (hT : T < 2 ^ 60) (hd : ∀ d ∈ ds, d < BT) (he : ∀ d ∈ es, d < BT) (hfuel : es.length + 1 < fuel) : ∀ (m i : Nat), i + m = ds.length → ∀ (o : List Nat) (X : List (Nat × SV)), o.length = T → (∀ d ∈ o, d < BT) →
    val BT o = val BT (ds.take i) * val BT es → (∀ j, i + es.length ≤ j → j < T → o[j]? = some 0) → ∀ N, m < N → ∃ (o' : List Nat) (X' : List (Nat × SV)),
    loopN (evC F fuel Fn.ambleref01_times_L1) N ⟨env ((0, .one (.sl false (intE ds))) :: (1, .one (.sl false (intE es))) :: (5, .one (.rsl id 0 1 0 T false)) :: (6, .one (.int .i64 (i : Int))) :: X), upd ob id (.row 1 (intE o) 0), fz, nx⟩ =
      some (.ext 0, ⟨env ((0, .one (.sl false (intE ds))) :: (1, .one (.sl false (intE es))) :: (5, .one (.rsl id 0 1 0 T false)) :: X'), upd ob id (.row 1 (intE o') 0), fz, nx⟩) ∧ o'.length = T ∧ (∀ d ∈ o', d < BT) ∧ val BT o' = val BT ds * val BT es
  | 0, i, hi, o, X, ho, hod, hinv, hz, N + 1, hN => by
    have hi' : i = ds.length := by omega
    subst hi'
    rw [List.take_length] at hinv
    refine ⟨o, [(6, .one (.int .i64 (ds.length : Int))), (19, .one (.bool false))], round_ext ?_, ho, hod, hinv⟩
    have h1 : (((ds.length : Nat) : Int) < ((ds.length : Nat) : Int)) = False := by simp
    simp only [go_sem, Fn.ambleref01_times_L1, h1]
  | m + 1, i, hi, o, X, ho, hod, hinv, hz, N + 1, hN => by
    have hil : i < ds.length := by omega
    have gd : ds[i]? = some ds[i] := by simp
    obtain ⟨o1, X1, a1, a2, a3, a4, a5⟩ := rtimes_inner (F := F) (fuel := fuel) (ob := ob) (nx := nx) (id := id) (T := T) (i := i) (x := ds[i]) hfz ds es gd hT (hd _ (by simp)) he (by omega) (val BT o) es.length 0 (by omega) o 0 [] ho hod (by decide) (hz _ (Nat.le_refl _) (by omega)) (by simp [val]) fuel hfuel
    rw [show ((0 : Nat) : Int) = 0 from rfl] at a1
    have h1 : (((i : Nat) : Int) < ((ds.length : Nat) : Int)) = True := by simp; omega
    have wk : IntKind.i64.wrap ((i + 1 : Nat) : Int) = ((i + 1 : Nat) : Int) := wi64 (by omega)
    have hst : evC F fuel Fn.ambleref01_times_L1 ⟨env ((0, .one (.sl false (intE ds))) :: (1, .one (.sl false (intE es))) :: (5, .one (.rsl id 0 1 0 T false)) :: (6, .one (.int .i64 (i : Int))) :: X), upd ob id (.row 1 (intE o) 0), fz, nx⟩ =
        some (.nrm, ⟨env [(0, .one (.sl false (intE ds))), (1, .one (.sl false (intE es))), (5, .one (.rsl id 0 1 0 T false)), (6, .one (.int .i64 ((i + 1 : Nat) : Int)))], upd ob id (.row 1 (intE o1) 0), fz, nx⟩) := by
      simp only [go_sem, Fn.ambleref01_times_L1, h1, a1, add1, wk]
    rw [round_nrm hst]
    refine rtimes_outer hfz ds es hTe hT hd he hfuel m (i + 1) (by omega) o1 [] a2 a3 ?_ ?_ N (by omega)
    · have td : ds.take (i + 1) = ds.take i ++ [ds[i]] := by rw [List.take_add_one, gd]; rfl
      rw [td, val_snoc, List.length_take, Nat.min_eq_left (by omega), Nat.add_mul, ← hinv, Nat.mul_assoc, a4]
    · intro j hj hjT
      rw [a5 j (by omega)]
      exact hz j (by omega) hjT
end
theorem rtimes_run (a b : Nat) (ha : dlen BT a < 2 ^ 40) (hb : dlen BT b < 2 ^ 40) {n : Nat} (hn : dlen BT a + dlen BT b + 6 ≤ n) : evV E (n + 1) Id.ambleref01_times [.one (zD a), .one (zD b)] = some (.one (zD (a * b))) := by
  rw [evV_succ E_ambleref01_times]
  unfold dlen at ha hb hn
  have zrep : ∀ k, val BT (List.replicate k 0) = 0 := by
    intro k
    induction k with
    | zero => rfl
    | succ k ih => rw [List.replicate_succ, val, ih, Nat.mul_zero]
  obtain ⟨o', X', hloop, h2, h3, h4⟩ := rtimes_outer (F := evF E n) (fuel := n) (ob := ob0) (fz := fz0) (nx := 7) (id := 5) (T := (digs BT a).length + (digs BT b).length) rfl (digs BT a) (digs BT b) rfl (by omega) (digs_lt BT2 a) (digs_lt BT2 b) (by omega)
    (digs BT a).length 0 (by omega) (List.replicate ((digs BT a).length + (digs BT b).length) 0) [] (by simp) (fun d hd => by rw [(List.mem_replicate.1 hd).2]; decide) (by rw [zrep, List.take_zero, val, Nat.zero_mul]) (fun j _ hj => by simp [hj]) n (by omega)
  rw [val_digs BT2, val_digs BT2] at h4
  rw [show ((0 : Nat) : Int) = 0 from rfl] at hloop
  have hnr := rtrim_row (n := n) (id := 5) (ver := 0) (full := false) (ob := upd ob0 5 (.row 1 (intE o') 0)) (fz := fz0) o' (by rw [h2]; omega) h3 (by rw [h2]; omega) rowAt_upd
  rw [h4, h2] at hnr
  unfold zD at hnr
  have wl : IntKind.i64.wrap (((digs BT a).length + (digs BT b).length : Nat) : Int) = (((digs BT a).length + (digs BT b).length : Nat) : Int) := wi64 (by omega)
  have l2 : (digs BT a).length + (digs BT b).length ≤ 9223372036854775807 := by omega
  have l3 : 8 * ((digs BT a).length + (digs BT b).length) ≤ 281474976710656 := by omega
  unfold zD
  simp only [go_sem, Fn.ambleref01_times, ← Int.natCast_add, wl, l2, l3, intE_rep, hloop, hnr]
end Go.Ev
namespace Go.Ev
open Go.Dig
theorem drop_div {B : Nat} (hB : 2 ≤ B) (x fr : Nat) (hf : fr ≤ dlen B x) : val B ((digs B x).drop fr) = x / B ^ fr := by
  have h := val_split B (digs B x) fr hf
  rw [val_digs hB] at h
  have hl := val_lt hB ((digs B x).take fr) (fun d hd => digs_lt hB x d (List.mem_of_mem_take hd))
  rw [List.length_take, Nat.min_eq_left (show fr ≤ (digs B x).length from hf)] at hl
  have hp : 0 < B ^ fr := Nat.pow_pos (by omega)
  conv => rhs; rw [h]
  rw [Nat.add_mul_div_left _ _ hp, Nat.div_eq_of_lt hl, Nat.zero_add]
theorem guess_le (R b w : Nat) (hb : 0 < b) (hw : 0 < w) : R / w / (b / w + 1) ≤ R / b := by
  rw [Nat.le_div_iff_mul_le hb]
  have h1 : b < (b / w + 1) * w := by
    have := Nat.div_add_mod b w
    have h2 := Nat.mod_lt b hw
    rw [Nat.add_mul, Nat.one_mul, Nat.mul_comm]
    omega
  calc R / w / (b / w + 1) * b ≤ R / w / (b / w + 1) * ((b / w + 1) * w) := Nat.mul_le_mul_left _ (Nat.le_of_lt h1)
    _ = R / w / (b / w + 1) * (b / w + 1) * w := (Nat.mul_assoc _ _ _).symm
    _ ≤ R / w * w := Nat.mul_le_mul_right _ (Nat.div_mul_le_self _ _)
    _ ≤ R := Nat.div_mul_le_self _ _
section
variable {ob : Nat → Option AObj} {fz : Nat → Nat} {nx : Nat}
theorem over_inner {n : Nat} (b : Nat) (hb : 0 < b) (x0 x7 x8 : SV) : ∀ (r k : Nat) (X : List (Nat × SV)), dlen BT r < 2 ^ 40 → dlen BT r + 6 ≤ n → k + r / b < 100000 → ∀ N, r / b < N → ∃ X',
    loopN (evC (evF E (n + 1)) (n + 1) Fn.ambleref01_over_L0) N ⟨env ((0, x0) :: (1, .one (zD b)) :: (6, .one (zD r)) :: (7, x7) :: (8, x8) :: (9, .one (.int .i64 (k : Int))) :: X), ob, fz, nx⟩ =
      some (.ext 2, ⟨env ((0, x0) :: (1, .one (zD b)) :: (6, .one (zD (r % b))) :: (7, x7) :: (8, x8) :: (9, .one (.int .i64 ((k + r / b : Nat) : Int))) :: X'), ob, fz, nx⟩) := by
  intro r
  induction r using Nat.strongRecOn with
  | _ r ih =>
    intro k X hd hn hk N hN
    obtain ⟨M, rfl⟩ : ∃ M, N = M + 1 := ⟨N - 1, (Nat.sub_add_cancel (Nat.lt_of_le_of_lt (Nat.zero_le _) hN)).symm⟩
    have habs := callV_can (rabs_run r b (by omega) (n := n) (by omega)) (can2 (canS_d _) (canS_d _)) ob fz
    by_cases hlt : r < b
    · have hc : (cmpI r b ≥ 0) = False := by
        simp only [cmpI, if_pos hlt, eq_iff_iff, iff_false]; decide
      refine ⟨[(63, .one (.bool false))], round_ext ?_⟩
      rw [Nat.mod_eq_of_lt hlt, Nat.div_eq_of_lt hlt, Nat.add_zero]
      simp only [go_sem, Fn.ambleref01_over_L0, habs, hc]
    · have hle : b ≤ r := by omega
      have hc : (cmpI r b ≥ 0) = True := by
        simp only [cmpI, if_neg hlt, eq_iff_iff, iff_true]
        split <;> decide
      have hmin := callV_can (rminus_run r b hle hd (n := n) (by omega)) (can2 (canS_d _) (canS_d _)) ob fz
      have e1 : r / b = (r - b) / b + 1 := Nat.div_eq_sub_div hb hle
      have e2 : r % b = (r - b) % b := Nat.mod_eq_sub_mod hle
      obtain ⟨q, hq⟩ : ∃ q, q = (r - b) / b := ⟨_, rfl⟩
      rw [e1, ← hq] at hk hN
      have wk : IntKind.i64.wrap ((k + 1 : Nat) : Int) = ((k + 1 : Nat) : Int) := wi64 (by omega)
      have hst : evC (evF E (n + 1)) (n + 1) Fn.ambleref01_over_L0 ⟨env ((0, x0) :: (1, .one (zD b)) :: (6, .one (zD r)) :: (7, x7) :: (8, x8) :: (9, .one (.int .i64 (k : Int))) :: X), ob, fz, nx⟩ =
          some (.nrm, ⟨env [(0, x0), (1, .one (zD b)), (6, .one (zD (r - b))), (7, x7), (8, x8), (9, .one (.int .i64 ((k + 1 : Nat) : Int)))], ob, fz, nx⟩) := by
        simp only [go_sem, Fn.ambleref01_over_L0, habs, hc, hmin, add1, wk]
      have hdl : dlen BT (r - b) ≤ dlen BT r := dlen_mono BT2 (Nat.sub_le _ _)
      obtain ⟨X', h⟩ := ih (r - b) (by omega) (k + 1) [] (by omega) (by omega) (by rw [← hq]; omega) M (by rw [← hq]; omega)
      refine ⟨X', ?_⟩
      rw [round_nrm hst, h, e1, e2, ← hq, show k + 1 + q = k + (q + 1) by omega]
end
def oA : ACode := match Fn.ambleref01_over_L1 with | .seq a _ => a | _ => .skip
def oB : ACode := match Fn.ambleref01_over_L1 with | .seq _ (.seq (.block _ (.seq b _)) _) => b | _ => .skip
def oC : ACode := match Fn.ambleref01_over_L1 with | .seq _ (.seq (.block _ (.seq _ (.seq c _))) _) => c | _ => .skip
def oG : ACode := match Fn.ambleref01_over_L1 with | .seq _ (.seq (.block _ (.seq _ (.seq _ (.seq g _)))) _) => g | _ => .skip
def oM : ACode := match Fn.ambleref01_over_L1 with | .seq _ (.seq (.block _ (.seq _ (.seq _ (.seq _ (.seq m _))))) _) => m | _ => .skip
def oS : ACode := match Fn.ambleref01_over_L1 with | .seq _ (.seq (.block _ (.seq _ (.seq _ (.seq _ (.seq _ (.seq _ s)))))) _) => s | _ => .skip
def oI : ACode := match Fn.ambleref01_over_L1 with | .seq _ (.seq _ i) => i | _ => .skip
theorem over_L1_eq : Fn.ambleref01_over_L1 = .seq oA (.seq (.block 1 (.seq oB (.seq oC (.seq oG (.seq oM (.seq (.block 2 (.loop Fn.ambleref01_over_L0)) oS)))))) oI) := rfl
theorem over_guess (n R b : Nat) (hb : 0 < b) (hRq : R / b < BT) (hRl : dlen BT R ≤ dlen BT b + 1) (hbl : dlen BT b < 2 ^ 39) (hn : 2 * dlen BT b + 200000 ≤ n) : ∃ k : Nat, k ≤ R / b ∧ ∀ (ob : Nat → Option AObj) (fz : Nat → Nat) (nx : Nat) (X : List (Nat × SV)) (x0 x7 x8 : SV), ∃ X2, evC (evF E (n + 1)) (n + 1) oG
    ⟨env ((0, x0) :: (1, .one (zD b)) :: (6, .one (zD R)) :: (7, x7) :: (8, x8) :: (9, .one (.int .i64 0)) :: X), ob, fz, nx⟩ = some (.nrm, ⟨env ((0, x0) :: (1, .one (zD b)) :: (6, .one (zD R)) :: (7, x7) :: (8, x8) :: (9, .one (.int .i64 (k : Int))) :: X2), ob, fz, nx⟩) := by
  unfold oG Fn.ambleref01_over_L1
  by_cases h3 : dlen BT b ≤ 3
  · refine ⟨R / b, Nat.le_refl _, fun ob fz nx X x0 x7 x8 => ⟨[], ?_⟩⟩
    have t1 := callV_can (top_run R 0 (by omega) (Nat.zero_le _) (by omega) (n := n) (by omega)) (can2 (canS_d _) (canS_int _ _)) ob fz
    have t2 := callV_can (top_run b 0 (by omega) (Nat.zero_le _) (by omega) (n := n) (by omega)) (can2 (canS_d _) (canS_int _ _)) ob fz
    rw [List.drop_zero, val_digs BT2, show ((0 : Nat) : Int) = 0 from rfl] at t1 t2
    have hb4 : (((digs BT b).length : Int) ≤ 3) = True := by simp only [eq_iff_iff, iff_true]; unfold dlen at h3; omega
    have hb0 : (((b : Nat) : Int) = 0) = False := by simp only [eq_iff_iff, iff_false]; omega
    have wq : IntKind.i64.wrap (((R : Nat) : Int).tdiv (b : Int)) = ((R / b : Nat) : Int) := by
      rw [← Int.ofNat_tdiv]; exact wi64 (by unfold BT at hRq; omega)
    unfold zD at t1 t2 ⊢
    simp only [go_sem, hb4, t1, t2, hb0, wq]
  · have hb4 : (((digs BT b).length : Int) ≤ 3) = False := by simp only [eq_iff_iff, iff_false]; unfold dlen at h3; omega
    by_cases hge : dlen BT b ≤ dlen BT R
    · obtain ⟨w, hw⟩ : ∃ w, w = BT ^ (dlen BT b - 3) := ⟨_, rfl⟩
      have hwp : 0 < w := by rw [hw]; exact Nat.pow_pos (by decide)
      refine ⟨R / w / (b / w + 1), guess_le R b w hb hwp, fun ob fz nx X x0 x7 x8 => ⟨[], ?_⟩⟩
      have t1 := callV_can (top_run R (dlen BT b - 3) (by omega) (by omega) (by omega) (n := n) (by omega)) (can2 (canS_d _) (canS_int _ _)) ob fz
      have t2 := callV_can (top_run b (dlen BT b - 3) (by omega) (by omega) (by omega) (n := n) (by omega)) (can2 (canS_d _) (canS_int _ _)) ob fz
      rw [drop_div BT2 _ _ (by omega), ← hw] at t1 t2
      have hbw : b / w < 1000000000000 := by
        have h1 := lt_pow_dlen BT2 b
        refine Nat.div_lt_of_lt_mul (Nat.lt_of_lt_of_le h1 ?_)
        rw [hw, show dlen BT b = dlen BT b - 3 + 3 by omega, Nat.pow_add, show dlen BT b - 3 + 3 - 3 = dlen BT b - 3 by omega]
        exact Nat.mul_le_mul_left _ (by decide)
      have hgl : (((digs BT R).length : Int) ≥ ((digs BT b).length : Int)) = True := by simp only [ge_iff_le, eq_iff_iff, iff_true]; unfold dlen at hge; omega
      have w3 : IntKind.i64.wrap (((digs BT b).length : Int) - 3) = ((dlen BT b - 3 : Nat) : Int) := by rw [wrap_i64 (by unfold dlen at hbl; omega)]; unfold dlen at h3 ⊢; omega
      have w4 : IntKind.i64.wrap ((b / w + 1 : Nat) : Int) = ((b / w + 1 : Nat) : Int) := wi64 (Nat.lt_of_le_of_lt (Nat.succ_le_of_lt hbw) (by decide))
      have hb0 : (((b / w + 1 : Nat) : Int) = 0) = False := by simp only [eq_iff_iff, iff_false]; exact Int.natCast_ne_zero.2 (Nat.succ_ne_zero _)
      have hgk := guess_le R b w hb hwp
      have wq : IntKind.i64.wrap (((R / w : Nat) : Int).tdiv ((b / w + 1 : Nat) : Int)) = ((R / w / (b / w + 1) : Nat) : Int) := by
        rw [← Int.ofNat_tdiv]; exact wi64 (Nat.lt_of_le_of_lt hgk (Nat.lt_trans hRq (by decide)))
      generalize dlen BT b - 3 = fr at t1 t2 w3
      generalize R / w / (b / w + 1) = kk at wq ⊢
      generalize R / w = rw' at t1 wq
      generalize b / w = bw at t2 w4 hb0 wq
      unfold zD at t1 t2 ⊢
      simp only [go_sem, hb4, hgl, w3, t1, t2, add1, w4, hb0, wq]
    · refine ⟨0, Nat.zero_le _, fun ob fz nx X x0 x7 x8 => ⟨[(40, .one (.bool false))], ?_⟩⟩
      have hgl : (((digs BT R).length : Int) ≥ ((digs BT b).length : Int)) = False := by simp only [ge_iff_le, eq_iff_iff, iff_false]; unfold dlen at hge; omega
      have z0 : ((0 : Nat) : Int) = 0 := rfl
      unfold zD
      simp only [go_sem, hb4, hgl, z0]
def RestIs (x : SV) (r : Nat) : Prop := x = .one (zD r) ∨ (r = 0 ∧ x = .one .nils)
section
variable {ob : Nat → Option AObj} {fz : Nat → Nat} {nx : Nat}
theorem over_new {n : Nat} {i : Nat} (us : List Nat) (b rest d R : Nat) (hR : R = d + BT * rest) (hd : d < BT) (x1 x7 xr : SV) (hxr : RestIs xr rest) (gu : us[i]? = some d) (hrl : dlen BT rest < 2 ^ 39) (hn : dlen BT rest + 10 ≤ n) (X : List (Nat × SV)) :
    ∃ (ob' : Nat → Option AObj) (fz' : Nat → Nat), (∀ id, id < nx → ob' id = ob id) ∧ (∀ id, id < nx → fz' id = fz id) ∧ evC (evF E (n + 1)) (n + 1) oB ⟨env ((0, .one (.sl false (intE us))) :: (1, x1) :: (6, xr) :: (7, x7) :: (8, .one (.int .i64 (i : Int))) :: X), ob, fz, nx⟩ =
      some (.nrm, ⟨env [(0, .one (.sl false (intE us))), (1, x1), (6, .one (zD R)), (7, x7), (8, .one (.int .i64 (i : Int)))], ob', fz', nx + 9⟩) := by
  have hcd : ∀ x ∈ d :: digs BT rest, x < BT := by
    intro x hx
    rcases List.mem_cons.1 hx with rfl | h
    · exact hd
    · exact digs_lt BT2 rest x h
  have hkp : (((i : Nat) : Int) ≥ 0) = True := by simp
  have hob : ∀ (y : AObj) id, id < nx → upd ob (nx + 4) y id = ob id := fun y id h => upd_ne (by omega)
  have hfz : ∀ m id, id < nx → raise fz (nx + 4) m id = fz id := fun m id h => raise_ne (by omega)
  have hval : val BT ([d] ++ digs BT rest) = R := by rw [hR]; show d + BT * val BT (digs BT rest) = _; rw [val_digs BT2]
  have ht := fun ob fz v h => rtrim_row (n := n + 1) (id := nx + 4) (ver := v) (full := false) (ob := ob) (fz := fz) ([d] ++ digs BT rest) (by unfold dlen at hrl; simp; omega) hcd (by unfold dlen at hn; simp; omega) h
  rw [hval] at ht
  have key : ∃ v x, (xr = .one x ∧ x = v) ∧ (v = .nils ∧ digs BT rest = [] ∨ v = .sl false (intE (digs BT rest))) := by
    rcases hxr with rfl | ⟨rfl, rfl⟩
    · exact ⟨_, _, ⟨rfl, rfl⟩, .inr rfl⟩
    · exact ⟨_, _, ⟨rfl, rfl⟩, .inl ⟨rfl, digs_zero _⟩⟩
  obtain ⟨v, _, ⟨rfl, rfl⟩, hv⟩ := key
  unfold oB Fn.ambleref01_over_L1
  unfold dlen at hrl hn
  generalize digs BT rest = ds at *
  have e1 : [[AV.int .i64 (d : Int)]] = intE [d] := rfl
  rcases ds with _ | ⟨e, es⟩
  · have e2 : intE [] = [] := rfl
    have ht := fun ob fz h => ht ob fz 0 h
    simp only [List.append_nil] at ht
    rcases hv with ⟨rfl, _⟩ | rfl
    · refine ⟨upd ob (nx + 4) (.row 1 [[AV.int .i64 (d : Int)]] 0), raise fz (nx + 4) 1, hob _, hfz _, ?_⟩
      have ht := ht (upd ob (nx + 4) (.row 1 [[AV.int .i64 (d : Int)]] 0)) fz rowAt_upd
      simp only [List.length_cons, List.length_nil, Nat.zero_add] at ht
      simp only [go_sem, gu, hkp, ht]
    · refine ⟨upd ob (nx + 4) (.row 1 [[AV.int .i64 (d : Int)]] 0), raise fz (nx + 4) 1, hob _, hfz _, ?_⟩
      have ht := ht (upd ob (nx + 4) (.row 1 [[AV.int .i64 (d : Int)]] 0)) fz rowAt_upd
      simp only [List.length_cons, List.length_nil, Nat.zero_add] at ht
      simp only [go_sem, gu, hkp, e2, show okSz 1 ([] : List (List AV)) = true from rfl, ht]
  · rcases hv with ⟨_, h⟩ | rfl
    · exact absurd h (by simp)
    · have e2 : intE (e :: es) = [AV.int .i64 (e : Int)] :: intE es := rfl
      have hl8 : (1 + (es.length + 1)) * 8 ≤ 140737488355328 := by simp only [List.length_cons] at hrl; omega
      refine ⟨upd ob (nx + 4) (.row 1 ([AV.int .i64 (d : Int)] :: [AV.int .i64 (e : Int)] :: intE es) 1), raise fz (nx + 4) (1 + (es.length + 1)), hob _, hfz _, ?_⟩
      have ht := ht (upd ob (nx + 4) (.row 1 ([AV.int .i64 (d : Int)] :: [AV.int .i64 (e : Int)] :: intE es) 1)) fz 1 rowAt_upd
      rw [show ([d] ++ e :: es).length = 1 + (es.length + 1) by simp; omega] at ht
      simp only [go_sem, gu, hkp, e2, show okSz 1 ([AV.int .i64 (e : Int)] :: intE es) = true from rfl, hl8, ROOM, ht]
theorem over_sub {n : Nat} (b R k : Nat) (hk : k ≤ R / b) (hb : 0 < b) (hkl : R / b < BT) (hbl : dlen BT b < 2 ^ 39) (hRl : dlen BT R ≤ dlen BT b + 1) (hn : 2 * dlen BT b + 200000 ≤ n) (x0 x7 x8 : SV) (X : List (Nat × SV)) : ∃ X',
    evC (evF E (n + 1)) (n + 1) oM ⟨env ((0, x0) :: (1, .one (zD b)) :: (6, .one (zD R)) :: (7, x7) :: (8, x8) :: (9, .one (.int .i64 (k : Int))) :: X), ob, fz, nx⟩ =
      some (.nrm, ⟨env ((0, x0) :: (1, .one (zD b)) :: (6, .one (zD (R - b * k))) :: (7, x7) :: (8, x8) :: (9, .one (.int .i64 (k : Int))) :: X'), ob, fz, nx⟩) := by
  have hkB : k < BT := Nat.lt_of_le_of_lt hk hkl
  have hz := callV_can (zint_run (k : Int) (by omega) (by unfold BT at hkB; omega) (n := n) (by omega)) (can1 (canS_int _ _)) ob fz
  have hbk : b * k ≤ R := by
    have := Nat.mul_div_le R b
    exact Nat.le_trans (Nat.mul_le_mul_left _ hk) this
  have hkd : dlen BT k ≤ 1 := dlen_le_of_lt BT2 (by rw [Nat.pow_one]; exact hkB)
  have ht := callV_can (rtimes_run b k (by omega) (by omega) (n := n) (by omega)) (can2 (canS_d _) (canS_d _)) ob fz
  have hm := callV_can (rminus_run R (b * k) hbk (by omega) (n := n) (by omega)) (can2 (canS_d _) (canS_d _)) ob fz
  refine ⟨[], ?_⟩
  unfold oM Fn.ambleref01_over_L1
  have e : sV (k : Int) = .agg [.bool false, zD k] := by
    have h0 : decide ((k : Int) < 0) = false := by simp
    simp only [sV, zC, h0, Int.natAbs_natCast]
  rw [e] at hz
  simp only [go_sem, hz, ht, hm]
end
end Go.Ev
namespace Go.Ev
open Go.Dig
section
variable {ob : Nat → Option AObj} {fz : Nat → Nat} {nx : Nat}
theorem over_round {n : Nat} {idq i : Nat} (us qs : List Nat) (b rest d : Nat) (hb : 0 < b) (hrest : rest < b) (xr : SV) (hxr : RestIs xr rest) (hi : i < us.length) (hqs : qs.length = us.length) (hs : us.length < 2 ^ 39) (gu : us[i]? = some d) (hd : d < BT) (hbl : dlen BT b < 2 ^ 38) (hidq : idq < nx) (hfq : fz idq = 0) (hq : ob idq = some (.row 1 (intE qs) 0)) (hn : 2 * dlen BT b + 200000 ≤ n) (X : List (Nat × SV)) :
    ∃ (ob' : Nat → Option AObj) (fz' : Nat → Nat) (X' : List (Nat × SV)), evC (evF E (n + 1)) (n + 1) Fn.ambleref01_over_L1 ⟨env ((0, .one (.sl false (intE us))) :: (1, .one (zD b)) :: (6, xr) :: (7, .one (.rsl idq 0 1 0 us.length false)) :: (8, .one (.int .i64 (i : Int))) :: X), ob, fz, nx⟩ =
      some (.nrm, ⟨env ((0, .one (.sl false (intE us))) :: (1, .one (zD b)) :: (6, .one (zD ((d + BT * rest) % b))) :: (7, .one (.rsl idq 0 1 0 us.length false)) :: (8, .one (.int .i64 ((i : Int) - 1))) :: X'), ob', fz', nx + 9⟩) ∧ fz' idq = 0 ∧ ob' idq = some (.row 1 (intE (qs.set i ((d + BT * rest) / b))) 0) ∧ (d + BT * rest) / b < BT := by
  obtain ⟨R, hR⟩ : ∃ R, R = d + BT * rest := ⟨_, rfl⟩
  rw [← hR]
  have hRb : R < BT * b := by
    have : BT * rest + BT ≤ BT * b := by rw [← Nat.mul_succ]; exact Nat.mul_le_mul_left _ hrest
    omega
  have hRq : R / b < BT := Nat.div_lt_of_lt_mul (by rw [Nat.mul_comm]; exact hRb)
  have hRl : dlen BT R ≤ dlen BT b + 1 := by
    refine dlen_le_of_lt BT2 (Nat.lt_of_lt_of_le hRb ?_)
    rw [Nat.pow_succ, Nat.mul_comm]
    exact Nat.mul_le_mul_right _ (Nat.le_of_lt (lt_pow_dlen BT2 b))
  have hrl : dlen BT rest ≤ dlen BT b := dlen_mono BT2 (Nat.le_of_lt hrest)
  have hkp : (((i : Nat) : Int) ≥ 0) = True := by simp
  have wi : IntKind.i64.wrap ((i : Int) - 1) = (i : Int) - 1 := wrap_i64 (by omega)
  obtain ⟨k, hk, hG⟩ := over_guess n R b hb hRq hRl (by omega) hn
  obtain ⟨ob', fz', hob, hfz, hB⟩ := over_new (ob := ob) (fz := fz) (nx := nx) (n := n) (i := i) us b rest d R hR hd (.one (zD b)) (.one (.rsl idq 0 1 0 us.length false)) xr hxr gu (by omega) (by omega) [(17, .one (.bool true))]
  obtain ⟨X2, hG⟩ := hG ob' fz' (nx + 9) [] (.one (.sl false (intE us))) (.one (.rsl idq 0 1 0 us.length false)) (.one (.int .i64 (i : Int)))
  obtain ⟨X3, hM⟩ := over_sub (ob := ob') (fz := fz') (nx := nx + 9) b R k hk hb hRq (by omega) hRl hn (.one (.sl false (intE us))) (.one (.rsl idq 0 1 0 us.length false)) (.one (.int .i64 (i : Int))) X2
  have hbk : b * k ≤ R := Nat.le_trans (Nat.mul_le_mul_left _ hk) (Nat.mul_div_le R b)
  have hdm : R = b * k + (R - b * k) := by omega
  have hq1 : k + (R - b * k) / b = R / b := by
    have h1 : (R - b * k) / b = R / b - k := Nat.sub_mul_div R b k
    rw [h1]; exact Nat.add_sub_cancel' hk
  have hr1 : (R - b * k) % b = R % b := by
    have h1 : (b * k + (R - b * k)) % b = (R - b * k) % b := Nat.mul_add_mod _ _ _
    rw [← hdm] at h1; exact h1.symm
  have hk2 : k + (R - b * k) / b < 100000 := by rw [hq1]; exact Nat.lt_trans hRq (by decide)
  obtain ⟨X4, hL⟩ := over_inner (ob := ob') (fz := fz') (nx := nx + 9) (n := n) b hb (.one (.sl false (intE us))) (.one (.rsl idq 0 1 0 us.length false)) (.one (.int .i64 (i : Int))) (R - b * k) k X3 (Nat.lt_of_le_of_lt (dlen_mono BT2 (Nat.sub_le _ _)) (by omega)) (Nat.le_trans (Nat.add_le_add_right (dlen_mono BT2 (Nat.sub_le R (b * k))) _) (by omega)) hk2 (n + 1) (Nat.lt_of_le_of_lt (Nat.le_trans (Nat.le_add_left _ k) (Nat.le_of_lt hk2)) (by omega))
  rw [hq1, hr1] at hL
  have hq' : ob' idq = some (.row 1 (intE qs) 0) := by rw [hob _ hidq]; exact hq
  have hf' : fz' idq = 0 := by rw [hfz _ hidq]; exact hfq
  have hrw : rowAt ob' idq 0 = some (1, intE qs) := rowAt_of hq'
  refine ⟨upd ob' idq (.row 1 (intE (qs.set i (R / b))) 0), fz', [], ?_, hf', upd_same _ _ _, hRq⟩
  rw [over_L1_eq]
  have hA : evC (evF E (n + 1)) (n + 1) oA ⟨env ((0, .one (.sl false (intE us))) :: (1, .one (zD b)) :: (6, xr) :: (7, .one (.rsl idq 0 1 0 us.length false)) :: (8, .one (.int .i64 (i : Int))) :: X), ob, fz, nx⟩ =
      some (.nrm, ⟨env [(0, .one (.sl false (intE us))), (1, .one (zD b)), (6, xr), (7, .one (.rsl idq 0 1 0 us.length false)), (8, .one (.int .i64 (i : Int))), (17, .one (.bool true))], ob, fz, nx⟩) := by
    unfold oA Fn.ambleref01_over_L1
    simp only [go_sem, hkp]
  have hC : evC (evF E (n + 1)) (n + 1) oC ⟨env [(0, .one (.sl false (intE us))), (1, .one (zD b)), (6, .one (zD R)), (7, .one (.rsl idq 0 1 0 us.length false)), (8, .one (.int .i64 (i : Int)))], ob', fz', nx + 9⟩ =
      some (.nrm, ⟨env [(0, .one (.sl false (intE us))), (1, .one (zD b)), (6, .one (zD R)), (7, .one (.rsl idq 0 1 0 us.length false)), (8, .one (.int .i64 (i : Int))), (9, .one (.int .i64 0))], ob', fz', nx + 9⟩) := by
    unfold oC Fn.ambleref01_over_L1
    simp only [go_sem]
  have hS : evC (evF E (n + 1)) (n + 1) oS ⟨env ((0, .one (.sl false (intE us))) :: (1, .one (zD b)) :: (6, .one (zD (R % b))) :: (7, .one (.rsl idq 0 1 0 us.length false)) :: (8, .one (.int .i64 (i : Int))) :: (9, .one (.int .i64 ((R / b : Nat) : Int))) :: X4), ob', fz', nx + 9⟩ =
      some (.nrm, ⟨env [(0, .one (.sl false (intE us))), (1, .one (zD b)), (6, .one (zD (R % b))), (7, .one (.rsl idq 0 1 0 us.length false)), (8, .one (.int .i64 (i : Int)))], upd ob' idq (.row 1 (intE (qs.set i (R / b))) 0), fz', nx + 9⟩) := by
    unfold oS Fn.ambleref01_over_L1
    have hiq : i < qs.length := by omega
    have gq : qs[i]? = some qs[i] := by simp
    generalize qs[i] = qi at gq
    simp only [go_sem, hi, hrw, hq', hf', gq]
  have hI : evC (evF E (n + 1)) (n + 1) oI ⟨env [(0, .one (.sl false (intE us))), (1, .one (zD b)), (6, .one (zD (R % b))), (7, .one (.rsl idq 0 1 0 us.length false)), (8, .one (.int .i64 (i : Int)))], upd ob' idq (.row 1 (intE (qs.set i (R / b))) 0), fz', nx + 9⟩ =
      some (.nrm, ⟨env [(0, .one (.sl false (intE us))), (1, .one (zD b)), (6, .one (zD (R % b))), (7, .one (.rsl idq 0 1 0 us.length false)), (8, .one (.int .i64 ((i : Int) - 1)))], upd ob' idq (.row 1 (intE (qs.set i (R / b))) 0), fz', nx + 9⟩) := by
    unfold oI Fn.ambleref01_over_L1
    simp only [go_sem, wi]
  simp only [x_seq, hA, thenC_nrm, x_block, hB, hC, hG, hM, x_loop, hL, blkC_ext, blkC_nrm, hS, hI, go_sem]
theorem over_loop {n : Nat} {idq : Nat} (us : List Nat) (b : Nat) (hb : 0 < b) (hs : us.length < 2 ^ 39) (hus : ∀ d ∈ us, d < BT) (hbl : dlen BT b < 2 ^ 38) (hn : 2 * dlen BT b + 200000 ≤ n) : ∀ (m : Nat), m ≤ us.length → ∀ (ob : Nat → Option AObj) (fz : Nat → Nat) (nx : Nat) (qs : List Nat) (rest : Nat) (xr : SV) (X : List (Nat × SV)), idq < nx → fz idq = 0 → ob idq = some (.row 1 (intE qs) 0) → qs.length = us.length → (∀ d ∈ qs, d < BT) → rest < b → RestIs xr rest → val BT (qs.drop m) * b + rest = val BT (us.drop m) → ∀ N, m < N →
    ∃ (ob' : Nat → Option AObj) (fz' : Nat → Nat) (nx' : Nat) (qs' : List Nat) (rest' : Nat) (xr' : SV) (X' : List (Nat × SV)), loopN (evC (evF E (n + 1)) (n + 1) Fn.ambleref01_over_L1) N ⟨env ((0, .one (.sl false (intE us))) :: (1, .one (zD b)) :: (6, xr) :: (7, .one (.rsl idq 0 1 0 us.length false)) :: (8, .one (.int .i64 ((m : Int) - 1))) :: X), ob, fz, nx⟩ =
      some (.ext 0, ⟨env ((0, .one (.sl false (intE us))) :: (1, .one (zD b)) :: (6, xr') :: (7, .one (.rsl idq 0 1 0 us.length false)) :: X'), ob', fz', nx'⟩) ∧ fz' idq = 0 ∧ ob' idq = some (.row 1 (intE qs') 0) ∧ qs'.length = us.length ∧ (∀ d ∈ qs', d < BT) ∧ rest' < b ∧ RestIs xr' rest' ∧ val BT qs' * b + rest' = val BT us
  | 0, _, ob, fz, nx, qs, rest, xr, X, h1, h2, h3, h4, h5, h6, h7, h8, N + 1, _ => by
    refine ⟨ob, fz, nx, qs, rest, xr, [(8, .one (.int .i64 (-1))), (17, .one (.bool false))], round_ext ?_, h2, h3, h4, h5, h6, h7, by simpa using h8⟩
    have e : (((0 : Nat) : Int) - 1) = -1 := rfl
    have g : ((-1 : Int) ≥ 0) = False := by simp
    rw [over_L1_eq]
    unfold oA Fn.ambleref01_over_L1
    simp only [go_sem, e, g]
  | m + 1, hm, ob, fz, nx, qs, rest, xr, X, h1, h2, h3, h4, h5, h6, h7, h8, N + 1, hN => by
    have gu : us[m]? = some us[m] := by simp
    have hd : us[m] < BT := hus _ (by simp)
    have e : ((m + 1 : Nat) : Int) - 1 = (m : Int) := by omega
    obtain ⟨ob', fz', X', hr, a1, a2, a3⟩ := over_round (n := n) us qs b rest us[m] hb h6 xr h7 (by omega) h4 hs gu hd hbl h1 h2 h3 hn X
    rw [e, round_nrm hr]
    refine over_loop us b hb hs hus hbl hn m (by omega) ob' fz' (nx + 9) _ _ _ X' (by omega) a1 a2 (by simp [h4]) ?_ (Nat.mod_lt _ hb) (.inl rfl) ?_ N (by omega)
    · intro d hd
      rcases List.mem_or_eq_of_mem_set hd with h | h
      · exact h5 d h
      · rw [h]; exact a3
    · have hmq : m < (qs.set m ((us[m] + BT * rest) / b)).length := by simp; omega
      rw [List.drop_eq_getElem_cons hmq, List.drop_eq_getElem_cons (show m < us.length by omega)]
      have e1 : (qs.set m ((us[m] + BT * rest) / b))[m] = (us[m] + BT * rest) / b := by simp
      rw [e1, List.drop_set_of_lt (by omega), val, val, ← h8]
      have hdm := Nat.div_add_mod (us[m] + BT * rest) b
      generalize (us[m] + BT * rest) / b = q at *
      generalize (us[m] + BT * rest) % b = r at *
      rw [Nat.add_mul, Nat.mul_add, Nat.mul_assoc, Nat.mul_comm q b]
      omega
end
theorem rover_run (a b : Nat) (hb : 0 < b) (ha : dlen BT a < 2 ^ 38) (hbl : dlen BT b < 2 ^ 38) {n : Nat} (hn : dlen BT a + 2 * dlen BT b + 200001 ≤ n) : evV E (n + 1) Id.ambleref01_over [.one (zD a), .one (zD b)] = some (.tup [.one (zD (a / b)), .one (zD (a % b))]) := by
  obtain ⟨n, rfl⟩ : ∃ k, n = k + 1 := ⟨n - 1, by omega⟩
  rw [evV_succ E_ambleref01_over]
  have hal : (digs BT a).length = dlen BT a := rfl
  obtain ⟨ob', fz', nx', qs', rest', xr', X', hloop, h2, h3, h4, h5, h6, h7, h8⟩ := over_loop (n := n) (idq := 2) (digs BT a) b hb (by omega) (digs_lt BT2 a) hbl (by omega) (digs BT a).length (Nat.le_refl _) (upd ob0 2 (.row 1 (intE (List.replicate (digs BT a).length 0)) 0)) fz0 4 (List.replicate (digs BT a).length 0) 0 (.one .nils) [] (by omega) rfl (upd_same _ _ _) (by simp) (fun d hd => by rw [(List.mem_replicate.1 hd).2]; decide) hb (.inr ⟨rfl, rfl⟩) (by simp [val]) (n + 1) (by omega)
  rw [val_digs BT2] at h8
  have hq : val BT qs' = a / b := by
    rw [← h8, Nat.mul_comm, Nat.mul_add_div hb, Nat.div_eq_of_lt h6, Nat.add_zero]
  have hr : rest' = a % b := by
    rw [← h8, Nat.mul_comm, Nat.mul_add_mod, Nat.mod_eq_of_lt h6]
  have hnr := rtrim_row (n := n + 1) (id := 2) (ver := 0) (full := false) (ob := ob') (fz := fz') qs' (by rw [h4]; omega) h5 (by rw [h4]; omega) (rowAt_of h3)
  rw [h4, hq] at hnr
  have wl : IntKind.i64.wrap (((digs BT a).length : Int) - 1) = ((digs BT a).length : Int) - 1 := wrap_i64 (by omega)
  have l2 : (digs BT a).length ≤ 9223372036854775807 := by omega
  have l3 : 8 * (digs BT a).length ≤ 281474976710656 := by omega
  unfold zD at hnr hloop ⊢
  rcases h7 with rfl | ⟨rfl, rfl⟩
  · rw [hr] at hloop
    unfold zD at hloop
    simp only [go_sem, Fn.ambleref01_over, wl, l2, l3, intE_rep, hloop, hnr]
  · rw [← hr, digs_zero]
    have e0 : intE [] = [] := rfl
    simp only [go_sem, Fn.ambleref01_over, wl, l2, l3, intE_rep, hloop, hnr, e0]
end Go.Ev
namespace Go.Ev
open Go.Dig
section
variable {F : Caller} {fuel : Nat} {fz : Nat → Nat} {ob : Nat → Option AObj} {nx : Nat}
theorem rsmall_loop {id : Nat} {sg : AV} (ds : List Nat) (hl : ds.length ≤ 4) (hd : ∀ d ∈ ds, d < BT) (hob : ob id = some (.box [sg, .sl false (intE ds)])) : ∀ (k : Nat), k ≤ ds.length → ∀ (X : List (Nat × SV)) (N : Nat), k < N → ∃ X',
    loopN (evC F fuel Fn.ambleref01_small_L0) N ⟨env ((1, .one (.box id 0)) :: (4, .one (.int .i64 (val BT (ds.drop k) : Int))) :: (5, .one (.int .i64 ((k : Int) - 1))) :: X), ob, fz, nx⟩ =
      some (.ext 0, ⟨env ((1, .one (.box id 0)) :: (4, .one (.int .i64 (val BT ds : Int))) :: X'), ob, fz, nx⟩)
  | 0, hk, X, N + 1, hN => by
    have h1 : ((-1 : Int) ≥ 0) = False := by simp
    have e : (((0 : Nat) : Int) - 1) = -1 := rfl
    refine ⟨[(5, .one (.int .i64 (-1))), (15, .one (.bool false))], round_ext ?_⟩
    rw [List.drop_zero, e]
    simp only [go_sem, Fn.ambleref01_small_L0, h1]
  | j + 1, hk, X, N + 1, hN => by
    have h0 : (((j + 1 : Nat) : Int) - 1) = (j : Nat) := by omega
    have h1 : (((j : Nat) : Int) ≥ 0) = True := by simp
    have hjl : j < ds.length := by omega
    have gd : ds[j]? = some ds[j] := by simp
    have e : ds.drop j = ds[j] :: ds.drop (j + 1) := List.drop_eq_getElem_cons hjl
    have hb : val BT (ds.drop j) < 10000000000000000 := by
      have h2 := val_lt BT2 (ds.drop j) (fun d h => hd d (List.mem_of_mem_drop h))
      have h3 : BT ^ (ds.drop j).length ≤ BT ^ 4 := Nat.pow_le_pow_right (by decide) (by simp; omega)
      exact Nat.lt_of_lt_of_le h2 (Nat.le_trans h3 (by decide))
    have hv : val BT (ds.drop j) = ds[j] + 10000 * val BT (ds.drop (j + 1)) := by rw [e]; rfl
    rw [hv] at hb
    have wm : IntKind.i64.wrap ((val BT (ds.drop (j + 1)) : Int) * 10000) = ((val BT (ds.drop (j + 1)) * 10000 : Nat) : Int) := by
      rw [show ((val BT (ds.drop (j + 1)) : Int) * 10000) = ((val BT (ds.drop (j + 1)) * 10000 : Nat) : Int) from (Int.natCast_mul _ 10000).symm]
      exact wi64 (by omega)
    have wa : IntKind.i64.wrap (((val BT (ds.drop (j + 1)) * 10000 : Nat) : Int) + (ds[j] : Int)) = (val BT (ds.drop j) : Int) := by
      rw [addi64 _ _ (by omega), hv]
      congr 1
      omega
    have wj : IntKind.i64.wrap ((j : Int) - 1) = (j : Int) - 1 := wrap_i64 (by omega)
    obtain ⟨X', h⟩ := rsmall_loop ds hl hd hob j (by omega) [] N (by omega)
    refine ⟨X', ?_⟩
    rw [← h]
    refine round_nrm ?_
    generalize val BT (ds.drop j) = v1 at wa ⊢
    generalize val BT (ds.drop (j + 1)) = v0 at wm wa ⊢
    generalize v0 * 10000 = v2 at wm wa
    simp only [go_sem, Fn.ambleref01_small_L0, h0, h1, hob, gd, wm, wa, wj]
end
def smallR (x : Nat) : SV := if dlen BT x ≤ 4 then .tup [.one (.int .i64 (x : Int)), .one (.bool true)] else .tup [.one (.int .i64 0), .one (.bool false)]
theorem rsmall_run (x : Nat) (sg : Bool) (hx : dlen BT x < 2 ^ 60) {n : Nat} (hn : 6 ≤ n) : evV E (n + 1) Id.ambleref01_small [.agg [.bool sg, zD x]] = some (smallR x) := by
  rw [evV_succ E_ambleref01_small]
  unfold smallR
  by_cases h : dlen BT x ≤ 4
  · rw [if_pos h]
    unfold dlen at h
    have hg : (((digs BT x).length : Int) > 4) = False := by simp only [eq_iff_iff, iff_false]; omega
    have hw : IntKind.i64.wrap (((digs BT x).length : Int) - 1) = ((digs BT x).length : Int) - 1 := wrap_i64 (by omega)
    obtain ⟨X', hl⟩ := rsmall_loop (F := evF E n) (fuel := n) (fz := fz0) (nx := 3) (id := 0) (sg := .bool sg) (ob := upd ob0 0 (.box [.bool sg, .sl false (intE (digs BT x))])) (digs BT x) h (digs_lt BT2 x) (upd_same _ _ _) (digs BT x).length (Nat.le_refl _) [] n (by omega)
    rw [List.drop_length, val_digs BT2, val, show ((0 : Nat) : Int) = 0 from rfl] at hl
    unfold zD
    simp only [go_sem, Fn.ambleref01_small, hg, hw, hl]
  · rw [if_neg h]
    unfold dlen at h
    have hg : (((digs BT x).length : Int) > 4) = True := by simp only [eq_iff_iff, iff_true]; omega
    unfold zD
    simp only [go_sem, Fn.ambleref01_small, hg]
section
variable {F : Caller} {fuel : Nat} {fz : Nat → Nat} {ob : Nat → Option AObj} {nx : Nat}
theorem rgcd_inner (x4 : SV) : ∀ (y x : Nat) (X : List (Nat × SV)) (N : Nat), y < N → ∃ X',
    loopN (evC F fuel Fn.ambleref01_ZGcd_L0) N ⟨env ((4, x4) :: (7, .one (.int .i64 (x : Int))) :: (9, .one (.int .i64 (y : Int))) :: X), ob, fz, nx⟩ =
      some (.ext 2, ⟨env ((4, x4) :: (7, .one (.int .i64 (Nat.gcd x y : Int))) :: X'), ob, fz, nx⟩) := by
  intro y
  induction y using Nat.strongRecOn with
  | _ y ih =>
    intro x X N hN
    obtain ⟨M, rfl⟩ : ∃ M, N = M + 1 := ⟨N - 1, by omega⟩
    by_cases hy : y = 0
    · subst hy
      have h1 : (((0 : Nat) : Int) != 0) = false := rfl
      refine ⟨[(9, .one (.int .i64 ((0 : Nat) : Int))), (37, .one (.bool false))], round_ext ?_⟩
      rw [Nat.gcd_zero_right]
      simp only [go_sem, Fn.ambleref01_ZGcd_L0, h1]
    · have h1 : (((y : Nat) : Int) != 0) = true := by simp; omega
      have h0 : (((y : Nat) : Int) = 0) = False := by simp only [eq_iff_iff, iff_false]; omega
      have hr : ((x : Int)).tmod (y : Int) = ((x % y : Nat) : Int) := (Int.ofNat_tmod x y).symm
      have hst : evC F fuel Fn.ambleref01_ZGcd_L0 ⟨env ((4, x4) :: (7, .one (.int .i64 (x : Int))) :: (9, .one (.int .i64 (y : Int))) :: X), ob, fz, nx⟩ = some (.nrm, ⟨env [(4, x4), (7, .one (.int .i64 (y : Int))), (9, .one (.int .i64 ((x % y : Nat) : Int)))], ob, fz, nx⟩) := by
        simp only [go_sem, Fn.ambleref01_ZGcd_L0, h1, h0, hr]
      rw [round_nrm hst]
      have hlt : x % y < y := Nat.mod_lt _ (by omega)
      have : Nat.gcd y (x % y) = Nat.gcd x y := by rw [Nat.gcd_comm y (x % y), ← Nat.gcd_rec, Nat.gcd_comm]
      rw [← this]
      exact ih (x % y) hlt y [] M (by omega)
def KR (S : Nat) : Nat := 2 ^ S + 6 * S + 20000000000000000
theorem dlenT_bits {x S : Nat} (h : x < 2 ^ S) : dlen BT x ≤ S := by
  refine dlen_le_of_lt BT2 (Nat.lt_of_lt_of_le h ?_)
  exact Nat.pow_le_pow_left (by decide) S
theorem small_val {x : Nat} (h : dlen BT x ≤ 4) : x < 10000000000000000 := by
  have h1 := lt_pow_dlen BT2 x
  exact Nat.lt_of_lt_of_le h1 (Nat.le_trans (Nat.pow_le_pow_right (by decide) h) (by decide))
theorem rgcd_loop {n id S : Nat} (hS : S < 2 ^ 37) (hn : KR S ≤ n) (hob : ∃ cs, ob id = some (.box cs) ∧ cs.length = 2) : ∀ (y x : Nat) (X : List (Nat × SV)) (N : Nat), x < 2 ^ S → y < 2 ^ S → y < N → 
    (∃ X', loopN (evC (evF E (n + 1)) (n + 1) Fn.ambleref01_ZGcd_L1) N ⟨env ((4, .one (.box id 0)) :: (5, .one (zD x)) :: (6, .one (zD y)) :: X), ob, fz, nx⟩ =
      some (.ext 0, ⟨env ((4, .one (.box id 0)) :: (5, .one (zD (Nat.gcd x y))) :: X'), ob, fz, nx⟩)) ∨
    (∃ X', loopN (evC (evF E (n + 1)) (n + 1) Fn.ambleref01_ZGcd_L1) N ⟨env ((4, .one (.box id 0)) :: (5, .one (zD x)) :: (6, .one (zD y)) :: X), ob, fz, nx⟩ =
      some (.ret, ⟨env ((4, .one (.box id 0)) :: X'), upd ob id (.box (zC (Nat.gcd x y : Nat))), fz, nx⟩)) := by
  intro y
  induction y using Nat.strongRecOn with
  | _ y ih =>
    intro x X N hx hy hN
    obtain ⟨M, rfl⟩ : ∃ M, N = M + 1 := ⟨N - 1, by omega⟩
    have hyl := rlen_pos y
    have hK : 6 * S + 20000000000000000 ≤ n := Nat.le_trans (Nat.add_le_add_right (Nat.le_add_left _ _) _) hn
    have dx := dlenT_bits hx
    have dy := dlenT_bits hy
    by_cases hy0 : y = 0
    · subst hy0
      left
      refine ⟨[(6, .one (zD 0)), (19, .one (.bool false))], round_ext ?_⟩
      rw [Nat.gcd_zero_right]
      have e : (0 ≠ 0) = False := by simp
      rw [e] at hyl
      unfold zD
      simp only [go_sem, Fn.ambleref01_ZGcd_L1, hyl]
    · have e : (y ≠ 0) = True := by simp [hy0]
      rw [e] at hyl
      have s1 := callV_can (rsmall_run x false (by omega) (n := n) (by omega)) (can1 (.agg _ fun v hv => by
        simp only [List.mem_cons, List.not_mem_nil, or_false] at hv
        rcases hv with rfl | rfl
        · exact .bool _
        · exact .sl _)) ob fz
      have s2 := callV_can (rsmall_run y false (by omega) (n := n) (by omega)) (can1 (.agg _ fun v hv => by
        simp only [List.mem_cons, List.not_mem_nil, or_false] at hv
        rcases hv with rfl | rfl
        · exact .bool _
        · exact .sl _)) ob fz
      by_cases hsm : dlen BT x ≤ 4 ∧ dlen BT y ≤ 4
      · right
        obtain ⟨h4, h5⟩ := hsm
        unfold smallR at s1 s2
        rw [if_pos h4] at s1
        rw [if_pos h5] at s2
        have hy5 := small_val h5
        have hlt5 : x % y < y := Nat.mod_lt _ (by omega)
        obtain ⟨X', hin⟩ := rgcd_inner (F := evF E (n + 1)) (fuel := n + 1) (fz := fz) (ob := ob) (nx := nx) (.one (.box id 0)) (x % y) y [] n (by omega)
        have hge : Nat.gcd y (x % y) = Nat.gcd x y := by rw [Nat.gcd_comm y (x % y), ← Nat.gcd_rec, Nat.gcd_comm]
        rw [hge] at hin
        have h1 : (((y : Nat) : Int) != 0) = true := by simp; omega
        have h0 : (((y : Nat) : Int) = 0) = False := by simp only [eq_iff_iff, iff_false]; omega
        have hr : ((x : Int)).tmod (y : Int) = ((x % y : Nat) : Int) := (Int.ofNat_tmod x y).symm
        have hst : evC (evF E (n + 1)) (n + 1) Fn.ambleref01_ZGcd_L0 ⟨env [(4, .one (.box id 0)), (5, .one (zD x)), (6, .one (zD y)), (7, .one (.int .i64 (x : Int))), (9, .one (.int .i64 (y : Int))), (35, .one (.bool true))], ob, fz, nx⟩ = some (.nrm, ⟨env [(4, .one (.box id 0)), (7, .one (.int .i64 (y : Int))), (9, .one (.int .i64 ((x % y : Nat) : Int)))], ob, fz, nx⟩) := by
          simp only [go_sem, Fn.ambleref01_ZGcd_L0, h1, h0, hr]
        have hin := (round_nrm (N := n) hst).trans hin
        have hx4 := small_val h4
        have hg : Nat.gcd x y < 10000000000000000 := Nat.lt_of_le_of_lt (Nat.gcd_le_right x (by omega)) hy5
        have hz := callV_can (zint_run (Nat.gcd x y : Int) (by omega) (by omega) (n := n) (by omega)) (can1 (canS_int _ _)) ob fz
        obtain ⟨cs, hb1, hb2⟩ := hob
        refine ⟨[], round_ret ?_⟩
        unfold sV at hz
        obtain ⟨c1, c2, rfl⟩ : ∃ c1 c2, cs = [c1, c2] := by
          rcases cs with _ | ⟨c1, _ | ⟨c2, _ | ⟨c3, r⟩⟩⟩
          · simp at hb2
          · simp at hb2
          · exact ⟨c1, c2, rfl⟩
          · simp at hb2
        unfold zC at hz ⊢
        unfold zD at s1 s2 hz hin ⊢
        simp only [go_sem, Fn.ambleref01_ZGcd_L1, hyl, s1, s2, hin, hz, hb1]
      · have hov := callV_can (rover_run x y (by omega) (by omega) (by omega) (n := n) (by omega)) (can2 (canS_d _) (canS_d _)) ob fz
        have hst : ∃ X1, evC (evF E (n + 1)) (n + 1) Fn.ambleref01_ZGcd_L1 ⟨env ((4, .one (.box id 0)) :: (5, .one (zD x)) :: (6, .one (zD y)) :: X), ob, fz, nx⟩ = some (.nrm, ⟨env ((4, .one (.box id 0)) :: (5, .one (zD y)) :: (6, .one (zD (x % y))) :: X1), ob, fz, nx⟩) := by
          refine ⟨[], ?_⟩
          unfold smallR at s1 s2
          by_cases h4 : dlen BT x ≤ 4
          · have h5 : ¬ dlen BT y ≤ 4 := fun h => hsm ⟨h4, h⟩
            rw [if_pos h4] at s1
            rw [if_neg h5] at s2
            unfold zD at s1 s2 hov ⊢
            simp only [go_sem, Fn.ambleref01_ZGcd_L1, hyl, s1, s2, hov]
          · rw [if_neg h4] at s1
            by_cases h5 : dlen BT y ≤ 4
            · rw [if_pos h5] at s2
              unfold zD at s1 s2 hov ⊢
              simp only [go_sem, Fn.ambleref01_ZGcd_L1, hyl, s1, s2, hov]
            · rw [if_neg h5] at s2
              unfold zD at s1 s2 hov ⊢
              simp only [go_sem, Fn.ambleref01_ZGcd_L1, hyl, s1, s2, hov]
        obtain ⟨X1, hst⟩ := hst
        rw [round_nrm hst]
        have hlt : x % y < y := Nat.mod_lt _ (by omega)
        have hge : Nat.gcd y (x % y) = Nat.gcd x y := by rw [Nat.gcd_comm y (x % y), ← Nat.gcd_rec, Nat.gcd_comm]
        rw [← hge]
        exact ih (x % y) hlt y X1 M hy (by omega) (by omega)
end
theorem rgcd_run (a b : Int) {S : Nat} (ha : a.natAbs < 2 ^ S) (hb : b.natAbs < 2 ^ S) (hS : S < 2 ^ 37) {n : Nat} (hn : KR S + 1 ≤ n) : evV E (n + 1) Id.ambleref01_ZGcd [sV a, sV b] = some (sV (Nat.gcd a.natAbs b.natAbs : Nat)) := by
  obtain ⟨n, rfl⟩ : ∃ k, n = k + 1 := ⟨n - 1, by omega⟩
  rw [evV_succ E_ambleref01_ZGcd]
  have hK : b.natAbs < n + 1 := by unfold KR at hn; omega
  have h := rgcd_loop (n := n) (id := 2) (S := S) (fz := fz0) (nx := 3) (ob := upd (upd (upd ob0 0 (.box (zC a))) 1 (.box (zC b))) 2 (.box [.bool false, .nils])) hS (by omega) ⟨_, upd_same _ _ _, rfl⟩ b.natAbs a.natAbs [] (n + 1) ha hb hK
  unfold sV zC at *
  rcases h with ⟨X', h⟩ | ⟨X', h⟩
  · unfold zD at h ⊢
    have e0 : decide (((Nat.gcd a.natAbs b.natAbs : Nat) : Int) < 0) = false := by simp
    rw [Int.natAbs_natCast, e0]
    simp only [go_sem, Fn.ambleref01_ZGcd, h]
  · unfold zD at h ⊢
    simp only [go_sem, Fn.ambleref01_ZGcd, h]
end Go.Ev
namespace Go.Ev
open Go.Dig
def aggS : Option ((Nat → Nat) × List AV) → Option ((Nat → Nat) × SV)
  | some p => some (p.1, .agg p.2)
  | none => none
theorem aggS_some (p : (Nat → Nat) × List AV) : aggS (some p) = some (p.1, .agg p.2) := Eq.trans rfl rfl
theorem frzS_aggE (ob : Nat → Option AObj) (fz : Nat → Nat) (cs : List AV) : frzS ob fz (.agg cs) = aggS (mapFz (frz ob DEPTH) fz cs) := by
  simp only [frzS]
  cases mapFz (frz ob DEPTH) fz cs <;> rfl
theorem frzD_bool (ob : Nat → Option AObj) (fz : Nat → Nat) (b : Bool) : frz ob DEPTH fz (.bool b) = some (fz, .bool b) := Eq.trans rfl rfl
theorem frzD_int (ob : Nat → Option AObj) (fz : Nat → Nat) (k : IntKind) (b : Int) : frz ob DEPTH fz (.int k b) = some (fz, .int k b) := Eq.trans rfl rfl
theorem frzD_str (ob : Nat → Option AObj) (fz : Nat → Nat) (b : ByteArray) : frz ob DEPTH fz (.str b) = some (fz, .str b) := Eq.trans rfl rfl
theorem frzD_sl (ob : Nat → Option AObj) (fz : Nat → Nat) (f : Bool) (es : List (List AV)) : frz ob DEPTH fz (.sl f es) = some (fz, .sl false es) := Eq.trans rfl rfl
theorem frzD_nils (ob : Nat → Option AObj) (fz : Nat → Nat) : frz ob DEPTH fz .nils = some (fz, .sl false []) := Eq.trans rfl rfl
attribute [go_sem] aggS_some frzS_aggE frzD_bool frzD_int frzD_str frzD_sl frzD_nils
theorem sgn_neg (z : Int) : sgn (!decide (z < 0)) z.natAbs = -z := by
  unfold sgn
  by_cases h : z < 0
  · rw [decide_eq_true h, Bool.not_true, if_neg (by simp)]; omega
  · rw [decide_eq_false h, Bool.not_false, if_pos rfl]; omega
theorem rneg_run (z : Int) {n : Nat} (hn : 1 ≤ n) : evV E (n + 1) Id.ambleref01_ZNeg [sV z] = some (sV (-z)) := by
  rw [evV_succ E_ambleref01_ZNeg]
  have hs := call_signed (!decide (z < 0)) z.natAbs (-z) (sgn_neg z) hn
  unfold sV zC zD at hs ⊢
  simp only [go_sem, Fn.ambleref01_ZNeg, hs]
theorem bne_not' (a b : Bool) : (!(a == b)) = (a != b) := rfl
theorem rmulz_run (a b : Int) (ha : dlen BT a.natAbs < 2 ^ 40) (hb : dlen BT b.natAbs < 2 ^ 40) {n : Nat} (hn : dlen BT a.natAbs + dlen BT b.natAbs + 7 ≤ n) : evV E (n + 1) Id.ambleref01_ZMul [sV a, sV b] = some (sV (a * b)) := by
  rw [evV_succ E_ambleref01_ZMul]
  obtain ⟨n, rfl⟩ : ∃ k, n = k + 1 := ⟨n - 1, by omega⟩
  have ht := callV_can (rtimes_run a.natAbs b.natAbs ha hb (n := n) (by omega)) (can2 (canS_d _) (canS_d _))
  have hs := call_signed (decide (a < 0) != decide (b < 0)) (a.natAbs * b.natAbs) (a * b) (sgn_mul a b) (n := n + 1) (by omega)
  generalize a * b = c at hs ⊢
  generalize a.natAbs * b.natAbs = m at ht hs
  unfold sV zC zD at hs ⊢
  unfold zD at ht
  simp only [go_sem, Fn.ambleref01_ZMul, ht, bne_not, bne_not', hs]
def rC (q : Rat) : List AV := zC q.num ++ zC (q.den : Int)
def rV (q : Rat) : SV := .agg (rC q)
theorem canS_r (q : Rat) : CanS (rV q) := .agg _ fun x hx => by
  simp only [rC, zC, List.mem_append, List.mem_cons, List.not_mem_nil, or_false] at hx
  rcases hx with (rfl | rfl) | (rfl | rfl)
  · exact .bool _
  · exact .sl _
  · exact .bool _
  · exact .sl _
theorem rC_eq (q : Rat) : rC q = [.bool (decide (q.num < 0)), zD q.num.natAbs, .bool (decide ((q.den : Int) < 0)), zD q.den] := by
  unfold rC zC
  rw [Int.natAbs_natCast]
  rfl
theorem rden_run (q : Rat) (hd : dlen BT q.den < 2 ^ 60) {n : Nat} (hn : 1 ≤ n) : evV E (n + 1) Id.ambleref01_Q_den [rV q] = some (sV (q.den : Int)) := by
  rw [evV_succ E_ambleref01_Q_den]
  have h0 : ((((digs BT q.den).length : Nat) : Int) == 0) = false := by
    have := digs_ne_nil BT2 (Nat.pos_iff_ne_zero.1 q.den_pos)
    have : (digs BT q.den).length ≠ 0 := fun e => this (List.length_eq_zero_iff.1 e)
    simp only [beq_eq_false_iff_ne, ne_eq]; omega
  unfold rV sV
  rw [rC_eq]
  unfold zC zD
  rw [Int.natAbs_natCast]
  simp only [go_sem, Fn.ambleref01_Q_den, h0]
theorem ofQ_neg {z w : Int} (hw : w ≠ 0) (h : w < 0) : ofQ z w hw = Rat.normalize (-z) (-w).natAbs (by omega) := by
  unfold ofQ
  have e : (decide (z < 0) != decide (w < 0)) = !decide (z < 0) := by rw [decide_eq_true h]; cases decide (z < 0) <;> rfl
  have e2 := sgn_neg z
  congr 1
  · rw [e, e2]
  · omega
theorem ofQ_pos {z w : Int} (hw : w ≠ 0) (h : ¬ w < 0) : ofQ z w hw = Rat.normalize z w.natAbs (by omega) := by
  unfold ofQ
  have e : (decide (z < 0) != decide (w < 0)) = decide (z < 0) := by rw [decide_eq_false h]; cases decide (z < 0) <;> rfl
  congr 1
  rw [e, sgn_natAbs z]
theorem KR_big (S : Nat) : 6 * S + 20000000000000000 ≤ KR S := Nat.add_le_add_right (Nat.le_add_left _ _) _
theorem rqof_pos (z w : Int) (hw : 0 < w) {S : Nat} (hz : z.natAbs < 2 ^ S) (hws : w.natAbs < 2 ^ S) (hS : S < 2 ^ 37) {n : Nat} (hn : KR S + 3 ≤ n) (neg : Bool) (a b : Int) (hab : (neg = false ∧ a = z ∧ b = w) ∨ (neg = true ∧ -a = z ∧ -b = w)) : evV E (n + 1) Id.ambleref01_QOf [sV a, sV b] = some (rV (Rat.normalize z w.natAbs (by omega))) := by
  rw [evV_succ E_ambleref01_QOf]
  have hK := KR_big S
  obtain ⟨n, rfl⟩ : ∃ k, n = k + 1 := ⟨n - 1, by omega⟩
  have dz := dlenT_bits hz
  have dw := dlenT_bits hws
  have hgc := callV_can (rgcd_run z w hz hws hS (n := n) (by omega)) (can2 (canS_s _) (canS_s _))
  obtain ⟨e1, e2⟩ := norm_num z w.natAbs (by omega)
  generalize Rat.normalize z w.natAbs _ = q at e1 e2
  obtain ⟨g, hg⟩ : ∃ g, g = z.natAbs.gcd w.natAbs := ⟨_, rfl⟩
  rw [← hg] at hgc e1 e2
  have hgp : 0 < g := by rw [hg]; exact Nat.gcd_pos_of_pos_right _ (by omega)
  have hgl : g ≤ w.natAbs := by rw [hg]; exact Nat.gcd_le_right _ (by omega)
  have dg : dlen BT g ≤ S := Nat.le_trans (dlen_mono BT2 hgl) dw
  have n1 := callV_can (rneg_run a (n := n) (by omega)) (can1 (canS_s _))
  have n2 := callV_can (rneg_run b (n := n) (by omega)) (can1 (canS_s _))
  have hb : decide (b < 0) = neg := by
    rcases hab with ⟨rfl, rfl, rfl⟩ | ⟨rfl, rfl, rfl⟩
    · simp; omega
    · simp; omega
  have hw0 : decide (w < 0) = false := by simp; omega
  have hq0 : decide ((q.den : Int) < 0) = false := by simp
  have hg0 : decide ((g : Int) < 0) = false := by simp
  unfold rV
  rw [rC_eq, hq0]
  by_cases hg1 : g = 1
  · subst hg1
    have hdig : digs BT 1 = [1] := by
      rw [digs_pos BT2 (by decide)]
      rw [show (1 : Nat) / BT = 0 from rfl, digs_zero]
      rfl
    rw [Nat.div_one] at e1 e2
    rw [sgn_natAbs] at e1
    have e3 : intE [1] = [[AV.int .i64 1]] := rfl
    have e4 : (((1 : Nat) : Int) == 1) = true := rfl
    have e5 : ((1 : Int) == 1) = true := rfl
    have n0 : natOf 0 = some 0 := rfl
    rw [e1, e2]
    rcases hab with ⟨rfl, rfl, rfl⟩ | ⟨rfl, h1, h2⟩
    · unfold sV zC at hgc ⊢
      rw [Int.natAbs_natCast, hg0, hw0] at hgc
      unfold zD at hgc ⊢
      rw [hdig, e3] at hgc
      simp only [go_sem, Fn.ambleref01_QOf, hb, hgc, e4, e5, n0]
    · rw [h1] at n1
      rw [h2] at n2
      unfold sV zC at hgc n1 n2 ⊢
      rw [Int.natAbs_natCast, hg0, hw0] at hgc
      rw [hw0] at n2
      rw [hb] at n2
      unfold zD at hgc n1 n2 ⊢
      rw [hdig, e3] at hgc
      simp only [go_sem, Fn.ambleref01_QOf, hb, n1, n2, hgc, e4, e5, n0]
  · have hz2 := callV_can (rover_run z.natAbs g hgp (by omega) (by omega) (n := n) (by omega)) (can2 (canS_d _) (canS_d _))
    have hw2 := callV_can (rover_run w.natAbs g hgp (by omega) (by omega) (n := n) (by omega)) (can2 (canS_d _) (canS_d _))
    have s1 := call_signed (decide (z < 0)) (z.natAbs / g) q.num e1.symm (n := n + 1) (by omega)
    have s2 := call_signed false (w.natAbs / g) (q.den : Int) (by rw [e2]; rfl) (n := n + 1) (by omega)
    generalize z.natAbs / g = zg at hz2 s1
    generalize w.natAbs / g = wg at hw2 s2
    generalize z.natAbs % g = zr at hz2
    generalize w.natAbs % g = wr at hw2
    have n0 : natOf 0 = some 0 := rfl
    unfold sV zC at s1 s2
    rw [Int.natAbs_natCast, hq0] at s2
    unfold zD at hz2 hw2 s1 s2
    by_cases hl : (digs BT g).length = 1
    · obtain ⟨x, hx⟩ := List.length_eq_one_iff.1 hl
      have hv := val_digs BT2 g
      rw [hx] at hv hz2 hw2
      have hxg : x = g := by simpa [val] using hv
      have e3 : intE [x] = [[AV.int .i64 (x : Int)]] := rfl
      have e4 : (((1 : Nat) : Int) == 1) = true := rfl
      have e5 : (((x : Nat) : Int) == 1) = false := by rw [hxg]; simp only [beq_eq_false_iff_ne, ne_eq]; omega
      rw [e3] at hz2 hw2
      rcases hab with ⟨rfl, rfl, rfl⟩ | ⟨rfl, h1, h2⟩
      · unfold sV zC at hgc ⊢
        rw [Int.natAbs_natCast, hg0, hw0] at hgc
        unfold zD at hgc ⊢
        rw [hx, e3] at hgc
        simp only [go_sem, Fn.ambleref01_QOf, hb, hgc, e4, e5, n0, hz2, hw2, s1, s2]
      · rw [h1] at n1
        rw [h2] at n2
        unfold sV zC at hgc n1 n2 ⊢
        rw [Int.natAbs_natCast, hg0, hw0] at hgc
        rw [hw0] at n2
        rw [hb] at n2
        unfold zD at hgc n1 n2 ⊢
        rw [hx, e3] at hgc
        simp only [go_sem, Fn.ambleref01_QOf, hb, n1, n2, hgc, e4, e5, n0, hz2, hw2, s1, s2]
    · have e4 : ((((digs BT g).length : Nat) : Int) == 1) = false := by simp only [beq_eq_false_iff_ne, ne_eq]; omega
      rcases hab with ⟨rfl, rfl, rfl⟩ | ⟨rfl, h1, h2⟩
      · unfold sV zC at hgc ⊢
        rw [Int.natAbs_natCast, hg0, hw0] at hgc
        unfold zD at hgc ⊢
        simp only [go_sem, Fn.ambleref01_QOf, hb, hgc, e4, n0, hz2, hw2, s1, s2]
      · rw [h1] at n1
        rw [h2] at n2
        unfold sV zC at hgc n1 n2 ⊢
        rw [Int.natAbs_natCast, hg0, hw0] at hgc
        rw [hw0] at n2
        rw [hb] at n2
        unfold zD at hgc n1 n2 ⊢
        simp only [go_sem, Fn.ambleref01_QOf, hb, n1, n2, hgc, e4, n0, hz2, hw2, s1, s2]
theorem rqof_run (z w : Int) (hw : w ≠ 0) {S : Nat} (hz : z.natAbs < 2 ^ S) (hws : w.natAbs < 2 ^ S) (hS : S < 2 ^ 37) {n : Nat} (hn : KR S + 3 ≤ n) : evV E (n + 1) Id.ambleref01_QOf [sV z, sV w] = some (rV (ofQ z w hw)) := by
  by_cases h : w < 0
  · rw [ofQ_neg hw h]
    exact rqof_pos (-z) (-w) (by omega) (by omega) (by omega) hS hn true z w (.inr ⟨rfl, rfl, rfl⟩)
  · rw [ofQ_pos hw h]
    exact rqof_pos z w (by omega) hz hws hS hn false z w (.inl ⟨rfl, rfl, rfl⟩)
theorem rof_run (z d : Int) (hd : d ≠ 0) (h1 : -9223372036854775808 ≤ z) (h2 : z < 9223372036854775808) (h3 : -9223372036854775808 ≤ d) (h4 : d < 9223372036854775808) {n : Nat} (hn : KR 64 + 4 ≤ n) : evV E (n + 1) Id.ambleref01_Of [.one (.int .i64 z), .one (.int .i64 d)] = some (rV (ofQ z d hd)) := by
  rw [evV_succ E_ambleref01_Of]
  have hK := KR_big 64
  have e : (2 : Nat) ^ 64 = 18446744073709551616 := rfl
  obtain ⟨n, rfl⟩ : ∃ k, n = k + 1 := ⟨n - 1, by omega⟩
  have z1 := callV_can (zint_run z h1 h2 (n := n) (by omega)) (can1 (canS_int _ _))
  have z2 := callV_can (zint_run d h3 h4 (n := n) (by omega)) (can1 (canS_int _ _))
  have hq := callV_can (rqof_run z d hd (S := 64) (by rw [e]; omega) (by rw [e]; omega) (by decide) (n := n) (by omega)) (can2 (canS_s _) (canS_s _))
  generalize ofQ z d hd = q at hq ⊢
  unfold rV at hq ⊢
  rw [rC_eq] at hq ⊢
  unfold sV zC zD at z1 z2 hq
  unfold zD
  simp only [go_sem, Fn.ambleref01_Of, z1, z2, hq]
theorem rMul_run (a b : Rat) {S T : Nat} (ha : SmQ S a) (hb : SmQ T b) (hS : S + T < 2 ^ 36) {n : Nat} (hn : KR (S + T) + 4 ≤ n) : evV E (n + 1) Id.ambleref01_Mul [rV a, rV b] = some (rV (a * b)) := by
  rw [evV_succ E_ambleref01_Mul, Rat.mul_def]
  have hK := KR_big (S + T)
  obtain ⟨n, rfl⟩ : ∃ k, n = k + 1 := ⟨n - 1, by omega⟩
  have da := dlenT_bits ha.den
  have db := dlenT_bits hb.den
  have na := dlenT_bits ha.num
  have nb := dlenT_bits hb.num
  have d1 := callV_can (rden_run a (by omega) (n := n) (by omega)) (can1 (canS_r _))
  have d2 := callV_can (rden_run b (by omega) (n := n) (by omega)) (can1 (canS_r _))
  have m1 := callV_can (rmulz_run a.num b.num (by omega) (by omega) (n := n) (by omega)) (can2 (canS_s _) (canS_s _))
  have m2 := callV_can (rmulz_run (a.den : Int) (b.den : Int) (by rw [Int.natAbs_natCast]; omega) (by rw [Int.natAbs_natCast]; omega) (n := n) (by rw [Int.natAbs_natCast, Int.natAbs_natCast]; omega)) (can2 (canS_s _) (canS_s _))
  have h1 : (a.num * b.num).natAbs < 2 ^ (S + T) := by rw [Int.natAbs_mul]; exact pow_lt2 ha.num hb.num
  have h2 : ((a.den : Int) * (b.den : Int)).natAbs < 2 ^ (S + T) := by
    rw [Int.natAbs_mul, Int.natAbs_natCast, Int.natAbs_natCast]; exact pow_lt2 ha.den hb.den
  have hp : (0 : Int) < (a.den : Int) * (b.den : Int) := Int.mul_pos (by have := a.den_pos; omega) (by have := b.den_pos; omega)
  have hq := callV_can (rqof_pos (a.num * b.num) ((a.den : Int) * (b.den : Int)) hp h1 h2 (by omega) (n := n) (by omega) false _ _ (.inl ⟨rfl, rfl, rfl⟩)) (can2 (canS_s _) (canS_s _))
  have en : Rat.normalize (a.num * b.num) ((a.den : Int) * (b.den : Int)).natAbs (by omega) = Rat.normalize (a.num * b.num) (a.den * b.den) (Nat.mul_ne_zero a.den_nz b.den_nz) := by
    congr 1
  rw [en] at hq
  generalize Rat.normalize (a.num * b.num) (a.den * b.den) _ = q at hq ⊢
  generalize a.num * b.num = p at m1 hq
  generalize (a.den : Int) * (b.den : Int) = r at m2 hq
  unfold rV at d1 d2 hq ⊢
  rw [rC_eq] at d1 d2 hq
  rw [rC_eq a, rC_eq b, rC_eq q]
  unfold sV zC at d1 d2 m1 m2 hq
  rw [Int.natAbs_natCast] at d1 d2
  rw [Int.natAbs_natCast, Int.natAbs_natCast] at m2
  unfold zD at d1 d2 m1 m2 hq ⊢
  simp only [go_sem, Fn.ambleref01_Mul, d1, d2, m1, m2, hq]
end Go.Ev
namespace Go.Ev
open Go.Dig
def Ends (f : FuncId) (args : List SV) (r : SV) : Prop := ∃ N, ∀ n, N ≤ n → evV E n f args = some r
theorem Ends.of {f : FuncId} {args : List SV} {r : SV} (N : Nat) (h : ∀ {n}, N ≤ n → evV E (n + 1) f args = some r) : Ends f args r :=
  ⟨N + 1, fun n hn => by obtain ⟨m, rfl⟩ : ∃ m, n = m + 1 := ⟨n - 1, by omega⟩; exact h (by omega)⟩
def Calling (f : FuncId) (args : List SV) (r : SV) : Prop := ∃ N, ∀ n, N ≤ n → ∀ (ob : Nat → Option AObj) (fz : Nat → Nat), callV (evF E n) f args ob fz = some (.fzd fz r)
theorem Ends.call {f : FuncId} {args : List SV} {r : SV} (h : Ends f args r) (hc : ∀ x ∈ args, CanS x) : Calling f args r := by
  obtain ⟨N, h⟩ := h
  exact ⟨N, fun n hn => callV_can (h n hn) hc⟩
structure Num where
  n : Int
  d : Int
  p : Nat
  n1 : -9223372036854775808 ≤ n
  n2 : n < 9223372036854775808
  d1 : -9223372036854775808 ≤ d
  d2 : d < 9223372036854775808
  p2 : p < 256
def Num.c (x : Num) : List AV := [.int .i64 x.n, .int .i64 x.d, .int .u8 (x.p : Int)]
def Num.den (x : Num) : Int := if x.d = 0 then 1 else x.d
theorem Num.den0 (x : Num) : x.den ≠ 0 := by unfold Num.den; split <;> omega
theorem Num.denR (x : Num) : -9223372036854775808 ≤ x.den ∧ x.den < 9223372036854775808 := by
  have h1 := x.d1
  have h2 := x.d2
  unfold Num.den; split <;> omega
def Num.base (x : Num) : Rat := ofQ x.n x.den x.den0
def Num.q (x : Num) : Rat := x.base ^ (x.p % 4 + 1)
theorem Num.baseS (x : Num) : SmQ 64 x.base := SmQ.ofQ x.den0 x.n1 x.n2 x.denR.1 x.denR.2
theorem powS {a : Rat} (h : SmQ 64 a) : ∀ k, SmQ (64 * (k + 1)) (a ^ (k + 1))
  | 0 => by rw [Rat.pow_succ, Rat.pow_zero, Rat.one_mul]; exact h
  | k + 1 => by
    rw [Rat.pow_succ]
    exact SmQ.mono (SmQ.mul (powS h k) h) (by omega)
theorem Num.qS (x : Num) : SmQ 256 x.q := SmQ.mono (powS x.baseS (x.p % 4)) (by omega)
theorem both_loop {n i1 i4 i6 i7 i8 : Nat} {fz : Nat → Nat} {nx : Nat} (a : Rat) (ha : SmQ 64 a) (x2 x3 : SV) (c1 c2 : AV) (p : Nat) (h14 : i7 ≠ i1 ∧ i7 ≠ i4 ∧ i7 ≠ i6 ∧ i8 ≠ i1 ∧ i8 ≠ i4 ∧ i8 ≠ i6 ∧ i8 ≠ i7) (hn : KR 320 ≤ n) (hn' : K 320 ≤ n) : ∀ (m k : Nat), k + m = p % 4 → ∀ (ob : Nat → Option AObj) (X : List (Nat × SV)), ob i1 = some (.box [c1, c2, .int .u8 (p : Int)]) → ob i4 = some (.box (qC a)) → ob i6 = some (.box (rC a)) → ob i7 = some (.box (qC (a ^ (k + 1)))) → ob i8 = some (.box (rC (a ^ (k + 1)))) → ∀ N, m < N →
    ∃ (ob' : Nat → Option AObj) (X' : List (Nat × SV)), loopN (evC (evF E (n + 6)) (n + 6) Fn.amblelaw01_Both_L0) N ⟨env ((1, .one (.box i1 0)) :: (2, x2) :: (3, x3) :: (4, .one (.box i4 0)) :: (6, .one (.box i6 0)) :: (7, .one (.box i7 0)) :: (8, .one (.box i8 0)) :: (9, .one (.int .u8 (k : Int))) :: X), ob, fz, nx⟩ =
      some (.ext 0, ⟨env ((1, .one (.box i1 0)) :: (2, x2) :: (3, x3) :: (4, .one (.box i4 0)) :: (6, .one (.box i6 0)) :: (7, .one (.box i7 0)) :: (8, .one (.box i8 0)) :: X'), ob', fz, nx⟩) ∧ ob' i7 = some (.box (qC (a ^ (p % 4 + 1)))) ∧ ob' i8 = some (.box (rC (a ^ (p % 4 + 1)))) ∧ ∀ i, i ≠ i7 → i ≠ i8 → ob' i = ob i
  | 0, k, hk, ob, X, o1, o4, o6, o7, o8, N + 1, hN => by
    have hk' : k = p % 4 := by omega
    subst hk'
    refine ⟨ob, [(9, .one (.int .u8 ((p % 4 : Nat) : Int))), (33, .one (.bool false))], round_ext ?_, o7, o8, fun _ _ _ => rfl⟩
    have t4 : ((4 : Int) = 0) = False := by simp
    have hr : ((p : Int)).tmod 4 = ((p % 4 : Nat) : Int) := (Int.ofNat_tmod p 4).symm
    have hl : (((p % 4 : Nat) : Int) < ((p % 4 : Nat) : Int)) = False := by simp
    simp only [go_sem, Fn.amblelaw01_Both_L0, o1, t4, hr, hl]
  | m + 1, k, hk, ob, X, o1, o4, o6, o7, o8, N + 1, hN => by
    have t4 : ((4 : Int) = 0) = False := by simp
    have hr : ((p : Int)).tmod 4 = ((p % 4 : Nat) : Int) := (Int.ofNat_tmod p 4).symm
    have hl : (((k : Nat) : Int) < ((p % 4 : Nat) : Int)) = True := by simp; omega
    have hw : IntKind.u8.wrap ((k + 1 : Nat) : Int) = ((k + 1 : Nat) : Int) := by rw [IntKind.wrap_u8]; omega
    have hs : SmQ 256 (a ^ (k + 1)) := SmQ.mono (powS ha k) (by omega)
    have m1 := callV_can (Mul_run (a ^ (k + 1)) a hs ha (by decide) (n := n + 5) (by show K 320 + _ ≤ _; omega)) (can2 (canS_q _) (canS_q _)) ob fz
    have m2 := fun ob => callV_can (rMul_run (a ^ (k + 1)) a hs ha (by decide) (n := n + 5) (by show KR 320 + _ ≤ _; omega)) (can2 (canS_r _) (canS_r _)) ob fz
    rw [← Rat.pow_succ] at m1 m2
    obtain ⟨g1, g2, g3, g4, g5, g6, g7⟩ := h14
    obtain ⟨ob', X', h1, h2, h3, h4⟩ := both_loop (fz := fz) (nx := nx) a ha x2 x3 c1 c2 p ⟨g1, g2, g3, g4, g5, g6, g7⟩ hn hn' m (k + 1) (by omega) (upd (upd ob i7 (.box (qC (a ^ (k + 1 + 1))))) i8 (.box (rC (a ^ (k + 1 + 1))))) []
      (by rw [upd_ne g4.symm, upd_ne g1.symm]; exact o1) (by rw [upd_ne g5.symm, upd_ne g2.symm]; exact o4) (by rw [upd_ne g6.symm, upd_ne g3.symm]; exact o6) (by rw [upd_ne g7.symm]; exact upd_same _ _ _) (upd_same _ _ _) N (by omega)
    refine ⟨ob', X', ?_, h2, h3, fun i e7 e8 => by rw [h4 i e7 e8, upd_ne e8, upd_ne e7]⟩
    rw [← h1]
    refine round_nrm ?_
    have u6 : ∀ y, upd ob i7 y i6 = ob i6 := fun y => upd_ne g3.symm
    have u8 : ∀ y, upd ob i7 y i8 = ob i8 := fun y => upd_ne g7
    generalize a ^ (k + 1) = b at *
    generalize a ^ (k + 1 + 1) = c at *
    unfold qV at m1
    unfold rV at m2
    rw [rC_eq] at o6 o8
    rw [rC_eq b, rC_eq a, rC_eq c] at m2
    rw [rC_eq c]
    unfold qC natV at m1 o4 o7 ⊢
    unfold zD at m2 o6 o8 ⊢
    simp only [go_sem, Fn.amblelaw01_Both_L0, o1, t4, hr, hl, o4, o6, o7, o8, u6, u8, m1, m2, add1, hw]
theorem nbeq (a b : Nat) : Nat.beq a b = (a == b) := by
  rw [Bool.eq_iff_iff, Nat.beq_eq, beq_iff_eq]
attribute [go_sem] List.all_cons List.all_nil nbeq Nat.reduceBEq
theorem rV_eq (q : Rat) : rV q = .agg [.bool (decide (q.num < 0)), zD q.num.natAbs, .bool (decide ((q.den : Int) < 0)), zD q.den] := by unfold rV; rw [rC_eq]
def bothT : ACode := match Fn.amblelaw01_Both.code with | .seq _ (.seq _ (.seq _ (.seq _ (.seq _ (.seq _ t))))) => t | _ => .skip
theorem Both_run (x : Num) {n : Nat} (hn : K 320 + KR 320 + 20 ≤ n) : evV E (n + 1) Id.amblelaw01_Both [.agg x.c] = some (.tup [qV x.q, rV x.q]) := by
  rw [evV_succ E_amblelaw01_Both]
  have hK : K 64 ≤ K 320 := K_mono (by decide)
  have hR : KR 64 ≤ KR 320 := by unfold KR; have := Nat.pow_le_pow_right (show 0 < 2 by decide) (show 64 ≤ 320 by decide); omega
  obtain ⟨n, rfl⟩ : ∃ k, n = k + 6 := ⟨n - 6, by omega⟩
  have h1 := callV_can (Of_run x.n x.den x.den0 x.n1 x.n2 x.denR.1 x.denR.2 (n := n + 5) (by omega)) (can2 (canS_int _ _) (canS_int _ _))
  have h2 := callV_can (rof_run x.n x.den x.den0 x.n1 x.n2 x.denR.1 x.denR.2 (n := n + 5) (by omega)) (can2 (canS_int _ _) (canS_int _ _))
  have hb := x.baseS
  rw [show ofQ x.n x.den x.den0 = x.base from rfl] at h1 h2
  have hq : x.q = x.base ^ (x.p % 4 + 1) := rfl
  have hc : x.c = [.int .i64 x.n, .int .i64 x.d, .int .u8 (x.p : Int)] := rfl
  have hden : x.den = if x.d = 0 then 1 else x.d := rfl
  rw [hq, hc]
  generalize x.den = den at *
  generalize x.base = a at *
  have hlo := fun i1 i4 i6 i7 i8 nx c1 c2 x2 x3 hne ob => both_loop (n := n) (i1 := i1) (i4 := i4) (i6 := i6) (i7 := i7) (i8 := i8) (fz := fz0) (nx := nx) a hb x2 x3 c1 c2 x.p hne (by omega) (by omega) (x.p % 4) 0 (by omega) ob []
  have ga : a ^ (0 + 1) = a := by rw [Rat.pow_succ, Rat.pow_zero, Rat.one_mul]
  generalize a ^ (x.p % 4 + 1) = b at *
  have key : ∀ (c1 c2 : AV) (ob : Nat → Option AObj), ob 0 = some (.box [c1, c2, .int .u8 (x.p : Int)]) → ob 1 = some (.box [.bool false, .nils, .nils]) → ob 2 = some (.box [.bool false, .nils, .bool false, .nils]) → ob 11 = some (.box (qC a)) → ob 19 = some (.box (rC a)) → ob 23 = some (.box (qC a)) → ob 24 = some (.box (rC a)) →
      finV Fn.amblelaw01_Both.res (thenC (evF E (n + 6)) (n + 6) bothT (blkC 0 (loopN (evC (evF E (n + 6)) (n + 6) Fn.amblelaw01_Both_L0) (n + 6) ⟨env [(1, .one (.box 0 0)), (2, .one (.box 1 0)), (3, .one (.box 2 0)), (4, .one (.box 11 0)), (6, .one (.box 19 0)), (7, .one (.box 23 0)), (8, .one (.box 24 0)), (9, .one (.int .u8 0))], ob, fz0, 27⟩))) = some (.tup [qV b, rV b]) := by
    intro c1 c2 ob o0 o1 o2 o11 o19 o23 o24
    obtain ⟨ob', X', hl, p7, p8, pr⟩ := hlo 0 11 19 23 24 27 c1 c2 (.one (.box 1 0)) (.one (.box 2 0)) (by decide) ob o0 o11 o19 (by rw [ga]; exact o23) (by rw [ga]; exact o24) (n + 6) (by omega)
    rw [show ((0 : Nat) : Int) = 0 from rfl] at hl
    have q1 : ob' 1 = _ := (pr 1 (by decide) (by decide)).trans o1
    have q2 : ob' 2 = _ := (pr 2 (by decide) (by decide)).trans o2
    have u2 : ∀ y, upd ob' 1 y 2 = ob' 2 := fun y => upd_ne (by decide)
    rw [rC_eq] at p8
    rw [rV_eq]
    unfold qC natV at p7
    unfold zD at p8
    unfold qV qC natV zD
    unfold bothT Fn.amblelaw01_Both
    simp only [go_sem, hl, p7, p8, q1, q2, u2]
  rw [rV_eq] at h2
  unfold qV qC natV at h1
  unfold zD at h2
  by_cases hd : x.d = 0
  · rw [if_pos hd] at hden
    have e0 : (x.d == 0) = true := by simp [hd]
    rw [hden] at h1 h2
    unfold Fn.amblelaw01_Both
    simp only [go_sem, e0, h1, h2]
    exact key _ _ _ rfl rfl rfl rfl rfl rfl rfl
  · rw [if_neg hd] at hden
    have e0 : (x.d == 0) = false := by simp [hd]
    rw [hden] at h1 h2
    unfold Fn.amblelaw01_Both
    simp only [go_sem, e0, h1, h2]
    exact key _ _ _ rfl rfl rfl rfl rfl rfl rfl
end Go.Ev
namespace Go.Ev
open Go.Dig
def Fz (x : AV) : Prop := ∀ (ob : Nat → Option AObj) (fz : Nat → Nat), frz ob DEPTH fz x = some (fz, x)
theorem Canon.fz {x : AV} (h : Canon x) : Fz x := fun ob fz => h.frz ob 7 fz
def CanL (l : List AV) : Prop := ∀ x ∈ l, Canon x
theorem CanL.nil : CanL [] := fun _ h => by simp at h
theorem CanL.cons {x : AV} {l : List AV} (h : Canon x) (hl : CanL l) : CanL (x :: l) := fun y hy => by
  rcases List.mem_cons.1 hy with rfl | e
  · exact h
  · exact hl y e
theorem CanL.app {l m : List AV} (h : CanL l) (hm : CanL m) : CanL (l ++ m) := fun y hy => by
  rcases List.mem_append.1 hy with e | e
  · exact h y e
  · exact hm y e
theorem CanL.q (q : Rat) : CanL (qC q) := .cons (.bool _) (.cons (.sl _) (.cons (.sl _) .nil))
theorem CanL.r (q : Rat) : CanL (rC q) := by
  rw [rC_eq]
  exact .cons (.bool _) (.cons (.sl _) (.cons (.bool _) (.cons (.sl _) .nil)))
theorem CanL.num (x : Num) : CanL x.c := .cons (.int _ _) (.cons (.int _ _) (.cons (.int _ _) .nil))
theorem CanL.agg {l : List AV} (h : CanL l) : CanS (.agg l) := .agg _ h
theorem can1' {l : List AV} (h : CanL l) : ∀ x ∈ [SV.agg l], CanS x := can1 h.agg
theorem qC_cells (q : Rat) : ∃ a b c, qC q = [a, b, c] ∧ Fz a ∧ Fz b ∧ Fz c := ⟨_, _, _, rfl, (Canon.bool _).fz, (Canon.sl _).fz, (Canon.sl _).fz⟩
theorem rC_cells (q : Rat) : ∃ a b c d, rC q = [a, b, c, d] ∧ Fz a ∧ Fz b ∧ Fz c ∧ Fz d := ⟨_, _, _, _, rfl, (Canon.bool _).fz, (Canon.sl _).fz, (Canon.bool _).fz, (Canon.sl _).fz⟩
theorem Both_ends (x : Num) : Ends Id.amblelaw01_Both [.agg x.c] (.tup [.agg (qC x.q), .agg (rC x.q)]) := .of _ fun hn => Both_run x hn
theorem Both_call (x : Num) : Calling Id.amblelaw01_Both [.agg x.c] (.tup [.agg (qC x.q), .agg (rC x.q)]) := (Both_ends x).call (can1' (.num x))
structure Beat where
  load : Num
  angle : Num
  speed : Num
def Beat.c (b : Beat) : List AV := b.load.c ++ b.angle.c ++ b.speed.c
structure Samp where
  load : Rat
  angle : Rat
  speed : Rat
def Samp.c (s : Samp) : List AV := qC s.load ++ qC s.angle ++ qC s.speed
def Samp.r (s : Samp) : List AV := rC s.load ++ rC s.angle ++ rC s.speed
def Beat.s (b : Beat) : Samp := ⟨b.load.q, b.angle.q, b.speed.q⟩
theorem CanL.beat (b : Beat) : CanL b.c := .app (.app (.num _) (.num _)) (.num _)
theorem CanL.samp (b : Samp) : CanL b.c := .app (.app (.q _) (.q _)) (.q _)
theorem CanL.sampr (b : Samp) : CanL b.r := .app (.app (.r _) (.r _)) (.r _)
theorem Beat_ends (b : Beat) : Ends Id.amblelaw11_Beat_Both [.agg b.c] (.tup [.agg b.s.c, .agg b.s.r]) := by
  obtain ⟨x, z, w⟩ := b
  obtain ⟨N1, h1⟩ := Both_call x
  obtain ⟨N2, h2⟩ := Both_call z
  obtain ⟨N3, h3⟩ := Both_call w
  refine .of (N1 + N2 + N3) fun {n} hn => ?_
  have h1 := h1 n (by omega)
  have h2 := h2 n (by omega)
  have h3 := h3 n (by omega)
  rw [evV_succ E_amblelaw11_Beat_Both]
  unfold Beat.c Beat.s Samp.c Samp.r
  obtain ⟨a, b, c, e1, f1, f2, f3⟩ := qC_cells x.q
  obtain ⟨a', b', c', e2, f1', f2', f3'⟩ := qC_cells z.q
  obtain ⟨a'', b'', c'', e5, f1'', f2'', f3''⟩ := qC_cells w.q
  obtain ⟨p, q, r, s, e3, g1, g2, g3, g4⟩ := rC_cells x.q
  obtain ⟨p', q', r', s', e4, g1', g2', g3', g4'⟩ := rC_cells z.q
  obtain ⟨p'', q'', r'', s'', e6, g1'', g2'', g3'', g4''⟩ := rC_cells w.q
  rw [e1, e3] at h1
  rw [e2, e4] at h2
  rw [e5, e6] at h3
  simp only [e1, e2, e3, e4, e5, e6]
  unfold Fz at *
  unfold Num.c at *
  simp only [go_sem, Fn.amblelaw11_Beat_Both, h1, h2, h3, f1, f2, f3, f1', f2', f3', g1, g2, g3, g4, g1', g2', g3', g4', f1'', f2'', f3'', g1'', g2'', g3'', g4'']
theorem Beat_call (b : Beat) : Calling Id.amblelaw11_Beat_Both [.agg b.c] (.tup [.agg b.s.c, .agg b.s.r]) := (Beat_ends b).call (can1' (.beat b))
theorem samp_cells (s : Samp) : ∃ c0 c1 c2 c3 c4 c5 c6 c7 c8, s.c = [c0, c1, c2, c3, c4, c5, c6, c7, c8] ∧ Fz c0 ∧ Fz c1 ∧ Fz c2 ∧ Fz c3 ∧ Fz c4 ∧ Fz c5 ∧ Fz c6 ∧ Fz c7 ∧ Fz c8 := by
  have h : CanL (s.c) := CanL.samp s
  obtain ⟨l, hl⟩ : ∃ l, l = s.c := ⟨_, rfl⟩
  rw [← hl] at h ⊢
  have hn : l.length = 9 := by rw [hl]; rfl
  obtain ⟨c0, l, rfl⟩ : ∃ c m, l = c :: m := by cases l with | nil => simp at hn | cons c m => exact ⟨c, m, rfl⟩
  obtain ⟨c1, l, rfl⟩ : ∃ c m, l = c :: m := by cases l with | nil => simp at hn | cons c m => exact ⟨c, m, rfl⟩
  obtain ⟨c2, l, rfl⟩ : ∃ c m, l = c :: m := by cases l with | nil => simp at hn | cons c m => exact ⟨c, m, rfl⟩
  obtain ⟨c3, l, rfl⟩ : ∃ c m, l = c :: m := by cases l with | nil => simp at hn | cons c m => exact ⟨c, m, rfl⟩
  obtain ⟨c4, l, rfl⟩ : ∃ c m, l = c :: m := by cases l with | nil => simp at hn | cons c m => exact ⟨c, m, rfl⟩
  obtain ⟨c5, l, rfl⟩ : ∃ c m, l = c :: m := by cases l with | nil => simp at hn | cons c m => exact ⟨c, m, rfl⟩
  obtain ⟨c6, l, rfl⟩ : ∃ c m, l = c :: m := by cases l with | nil => simp at hn | cons c m => exact ⟨c, m, rfl⟩
  obtain ⟨c7, l, rfl⟩ : ∃ c m, l = c :: m := by cases l with | nil => simp at hn | cons c m => exact ⟨c, m, rfl⟩
  obtain ⟨c8, l, rfl⟩ : ∃ c m, l = c :: m := by cases l with | nil => simp at hn | cons c m => exact ⟨c, m, rfl⟩
  have e : l = [] := by cases l with | nil => rfl | cons c m => simp only [List.length_cons] at hn; omega
  subst e
  exact ⟨c0, c1, c2, c3, c4, c5, c6, c7, c8, rfl, (h c0 (by simp)).fz, (h c1 (by simp)).fz, (h c2 (by simp)).fz, (h c3 (by simp)).fz, (h c4 (by simp)).fz, (h c5 (by simp)).fz, (h c6 (by simp)).fz, (h c7 (by simp)).fz, (h c8 (by simp)).fz⟩
theorem sampr_cells (s : Samp) : ∃ c0 c1 c2 c3 c4 c5 c6 c7 c8 c9 c10 c11, s.r = [c0, c1, c2, c3, c4, c5, c6, c7, c8, c9, c10, c11] ∧ Fz c0 ∧ Fz c1 ∧ Fz c2 ∧ Fz c3 ∧ Fz c4 ∧ Fz c5 ∧ Fz c6 ∧ Fz c7 ∧ Fz c8 ∧ Fz c9 ∧ Fz c10 ∧ Fz c11 := by
  have h : CanL (s.r) := CanL.sampr s
  obtain ⟨l, hl⟩ : ∃ l, l = s.r := ⟨_, rfl⟩
  rw [← hl] at h ⊢
  have hn : l.length = 12 := by rw [hl]; rfl
  obtain ⟨c0, l, rfl⟩ : ∃ c m, l = c :: m := by cases l with | nil => simp at hn | cons c m => exact ⟨c, m, rfl⟩
  obtain ⟨c1, l, rfl⟩ : ∃ c m, l = c :: m := by cases l with | nil => simp at hn | cons c m => exact ⟨c, m, rfl⟩
  obtain ⟨c2, l, rfl⟩ : ∃ c m, l = c :: m := by cases l with | nil => simp at hn | cons c m => exact ⟨c, m, rfl⟩
  obtain ⟨c3, l, rfl⟩ : ∃ c m, l = c :: m := by cases l with | nil => simp at hn | cons c m => exact ⟨c, m, rfl⟩
  obtain ⟨c4, l, rfl⟩ : ∃ c m, l = c :: m := by cases l with | nil => simp at hn | cons c m => exact ⟨c, m, rfl⟩
  obtain ⟨c5, l, rfl⟩ : ∃ c m, l = c :: m := by cases l with | nil => simp at hn | cons c m => exact ⟨c, m, rfl⟩
  obtain ⟨c6, l, rfl⟩ : ∃ c m, l = c :: m := by cases l with | nil => simp at hn | cons c m => exact ⟨c, m, rfl⟩
  obtain ⟨c7, l, rfl⟩ : ∃ c m, l = c :: m := by cases l with | nil => simp at hn | cons c m => exact ⟨c, m, rfl⟩
  obtain ⟨c8, l, rfl⟩ : ∃ c m, l = c :: m := by cases l with | nil => simp at hn | cons c m => exact ⟨c, m, rfl⟩
  obtain ⟨c9, l, rfl⟩ : ∃ c m, l = c :: m := by cases l with | nil => simp at hn | cons c m => exact ⟨c, m, rfl⟩
  obtain ⟨c10, l, rfl⟩ : ∃ c m, l = c :: m := by cases l with | nil => simp at hn | cons c m => exact ⟨c, m, rfl⟩
  obtain ⟨c11, l, rfl⟩ : ∃ c m, l = c :: m := by cases l with | nil => simp at hn | cons c m => exact ⟨c, m, rfl⟩
  have e : l = [] := by cases l with | nil => rfl | cons c m => simp only [List.length_cons] at hn; omega
  subst e
  exact ⟨c0, c1, c2, c3, c4, c5, c6, c7, c8, c9, c10, c11, rfl, (h c0 (by simp)).fz, (h c1 (by simp)).fz, (h c2 (by simp)).fz, (h c3 (by simp)).fz, (h c4 (by simp)).fz, (h c5 (by simp)).fz, (h c6 (by simp)).fz, (h c7 (by simp)).fz, (h c8 (by simp)).fz, (h c9 (by simp)).fz, (h c10 (by simp)).fz, (h c11 (by simp)).fz⟩
theorem beat_cells (b : Beat) : ∃ c0 c1 c2 c3 c4 c5 c6 c7 c8, b.c = [c0, c1, c2, c3, c4, c5, c6, c7, c8] ∧ Fz c0 ∧ Fz c1 ∧ Fz c2 ∧ Fz c3 ∧ Fz c4 ∧ Fz c5 ∧ Fz c6 ∧ Fz c7 ∧ Fz c8 := by
  have h : CanL (b.c) := CanL.beat b
  obtain ⟨l, hl⟩ : ∃ l, l = b.c := ⟨_, rfl⟩
  rw [← hl] at h ⊢
  have hn : l.length = 9 := by rw [hl]; rfl
  obtain ⟨c0, l, rfl⟩ : ∃ c m, l = c :: m := by cases l with | nil => simp at hn | cons c m => exact ⟨c, m, rfl⟩
  obtain ⟨c1, l, rfl⟩ : ∃ c m, l = c :: m := by cases l with | nil => simp at hn | cons c m => exact ⟨c, m, rfl⟩
  obtain ⟨c2, l, rfl⟩ : ∃ c m, l = c :: m := by cases l with | nil => simp at hn | cons c m => exact ⟨c, m, rfl⟩
  obtain ⟨c3, l, rfl⟩ : ∃ c m, l = c :: m := by cases l with | nil => simp at hn | cons c m => exact ⟨c, m, rfl⟩
  obtain ⟨c4, l, rfl⟩ : ∃ c m, l = c :: m := by cases l with | nil => simp at hn | cons c m => exact ⟨c, m, rfl⟩
  obtain ⟨c5, l, rfl⟩ : ∃ c m, l = c :: m := by cases l with | nil => simp at hn | cons c m => exact ⟨c, m, rfl⟩
  obtain ⟨c6, l, rfl⟩ : ∃ c m, l = c :: m := by cases l with | nil => simp at hn | cons c m => exact ⟨c, m, rfl⟩
  obtain ⟨c7, l, rfl⟩ : ∃ c m, l = c :: m := by cases l with | nil => simp at hn | cons c m => exact ⟨c, m, rfl⟩
  obtain ⟨c8, l, rfl⟩ : ∃ c m, l = c :: m := by cases l with | nil => simp at hn | cons c m => exact ⟨c, m, rfl⟩
  have e : l = [] := by cases l with | nil => rfl | cons c m => simp only [List.length_cons] at hn; omega
  subst e
  exact ⟨c0, c1, c2, c3, c4, c5, c6, c7, c8, rfl, (h c0 (by simp)).fz, (h c1 (by simp)).fz, (h c2 (by simp)).fz, (h c3 (by simp)).fz, (h c4 (by simp)).fz, (h c5 (by simp)).fz, (h c6 (by simp)).fz, (h c7 (by simp)).fz, (h c8 (by simp)).fz⟩
structure Rng where
  low : Beat
  high : Beat
def Rng.c (r : Rng) : List AV := r.low.c ++ r.high.c
structure Bx where
  low : Samp
  high : Samp
def Bx.c (b : Bx) : List AV := b.low.c ++ b.high.c
def Bx.r (b : Bx) : List AV := b.low.r ++ b.high.r
def Rng.b (r : Rng) : Bx := ⟨r.low.s, r.high.s⟩
theorem CanL.bx (b : Bx) : CanL b.c := .app (.samp _) (.samp _)
end Go.Ev
namespace Go.Ev
open Go.Dig
theorem eq_addl (a b : Nat) : (a = a + b) = (b = 0) := by rw [eq_iff_iff]; omega
theorem eq_addr (a b : Nat) : (a + b = a) = (b = 0) := by rw [eq_iff_iff]; omega
theorem lt_addl (a b c : Nat) : (a + b < a + c) = (b < c) := by rw [eq_iff_iff]; omega
attribute [go_sem] eq_addl eq_addr lt_addl
def OutE (sz : Nat) (ob : Nat → Option AObj) (nx : Nat) (x : AV) (es : List (List AV)) : Prop :=
  (es = [] ∧ x = .nils) ∨ ∃ id ver, x = .rsl id ver sz 0 es.length false ∧ ob id = some (.row sz es ver) ∧ id < nx
theorem OutE.frzD {sz : Nat} {ob : Nat → Option AObj} {nx : Nat} {x : AV} {es : List (List AV)} (h : OutE sz ob nx x es) (hc : CanonEs es) : ∃ g : (Nat → Nat) → (Nat → Nat), ∀ fz, frz ob DEPTH fz x = some (g fz, .sl false es) := by
  rcases h with ⟨rfl, rfl⟩ | ⟨id, ver, rfl, hid, _⟩
  · exact ⟨fun fz => fz, fun fz => rfl⟩
  · refine ⟨fun fz => raise fz id (0 + es.length), fun fz => ?_⟩
    have hb : Nat.ble (0 + es.length) es.length = true := by simp
    rw [show DEPTH = 6 + 1 + 1 from rfl, frz_rsl, rowAt_of hid]
    simp only [hb, cond_true, List.drop_zero, List.take_length]
    rw [hc.frz ob 6]
theorem OutE.frz {sz : Nat} {ob : Nat → Option AObj} {nx : Nat} {x : AV} {es : List (List AV)} (h : OutE sz ob nx x es) (hc : CanonEs es) : ∃ g : (Nat → Nat) → (Nat → Nat), ∀ fz, frzS ob fz (.one x) = some (g fz, .one (.sl false es)) := by
  obtain ⟨g, hg⟩ := h.frzD hc
  exact ⟨g, fun fz => by simp only [frzS, hg]⟩
def Two (ob : Nat → Option AObj) (nx sz sz' i : Nat) (x y : AV) (es fs : List (List AV)) : Prop :=
  es.length = i ∧ fs.length = i ∧ ((es = [] ∧ fs = [] ∧ x = .nils ∧ y = .nils) ∨ ∃ a va b vb, x = .rsl a va sz 0 i false ∧ y = .rsl b vb sz' 0 i false ∧ ob a = some (.row sz es va) ∧ ob b = some (.row sz' fs vb) ∧ a < nx ∧ b < nx ∧ a ≠ b)
theorem Two.fst {ob : Nat → Option AObj} {nx sz sz' i : Nat} {x y : AV} {es fs : List (List AV)} (h : Two ob nx sz sz' i x y es fs) : OutE sz ob nx x es := by
  obtain ⟨h1, h2, ⟨e1, e2, e3, e4⟩ | ⟨a, va, b, vb, e1, e2, e3, e4, e5, e6, e7⟩⟩ := h
  · exact .inl ⟨e1, e3⟩
  · exact .inr ⟨a, va, by rw [h1]; exact e1, e3, e5⟩
theorem Two.snd {ob : Nat → Option AObj} {nx sz sz' i : Nat} {x y : AV} {es fs : List (List AV)} (h : Two ob nx sz sz' i x y es fs) : OutE sz' ob nx y fs := by
  obtain ⟨h1, h2, ⟨e1, e2, e3, e4⟩ | ⟨a, va, b, vb, e1, e2, e3, e4, e5, e6, e7⟩⟩ := h
  · exact .inl ⟨e2, e4⟩
  · exact .inr ⟨b, vb, by rw [h2]; exact e2, e4, e6⟩
theorem rowAt_ne {ob : Nat → Option AObj} {id q ver : Nat} {y : AObj} (h : id ≠ q) : rowAt (upd ob q y) id ver = rowAt ob id ver := by
  unfold rowAt
  rw [upd_ne h]
structure Spot where
  x : Num
  z : Num
def Spot.c (p : Spot) : List AV := p.x.c ++ p.z.c
structure Pt where
  x : Rat
  z : Rat
def Pt.c (p : Pt) : List AV := qC p.x ++ qC p.z
def Pt.r (p : Pt) : List AV := rC p.x ++ rC p.z
def Spot.p (s : Spot) : Pt := ⟨s.x.q, s.z.q⟩
theorem CanL.spot (b : Spot) : CanL b.c := .app (.num _) (.num _)
theorem CanL.pt (b : Pt) : CanL b.c := .app (.q _) (.q _)
theorem CanL.ptr (b : Pt) : CanL b.r := .app (.r _) (.r _)
theorem canonEs_map {α : Type} {f : α → List AV} (h : ∀ a, CanL (f a)) (l : List α) : CanonEs (l.map f) := fun e he x hx => by
  obtain ⟨a, _, rfl⟩ := List.mem_map.1 he
  exact h a x hx
section
variable {fz : Nat → Nat}
end
theorem calling_all {α : Type} {f : FuncId} {a : α → List SV} {r : α → SV} (h : ∀ x, Calling f (a x) (r x)) : ∀ (l : List α), ∃ N, ∀ n, N ≤ n → ∀ x ∈ l, ∀ (ob : Nat → Option AObj) (fz : Nat → Nat), callV (evF E n) f (a x) ob fz = some (.fzd fz (r x))
  | [] => ⟨0, fun _ _ _ h => by simp at h⟩
  | x :: l => by
    obtain ⟨N1, h1⟩ := h x
    obtain ⟨N2, h2⟩ := calling_all h l
    refine ⟨N1 + N2, fun n hn y hy => ?_⟩
    rcases List.mem_cons.1 hy with rfl | e
    · exact h1 n (by omega)
    · exact h2 n (by omega) y e
end Go.Ev
namespace Go.Ev
open Go.Dig
def TwoB (base : Nat) (ob : Nat → Option AObj) (nx sz sz' i : Nat) (x y : AV) (es fs : List (List AV)) : Prop :=
  es.length = i ∧ fs.length = i ∧ ((es = [] ∧ fs = [] ∧ x = .nils ∧ y = .nils) ∨ ∃ a va b vb, x = .rsl a va sz 0 i false ∧ y = .rsl b vb sz' 0 i false ∧ ob a = some (.row sz es va) ∧ ob b = some (.row sz' fs vb) ∧ a < nx ∧ b < nx ∧ a ≠ b ∧ base ≤ a ∧ base ≤ b)
theorem TwoB.two {base : Nat} {ob : Nat → Option AObj} {nx sz sz' i : Nat} {x y : AV} {es fs : List (List AV)} (h : TwoB base ob nx sz sz' i x y es fs) : Two ob nx sz sz' i x y es fs := by
  obtain ⟨h1, h2, h | ⟨a, va, b, vb, e1, e2, e3, e4, e5, e6, e7, _, _⟩⟩ := h
  · exact ⟨h1, h2, .inl h⟩
  · exact ⟨h1, h2, .inr ⟨a, va, b, vb, e1, e2, e3, e4, e5, e6, e7⟩⟩
theorem TwoB.frame {base : Nat} {ob ob' : Nat → Option AObj} {nx nx' sz sz' i : Nat} {x y : AV} {es fs : List (List AV)} (h : TwoB base ob nx sz sz' i x y es fs) (hnx : nx ≤ nx') (hob : ∀ id, base ≤ id → id < nx → ob' id = ob id) : TwoB base ob' nx' sz sz' i x y es fs := by
  obtain ⟨h1, h2, h | ⟨a, va, b, vb, e1, e2, e3, e4, e5, e6, e7, e8, e9⟩⟩ := h
  · exact ⟨h1, h2, .inl h⟩
  · exact ⟨h1, h2, .inr ⟨a, va, b, vb, e1, e2, by rw [hob a e8 e5]; exact e3, by rw [hob b e9 e6]; exact e4, by omega, by omega, e7, e8, e9⟩⟩
structure Gate where
  from_ : Nat
  to : Nat
  box : Rng
  hold : Int
def Gate.c (g : Gate) : List AV := [.int .u8 (g.from_ : Int), .int .u8 (g.to : Int)] ++ g.box.c ++ [.int .i64 g.hold]
structure Guard where
  from_ : Nat
  to : Nat
  box : Bx
  hold : Int
def Guard.c (g : Guard) : List AV := [.int .u8 (g.from_ : Int), .int .u8 (g.to : Int)] ++ g.box.c ++ [.int .i64 g.hold]
def Guard.r (g : Guard) : List AV := [.int .u8 (g.from_ : Int), .int .u8 (g.to : Int)] ++ g.box.r ++ [.int .i64 g.hold]
def Gate.g (g : Gate) : Guard := ⟨g.from_, g.to, g.box.b, g.hold⟩
theorem CanL.guard (g : Guard) : CanL g.c := .app (.app (.cons (.int _ _) (.cons (.int _ _) .nil)) (.bx _)) (.cons (.int _ _) .nil)
structure LegIds (b1 b6 b7 base : Nat) : Prop where
  h1 : b1 < base
  h6 : b6 < base
  h7 : b7 < base
  h16 : b1 ≠ b6
  h17 : b1 ≠ b7
  h67 : b6 ≠ b7
section
variable {fz : Nat → Nat}
end
end Go.Ev
namespace Go.Ev
open Go.Dig
section
variable {fz : Nat → Nat}
end
structure Leg where
  gates : List Gate
  curves : List (List Spot)
  limits : List Spot
  step : Num
def Leg.c (g : Leg) : List AV := [.sl false (g.gates.map Gate.c), .sl false (g.curves.map fun s => [.sl false (s.map Spot.c)]), .sl false (g.limits.map Spot.c)] ++ g.step.c
structure Dev where
  guards : List Guard
  curves : List (List Pt)
  limits : List Pt
  step : Rat
def Dev.c (g : Dev) : List AV := [.sl false (g.guards.map Guard.c), .sl false (g.curves.map fun s => [.sl false (s.map Pt.c)]), .sl false (g.limits.map Pt.c)] ++ qC g.step
def Dev.r (g : Dev) : List AV := [.sl false (g.guards.map Guard.r), .sl false (g.curves.map fun s => [.sl false (s.map Pt.r)]), .sl false (g.limits.map Pt.r)] ++ rC g.step
def Leg.d (g : Leg) : Dev := ⟨g.gates.map Gate.g, g.curves.map fun s => s.map Spot.p, g.limits.map Spot.p, g.step.q⟩
theorem CanL.dev (g : Dev) : CanL g.c := .app (.cons (.sl _) (.cons (.sl _) (.cons (.sl _) .nil))) (.q _)
theorem OutE.frame {sz : Nat} {ob ob' : Nat → Option AObj} {nx nx' base : Nat} {x : AV} {es : List (List AV)} (h : OutE sz ob nx x es) : True := trivial
theorem TwoB.out {base : Nat} {ob ob' : Nat → Option AObj} {nx sz sz' i : Nat} {x y : AV} {es fs : List (List AV)} (h : TwoB base ob nx sz sz' i x y es fs) (hob : ∀ id, base ≤ id → ob' id = ob id) (he : CanonEs es) (hf : CanonEs fs) : ∃ g g' : (Nat → Nat) → (Nat → Nat), (∀ fz, frz ob' DEPTH fz x = some (g fz, .sl false es)) ∧ ∀ fz, frz ob' DEPTH fz y = some (g' fz, .sl false fs) := by
  have h' := (h.frame (Nat.le_refl _) (fun id q1 _ => hob id q1)).two
  obtain ⟨g, hg⟩ := h'.fst.frzD he
  obtain ⟨g', hg'⟩ := h'.snd.frzD hf
  exact ⟨g, g', hg, hg'⟩
end Go.Ev
namespace Go.Ev
open Go.Dig
section
variable {fz : Nat → Nat}
end
section
variable {F : Caller} {fuel : Nat} {ob : Nat → Option AObj} {fz : Nat → Nat} {nx : Nat}
end
end Go.Ev
namespace Go.Ev
open Go.RowKit
open Go.Proofs
def numD : TD := .struct [.int .i64, .int .i64, .int .u8]
def beatD : TD := .struct [numD, numD, numD]
theorem wf_i64 {z : Int} (h : (Lit.int .i64 z).wf = true) : -9223372036854775808 ≤ z ∧ z < 9223372036854775808 := by
  simp only [Lit.wf, Bool.and_eq_true, decide_eq_true_eq] at h
  have e1 : IntKind.i64.min = -9223372036854775808 := by decide
  have e2 : IntKind.i64.max = 9223372036854775807 := by decide
  rw [e1, e2] at h
  omega
theorem wf_u8 {z : Int} (h : (Lit.int .u8 z).wf = true) : ∃ n : Nat, z = (n : Int) ∧ n < 256 := by
  simp only [Lit.wf, Bool.and_eq_true, decide_eq_true_eq] at h
  have e1 : IntKind.u8.min = 0 := by decide
  have e2 : IntKind.u8.max = 255 := by decide
  rw [e1, e2] at h
  exact ⟨z.toNat, by omega, by omega⟩
section
variable {H : Type} {d : DataW H} {xs : List AV}
theorem isD_num (h : IsD numD d xs) : ∃ x : Num, xs = x.c := by
  unfold numD at h
  simp only [IsD, IsDs] at h
  obtain ⟨ds, -, d1, r1, y1, z1, -, rfl, ⟨a, ha, -, rfl⟩, d2, r2, y2, z2, -, rfl, ⟨b, hb, -, rfl⟩, d3, r3, y3, z3, -, rfl, ⟨c, hc, -, rfl⟩, -, rfl⟩ := h
  have h1 := wf_i64 ha
  have h2 := wf_i64 hb
  obtain ⟨p, rfl, hp⟩ := wf_u8 hc
  exact ⟨⟨a, b, p, h1.1, h1.2, h2.1, h2.2, hp⟩, rfl⟩
theorem isD_beat (h : IsD beatD d xs) : ∃ x : Beat, xs = x.c := by
  unfold beatD at h
  simp only [IsD, IsDs] at h
  obtain ⟨ds, -, d1, r1, y1, z1, -, rfl, h1, d2, r2, y2, z2, -, rfl, h2, d3, r3, y3, z3, -, rfl, h3, -, rfl⟩ := h
  obtain ⟨x, rfl⟩ := isD_num h1
  obtain ⟨y, rfl⟩ := isD_num h2
  obtain ⟨z, rfl⟩ := isD_num h3
  exact ⟨⟨x, y, z⟩, by rw [List.append_nil, ← List.append_assoc]; rfl⟩
theorem bulk_cons {x : DataW H} {ds : List (DataW H)} {B : Nat} (hb : Ythghhnhojdmcpaa.Rows.uptoBulkAll (x :: ds) ≤ B) : Ythghhnhojdmcpaa.Rows.uptoBulk x ≤ B ∧ Ythghhnhojdmcpaa.Rows.uptoBulkAll ds ≤ B := by
  simp only [Ythghhnhojdmcpaa.Rows.uptoBulkAll] at hb; omega
theorem isD_u8 (h : IsD (.int .u8) d xs) : ∃ n : Nat, xs = [.int .u8 (n : Int)] ∧ n < 256 := by
  simp only [IsD] at h
  obtain ⟨z, hz, -, rfl⟩ := h
  obtain ⟨n, rfl, hn⟩ := wf_u8 hz
  exact ⟨n, rfl, hn⟩
end
end Go.Ev
namespace Go.Ev
open Go.Dig
structure Note where
  ph : Nat
  beat : Beat
  mom : Num
structure Rcd where
  ph : Nat
  s : Samp
  m : Rat
def Note.c (x : Note) : List AV := [.int .u8 (x.ph : Int)] ++ x.beat.c ++ x.mom.c
def Rcd.c (x : Rcd) : List AV := [.int .u8 (x.ph : Int)] ++ x.s.c ++ qC x.m
def Rcd.r (x : Rcd) : List AV := [.int .u8 (x.ph : Int)] ++ x.s.r ++ rC x.m
def Note.q (x : Note) : Rcd := ⟨x.ph, x.beat.s, x.mom.q⟩
theorem CanL.rcd (x : Rcd) : CanL x.c := .app (.app (.cons (.int _ _) .nil) (.samp _)) (.q _)
theorem CanL.rcdr (x : Rcd) : CanL x.r := .app (.app (.cons (.int _ _) .nil) (.sampr _)) (.r _)
section
variable {fz : Nat → Nat}
set_option maxRecDepth 100000 in
theorem notes_round {n : Nat} {ob : Nat → Option AObj} {nx i : Nat} {x y : AV} {es fs : List (List AV)} (l : List (List AV)) (s : Note) (gl : l[i]? = some s.c) (o6 : okSz 13 l = true) (hl : l.length < 2 ^ 20) (hi : i < l.length) (hc : ∀ ob fz, callV (evF E n) Id.amblelaw11_Beat_Both [.agg s.beat.c] ob fz = some (.fzd fz (.tup [.agg s.beat.s.c, .agg s.beat.s.r]))) (hc' : ∀ ob fz, callV (evF E n) Id.amblelaw01_Both [.agg s.mom.c] ob fz = some (.fzd fz (.tup [.agg (qC s.mom.q), .agg (rC s.mom.q)]))) (h : Two ob nx 13 17 i x y es fs) (X : List (Nat × SV)) :
    ∃ (ob' : Nat → Option AObj) (nx' : Nat) (x' y' : AV), evC (evF E n) n Fn.amblelaw11_notes_L0 ⟨env ((0, .one (.sl false l)) :: (4, .one x) :: (5, .one y) :: (6, .one (.int .i64 (i : Int))) :: X), ob, fz, nx⟩ =
      some (.nrm, ⟨env [(0, .one (.sl false l)), (4, .one x'), (5, .one y'), (6, .one (.int .i64 ((i + 1 : Nat) : Int)))], ob', fz, nx'⟩) ∧ Two ob' nx' 13 17 (i + 1) x' y' (es ++ [s.q.c]) (fs ++ [s.q.r]) := by
  have h1 : (((i : Nat) : Int) < ((l.length : Nat) : Int)) = True := by simp; omega
  have wk : IntKind.i64.wrap ((i + 1 : Nat) : Int) = ((i + 1 : Nat) : Int) := wi64 (by omega)
  obtain ⟨ca0, ca1, ca2, ca3, ca4, ca5, ca6, ca7, ca8, e5, -, -, -, -, -, -, -, -, -⟩ := samp_cells s.beat.s
  obtain ⟨cp0, cp1, cp2, cp3, cp4, cp5, cp6, cp7, cp8, cp9, cp10, cp11, e6, -, -, -, -, -, -, -, -, -, -, -, -⟩ := sampr_cells s.beat.s
  obtain ⟨ci0, ci1, ci2, ci3, ci4, ci5, ci6, ci7, ci8, e7, -, -, -, -, -, -, -, -, -⟩ := beat_cells s.beat
  obtain ⟨q0, q1, q2, eq, -, -, -⟩ := qC_cells s.mom.q
  obtain ⟨r0, r1, r2, r3, er, -, -, -, -⟩ := rC_cells s.mom.q
  obtain ⟨m0, m1', m2', em⟩ : ∃ a b c, s.mom.c = [a, b, c] := ⟨_, _, _, rfl⟩
  have ec : s.c = [.int .u8 (s.ph : Int), ci0, ci1, ci2, ci3, ci4, ci5, ci6, ci7, ci8, m0, m1', m2'] := by unfold Note.c; rw [e7, em]; rfl
  have eqc : s.q.c = [.int .u8 (s.ph : Int), ca0, ca1, ca2, ca3, ca4, ca5, ca6, ca7, ca8, q0, q1, q2] := by unfold Rcd.c Note.q; rw [e5, eq]; rfl
  have eqr : s.q.r = [.int .u8 (s.ph : Int), cp0, cp1, cp2, cp3, cp4, cp5, cp6, cp7, cp8, cp9, cp10, cp11, r0, r1, r2, r3] := by unfold Rcd.r Note.q; rw [e6, er]; rfl
  rw [e5, e6, e7] at hc
  rw [eq, er, em] at hc'
  rw [ec] at gl
  rw [eqc, eqr]
  obtain ⟨l1, l2, h⟩ := h
  have nxa : ∀ a b : Nat, nx + a + b = nx + (a + b) := fun a b => Nat.add_assoc nx a b
  obtain ⟨r, hr0⟩ : ∃ r, evC (evF E n) n Fn.amblelaw11_notes_L0 ⟨env ((0, .one (.sl false l)) :: (4, .one x) :: (5, .one y) :: (6, .one (.int .i64 (i : Int))) :: X), ob, fz, nx⟩ = r := ⟨_, rfl⟩
  have hr := hr0
  rcases h with ⟨rfl, rfl, rfl, rfl⟩ | ⟨a, va, b, vb, rfl, rfl, h3, h4, h5, h6, h7⟩
  · simp only [go_sem, Fn.amblelaw11_notes_L0, h1, gl, hc, hc', o6, okSz, ROOM, add1, wk, nxa] at hr
    rw [hr0, ← hr]
    refine ⟨_, _, _, _, rfl, by simp [← l1], by simp [← l1], .inr ⟨nx + 36, 0, nx + 47, 0, ?_, ?_, ?_, upd_same _ _ _, by omega, by omega, by omega⟩⟩
    · rw [← l1]; rfl
    · rw [← l1]; rfl
    · rw [upd_ne (by omega), upd_ne (by omega)]; exact upd_same _ _ _
  · have k1 : ∀ k ob y ver, rowAt (upd ob (nx + k) y) a ver = rowAt ob a ver := fun k ob y ver => rowAt_ne (by omega)
    have k2 : ∀ k ob y ver, rowAt (upd ob (nx + k) y) b ver = rowAt ob b ver := fun k ob y ver => rowAt_ne (by omega)
    have k3 : ∀ k j ob y ver, rowAt (upd ob (nx + k + j) y) a ver = rowAt ob a ver := fun k j ob y ver => rowAt_ne (by omega)
    have k4 : ∀ k j ob y ver, rowAt (upd ob (nx + k + j) y) b ver = rowAt ob b ver := fun k j ob y ver => rowAt_ne (by omega)
    have k5 : ∀ ob y ver, rowAt (upd ob a y) b ver = rowAt ob b ver := fun ob y ver => rowAt_ne h7.symm
    have m1 : ∀ k ob y, upd ob a y (nx + k) = ob (nx + k) := fun k ob y => upd_ne (by omega)
    have b1 : (i == i) = true := by simp
    have w1 : (i + 1) * 232 ≤ 140737488355328 := by omega
    have w2 : (i + 1) * 264 ≤ 140737488355328 := by omega
    have hra : rowAt ob a va = some (13, es) := rowAt_of h3
    have hrb : rowAt ob b vb = some (17, fs) := rowAt_of h4
    have k6 : ∀ ob y, upd ob nx y = upd ob (nx + 0) y := fun ob y => rfl
    have k7 : ∀ ob y ver, rowAt (upd ob nx y) a ver = rowAt ob a ver := fun ob y ver => rowAt_ne (by omega)
    have k8 : ∀ ob y ver, rowAt (upd ob nx y) b ver = rowAt ob b ver := fun ob y ver => rowAt_ne (by omega)
    simp only [go_sem, Fn.amblelaw11_notes_L0, h1, gl, hc, hc', o6, okSz, ROOM, add1, wk, nxa, k1, k2, k3, k4, k5, k7, k8, hra, hrb, l1, l2, m1, b1, w1, w2] at hr
    rw [hr0, ← hr]
    refine ⟨_, _, _, _, rfl, by simp [l1], by simp [l2], .inr ⟨a, va + 1, b, vb + 1, rfl, rfl, ?_, upd_same _ _ _, by omega, by omega, h7⟩⟩
    rw [upd_ne h7, upd_ne (by omega)]; exact upd_same _ _ _
theorem notes_loop {n : Nat} (l : List Note) (hl : l.length < 2 ^ 20) (hc : ∀ s ∈ l, ∀ ob fz, callV (evF E n) Id.amblelaw11_Beat_Both [.agg s.beat.c] ob fz = some (.fzd fz (.tup [.agg s.beat.s.c, .agg s.beat.s.r]))) (hc' : ∀ s ∈ l, ∀ ob fz, callV (evF E n) Id.amblelaw01_Both [.agg s.mom.c] ob fz = some (.fzd fz (.tup [.agg (qC s.mom.q), .agg (rC s.mom.q)]))) (hn : l.length < n) : ∀ (m i : Nat), i + m = l.length → ∀ (ob : Nat → Option AObj) (nx : Nat) (x y : AV) (X : List (Nat × SV)), Two ob nx 13 17 i x y ((l.take i).map fun s => s.q.c) ((l.take i).map fun s => s.q.r) → ∀ N, m < N →
    ∃ (ob' : Nat → Option AObj) (nx' : Nat) (x' y' : AV) (X' : List (Nat × SV)), loopN (evC (evF E n) n Fn.amblelaw11_notes_L0) N ⟨env ((0, .one (.sl false (l.map Note.c))) :: (4, .one x) :: (5, .one y) :: (6, .one (.int .i64 (i : Int))) :: X), ob, fz, nx⟩ =
      some (.ext 0, ⟨env ((0, .one (.sl false (l.map Note.c))) :: (4, .one x') :: (5, .one y') :: X'), ob', fz, nx'⟩) ∧ Two ob' nx' 13 17 l.length x' y' (l.map fun s => s.q.c) (l.map fun s => s.q.r)
  | 0, i, hi, ob, nx, x, y, X, h, N + 1, hN => by
    have hi' : i = l.length := by omega
    subst hi'
    rw [List.take_length] at h
    refine ⟨ob, nx, x, y, [(6, .one (.int .i64 (l.length : Int))), (14, .one (.bool false))], round_ext ?_, h⟩
    have h1 : (((l.length : Nat) : Int) < ((l.length : Nat) : Int)) = False := by simp
    simp only [go_sem, Fn.amblelaw11_notes_L0, List.length_map, h1]
  | m + 1, i, hi, ob, nx, x, y, X, h, N + 1, hN => by
    have hil : i < l.length := by omega
    have gd : l[i]? = some l[i] := by simp
    obtain ⟨ob', nx', x', y', hst, h'⟩ := notes_round (fz := fz) (n := n) (l.map Note.c) l[i] (by rw [List.getElem?_map, gd]; rfl) (by
      cases l with
      | nil => rfl
      | cons a r => rfl) (by simpa using hl) (by simpa using hil) (hc _ (by simp)) (hc' _ (by simp)) h X
    rw [round_nrm hst]
    refine notes_loop l hl hc hc' hn m (i + 1) (by omega) ob' nx' x' y' [] ?_ N (by omega)
    have td : l.take (i + 1) = l.take i ++ [l[i]] := by rw [List.take_add_one, gd]; rfl
    rw [td, List.map_append, List.map_append]
    exact h'
end
theorem notes_ends (l : List Note) (hl : l.length < 2 ^ 20) : Ends Id.amblelaw11_notes [.one (.sl false (l.map Note.c))] (.tup [.one (.sl false (l.map fun s => s.q.c)), .one (.sl false (l.map fun s => s.q.r))]) := by
  obtain ⟨N, hN⟩ := calling_all (fun s : Note => Beat_call s.beat) l
  obtain ⟨M, hM⟩ := calling_all (fun s : Note => Both_call s.mom) l
  refine .of (N + M + l.length + 1) fun {n} hn => ?_
  rw [evV_succ E_amblelaw11_notes]
  obtain ⟨ob', nx', x', y', X', hlo, h2⟩ := notes_loop (fz := fz0) (n := n) l hl (hN n (by omega)) (hM n (by omega)) (by omega) l.length 0 (by omega) ob0 0 .nils .nils [] ⟨rfl, rfl, .inl ⟨rfl, rfl, rfl, rfl⟩⟩ n (by omega)
  obtain ⟨g1, h3⟩ := h2.fst.frz (canonEs_map (fun s : Note => CanL.rcd s.q) l)
  obtain ⟨g2, h4⟩ := h2.snd.frz (canonEs_map (fun s : Note => CanL.rcdr s.q) l)
  rw [show ((0 : Nat) : Int) = 0 from rfl] at hlo
  simp only [go_sem, Fn.amblelaw11_notes, hlo, h3, h4]
theorem notes_call (l : List Note) (hl : l.length < 2 ^ 20) : Calling Id.amblelaw11_notes [.one (.sl false (l.map Note.c))] (.tup [.one (.sl false (l.map fun s => s.q.c)), .one (.sl false (l.map fun s => s.q.r))]) := (notes_ends l hl).call (can1 (.one _ (.sl _)))
end Go.Ev
namespace Go.Ev
open Go.RowKit
open Go.Proofs
def noteD : TD := .struct [.int .u8, beatD, numD]
section
variable {H : Type} {d : DataW H} {xs : List AV}
theorem isD_note (h : IsD noteD d xs) : ∃ x : Note, xs = x.c := by
  unfold noteD at h
  simp only [IsD, IsDs] at h
  obtain ⟨ds, -, d1, r1, y1, z1, -, rfl, ⟨a, ha, -, rfl⟩, d2, r2, y2, z2, -, rfl, h2, d3, r3, y3, z3, -, rfl, h3, -, rfl⟩ := h
  obtain ⟨p, rfl, hp⟩ := wf_u8 ha
  obtain ⟨b, rfl⟩ := isD_beat h2
  obtain ⟨m, rfl⟩ := isD_num h3
  exact ⟨⟨p, b, m⟩, by rw [List.append_nil]; rfl⟩
theorem isD_notes {B : Nat} (h : IsD (.slice noteD) d xs) (hb : Ythghhnhojdmcpaa.Rows.uptoBulk d ≤ B) : ∃ l : List Note, xs = [.sl false (l.map Note.c)] ∧ l.length < B := by
  obtain ⟨l, rfl, hl, -⟩ := isD_slice (c := Note.c) (Q := fun _ => True) (fun d xs h _ => by obtain ⟨x, hx⟩ := isD_note h; exact ⟨x, hx, trivial⟩) h hb
  exact ⟨l, rfl, hl⟩
end
end Go.Ev
namespace Go.Ev
open Go.Dig
theorem Cmp_call {S : Nat} (a b : Rat) (ha : SmQ S a) (hb : SmQ S b) (hS : S ≤ 2 ^ 30) : Calling Id.exact_Q_Cmp [.agg (qC a), .agg (qC b)] (.one (.int .i64 (cmpQ a b))) :=
  (Ends.of (4 * (S + S) + 100) fun hn => Cmp_run a b ha hb (by omega) hn : Ends Id.exact_Q_Cmp [.agg (qC a), .agg (qC b)] (.one (.int .i64 (cmpQ a b)))).call (can2 (canS_q _) (canS_q _))
theorem Sign_call (a : Rat) : Calling Id.exact_Q_Sign [.agg (qC a)] (.one (.int .i64 (signI a.num))) :=
  (Ends.of 1 fun {n} hn => by obtain ⟨m, rfl⟩ : ∃ m, n = m + 1 := ⟨n - 1, by omega⟩; exact Sign_run a m : Ends Id.exact_Q_Sign [.agg (qC a)] (.one (.int .i64 (signI a.num)))).call (can1 (canS_q _))
structure SmSamp (s : Samp) : Prop where
  load : SmQ 256 s.load
  angle : SmQ 256 s.angle
  speed : SmQ 256 s.speed
theorem Beat.sm (b : Beat) : SmSamp b.s := ⟨Num.qS _, Num.qS _, Num.qS _⟩
structure SmBx (b : Bx) : Prop where
  low : SmSamp b.low
  high : SmSamp b.high
theorem Rng.sm (b : Rng) : SmBx b.b := ⟨Beat.sm _, Beat.sm _⟩
theorem signals_ends (s : Samp) : Ends Id.wear_Sample_signals [.agg s.c] (.agg s.c) := by
  refine .of 0 fun {n} hn => ?_
  rw [evV_succ E_wear_Sample_signals]
  obtain ⟨c0, c1, c2, c3, c4, c5, c6, c7, c8, e, f0, f1, f2, f3, f4, f5, f6, f7, f8⟩ := samp_cells s
  rw [e]
  unfold Fz at *
  simp only [go_sem, Fn.wear_Sample_signals, f0, f1, f2, f3, f4, f5, f6, f7, f8]
theorem signals_call (s : Samp) : Calling Id.wear_Sample_signals [.agg s.c] (.agg s.c) := (signals_ends s).call (can1' (.samp s))
def rightBx (b : Bx) : Bool := decide (cmpQ b.low.load b.high.load ≤ 0) && (decide (cmpQ b.low.angle b.high.angle ≤ 0) && decide (cmpQ b.low.speed b.high.speed ≤ 0))
theorem right_ends (b : Bx) (h : SmBx b) : Ends Id.wear_Box_right [.agg b.c] (.one (.bool (rightBx b))) := by
  obtain ⟨x, y⟩ := b
  obtain ⟨⟨x1, x2, x3⟩, ⟨y1, y2, y3⟩⟩ := h
  obtain ⟨N1, h1⟩ := signals_call x
  obtain ⟨N2, h2⟩ := signals_call y
  obtain ⟨N3, h3⟩ := Cmp_call x.load y.load x1 y1 (by decide)
  obtain ⟨N4, h4⟩ := Cmp_call x.angle y.angle x2 y2 (by decide)
  obtain ⟨N5, h5⟩ := Cmp_call x.speed y.speed x3 y3 (by decide)
  refine .of (N1 + N2 + N3 + N4 + N5 + 6) fun {n} hn => ?_
  have h1 := h1 n (by omega)
  have h2 := h2 n (by omega)
  have h3 := h3 n (by omega)
  have h4 := h4 n (by omega)
  have h5 := h5 n (by omega)
  rw [evV_succ E_wear_Box_right]
  unfold rightBx Bx.c Samp.c
  unfold Samp.c at h1 h2
  obtain ⟨a1, a2, a3, ea, -, -, -⟩ := qC_cells x.load
  obtain ⟨b1, b2, b3, eb, -, -, -⟩ := qC_cells x.angle
  obtain ⟨c1, c2, c3, ec, -, -, -⟩ := qC_cells x.speed
  obtain ⟨p1, p2, p3, ep, -, -, -⟩ := qC_cells y.load
  obtain ⟨q1, q2, q3, eq, -, -, -⟩ := qC_cells y.angle
  obtain ⟨r1, r2, r3, er, -, -, -⟩ := qC_cells y.speed
  simp only [ea, eb, ec, ep, eq, er, List.cons_append, List.nil_append] at h1 h2 h3 h4 h5 ⊢
  generalize cmpQ x.load y.load = k1 at *
  generalize cmpQ x.angle y.angle = k2 at *
  generalize cmpQ x.speed y.speed = k3 at *
  have t0 : ((0 : Int) < 3) = True := by simp
  have t1 : ((1 : Int) < 3) = True := by simp
  have t2 : ((2 : Int) < 3) = True := by simp
  have t3 : ((3 : Int) < 3) = False := by simp
  have w0 : IntKind.i64.wrap (0 + 1) = 1 := by decide
  have w1 : IntKind.i64.wrap (1 + 1) = 2 := by decide
  have w2 : IntKind.i64.wrap (2 + 1) = 3 := by decide
  have i0 : natOf 0 = some 0 := rfl
  have i1 : natOf 1 = some 1 := rfl
  have i2 : natOf 2 = some 2 := rfl
  have hlo : ∀ (ob : Nat → Option AObj) (b3' b4' : Nat), ob b3' = some (.box [a1, a2, a3, b1, b2, b3, c1, c2, c3]) → ob b4' = some (.box [p1, p2, p3, q1, q2, q3, r1, r2, r3]) → ∀ nx, b3' < nx → b4' < nx →
      (∃ X', k1 ≤ 0 ∧ k2 ≤ 0 ∧ k3 ≤ 0 ∧ loopN (evC (evF E n) n Fn.wear_Box_right_L0) n ⟨env [(3, .one (.box b3' 0)), (4, .one (.box b4' 0)), (12, .one (.int .i64 0))], ob, fz0, nx⟩ = some (.ext 0, ⟨env X', ob, fz0, nx⟩)) ∨
      (∃ X', ¬ (k1 ≤ 0 ∧ k2 ≤ 0 ∧ k3 ≤ 0) ∧ loopN (evC (evF E n) n Fn.wear_Box_right_L0) n ⟨env [(3, .one (.box b3' 0)), (4, .one (.box b4' 0)), (12, .one (.int .i64 0))], ob, fz0, nx⟩ = some (.ret, ⟨env ((2, .one (.bool false)) :: X'), ob, fz0, nx⟩)) := by
    intro ob b3' b4' o3 o4 nx l3 l4
    have l3 : (b3' < nx) = True := by simp [l3]
    have l4 : (b4' < nx) = True := by simp [l4]
    obtain ⟨n, rfl⟩ : ∃ m, n = m + 4 := ⟨n - 4, by omega⟩
    by_cases g1 : k1 ≤ 0
    · have g1' : (k1 > 0) = False := by simp only [eq_iff_iff, iff_false]; omega
      have s0 : evC (evF E (n + 4)) (n + 4) Fn.wear_Box_right_L0 ⟨env [(3, .one (.box b3' 0)), (4, .one (.box b4' 0)), (12, .one (.int .i64 0))], ob, fz0, nx⟩ = some (.nrm, ⟨env [(3, .one (.box b3' 0)), (4, .one (.box b4' 0)), (12, .one (.int .i64 1))], ob, fz0, nx⟩) := by
        simp only [go_sem, Fn.wear_Box_right_L0, o3, o4, l3, l4, t0, i0, h3, g1', w0]
      by_cases g2 : k2 ≤ 0
      · have g2' : (k2 > 0) = False := by simp only [eq_iff_iff, iff_false]; omega
        have s1 : evC (evF E (n + 4)) (n + 4) Fn.wear_Box_right_L0 ⟨env [(3, .one (.box b3' 0)), (4, .one (.box b4' 0)), (12, .one (.int .i64 1))], ob, fz0, nx⟩ = some (.nrm, ⟨env [(3, .one (.box b3' 0)), (4, .one (.box b4' 0)), (12, .one (.int .i64 2))], ob, fz0, nx⟩) := by
          simp only [go_sem, Fn.wear_Box_right_L0, o3, o4, l3, l4, t1, i1, h4, g2', w1]
        by_cases g3 : k3 ≤ 0
        · left
          have g3' : (k3 > 0) = False := by simp only [eq_iff_iff, iff_false]; omega
          have s2 : evC (evF E (n + 4)) (n + 4) Fn.wear_Box_right_L0 ⟨env [(3, .one (.box b3' 0)), (4, .one (.box b4' 0)), (12, .one (.int .i64 2))], ob, fz0, nx⟩ = some (.nrm, ⟨env [(3, .one (.box b3' 0)), (4, .one (.box b4' 0)), (12, .one (.int .i64 3))], ob, fz0, nx⟩) := by
            simp only [go_sem, Fn.wear_Box_right_L0, o3, o4, l3, l4, t2, i2, h5, g3', w2]
          refine ⟨[(3, .one (.box b3' 0)), (4, .one (.box b4' 0)), (12, .one (.int .i64 3)), (13, .one (.bool false))], g1, g2, g3, ?_⟩
          rw [round_nrm s0, round_nrm s1, round_nrm s2]
          refine round_ext ?_
          simp only [go_sem, Fn.wear_Box_right_L0, t3]
        · right
          have g3' : (k3 > 0) = True := by simp only [eq_iff_iff, iff_true]; omega
          refine ⟨[], fun h => g3 h.2.2, ?_⟩
          rw [round_nrm s0, round_nrm s1]
          refine round_ret ?_
          simp only [go_sem, Fn.wear_Box_right_L0, o3, o4, l3, l4, t2, i2, h5, g3']
      · right
        have g2' : (k2 > 0) = True := by simp only [eq_iff_iff, iff_true]; omega
        refine ⟨[], fun h => g2 h.2.1, ?_⟩
        rw [round_nrm s0]
        refine round_ret ?_
        simp only [go_sem, Fn.wear_Box_right_L0, o3, o4, l3, l4, t1, i1, h4, g2']
    · right
      have g1' : (k1 > 0) = True := by simp only [eq_iff_iff, iff_true]; omega
      refine ⟨[], fun h => g1 h.1, ?_⟩
      refine round_ret ?_
      simp only [go_sem, Fn.wear_Box_right_L0, o3, o4, l3, l4, t0, i0, h3, g1']
  have key : ∀ (ob : Nat → Option AObj) (b3' b4' : Nat), ob b3' = some (.box [a1, a2, a3, b1, b2, b3, c1, c2, c3]) → ob b4' = some (.box [p1, p2, p3, q1, q2, q3, r1, r2, r3]) → ∀ nx, b3' < nx → b4' < nx → finV [.tmp 2] (thenC (evF E n) n (.seq (.reg false [⟨some 2, .mov (.c (.one (.bool true))), none, .no⟩] 0 [2]) .ret) (blkC 0 (loopN (evC (evF E n) n Fn.wear_Box_right_L0) n ⟨env [(3, .one (.box b3' 0)), (4, .one (.box b4' 0)), (12, .one (.int .i64 0))], ob, fz0, nx⟩))) = some (.one (.bool (decide (k1 ≤ 0) && (decide (k2 ≤ 0) && decide (k3 ≤ 0))))) := by
    intro ob b3' b4' o3 o4 nx l3 l4
    rcases hlo ob b3' b4' o3 o4 nx l3 l4 with ⟨X', g1, g2, g3, hl⟩ | ⟨X', g, hl⟩
    · simp only [go_sem, hl, g1, g2, g3]
    · have e : (decide (k1 ≤ 0) && (decide (k2 ≤ 0) && decide (k3 ≤ 0))) = false := by
        rw [← Bool.not_eq_true]
        simpa using g
      rw [e]
      simp only [go_sem, hl]
  simp only [go_sem, Fn.wear_Box_right, h1, h2]
  refine key _ _ _ ?_ ?_ _ ?_ ?_
  · rfl
  · rfl
  · decide
  · decide
theorem right_call (b : Bx) (h : SmBx b) : Calling Id.wear_Box_right [.agg b.c] (.one (.bool (rightBx b))) := (right_ends b h).call (can1' (.bx b))
def amongB (q lo hi : Rat) : Bool := decide (cmpQ q lo ≥ 0) && decide (cmpQ q hi ≤ 0)
theorem among_ends (q lo hi : Rat) (h1 : SmQ 256 q) (h2 : SmQ 256 lo) (h3 : SmQ 256 hi) : Ends Id.wear_among [.agg (qC q), .agg (qC lo), .agg (qC hi)] (.one (.bool (amongB q lo hi))) := by
  obtain ⟨N1, k1⟩ := Cmp_call q lo h1 h2 (by decide)
  obtain ⟨N2, k2⟩ := Cmp_call q hi h1 h3 (by decide)
  refine .of (N1 + N2) fun {n} hn => ?_
  have k1 := k1 n (by omega)
  have k2 := k2 n (by omega)
  rw [evV_succ E_wear_among]
  unfold amongB
  obtain ⟨a1, a2, a3, ea, -, -, -⟩ := qC_cells q
  obtain ⟨b1, b2, b3, eb, -, -, -⟩ := qC_cells lo
  obtain ⟨c1, c2, c3, ec, -, -, -⟩ := qC_cells hi
  simp only [ea, eb, ec] at k1 k2 ⊢
  generalize cmpQ q lo = x at *
  generalize cmpQ q hi = y at *
  by_cases g : x ≥ 0
  · simp only [go_sem, Fn.wear_among, k1, k2, g]
  · have g' : (x ≥ 0) = False := by simp [g]
    simp only [go_sem, Fn.wear_among, k1, k2, g']
theorem among_call (q lo hi : Rat) (h1 : SmQ 256 q) (h2 : SmQ 256 lo) (h3 : SmQ 256 hi) : Calling Id.wear_among [.agg (qC q), .agg (qC lo), .agg (qC hi)] (.one (.bool (amongB q lo hi))) :=
  (among_ends q lo hi h1 h2 h3).call fun x hx => by
    simp only [List.mem_cons, List.not_mem_nil, or_false] at hx
    rcases hx with rfl | rfl | rfl <;> exact canS_q _
def hasBx (b : Bx) (s : Samp) : Bool := amongB s.load b.low.load b.high.load && (amongB s.angle b.low.angle b.high.angle && amongB s.speed b.low.speed b.high.speed)
theorem has_ends (b : Bx) (s : Samp) (hb : SmBx b) (hs : SmSamp s) : Ends Id.wear_Box_has [.agg b.c, .agg s.c] (.one (.bool (hasBx b s))) := by
  obtain ⟨N1, k1⟩ := among_call _ _ _ hs.load hb.low.load hb.high.load
  obtain ⟨N2, k2⟩ := among_call _ _ _ hs.angle hb.low.angle hb.high.angle
  obtain ⟨N3, k3⟩ := among_call _ _ _ hs.speed hb.low.speed hb.high.speed
  refine .of (N1 + N2 + N3) fun {n} hn => ?_
  have k1 := k1 n (by omega)
  have k2 := k2 n (by omega)
  have k3 := k3 n (by omega)
  rw [evV_succ E_wear_Box_has]
  unfold hasBx
  obtain ⟨x, y⟩ := b
  unfold Bx.c Samp.c
  dsimp only at *
  obtain ⟨a1, a2, a3, ea, -, -, -⟩ := qC_cells x.load
  obtain ⟨b1, b2, b3, eb, -, -, -⟩ := qC_cells x.angle
  obtain ⟨c1, c2, c3, ec, -, -, -⟩ := qC_cells x.speed
  obtain ⟨p1, p2, p3, ep, -, -, -⟩ := qC_cells y.load
  obtain ⟨q1, q2, q3, eq, -, -, -⟩ := qC_cells y.angle
  obtain ⟨r1, r2, r3, er, -, -, -⟩ := qC_cells y.speed
  obtain ⟨u1, u2, u3, eu, -, -, -⟩ := qC_cells s.load
  obtain ⟨v1, v2, v3, ev, -, -, -⟩ := qC_cells s.angle
  obtain ⟨w1, w2, w3, ew, -, -, -⟩ := qC_cells s.speed
  simp only [ea, eb, ec, ep, eq, er, eu, ev, ew] at k1 k2 k3 ⊢
  generalize amongB s.load x.load y.load = z1 at *
  generalize amongB s.angle x.angle y.angle = z2 at *
  generalize amongB s.speed x.speed y.speed = z3 at *
  cases z1 <;> cases z2 <;> simp only [go_sem, Fn.wear_Box_has, k1, k2, k3]
theorem has_call (b : Bx) (s : Samp) (hb : SmBx b) (hs : SmSamp s) : Calling Id.wear_Box_has [.agg b.c, .agg s.c] (.one (.bool (hasBx b s))) := (has_ends b s hb hs).call (can2 (CanL.bx b).agg (CanL.samp s).agg)
end Go.Ev
namespace Go.Ev
open Go.Dig
structure SmPt (p : Pt) : Prop where
  x : SmQ 256 p.x
  z : SmQ 256 p.z
theorem Spot.sm (s : Spot) : SmPt s.p := ⟨Num.qS _, Num.qS _⟩
theorem pt_cells (p : Pt) : ∃ a b c d e f, qC p.x = [a, b, c] ∧ qC p.z = [d, e, f] ∧ p.c = [a, b, c, d, e, f] := ⟨_, _, _, _, _, _, rfl, rfl, rfl⟩
def incC : List Pt → Bool
  | a :: b :: r => decide (cmpQ a.x b.x < 0) && incC (b :: r)
  | _ => true
theorem calling_pairs {S : Nat} (hS : S ≤ 2 ^ 30) (l : List Rat) (h : ∀ x ∈ l, SmQ S x) : ∃ N, ∀ n, N ≤ n → ∀ a ∈ l, ∀ b ∈ l, ∀ (ob : Nat → Option AObj) (fz : Nat → Nat), callV (evF E n) Id.exact_Q_Cmp [.agg (qC a), .agg (qC b)] ob fz = some (.fzd fz (.one (.int .i64 (cmpQ a b)))) := by
  refine ⟨4 * (S + S) + 101, fun n hn a ha b hb => ?_⟩
  obtain ⟨m, rfl⟩ : ∃ m, n = m + 1 := ⟨n - 1, by omega⟩
  exact callV_can (Cmp_run a b (h a ha) (h b hb) (by omega) (n := m) (by omega)) (can2 (canS_q _) (canS_q _))
theorem okSz_map {α : Type} {f : α → List AV} {k : Nat} (h : ∀ a, (f a).length = k) (l : List α) : okSz k (l.map f) = true := by
  cases l with
  | nil => rfl
  | cons a r => simp only [List.map_cons, okSz, h, Nat.beq_refl]
theorem pt_len (p : Pt) : p.c.length = 6 := rfl
theorem cright_loop {n : Nat} {ob : Nat → Option AObj} {fz : Nat → Nat} {nx : Nat} (l : List Pt) (hl : l.length < 2 ^ 60) (hc : ∀ a ∈ l, ∀ b ∈ l, ∀ (ob : Nat → Option AObj) (fz : Nat → Nat), callV (evF E n) Id.exact_Q_Cmp [.agg (qC a.x), .agg (qC b.x)] ob fz = some (.fzd fz (.one (.int .i64 (cmpQ a.x b.x))))) : ∀ (m j : Nat), j + 1 + m = l.length → ∀ (X : List (Nat × SV)) (N : Nat), m < N →
    if incC (l.drop j) = true then ∃ X', loopN (evC (evF E n) n Fn.wear_Curve_right_L0) N ⟨env ((0, .one (.sl false (l.map Pt.c))) :: (3, .one (.int .i64 ((j + 1 : Nat) : Int))) :: X), ob, fz, nx⟩ = some (.ext 0, ⟨env ((0, .one (.sl false (l.map Pt.c))) :: X'), ob, fz, nx⟩)
    else ∃ X', loopN (evC (evF E n) n Fn.wear_Curve_right_L0) N ⟨env ((0, .one (.sl false (l.map Pt.c))) :: (3, .one (.int .i64 ((j + 1 : Nat) : Int))) :: X), ob, fz, nx⟩ = some (.ret, ⟨env ((2, .one (.bool false)) :: X'), ob, fz, nx⟩)
  | 0, j, hj, X, N + 1, hN => by
    have h1 : (((j + 1 : Nat) : Int) < ((l.length : Nat) : Int)) = False := by simp only [eq_iff_iff, iff_false]; omega
    have e : incC (l.drop j) = true := by
      rw [List.drop_eq_getElem_cons (show j < l.length by omega), List.drop_eq_nil_of_le (by omega)]
      rfl
    rw [if_pos e]
    refine ⟨[(3, .one (.int .i64 ((j + 1 : Nat) : Int))), (7, .one (.bool false))], round_ext ?_⟩
    simp only [go_sem, Fn.wear_Curve_right_L0, List.length_map, h1]
  | m + 1, j, hj, X, N + 1, hN => by
    have hj1 : j < l.length := by omega
    have hj2 : j + 1 < l.length := by omega
    have h1 : (((j + 1 : Nat) : Int) < ((l.length : Nat) : Int)) = True := by simp only [eq_iff_iff, iff_true]; omega
    have wk : IntKind.i64.wrap ((j + 1 + 1 : Nat) : Int) = ((j + 1 + 1 : Nat) : Int) := wi64 (by omega)
    have w1 : IntKind.i64.wrap (((j + 1 : Nat) : Int) - 1) = ((j : Nat) : Int) := by rw [wrap_i64 (by omega)]; omega
    obtain ⟨a1, a2, a3, a4, a5, a6, ea, -, ea'⟩ := pt_cells l[j]
    obtain ⟨b1, b2, b3, b4, b5, b6, eb, -, eb'⟩ := pt_cells l[j + 1]
    have g1 : (l.map Pt.c)[j]? = some [a1, a2, a3, a4, a5, a6] := by rw [List.getElem?_map, List.getElem?_eq_getElem hj1, Option.map_some, ea']
    have g2 : (l.map Pt.c)[j + 1]? = some [b1, b2, b3, b4, b5, b6] := by rw [List.getElem?_map, List.getElem?_eq_getElem hj2, Option.map_some, eb']
    have hcc := hc l[j] (by simp) l[j + 1] (by simp)
    rw [ea, eb] at hcc
    have okz : okSz 6 (l.map Pt.c) = true := okSz_map pt_len l
    have e : incC (l.drop j) = (decide (cmpQ l[j].x l[j + 1].x < 0) && incC (l.drop (j + 1))) := by
      rw [List.drop_eq_getElem_cons hj1, List.drop_eq_getElem_cons hj2]
      rfl
    rw [e]
    generalize cmpQ l[j].x l[j + 1].x = k at *
    by_cases hk : k < 0
    · rw [decide_eq_true hk, Bool.true_and]
      have g3 : (k ≥ 0) = False := by simp only [eq_iff_iff, iff_false]; omega
      have hst : evC (evF E n) n Fn.wear_Curve_right_L0 ⟨env ((0, .one (.sl false (l.map Pt.c))) :: (3, .one (.int .i64 ((j + 1 : Nat) : Int))) :: X), ob, fz, nx⟩ = some (.nrm, ⟨env [(0, .one (.sl false (l.map Pt.c))), (3, .one (.int .i64 ((j + 1 + 1 : Nat) : Int)))], ob, fz, nx⟩) := by
        simp only [go_sem, Fn.wear_Curve_right_L0, List.length_map, h1, w1, g1, g2, okz, hcc, g3, add1, wk]
      rw [round_nrm hst]
      exact cright_loop l hl hc m (j + 1) (by omega) [] N (by omega)
    · rw [decide_eq_false hk, Bool.false_and, if_neg (by simp)]
      have g3 : (k ≥ 0) = True := by simp only [eq_iff_iff, iff_true]; omega
      refine ⟨[], round_ret ?_⟩
      simp only [go_sem, Fn.wear_Curve_right_L0, List.length_map, h1, w1, g1, g2, okz, hcc, g3]
def rightC (l : List Pt) : Bool := incC l && (decide (1 ≤ l.length) && decide (l.length ≤ 8))
theorem cright_ends (l : List Pt) (hl : l.length < 2 ^ 60) (h : ∀ p ∈ l, SmPt p) : Ends Id.wear_Curve_right [.one (.sl false (l.map Pt.c))] (.one (.bool (rightC l))) := by
  obtain ⟨N, hN⟩ := calling_pairs (S := 256) (by decide) (l.map Pt.x) (fun x hx => by
    obtain ⟨p, hp, rfl⟩ := List.mem_map.1 hx
    exact (h p hp).x)
  refine .of (N + l.length + 1) fun {n} hn => ?_
  have hc : ∀ a ∈ l, ∀ b ∈ l, ∀ (ob : Nat → Option AObj) (fz : Nat → Nat), callV (evF E n) Id.exact_Q_Cmp [.agg (qC a.x), .agg (qC b.x)] ob fz = some (.fzd fz (.one (.int .i64 (cmpQ a.x b.x)))) := fun a ha b hb => hN n (by omega) a.x (List.mem_map_of_mem ha) b.x (List.mem_map_of_mem hb)
  rw [evV_succ E_wear_Curve_right]
  unfold rightC
  have k1 : (((l.length : Nat) : Int) ≥ 1) = (1 ≤ l.length) := by rw [eq_iff_iff]; omega
  have k2 : (((l.length : Nat) : Int) ≤ 8) = (l.length ≤ 8) := by rw [eq_iff_iff]; omega
  rcases l with _ | ⟨p, r⟩
  · have h1 : ((1 : Int) < ((0 : Nat) : Int)) = False := by simp
    have h2 : (((0 : Nat) : Int) ≥ 1) = False := by simp
    have hlo : loopN (evC (evF E n) n Fn.wear_Curve_right_L0) n ⟨env [(0, .one (.sl false [])), (3, .one (.int .i64 1))], ob0, fz0, 0⟩ = some (.ext 0, ⟨env [(0, .one (.sl false [])), (3, .one (.int .i64 1)), (7, .one (.bool false))], ob0, fz0, 0⟩) := by
      obtain ⟨m, rfl⟩ : ∃ m, n = m + 1 := ⟨n - 1, by omega⟩
      refine round_ext ?_
      simp only [go_sem, Fn.wear_Curve_right_L0, h1]
    have e1 : (1 ≤ 0) = False := by simp
    simp only [go_sem, Fn.wear_Curve_right, hlo, h2, e1, incC]
  · have hlo := cright_loop (ob := ob0) (fz := fz0) (nx := 0) (p :: r) hl hc r.length 0 (by simp; omega) [] n (by simp at hn; omega)
    rw [show ((0 + 1 : Nat) : Int) = 1 from rfl, List.drop_zero] at hlo
    generalize p :: r = l at *
    by_cases hi : incC l = true
    · rw [if_pos hi] at hlo
      obtain ⟨X', hlo⟩ := hlo
      rw [hi, Bool.true_and]
      by_cases b1 : 1 ≤ l.length <;> simp only [go_sem, Fn.wear_Curve_right, List.length_map, hlo, k1, k2, b1]
    · rw [if_neg hi] at hlo
      obtain ⟨X', hlo⟩ := hlo
      rw [Bool.not_eq_true] at hi
      rw [hi]
      simp only [go_sem, Fn.wear_Curve_right, hlo]
theorem cright_call (l : List Pt) (hl : l.length < 2 ^ 60) (h : ∀ p ∈ l, SmPt p) : Calling Id.wear_Curve_right [.one (.sl false (l.map Pt.c))] (.one (.bool (rightC l))) := (cright_ends l hl h).call (can1 (.one _ (.sl _)))
def badC (l : List Pt) : Bool := !rightC l
theorem check2_ends (l : List Pt) (hl : l.length < 2 ^ 60) (h : ∀ p ∈ l, SmPt p) : Ends Id.wear_Check_2 [.one (.sl false (l.map Pt.c))] (.one (.bool (badC l))) := by
  obtain ⟨N, hN⟩ := cright_call l hl h
  refine .of N fun {n} hn => ?_
  have hN := hN n hn
  rw [evV_succ E_wear_Check_2]
  unfold badC
  simp only [go_sem, Fn.wear_Check_2, hN]
def badL (p : Pt) : Bool := decide (signI p.x.num < 0) || decide (signI p.z.num < 0)
theorem check1_ends (p : Pt) : Ends Id.wear_Check_1 [.agg p.c] (.one (.bool (badL p))) := by
  obtain ⟨N1, h1⟩ := Sign_call p.x
  obtain ⟨N2, h2⟩ := Sign_call p.z
  refine .of (N1 + N2) fun {n} hn => ?_
  have h1 := h1 n (by omega)
  have h2 := h2 n (by omega)
  rw [evV_succ E_wear_Check_1]
  unfold badL
  obtain ⟨a1, a2, a3, a4, a5, a6, ea, eb, ec⟩ := pt_cells p
  rw [ea] at h1
  rw [eb] at h2
  rw [ec]
  generalize signI p.x.num = x at *
  generalize signI p.z.num = y at *
  by_cases g : x < 0
  · simp only [go_sem, Fn.wear_Check_1, h1, h2, g]
  · simp only [go_sem, Fn.wear_Check_1, h1, h2, g]
end Go.Ev
namespace Go.Ev
open Go.Dig
theorem indexCurve_loop {n : Nat} {ob : Nat → Option AObj} {fz : Nat → Nat} {nx : Nat} (f : FuncId) (bad : List Pt → Bool) (l : List (List Pt)) (hl : l.length < 2 ^ 60) (hc : ∀ p ∈ l, ∀ (ob : Nat → Option AObj) (fz : Nat → Nat), callV (evF E n) f [.one (.sl false (p.map Pt.c))] ob fz = some (.fzd fz (.one (.bool (bad p))))) : ∀ (m i : Nat), i + m = l.length → ∀ (X : List (Nat × SV)) (N : Nat), m < N →
    if (l.drop i).any bad = true then ∃ (k : Int) (X' : List (Nat × SV)), k ≥ 0 ∧ loopN (evC (evF E n) n Fn.slices_IndexFunc_wear_Curve_wear_Curve_L0) N ⟨env ((0, .one (.sl false (l.map (fun c : List Pt => [AV.sl false (c.map Pt.c)])))) :: (1, .one (.fn f [] [])) :: (7, .one (.int .i64 (l.length : Int))) :: (8, .one (.int .i64 (i : Int))) :: X), ob, fz, nx⟩ = some (.ret, ⟨env ((4, .one (.int .i64 k)) :: X'), ob, fz, nx⟩)
    else ∃ X', loopN (evC (evF E n) n Fn.slices_IndexFunc_wear_Curve_wear_Curve_L0) N ⟨env ((0, .one (.sl false (l.map (fun c : List Pt => [AV.sl false (c.map Pt.c)])))) :: (1, .one (.fn f [] [])) :: (7, .one (.int .i64 (l.length : Int))) :: (8, .one (.int .i64 (i : Int))) :: X), ob, fz, nx⟩ = some (.ext 0, ⟨env X', ob, fz, nx⟩)
  | 0, i, hi, X, N + 1, hN => by
    have hi' : i = l.length := by omega
    subst hi'
    rw [List.drop_length, List.any_nil, if_neg (by simp)]
    have h1 : (((l.length : Nat) : Int) < ((l.length : Nat) : Int)) = False := by simp
    refine ⟨[(0, .one (.sl false (l.map (fun c : List Pt => [AV.sl false (c.map Pt.c)])))), (1, .one (.fn f [] [])), (7, .one (.int .i64 (l.length : Int))), (8, .one (.int .i64 (l.length : Int))), (9, .one (.bool false))], round_ext ?_⟩
    simp only [go_sem, Fn.slices_IndexFunc_wear_Curve_wear_Curve_L0, h1]
  | m + 1, i, hi, X, N + 1, hN => by
    have hil : i < l.length := by omega
    have h1 : (((i : Nat) : Int) < ((l.length : Nat) : Int)) = True := by simp; omega
    have wk : IntKind.i64.wrap ((i + 1 : Nat) : Int) = ((i + 1 : Nat) : Int) := wi64 (by omega)
    have okz : okSz 1 (l.map (fun c : List Pt => [AV.sl false (c.map Pt.c)])) = true := okSz_map (f := fun c : List Pt => [AV.sl false (c.map Pt.c)]) (k := 1) (fun _ => rfl) l
    have hcc := hc l[i] (by simp)
    rw [List.drop_eq_getElem_cons hil, List.any_cons]
    have gd : (l.map (fun c : List Pt => [AV.sl false (c.map Pt.c)]))[i]? = some ((fun c : List Pt => [AV.sl false (c.map Pt.c)]) l[i]) := by rw [List.getElem?_map, List.getElem?_eq_getElem hil]; rfl
    generalize l[i] = p at *
    dsimp only at gd
    cases hb : bad p with
    | true =>
      rw [hb] at hcc
      rw [Bool.true_or, if_pos rfl]
      refine ⟨(i : Int), [], by omega, round_ret ?_⟩
      simp only [go_sem, Fn.slices_IndexFunc_wear_Curve_wear_Curve_L0, h1, gd, okz, hcc]
    | false =>
      rw [hb] at hcc
      rw [Bool.false_or]
      have hst : evC (evF E n) n Fn.slices_IndexFunc_wear_Curve_wear_Curve_L0 ⟨env ((0, .one (.sl false (l.map (fun c : List Pt => [AV.sl false (c.map Pt.c)])))) :: (1, .one (.fn f [] [])) :: (7, .one (.int .i64 (l.length : Int))) :: (8, .one (.int .i64 (i : Int))) :: X), ob, fz, nx⟩ = some (.nrm, ⟨env [(0, .one (.sl false (l.map (fun c : List Pt => [AV.sl false (c.map Pt.c)])))), (1, .one (.fn f [] [])), (7, .one (.int .i64 (l.length : Int))), (8, .one (.int .i64 ((i + 1 : Nat) : Int)))], ob, fz, nx⟩) := by
        simp only [go_sem, Fn.slices_IndexFunc_wear_Curve_wear_Curve_L0, h1, gd, okz, hcc, add1, wk]
      rw [round_nrm hst]
      exact indexCurve_loop f bad l hl hc m (i + 1) (by omega) [] N (by omega)
theorem containsCurve_ends (f : FuncId) (bad : List Pt → Bool) (l : List (List Pt)) (hl : l.length < 2 ^ 60) (hc : ∃ N, ∀ n, N ≤ n → ∀ p ∈ l, ∀ (ob : Nat → Option AObj) (fz : Nat → Nat), callV (evF E n) f [.one (.sl false (p.map Pt.c))] ob fz = some (.fzd fz (.one (.bool (bad p))))) : Ends Id.slices_ContainsFunc_wear_Curve_wear_Curve [.one (.sl false (l.map (fun c : List Pt => [AV.sl false (c.map Pt.c)]))), .one (.fn f [] [])] (.one (.bool (l.any bad))) := by
  obtain ⟨N, hN⟩ := hc
  refine .of (N + l.length + 3) fun {n} hn => ?_
  obtain ⟨n, rfl⟩ : ∃ m, n = m + 1 := ⟨n - 1, by omega⟩
  have hcn : CanS (.one (.fn f [] [])) := .one _ (.fn _)
  have hi : ∃ k : Int, decide (k ≥ 0) = l.any bad ∧ evV E (n + 1) Id.slices_IndexFunc_wear_Curve_wear_Curve [.one (.sl false (l.map (fun c : List Pt => [AV.sl false (c.map Pt.c)]))), .one (.fn f [] [])] = some (.one (.int .i64 k)) := by
    rw [evV_succ E_slices_IndexFunc_wear_Curve_wear_Curve]
    have hlo := indexCurve_loop (n := n) (ob := ob0) (fz := fz0) (nx := 0) f bad l hl (hN n (by omega)) l.length 0 (by omega) [] n (by omega)
    rw [show ((0 : Nat) : Int) = 0 from rfl, List.drop_zero] at hlo
    by_cases ha : l.any bad = true
    · rw [if_pos ha] at hlo
      obtain ⟨k, X', hk, hlo⟩ := hlo
      refine ⟨k, by rw [ha]; simpa using hk, ?_⟩
      simp only [go_sem, Fn.slices_IndexFunc_wear_Curve_wear_Curve, List.length_map, hlo]
    · rw [if_neg ha] at hlo
      obtain ⟨X', hlo⟩ := hlo
      rw [Bool.not_eq_true] at ha
      refine ⟨-1, by rw [ha]; rfl, ?_⟩
      simp only [go_sem, Fn.slices_IndexFunc_wear_Curve_wear_Curve, List.length_map, hlo]
  obtain ⟨k, hk, hi⟩ := hi
  have hic := callV_can hi (can2 (.one _ (.sl _)) hcn)
  rw [evV_succ E_slices_ContainsFunc_wear_Curve_wear_Curve, ← hk]
  simp only [go_sem, Fn.slices_ContainsFunc_wear_Curve_wear_Curve, hic]
theorem containsCurve_call (f : FuncId) (bad : List Pt → Bool) (l : List (List Pt)) (hl : l.length < 2 ^ 60) (hc : ∃ N, ∀ n, N ≤ n → ∀ p ∈ l, ∀ (ob : Nat → Option AObj) (fz : Nat → Nat), callV (evF E n) f [.one (.sl false (p.map Pt.c))] ob fz = some (.fzd fz (.one (.bool (bad p))))) : Calling Id.slices_ContainsFunc_wear_Curve_wear_Curve [.one (.sl false (l.map (fun c : List Pt => [AV.sl false (c.map Pt.c)]))), .one (.fn f [] [])] (.one (.bool (l.any bad))) :=
  (containsCurve_ends f bad l hl hc).call (can2 (.one _ (.sl _)) (.one _ (.fn _)))
theorem indexLimit_loop {n : Nat} {ob : Nat → Option AObj} {fz : Nat → Nat} {nx : Nat} (f : FuncId) (bad : Pt → Bool) (l : List (Pt)) (hl : l.length < 2 ^ 60) (hc : ∀ p ∈ l, ∀ (ob : Nat → Option AObj) (fz : Nat → Nat), callV (evF E n) f [.agg p.c] ob fz = some (.fzd fz (.one (.bool (bad p))))) : ∀ (m i : Nat), i + m = l.length → ∀ (X : List (Nat × SV)) (N : Nat), m < N →
    if (l.drop i).any bad = true then ∃ (k : Int) (X' : List (Nat × SV)), k ≥ 0 ∧ loopN (evC (evF E n) n Fn.slices_IndexFunc_wear_Limit_wear_Limit_L0) N ⟨env ((0, .one (.sl false (l.map Pt.c))) :: (1, .one (.fn f [] [])) :: (7, .one (.int .i64 (l.length : Int))) :: (8, .one (.int .i64 (i : Int))) :: X), ob, fz, nx⟩ = some (.ret, ⟨env ((4, .one (.int .i64 k)) :: X'), ob, fz, nx⟩)
    else ∃ X', loopN (evC (evF E n) n Fn.slices_IndexFunc_wear_Limit_wear_Limit_L0) N ⟨env ((0, .one (.sl false (l.map Pt.c))) :: (1, .one (.fn f [] [])) :: (7, .one (.int .i64 (l.length : Int))) :: (8, .one (.int .i64 (i : Int))) :: X), ob, fz, nx⟩ = some (.ext 0, ⟨env X', ob, fz, nx⟩)
  | 0, i, hi, X, N + 1, hN => by
    have hi' : i = l.length := by omega
    subst hi'
    rw [List.drop_length, List.any_nil, if_neg (by simp)]
    have h1 : (((l.length : Nat) : Int) < ((l.length : Nat) : Int)) = False := by simp
    refine ⟨[(0, .one (.sl false (l.map Pt.c))), (1, .one (.fn f [] [])), (7, .one (.int .i64 (l.length : Int))), (8, .one (.int .i64 (l.length : Int))), (9, .one (.bool false))], round_ext ?_⟩
    simp only [go_sem, Fn.slices_IndexFunc_wear_Limit_wear_Limit_L0, h1]
  | m + 1, i, hi, X, N + 1, hN => by
    have hil : i < l.length := by omega
    have h1 : (((i : Nat) : Int) < ((l.length : Nat) : Int)) = True := by simp; omega
    have wk : IntKind.i64.wrap ((i + 1 : Nat) : Int) = ((i + 1 : Nat) : Int) := wi64 (by omega)
    have okz : okSz 6 (l.map Pt.c) = true := okSz_map pt_len l
    have hcc := hc l[i] (by simp)
    rw [List.drop_eq_getElem_cons hil, List.any_cons]
    have gd : (l.map Pt.c)[i]? = some (Pt.c l[i]) := by rw [List.getElem?_map, List.getElem?_eq_getElem hil]; rfl
    generalize l[i] = p at *
    obtain ⟨a1, a2, a3, a4, a5, a6, -, -, ec⟩ := pt_cells p
    rw [ec] at gd hcc
    cases hb : bad p with
    | true =>
      rw [hb] at hcc
      rw [Bool.true_or, if_pos rfl]
      refine ⟨(i : Int), [], by omega, round_ret ?_⟩
      simp only [go_sem, Fn.slices_IndexFunc_wear_Limit_wear_Limit_L0, h1, gd, okz, hcc]
    | false =>
      rw [hb] at hcc
      rw [Bool.false_or]
      have hst : evC (evF E n) n Fn.slices_IndexFunc_wear_Limit_wear_Limit_L0 ⟨env ((0, .one (.sl false (l.map Pt.c))) :: (1, .one (.fn f [] [])) :: (7, .one (.int .i64 (l.length : Int))) :: (8, .one (.int .i64 (i : Int))) :: X), ob, fz, nx⟩ = some (.nrm, ⟨env [(0, .one (.sl false (l.map Pt.c))), (1, .one (.fn f [] [])), (7, .one (.int .i64 (l.length : Int))), (8, .one (.int .i64 ((i + 1 : Nat) : Int)))], ob, fz, nx⟩) := by
        simp only [go_sem, Fn.slices_IndexFunc_wear_Limit_wear_Limit_L0, h1, gd, okz, hcc, add1, wk]
      rw [round_nrm hst]
      exact indexLimit_loop f bad l hl hc m (i + 1) (by omega) [] N (by omega)
theorem containsLimit_ends (f : FuncId) (bad : Pt → Bool) (l : List (Pt)) (hl : l.length < 2 ^ 60) (hc : ∃ N, ∀ n, N ≤ n → ∀ p ∈ l, ∀ (ob : Nat → Option AObj) (fz : Nat → Nat), callV (evF E n) f [.agg p.c] ob fz = some (.fzd fz (.one (.bool (bad p))))) : Ends Id.slices_ContainsFunc_wear_Limit_wear_Limit [.one (.sl false (l.map Pt.c)), .one (.fn f [] [])] (.one (.bool (l.any bad))) := by
  obtain ⟨N, hN⟩ := hc
  refine .of (N + l.length + 3) fun {n} hn => ?_
  obtain ⟨n, rfl⟩ : ∃ m, n = m + 1 := ⟨n - 1, by omega⟩
  have hcn : CanS (.one (.fn f [] [])) := .one _ (.fn _)
  have hi : ∃ k : Int, decide (k ≥ 0) = l.any bad ∧ evV E (n + 1) Id.slices_IndexFunc_wear_Limit_wear_Limit [.one (.sl false (l.map Pt.c)), .one (.fn f [] [])] = some (.one (.int .i64 k)) := by
    rw [evV_succ E_slices_IndexFunc_wear_Limit_wear_Limit]
    have hlo := indexLimit_loop (n := n) (ob := ob0) (fz := fz0) (nx := 0) f bad l hl (hN n (by omega)) l.length 0 (by omega) [] n (by omega)
    rw [show ((0 : Nat) : Int) = 0 from rfl, List.drop_zero] at hlo
    by_cases ha : l.any bad = true
    · rw [if_pos ha] at hlo
      obtain ⟨k, X', hk, hlo⟩ := hlo
      refine ⟨k, by rw [ha]; simpa using hk, ?_⟩
      simp only [go_sem, Fn.slices_IndexFunc_wear_Limit_wear_Limit, List.length_map, hlo]
    · rw [if_neg ha] at hlo
      obtain ⟨X', hlo⟩ := hlo
      rw [Bool.not_eq_true] at ha
      refine ⟨-1, by rw [ha]; rfl, ?_⟩
      simp only [go_sem, Fn.slices_IndexFunc_wear_Limit_wear_Limit, List.length_map, hlo]
  obtain ⟨k, hk, hi⟩ := hi
  have hic := callV_can hi (can2 (.one _ (.sl _)) hcn)
  rw [evV_succ E_slices_ContainsFunc_wear_Limit_wear_Limit, ← hk]
  simp only [go_sem, Fn.slices_ContainsFunc_wear_Limit_wear_Limit, hic]
theorem containsLimit_call (f : FuncId) (bad : Pt → Bool) (l : List (Pt)) (hl : l.length < 2 ^ 60) (hc : ∃ N, ∀ n, N ≤ n → ∀ p ∈ l, ∀ (ob : Nat → Option AObj) (fz : Nat → Nat), callV (evF E n) f [.agg p.c] ob fz = some (.fzd fz (.one (.bool (bad p))))) : Calling Id.slices_ContainsFunc_wear_Limit_wear_Limit [.one (.sl false (l.map Pt.c)), .one (.fn f [] [])] (.one (.bool (l.any bad))) :=
  (containsLimit_ends f bad l hl hc).call (can2 (.one _ (.sl _)) (.one _ (.fn _)))
structure SmGuard (g : Guard) : Prop where
  box : SmBx g.box
  f : g.from_ < 256
  t : g.to < 256
structure SmDev (d : Dev) : Prop where
  gs : ∀ g ∈ d.guards, SmGuard g
  cs : ∀ c ∈ d.curves, ∀ p ∈ c, SmPt p
  ls : ∀ p ∈ d.limits, SmPt p
  st : SmQ 256 d.step
  gl : d.guards.length < 2 ^ 20
  cl : d.curves.length < 2 ^ 20
  cll : ∀ c ∈ d.curves, c.length < 2 ^ 20
  ll : d.limits.length < 2 ^ 20
def badG (g : Guard) : Bool := decide (5 ≤ g.from_) || (decide (5 ≤ g.to) || (decide (g.from_ = g.to) || (!rightBx g.box || (decide (g.hold < 1) || decide (g.hold > 8)))))
theorem guard_cells (g : Guard) : ∃ c0 c1 c2 c3 c4 c5 c6 c7 c8 c9 c10 c11 c12 c13 c14 c15 c16 c17, g.box.c = [c0, c1, c2, c3, c4, c5, c6, c7, c8, c9, c10, c11, c12, c13, c14, c15, c16, c17] ∧ g.c = [.int .u8 (g.from_ : Int), .int .u8 (g.to : Int), c0, c1, c2, c3, c4, c5, c6, c7, c8, c9, c10, c11, c12, c13, c14, c15, c16, c17, .int .i64 g.hold] :=
  ⟨_, _, _, _, _, _, _, _, _, _, _, _, _, _, _, _, _, _, rfl, rfl⟩
theorem check_round {n : Nat} {ob : Nat → Option AObj} {nx i : Nat} (l : List Guard) (hl : l.length < 2 ^ 20) (g : Guard) (gd : l[i]? = some g) (hil : i < l.length) (hc : ∀ (ob : Nat → Option AObj) (fz : Nat → Nat), callV (evF E n) Id.wear_Box_right [.agg g.box.c] ob fz = some (.fzd fz (.one (.bool (rightBx g.box))))) (x1 : SV) (X : List (Nat × SV)) :
    ∃ ob' : Nat → Option AObj, (∀ id, id < nx → ob' id = ob id) ∧ evC (evF E n) n Fn.wear_Check_L0 ⟨env ((1, x1) :: (29, .one (.sl false (l.map Guard.c))) :: (30, .one (.int .i64 (l.length : Int))) :: (31, .one (.int .i64 (i : Int))) :: X), ob, fz0, nx⟩ =
      if badG g = true then some (.ret, ⟨env [(2, .one (.int .i64 2))], ob', fz0, nx + 4⟩) else some (.nrm, ⟨env [(1, x1), (29, .one (.sl false (l.map Guard.c))), (30, .one (.int .i64 (l.length : Int))), (31, .one (.int .i64 ((i + 1 : Nat) : Int)))], ob', fz0, nx + 4⟩) := by
  have h1 : (((i : Nat) : Int) < ((l.length : Nat) : Int)) = True := by simp; omega
  have wk : IntKind.i64.wrap ((i + 1 : Nat) : Int) = ((i + 1 : Nat) : Int) := wi64 (by omega)
  have okz : okSz 21 (l.map Guard.c) = true := okSz_map (f := Guard.c) (k := 21) (fun _ => rfl) l
  have ge : (l.map Guard.c)[i]? = some g.c := by rw [List.getElem?_map, gd]; rfl
  obtain ⟨c0, c1, c2, c3, c4, c5, c6, c7, c8, c9, c10, c11, c12, c13, c14, c15, c16, c17, eb, ec⟩ := guard_cells g
  rw [eb] at hc
  rw [ec] at ge
  refine ⟨upd (upd ob (nx + 2) (.box [.int .u8 0, .int .u8 0, .bool false, .nils, .nils, .bool false, .nils, .nils, .bool false, .nils, .nils, .bool false, .nils, .nils, .bool false, .nils, .nils, .bool false, .nils, .nils, .int .i64 0])) (nx + 2) (.box [.int .u8 (g.from_ : Int), .int .u8 (g.to : Int), c0, c1, c2, c3, c4, c5, c6, c7, c8, c9, c10, c11, c12, c13, c14, c15, c16, c17, .int .i64 g.hold]), fun id h => by rw [upd_ne (by omega), upd_ne (by omega)], ?_⟩
  unfold badG
  generalize g.from_ = fr at *
  generalize g.to = to at *
  generalize rightBx g.box = rb at *
  generalize g.hold = ho at *
  have q1 : (((fr : Nat) : Int) ≥ 5) = (5 ≤ fr) := by rw [eq_iff_iff]; omega
  have q2 : (((to : Nat) : Int) ≥ 5) = (5 ≤ to) := by rw [eq_iff_iff]; omega
  have q3 : (((fr : Nat) : Int) == ((to : Nat) : Int)) = decide (fr = to) := by
    by_cases h : fr = to
    · subst h; simp
    · rw [decide_eq_false h]; simp only [beq_eq_false_iff_ne, ne_eq]; omega
  by_cases p1 : 5 ≤ fr
  · simp only [go_sem, Fn.wear_Check_L0, h1, ge, okz, hc, q1, p1]
  by_cases p2 : 5 ≤ to
  · simp only [go_sem, Fn.wear_Check_L0, h1, ge, okz, hc, q1, q2, p1, p2]
  by_cases p3 : fr = to
  · have p3' : (fr = to) = True := eq_true p3
    simp only [go_sem, Fn.wear_Check_L0, h1, ge, okz, hc, q1, q2, q3, p1, p2, p3']
  cases rb with
  | false => simp only [go_sem, Fn.wear_Check_L0, h1, ge, okz, hc, q1, q2, q3, p1, p2, p3]
  | true =>
    by_cases p4 : ho < 1
    · simp only [go_sem, Fn.wear_Check_L0, h1, ge, okz, hc, q1, q2, q3, p1, p2, p3, p4]
    by_cases p5 : ho > 8
    · simp only [go_sem, Fn.wear_Check_L0, h1, ge, okz, hc, q1, q2, q3, p1, p2, p3, p4, p5]
    · simp only [go_sem, Fn.wear_Check_L0, h1, ge, okz, hc, q1, q2, q3, p1, p2, p3, p4, p5, add1, wk]
theorem check_loop {n : Nat} (l : List Guard) (hl : l.length < 2 ^ 20) (hc : ∀ g ∈ l, ∀ (ob : Nat → Option AObj) (fz : Nat → Nat), callV (evF E n) Id.wear_Box_right [.agg g.box.c] ob fz = some (.fzd fz (.one (.bool (rightBx g.box))))) (x1 : SV) : ∀ (m i : Nat), i + m = l.length → ∀ (ob : Nat → Option AObj) (nx : Nat) (X : List (Nat × SV)) (N : Nat), m < N →
    ∃ (ob' : Nat → Option AObj) (nx' : Nat) (X' : List (Nat × SV)), (∀ id, id < nx → ob' id = ob id) ∧ ((l.drop i).any badG = true → loopN (evC (evF E n) n Fn.wear_Check_L0) N ⟨env ((1, x1) :: (29, .one (.sl false (l.map Guard.c))) :: (30, .one (.int .i64 (l.length : Int))) :: (31, .one (.int .i64 (i : Int))) :: X), ob, fz0, nx⟩ =
      some (.ret, ⟨env ((2, .one (.int .i64 2)) :: X'), ob', fz0, nx'⟩)) ∧ ((l.drop i).any badG = false → loopN (evC (evF E n) n Fn.wear_Check_L0) N ⟨env ((1, x1) :: (29, .one (.sl false (l.map Guard.c))) :: (30, .one (.int .i64 (l.length : Int))) :: (31, .one (.int .i64 (i : Int))) :: X), ob, fz0, nx⟩ = some (.ext 0, ⟨env ((1, x1) :: X'), ob', fz0, nx'⟩))
  | 0, i, hi, ob, nx, X, N + 1, hN => by
    have hi' : i = l.length := by omega
    subst hi'
    rw [List.drop_length, List.any_nil]
    have h1 : (((l.length : Nat) : Int) < ((l.length : Nat) : Int)) = False := by simp
    refine ⟨ob, nx, [(29, .one (.sl false (l.map Guard.c))), (30, .one (.int .i64 (l.length : Int))), (31, .one (.int .i64 (l.length : Int))), (32, .one (.bool false))], fun _ _ => rfl, fun h => by simp at h, fun _ => round_ext ?_⟩
    simp only [go_sem, Fn.wear_Check_L0, h1]
  | m + 1, i, hi, ob, nx, X, N + 1, hN => by
    have hil : i < l.length := by omega
    obtain ⟨ob1, hf, hr⟩ := check_round (ob := ob) (nx := nx) (i := i) l hl l[i] (by simp) hil (hc _ (by simp)) x1 X
    rw [List.drop_eq_getElem_cons hil, List.any_cons]
    by_cases hb : badG l[i] = true
    · rw [if_pos hb] at hr
      rw [hb, Bool.true_or]
      exact ⟨ob1, nx + 4, [], hf, fun _ => round_ret hr, fun h => by simp at h⟩
    · rw [if_neg hb] at hr
      rw [Bool.not_eq_true] at hb
      rw [hb, Bool.false_or]
      obtain ⟨ob', nx', X', hf', h, h'⟩ := check_loop l hl hc x1 m (i + 1) (by omega) ob1 (nx + 4) [] N (by omega)
      exact ⟨ob', nx', X', fun id h => by rw [hf' id (by omega), hf id h], fun e => by rw [round_nrm hr]; exact h e, fun e => by rw [round_nrm hr]; exact h' e⟩
def rightD (d : Dev) : Bool := !(decide (16 < d.guards.length) || (decide (d.curves.length ≠ 5) || (decide (d.limits.length ≠ 5) || decide (signI d.step.num ≤ 0)))) && (!d.guards.any badG && (!d.curves.any badC && !d.limits.any badL))
def errD (d : Dev) : Int := if rightD d = true then 0 else 2
def chkT : ACode := match Fn.wear_Check.code with | .seq _ (.seq _ (.seq _ t)) => t | _ => .skip
theorem Check_ends (d : Dev) (h : SmDev d) : Ends Id.wear_Check [.agg d.c] (.one (.int .i64 (errD d))) := by
  obtain ⟨N1, k1⟩ := Sign_call d.step
  obtain ⟨N2, k2⟩ : ∃ N, ∀ n, N ≤ n → ∀ g ∈ d.guards, ∀ (ob : Nat → Option AObj) (fz : Nat → Nat), callV (evF E n) Id.wear_Box_right [.agg g.box.c] ob fz = some (.fzd fz (.one (.bool (rightBx g.box)))) := by
    have hg := fun g hg => (h.gs g hg).box
    revert hg
    generalize d.guards = l
    intro hg
    induction l with
    | nil => exact ⟨0, fun _ _ _ h => by simp at h⟩
    | cons c r ih =>
      obtain ⟨Na, ka⟩ := right_call c.box (hg c (by simp))
      obtain ⟨Nb, kb⟩ := ih (fun c hc => hg c (by simp [hc]))
      refine ⟨Na + Nb, fun n hn y hy => ?_⟩
      rcases List.mem_cons.1 hy with rfl | e
      · exact ka n (by omega)
      · exact kb n (by omega) y e
  obtain ⟨N3, k3⟩ := containsCurve_call Id.wear_Check_2 badC d.curves (Nat.lt_trans h.cl (by decide)) (by
    have hg := h.cs
    have hl := h.cll
    revert hg hl
    generalize d.curves = l
    intro hg hl
    induction l with
    | nil => exact ⟨0, fun _ _ _ h => by simp at h⟩
    | cons c r ih =>
      obtain ⟨Na, ka⟩ := (check2_ends c (Nat.lt_trans (hl c (by simp)) (by decide)) (hg c (by simp))).call (can1 (.one _ (.sl _)))
      obtain ⟨Nb, kb⟩ := ih (fun c hc => hg c (by simp [hc])) (fun c hc => hl c (by simp [hc]))
      refine ⟨Na + Nb, fun n hn y hy => ?_⟩
      rcases List.mem_cons.1 hy with rfl | e
      · exact ka n (by omega)
      · exact kb n (by omega) y e)
  obtain ⟨N4, k4⟩ := containsLimit_call Id.wear_Check_1 badL d.limits (Nat.lt_trans h.ll (by decide)) (calling_all (fun p : Pt => (check1_ends p).call (can1' (CanL.pt p))) d.limits)
  refine .of (N1 + N2 + N3 + N4 + d.guards.length + 1) fun {n} hn => ?_
  have k1 := k1 n (by omega)
  have k2 := k2 n (by omega)
  have k3 := k3 n (by omega)
  have k4 := k4 n (by omega)
  rw [evV_succ E_wear_Check]
  have hgl := h.gl
  unfold errD rightD Dev.c
  obtain ⟨a1, a2, a3, ea, -, -, -⟩ := qC_cells d.step
  rw [ea] at k1 ⊢
  generalize signI d.step.num = sg at *
  have q1 : (((d.guards.length : Nat) : Int) > 16) = (16 < d.guards.length) := by rw [eq_iff_iff]; omega
  have q2 : (((d.curves.length : Nat) : Int) != 5) = decide (d.curves.length ≠ 5) := by
    by_cases h : d.curves.length = 5
    · simp [h]
    · rw [decide_eq_true h]; simp only [bne_iff_ne, ne_eq]; omega
  have q3 : (((d.limits.length : Nat) : Int) != 5) = decide (d.limits.length ≠ 5) := by
    by_cases h : d.limits.length = 5
    · simp [h]
    · rw [decide_eq_true h]; simp only [bne_iff_ne, ne_eq]; omega
  by_cases p1 : 16 < d.guards.length
  · simp only [go_sem, Fn.wear_Check, List.length_map, q1, p1]
  by_cases p2 : d.curves.length ≠ 5
  · rw [decide_eq_true p2] at q2 ⊢
    simp only [go_sem, Fn.wear_Check, List.length_map, q1, q2, p1]
  rw [decide_eq_false p2] at q2 ⊢
  by_cases p3 : d.limits.length ≠ 5
  · rw [decide_eq_true p3] at q3 ⊢
    simp only [go_sem, Fn.wear_Check, List.length_map, q1, q2, q3, p1]
  rw [decide_eq_false p3] at q3 ⊢
  by_cases p4 : sg ≤ 0
  · simp only [go_sem, Fn.wear_Check, List.length_map, q1, q2, q3, p1, k1, p4]
  have hlo := fun ob nx => check_loop (n := n) d.guards hgl k2 (.one (.box 0 0)) d.guards.length 0 (by omega) ob nx [] n (by omega)
  have key : ∀ (ob : Nat → Option AObj), ob 0 = some (.box ([.sl false (d.guards.map Guard.c), .sl false (d.curves.map fun s => [.sl false (s.map Pt.c)]), .sl false (d.limits.map Pt.c)] ++ [a1, a2, a3])) → ∀ nx, 0 < nx →
      finV Fn.wear_Check.res (thenC (evF E n) n chkT (blkC 0 (loopN (evC (evF E n) n Fn.wear_Check_L0) n ⟨env [(1, .one (.box 0 0)), (29, .one (.sl false (d.guards.map Guard.c))), (30, .one (.int .i64 (d.guards.length : Int))), (31, .one (.int .i64 0))], ob, fz0, nx⟩))) = some (.one (.int .i64 (if (!d.guards.any badG && (!d.curves.any badC && !d.limits.any badL)) = true then 0 else 2))) := by
    intro ob o0 nx hnx
    obtain ⟨ob', nx', X', hf, hl, hl'⟩ := hlo ob nx
    rw [show ((0 : Nat) : Int) = 0 from rfl, List.drop_zero] at hl hl'
    have o0' : ob' 0 = _ := (hf 0 hnx).trans o0
    unfold chkT Fn.wear_Check
    cases hg : d.guards.any badG with
    | true =>
      have hl := hl hg
      simp only [go_sem, hl]
    | false =>
      have hl := hl' hg
      cases hc : d.curves.any badC with
      | true =>
        rw [hc] at k3
        simp only [go_sem, hl, o0', k3]
      | false =>
        rw [hc] at k3
        cases hm : d.limits.any badL <;> rw [hm] at k4 <;> simp only [go_sem, hl, o0', k3, k4]
  have e : (!(decide (16 < d.guards.length) || (false || (false || decide (sg ≤ 0)))) && (!d.guards.any badG && (!d.curves.any badC && !d.limits.any badL))) = (!d.guards.any badG && (!d.curves.any badC && !d.limits.any badL)) := by
    rw [decide_eq_false p1, decide_eq_false p4]; rfl
  rw [e]
  unfold Fn.wear_Check
  simp only [go_sem, List.length_map, q1, q2, q3, p1, k1, p4]
  refine key _ ?_ _ ?_
  · rfl
  · decide
theorem Check_call (d : Dev) (h : SmDev d) : Calling Id.wear_Check [.agg d.c] (.one (.int .i64 (errD d))) := (Check_ends d h).call (can1' (.dev d))
def mayI (d : Dev) (l : List Samp) : Int := if errD d = 0 then (if l.length ≤ 1024 then 0 else 5) else errD d
theorem may_ends (d : Dev) (h : SmDev d) (l : List Samp) : Ends Id.wear_may [.agg d.c, .one (.sl false (l.map Samp.c))] (.one (.int .i64 (mayI d l))) := by
  obtain ⟨N1, k1⟩ := Check_call d h
  refine .of (N1 + 1) fun {n} hn => ?_
  have k1 := k1 n (by omega)
  rw [evV_succ E_wear_may]
  unfold mayI
  unfold Dev.c at k1 ⊢
  obtain ⟨a1, a2, a3, ea, -, -, -⟩ := qC_cells d.step
  simp only [ea, List.cons_append, List.nil_append] at k1 ⊢
  generalize errD d = e at *
  by_cases he : e = 0
  · have e1 : (e != 0) = false := by simp [he]
    have q1 : (((l.length : Nat) : Int) > 1024) = (¬ l.length ≤ 1024) := by rw [eq_iff_iff]; omega
    rw [if_pos he]
    by_cases p : l.length ≤ 1024
    · simp only [go_sem, Fn.wear_may, k1, e1, List.length_map, q1, p, not_true_eq_false]
    · simp only [go_sem, Fn.wear_may, k1, e1, List.length_map, q1, p, not_false_eq_true]
  · have e1 : (e != 0) = true := by simp [he]
    rw [if_neg he]
    simp only [go_sem, Fn.wear_may, k1, e1]
theorem may_call (d : Dev) (h : SmDev d) (l : List Samp) : Calling Id.wear_may [.agg d.c, .one (.sl false (l.map Samp.c))] (.one (.int .i64 (mayI d l))) := (may_ends d h l).call (can2 (CanL.dev d).agg (.one _ (.sl _)))
end Go.Ev
namespace Go.Ev
open Go.Dig
theorem call_row {n : Nat} {f : FuncId} {r : SV} {es : List (List AV)} (h : evV E n f [.one (.sl false es)] = some r) (hc : CanonEs es) {ob : Nat → Option AObj} {fz : Nat → Nat} {id ver sz z : Nat} {full : Bool} (hr : rowAt ob id ver = some (z, es)) :
    callV (evF E n) f [.one (.rsl id ver sz 0 es.length full)] ob fz = some (.fzd (raise fz id es.length) r) := by
  rw [callV_ev]
  have h1 := frzS_row (sz := sz) (full := full) fz hr (lo := 0) (len := es.length) (by simp) hc
  simp only [List.drop_zero, Nat.zero_add, List.take_length] at h1
  simp only [mapFz, h1, h, Option.map_some]
theorem canonEs2 {a b : List AV} (ha : CanL a) (hb : CanL b) : CanonEs [a, b] := fun e he x hx => by
  simp only [List.mem_cons, List.not_mem_nil, or_false] at he
  rcases he with rfl | rfl
  · exact ha x hx
  · exact hb x hx
theorem canonEs1 {a : List AV} (ha : CanL a) : CanonEs [a] := fun e he x hx => by
  simp only [List.mem_cons, List.not_mem_nil, or_false] at he
  subst he
  exact ha x hx
def minQ (a b : Rat) : Rat := if cmpQ b a < 0 then b else a
def maxQ (a b : Rat) : Rat := if cmpQ b a > 0 then b else a
theorem Min_ends {S : Nat} (a b : Rat) (ha : SmQ S a) (hb : SmQ S b) (hS : S ≤ 2 ^ 30) : Ends Id.exact_Min [.one (.sl false [qC a, qC b])] (.agg (qC (minQ a b))) := by
  refine .of (4 * (S + S) + 110) fun {n} hn => ?_
  obtain ⟨n, rfl⟩ : ∃ m, n = m + 2 := ⟨n - 2, by omega⟩
  have h := callV_can (pick_run Id.exact_Min_1 a b _ (n := n + 1) (by omega) (Min1_run b a hb ha (by omega) (n := n) (by omega))) (can2 (.one _ (.fn _)) (.one _ (.sl _)))
  rw [evV_succ E_exact_Min]
  have e : (if decide (cmpQ b a < 0) = true then b else a) = minQ a b := by unfold minQ; simp
  rw [e] at h
  unfold qV at h
  obtain ⟨a1, a2, a3, ea, f1, f2, f3⟩ := qC_cells (minQ a b)
  rw [ea] at h ⊢
  unfold Fz at *
  simp only [go_sem, Fn.exact_Min, h, f1, f2, f3]
theorem Max_ends {S : Nat} (a b : Rat) (ha : SmQ S a) (hb : SmQ S b) (hS : S ≤ 2 ^ 30) : Ends Id.exact_Max [.one (.sl false [qC a, qC b])] (.agg (qC (maxQ a b))) := by
  refine .of (4 * (S + S) + 110) fun {n} hn => ?_
  obtain ⟨n, rfl⟩ : ∃ m, n = m + 2 := ⟨n - 2, by omega⟩
  have h := callV_can (pick_run Id.exact_Max_1 a b _ (n := n + 1) (by omega) (Max1_run b a hb ha (by omega) (n := n) (by omega))) (can2 (.one _ (.fn _)) (.one _ (.sl _)))
  rw [evV_succ E_exact_Max]
  have e : (if decide (cmpQ b a > 0) = true then b else a) = maxQ a b := by unfold maxQ; simp
  rw [e] at h
  unfold qV at h
  obtain ⟨a1, a2, a3, ea, f1, f2, f3⟩ := qC_cells (maxQ a b)
  rw [ea] at h ⊢
  unfold Fz at *
  simp only [go_sem, Fn.exact_Max, h, f1, f2, f3]
theorem SmQ.min {S : Nat} {a b : Rat} (ha : SmQ S a) (hb : SmQ S b) : SmQ S (minQ a b) := by unfold minQ; split <;> assumption
theorem SmQ.max {S : Nat} {a b : Rat} (ha : SmQ S a) (hb : SmQ S b) : SmQ S (maxQ a b) := by unfold maxQ; split <;> assumption
def clampQ (q lo hi : Rat) : Rat := maxQ lo (minQ hi q)
theorem SmQ.clamp {S : Nat} {q lo hi : Rat} (h : SmQ S q) (h1 : SmQ S lo) (h2 : SmQ S hi) : SmQ S (clampQ q lo hi) := h1.max (h2.min h)
theorem clamp_ends {S : Nat} (q lo hi : Rat) (h : SmQ S q) (h1 : SmQ S lo) (h2 : SmQ S hi) (hS : S ≤ 2 ^ 30) : Ends Id.wear_clamp [.agg (qC q), .agg (qC lo), .agg (qC hi)] (.agg (qC (clampQ q lo hi))) := by
  obtain ⟨N1, k1⟩ := Min_ends hi q h2 h hS
  obtain ⟨N2, k2⟩ := Max_ends lo (minQ hi q) h1 (h2.min h) hS
  refine .of (N1 + N2) fun {n} hn => ?_
  have k1 := fun ob fz (hr : rowAt ob 7 0 = some (3, [qC hi, qC q])) => call_row (sz := 3) (full := false) (fz := fz) (k1 n (by omega)) (canonEs2 (.q _) (.q _)) hr
  have k2 := fun ob fz (hr : rowAt ob 9 0 = some (3, [qC lo, qC (minQ hi q)])) => call_row (sz := 3) (full := false) (fz := fz) (k2 n (by omega)) (canonEs2 (.q _) (.q _)) hr
  rw [evV_succ E_wear_clamp]
  unfold clampQ
  generalize minQ hi q = m at *
  generalize maxQ lo m = r at *
  obtain ⟨a1, a2, a3, ea, -, -, -⟩ := qC_cells q
  obtain ⟨b1, b2, b3, eb, -, -, -⟩ := qC_cells lo
  obtain ⟨c1, c2, c3, ec, -, -, -⟩ := qC_cells hi
  obtain ⟨d1, d2, d3, ed, -, -, -⟩ := qC_cells m
  obtain ⟨e1, e2, e3, ee, f1, f2, f3⟩ := qC_cells r
  rw [ea, ec, ed] at k1
  rw [eb, ed, ee] at k2
  rw [ea, eb, ec, ee]
  have k1 := fun ob fz => k1 (upd ob 7 (.row 3 [[c1, c2, c3], [a1, a2, a3]] 0)) fz rowAt_upd
  have k2 := fun ob fz => k2 (upd ob 9 (.row 3 [[b1, b2, b3], [d1, d2, d3]] 0)) fz rowAt_upd
  simp only [List.length_cons, List.length_nil, Nat.zero_add, Nat.reduceAdd] at k1 k2
  unfold Fz at *
  simp only [go_sem, Fn.wear_clamp, k1, k2, f1, f2, f3]
theorem can3 {a b c : SV} (ha : CanS a) (hb : CanS b) (hc : CanS c) : ∀ x ∈ [a, b, c], CanS x := fun x hx => by
  simp only [List.mem_cons, List.not_mem_nil, or_false] at hx
  rcases hx with rfl | rfl | rfl
  · exact ha
  · exact hb
  · exact hc
theorem clamp_call {S : Nat} (q lo hi : Rat) (h : SmQ S q) (h1 : SmQ S lo) (h2 : SmQ S hi) (hS : S ≤ 2 ^ 30) : Calling Id.wear_clamp [.agg (qC q), .agg (qC lo), .agg (qC hi)] (.agg (qC (clampQ q lo hi))) :=
  (clamp_ends q lo hi h h1 h2 hS).call (can3 (canS_q _) (canS_q _) (canS_q _))
theorem parts1_ends {S : Nat} (p : Pt) (q : Rat) (hp : SmQ S p.x) (hq : SmQ S q) (hS : S ≤ 2 ^ 30) : ∃ N, ∀ n, N ≤ n → evV E n Id.wear_Curve_parts_1 [.agg p.c, .agg (qC q)] = some (.one (.int .i64 (cmpQ p.x q))) := by
  obtain ⟨N1, k1⟩ := Cmp_call p.x q hp hq hS
  refine Ends.of N1 fun {n} hn => ?_
  have k1 := k1 n (by omega)
  rw [evV_succ E_wear_Curve_parts_1]
  obtain ⟨a1, a2, a3, a4, a5, a6, ea, eb, ec⟩ := pt_cells p
  obtain ⟨b1, b2, b3, ed, -, -, -⟩ := qC_cells q
  rw [ea, ed] at k1
  rw [ec, ed]
  simp only [go_sem, Fn.wear_Curve_parts_1, k1]
def bs (l : List Pt) (q : Rat) : Nat → Nat → Nat → Nat
  | 0, lo, _ => lo
  | m + 1, lo, hi => if lo < hi then (if cmpQ ((l[(lo + hi) / 2]?).getD ⟨0, 0⟩).x q < 0 then bs l q m ((lo + hi) / 2 + 1) hi else bs l q m lo ((lo + hi) / 2)) else lo
theorem bs_le (l : List Pt) (q : Rat) : ∀ m lo hi, lo ≤ hi → bs l q m lo hi ≤ hi
  | 0, lo, hi, h => h
  | m + 1, lo, hi, h => by
    unfold bs
    split
    · split
      · exact bs_le l q m _ _ (by omega)
      · exact Nat.le_trans (bs_le l q m _ _ (by omega)) (by omega)
    · exact h
theorem bs_loop {n id : Nat} {ob : Nat → Option AObj} {fz : Nat → Nat} {nx : Nat} (l : List Pt) (q : Rat) (hl : l.length < 2 ^ 60) (hid : id < nx) (hob : ob id = some (.box (qC q))) (hc : ∀ p ∈ l, ∀ (ob : Nat → Option AObj) (fz : Nat → Nat), callV (evF E n) Id.wear_Curve_parts_1 [.agg p.c, .agg (qC q)] ob fz = some (.fzd fz (.one (.int .i64 (cmpQ p.x q))))) : ∀ (m lo hi : Nat), hi - lo ≤ m → lo ≤ hi → hi ≤ l.length → ∀ (X : List (Nat × SV)) (N : Nat), m < N → ∃ X',
    loopN (evC (evF E n) n Fn.slices_BinarySearchFunc_wear_Curve_exact_Point_exact_Q_L0) N ⟨env ((0, .one (.sl false (l.map Pt.c))) :: (2, .one (.fn Id.wear_Curve_parts_1 [] [])) :: (4, .one (.box id 0)) :: (8, .one (.int .i64 (l.length : Int))) :: (9, .one (.int .i64 (lo : Int))) :: (10, .one (.int .i64 (hi : Int))) :: X), ob, fz, nx⟩ =
      some (.ext 0, ⟨env ((0, .one (.sl false (l.map Pt.c))) :: (2, .one (.fn Id.wear_Curve_parts_1 [] [])) :: (4, .one (.box id 0)) :: (8, .one (.int .i64 (l.length : Int))) :: (9, .one (.int .i64 (bs l q m lo hi : Int))) :: X'), ob, fz, nx⟩) := by
  intro m
  induction m with
  | zero =>
    intro lo hi h1 h2 h3 X N hN
    obtain ⟨M, rfl⟩ : ∃ M, N = M + 1 := ⟨N - 1, by omega⟩
    have g : (((lo : Nat) : Int) < ((hi : Nat) : Int)) = False := by simp only [eq_iff_iff, iff_false]; omega
    refine ⟨[(10, .one (.int .i64 (hi : Int))), (17, .one (.bool false))], round_ext ?_⟩
    unfold bs
    simp only [go_sem, Fn.slices_BinarySearchFunc_wear_Curve_exact_Point_exact_Q_L0, g]
  | succ m ih =>
    intro lo hi h1 h2 h3 X N hN
    obtain ⟨M, rfl⟩ : ∃ M, N = M + 1 := ⟨N - 1, by omega⟩
    by_cases hlt : lo < hi
    · have g : (((lo : Nat) : Int) < ((hi : Nat) : Int)) = True := by simp; omega
      have ha : IntKind.i64.wrap ((lo : Int) + (hi : Int)) = ((lo + hi : Nat) : Int) := addi64 _ _ (by omega)
      have hu : IntKind.u64.wrap ((lo + hi : Nat) : Int) = ((lo + hi : Nat) : Int) := w64 (by omega)
      have hs : shiftI .shr .u64 ((lo + hi : Nat) : Int) 1 = some (.int .u64 (((lo + hi) / 2 : Nat) : Int)) := shr_nat .u64 (lo + hi) 1 (by decide)
      have hi' : IntKind.i64.wrap (((lo + hi) / 2 : Nat) : Int) = (((lo + hi) / 2 : Nat) : Int) := wi64 (by omega)
      obtain ⟨h, hh⟩ : ∃ h, h = (lo + hi) / 2 := ⟨_, rfl⟩
      have hhl : h < l.length := by omega
      have m1 : hi - (h + 1) ≤ m := by omega
      have m2 : h + 1 ≤ hi := by omega
      have m3 : h - lo ≤ m := by omega
      have m4 : lo ≤ h := by omega
      have m5 : h ≤ l.length := by omega
      have w1 : IntKind.i64.wrap ((h + 1 : Nat) : Int) = ((h + 1 : Nat) : Int) := wi64 (by omega)
      have okz : okSz 6 (l.map Pt.c) = true := okSz_map pt_len l
      have hcc := hc l[h] (by simp)
      have gd : (l.map Pt.c)[h]? = some l[h].c := by rw [List.getElem?_map, List.getElem?_eq_getElem hhl]; rfl
      have gq : l[h]? = some l[h] := by simp
      unfold bs
      rw [if_pos hlt]
      rw [← hh] at hs hi' ⊢
      rw [gq, Option.getD_some]
      generalize l[h] = p at *
      obtain ⟨a1, a2, a3, a4, a5, a6, -, -, ec⟩ := pt_cells p
      obtain ⟨b1, b2, b3, ed, -, -, -⟩ := qC_cells q
      rw [ec] at gd hcc
      rw [ed] at hcc hob
      have hidT : (id < nx) = True := by simp [hid]
      generalize lo + hi = lh at *
      generalize cmpQ p.x q = k at *
      by_cases hk : k < 0
      · rw [if_pos hk]
        obtain ⟨X', hX⟩ := ih (h + 1) hi m1 m2 h3 [] M (by omega)
        refine ⟨X', ?_⟩
        have hst : evC (evF E n) n Fn.slices_BinarySearchFunc_wear_Curve_exact_Point_exact_Q_L0 ⟨env ((0, .one (.sl false (l.map Pt.c))) :: (2, .one (.fn Id.wear_Curve_parts_1 [] [])) :: (4, .one (.box id 0)) :: (8, .one (.int .i64 (l.length : Int))) :: (9, .one (.int .i64 (lo : Int))) :: (10, .one (.int .i64 (hi : Int))) :: X), ob, fz, nx⟩ = some (.nrm, ⟨env [(0, .one (.sl false (l.map Pt.c))), (2, .one (.fn Id.wear_Curve_parts_1 [] [])), (4, .one (.box id 0)), (8, .one (.int .i64 (l.length : Int))), (9, .one (.int .i64 ((h + 1 : Nat) : Int))), (10, .one (.int .i64 (hi : Int)))], ob, fz, nx⟩) := by
          simp only [go_sem, Fn.slices_BinarySearchFunc_wear_Curve_exact_Point_exact_Q_L0, g, ha, hu, hs, hi', gd, okz, hob, hidT, hcc, hk, add1, w1]
        rw [round_nrm hst, hX]
      · rw [if_neg hk]
        obtain ⟨X', hX⟩ := ih lo h m3 m4 m5 [] M (by omega)
        refine ⟨X', ?_⟩
        have hst : evC (evF E n) n Fn.slices_BinarySearchFunc_wear_Curve_exact_Point_exact_Q_L0 ⟨env ((0, .one (.sl false (l.map Pt.c))) :: (2, .one (.fn Id.wear_Curve_parts_1 [] [])) :: (4, .one (.box id 0)) :: (8, .one (.int .i64 (l.length : Int))) :: (9, .one (.int .i64 (lo : Int))) :: (10, .one (.int .i64 (hi : Int))) :: X), ob, fz, nx⟩ = some (.nrm, ⟨env [(0, .one (.sl false (l.map Pt.c))), (2, .one (.fn Id.wear_Curve_parts_1 [] [])), (4, .one (.box id 0)), (8, .one (.int .i64 (l.length : Int))), (9, .one (.int .i64 (lo : Int))), (10, .one (.int .i64 (h : Int)))], ob, fz, nx⟩) := by
          simp only [go_sem, Fn.slices_BinarySearchFunc_wear_Curve_exact_Point_exact_Q_L0, g, ha, hu, hs, hi', gd, okz, hob, hidT, hcc, hk]
        rw [round_nrm hst, hX]
    · have g : (((lo : Nat) : Int) < ((hi : Nat) : Int)) = False := by simp only [eq_iff_iff, iff_false]; omega
      refine ⟨[(10, .one (.int .i64 (hi : Int))), (17, .one (.bool false))], round_ext ?_⟩
      unfold bs
      rw [if_neg hlt]
      simp only [go_sem, Fn.slices_BinarySearchFunc_wear_Curve_exact_Point_exact_Q_L0, g]
def place (l : List Pt) (q : Rat) : Nat := bs l q l.length 0 l.length
theorem place_le (l : List Pt) (q : Rat) : place l q ≤ l.length := bs_le l q _ _ _ (Nat.zero_le _)
theorem search_ends {S : Nat} (l : List Pt) (q : Rat) (hl : l.length < 2 ^ 60) (hp : ∀ p ∈ l, SmQ S p.x) (hq : SmQ S q) (hS : S ≤ 2 ^ 30) : ∃ b, Ends Id.slices_BinarySearchFunc_wear_Curve_exact_Point_exact_Q [.one (.sl false (l.map Pt.c)), .agg (qC q), .one (.fn Id.wear_Curve_parts_1 [] [])] (.tup [.one (.int .i64 (place l q : Int)), .one (.bool b)]) := by
  obtain ⟨N, hN⟩ : ∃ N, ∀ n, N ≤ n → ∀ p ∈ l, ∀ (ob : Nat → Option AObj) (fz : Nat → Nat), callV (evF E n) Id.wear_Curve_parts_1 [.agg p.c, .agg (qC q)] ob fz = some (.fzd fz (.one (.int .i64 (cmpQ p.x q)))) := by
    clear hl
    induction l with
    | nil => exact ⟨0, fun _ _ _ h => by simp at h⟩
    | cons c r ih =>
      obtain ⟨Na, ka⟩ := (parts1_ends c q (hp c (by simp)) hq hS)
      obtain ⟨Nb, kb⟩ := ih (fun c hc => hp c (by simp [hc]))
      refine ⟨Na + Nb, fun n hn y hy => ?_⟩
      rcases List.mem_cons.1 hy with rfl | e
      · exact callV_can (ka n (by omega)) (can2 (CanL.pt _).agg (canS_q _))
      · exact kb n (by omega) y e
  have hk := place_le l q
  refine ⟨if place l q < l.length then cmpQ ((l[place l q]?).getD ⟨0, 0⟩).x q == 0 else false, Ends.of (N + l.length + 1) fun {n} hn => ?_⟩
  rw [evV_succ E_slices_BinarySearchFunc_wear_Curve_exact_Point_exact_Q]
  have hc := hN n (by omega)
  obtain ⟨X', hlo⟩ := bs_loop (n := n) (id := 0) (fz := fz0) (nx := 3) (ob := upd ob0 0 (.box (qC q))) l q hl (by decide) (upd_same _ _ _) hc l.length 0 l.length (by omega) (by omega) (Nat.le_refl _) [] n (by omega)
  rw [show bs l q l.length 0 l.length = place l q from rfl, show ((0 : Nat) : Int) = 0 from rfl] at hlo
  have okz : okSz 6 (l.map Pt.c) = true := okSz_map pt_len l
  obtain ⟨b1, b2, b3, ed, -, -, -⟩ := qC_cells q
  rw [ed] at hc hlo ⊢
  generalize place l q = k at *
  by_cases hlt : k < l.length
  · have g : (((k : Nat) : Int) < ((l.length : Nat) : Int)) = True := by simp; omega
    have hcc := hc l[k] (by simp)
    have gd : (l.map Pt.c)[k]? = some l[k].c := by rw [List.getElem?_map, List.getElem?_eq_getElem hlt]; rfl
    have gq : l[k]? = some l[k] := by simp
    rw [if_pos hlt, gq, Option.getD_some]
    generalize l[k] = p at *
    obtain ⟨a1, a2, a3, a4, a5, a6, -, -, ec⟩ := pt_cells p
    rw [ec] at gd hcc
    simp only [go_sem, Fn.slices_BinarySearchFunc_wear_Curve_exact_Point_exact_Q, List.length_map, hlo, g, gd, okz, hcc]
  · have g : (((k : Nat) : Int) < ((l.length : Nat) : Int)) = False := by simp only [eq_iff_iff, iff_false]; omega
    rw [if_neg hlt]
    simp only [go_sem, Fn.slices_BinarySearchFunc_wear_Curve_exact_Point_exact_Q, List.length_map, hlo, g]
theorem search_call {S : Nat} (l : List Pt) (q : Rat) (hl : l.length < 2 ^ 60) (hp : ∀ p ∈ l, SmQ S p.x) (hq : SmQ S q) (hS : S ≤ 2 ^ 30) : ∃ b, Calling Id.slices_BinarySearchFunc_wear_Curve_exact_Point_exact_Q [.one (.sl false (l.map Pt.c)), .agg (qC q), .one (.fn Id.wear_Curve_parts_1 [] [])] (.tup [.one (.int .i64 (place l q : Int)), .one (.bool b)]) := by
  obtain ⟨b, h⟩ := search_ends l q hl hp hq hS
  exact ⟨b, h.call (can3 (.one _ (.sl _)) (canS_q _) (.one _ (.fn _)))⟩
end Go.Ev
namespace Go.Ev
open Go.Dig
theorem Ends.row2 {f : FuncId} {a b r : Rat} (h : Ends f [.one (.sl false [qC a, qC b])] (.agg (qC r))) : ∃ N, ∀ n, N ≤ n → ∀ (ob : Nat → Option AObj) (fz : Nat → Nat) (id : Nat), callV (evF E n) f [.one (.rsl id 0 3 0 2 false)] (upd ob id (.row 3 [qC a, qC b] 0)) fz = some (.fzd (raise fz id 2) (.agg (qC r))) := by
  obtain ⟨N, h⟩ := h
  exact ⟨N, fun n hn ob fz id => call_row (sz := 3) (z := 3) (full := false) (fz := fz) (h n hn) (canonEs2 (.q _) (.q _)) rowAt_upd⟩
def joinB (b : Bx) (s : Samp) : Bx := ⟨⟨minQ b.low.load s.load, minQ b.low.angle s.angle, minQ b.low.speed s.speed⟩, ⟨maxQ b.high.load s.load, maxQ b.high.angle s.angle, maxQ b.high.speed s.speed⟩⟩
theorem bx_cells (b : Bx) (a1 a2 a3 a4 a5 a6 a7 a8 a9 b1 b2 b3 b4 b5 b6 b7 b8 b9 : AV) (h1 : qC b.low.load = [a1, a2, a3]) (h2 : qC b.low.angle = [a4, a5, a6]) (h3 : qC b.low.speed = [a7, a8, a9]) (h4 : qC b.high.load = [b1, b2, b3]) (h5 : qC b.high.angle = [b4, b5, b6]) (h6 : qC b.high.speed = [b7, b8, b9]) :
    b.c = [a1, a2, a3, a4, a5, a6, a7, a8, a9, b1, b2, b3, b4, b5, b6, b7, b8, b9] := by
  unfold Bx.c Samp.c
  rw [h1, h2, h3, h4, h5, h6]
  rfl
theorem samp_cells' (s : Samp) (a1 a2 a3 a4 a5 a6 a7 a8 a9 : AV) (h1 : qC s.load = [a1, a2, a3]) (h2 : qC s.angle = [a4, a5, a6]) (h3 : qC s.speed = [a7, a8, a9]) : s.c = [a1, a2, a3, a4, a5, a6, a7, a8, a9] := by
  unfold Samp.c
  rw [h1, h2, h3]
  rfl
set_option maxRecDepth 100000 in
theorem joined_ends {S : Nat} (b : Bx) (s : Samp) (hS : S ≤ 2 ^ 30) (b1 : SmQ S b.low.load) (b2 : SmQ S b.low.angle) (b3 : SmQ S b.low.speed) (b4 : SmQ S b.high.load) (b5 : SmQ S b.high.angle) (b6 : SmQ S b.high.speed) (s1 : SmQ S s.load) (s2 : SmQ S s.angle) (s3 : SmQ S s.speed) : Ends Id.wear_Box_joined [.agg b.c, .agg s.c] (.agg (joinB b s).c) := by
  obtain ⟨N1, k1⟩ := (Min_ends b.low.load s.load b1 s1 hS).row2
  obtain ⟨N2, k2⟩ := (Min_ends b.low.angle s.angle b2 s2 hS).row2
  obtain ⟨N3, k3⟩ := (Min_ends b.low.speed s.speed b3 s3 hS).row2
  obtain ⟨N4, k4⟩ := (Max_ends b.high.load s.load b4 s1 hS).row2
  obtain ⟨N5, k5⟩ := (Max_ends b.high.angle s.angle b5 s2 hS).row2
  obtain ⟨N6, k6⟩ := (Max_ends b.high.speed s.speed b6 s3 hS).row2
  refine .of (N1 + N2 + N3 + N4 + N5 + N6) fun {n} hn => ?_
  have k1 := k1 n (by omega)
  have k2 := k2 n (by omega)
  have k3 := k3 n (by omega)
  have k4 := k4 n (by omega)
  have k5 := k5 n (by omega)
  have k6 := k6 n (by omega)
  obtain ⟨x1, x2, x3, e1, -, -, -⟩ := qC_cells b.low.load
  obtain ⟨x4, x5, x6, e2, -, -, -⟩ := qC_cells b.low.angle
  obtain ⟨x7, x8, x9, e3, -, -, -⟩ := qC_cells b.low.speed
  obtain ⟨y1, y2, y3, e4, -, -, -⟩ := qC_cells b.high.load
  obtain ⟨y4, y5, y6, e5, -, -, -⟩ := qC_cells b.high.angle
  obtain ⟨y7, y8, y9, e6, -, -, -⟩ := qC_cells b.high.speed
  obtain ⟨z1, z2, z3, e7, -, -, -⟩ := qC_cells s.load
  obtain ⟨z4, z5, z6, e8, -, -, -⟩ := qC_cells s.angle
  obtain ⟨z7, z8, z9, e9, -, -, -⟩ := qC_cells s.speed
  have eb := bx_cells b _ _ _ _ _ _ _ _ _ _ _ _ _ _ _ _ _ _ e1 e2 e3 e4 e5 e6
  have es := samp_cells' s _ _ _ _ _ _ _ _ _ e7 e8 e9
  obtain ⟨u1, u2, u3, g1, p1, p2, p3⟩ := qC_cells (minQ b.low.load s.load)
  obtain ⟨u4, u5, u6, g2, p4, p5, p6⟩ := qC_cells (minQ b.low.angle s.angle)
  obtain ⟨u7, u8, u9, g3, p7, p8, p9⟩ := qC_cells (minQ b.low.speed s.speed)
  obtain ⟨v1, v2, v3, g4, q1, q2, q3⟩ := qC_cells (maxQ b.high.load s.load)
  obtain ⟨v4, v5, v6, g5, q4, q5, q6⟩ := qC_cells (maxQ b.high.angle s.angle)
  obtain ⟨v7, v8, v9, g6, q7, q8, q9⟩ := qC_cells (maxQ b.high.speed s.speed)
  have ej := bx_cells (joinB b s) _ _ _ _ _ _ _ _ _ _ _ _ _ _ _ _ _ _ g1 g2 g3 g4 g5 g6
  rw [e1, e7, g1] at k1
  rw [e2, e8, g2] at k2
  rw [e3, e9, g3] at k3
  rw [e4, e7, g4] at k4
  rw [e5, e8, g5] at k5
  rw [e6, e9, g6] at k6
  rw [eb, es, ej, evV_succ E_wear_Box_joined]
  unfold Fz at *
  simp only [go_sem, Fn.wear_Box_joined, k1, k2, k3, k4, k5, k6, frzS, p1, p2, p3, p4, p5, p6, p7, p8, p9, q1, q2, q3, q4, q5, q6, q7, q8, q9]
end Go.Ev
namespace Go.Ev
open Go.Dig
theorem rcd_cells (x : Rcd) : ∃ a1 a2 a3 a4 a5 a6 a7 a8 a9 a10 a11 a12 a13, x.c = [a1, a2, a3, a4, a5, a6, a7, a8, a9, a10, a11, a12, a13] := ⟨_, _, _, _, _, _, _, _, _, _, _, _, _, rfl⟩
theorem indexRecord_loop {n : Nat} {ob : Nat → Option AObj} {fz : Nat → Nat} {nx : Nat} (f : FuncId) (bad : Rcd → Bool) (l : List Rcd) (hl : l.length < 2 ^ 60) (hc : ∀ p ∈ l, ∀ (ob : Nat → Option AObj) (fz : Nat → Nat), callV (evF E n) f [.agg p.c] ob fz = some (.fzd fz (.one (.bool (bad p))))) : ∀ (m i : Nat), i + m = l.length → ∀ (X : List (Nat × SV)) (N : Nat), m < N →
    if (l.drop i).any bad = true then ∃ (k : Int) (X' : List (Nat × SV)), k ≥ 0 ∧ loopN (evC (evF E n) n Fn.slices_IndexFunc_wear_Record_wear_Record_L0) N ⟨env ((0, .one (.sl false (l.map Rcd.c))) :: (1, .one (.fn f [] [])) :: (7, .one (.int .i64 (l.length : Int))) :: (8, .one (.int .i64 (i : Int))) :: X), ob, fz, nx⟩ = some (.ret, ⟨env ((4, .one (.int .i64 k)) :: X'), ob, fz, nx⟩)
    else ∃ X', loopN (evC (evF E n) n Fn.slices_IndexFunc_wear_Record_wear_Record_L0) N ⟨env ((0, .one (.sl false (l.map Rcd.c))) :: (1, .one (.fn f [] [])) :: (7, .one (.int .i64 (l.length : Int))) :: (8, .one (.int .i64 (i : Int))) :: X), ob, fz, nx⟩ = some (.ext 0, ⟨env X', ob, fz, nx⟩)
  | 0, i, hi, X, N + 1, hN => by
    have hi' : i = l.length := by omega
    subst hi'
    rw [List.drop_length, List.any_nil, if_neg (by simp)]
    have h1 : (((l.length : Nat) : Int) < ((l.length : Nat) : Int)) = False := by simp
    refine ⟨[(0, .one (.sl false (l.map Rcd.c))), (1, .one (.fn f [] [])), (7, .one (.int .i64 (l.length : Int))), (8, .one (.int .i64 (l.length : Int))), (9, .one (.bool false))], round_ext ?_⟩
    simp only [go_sem, Fn.slices_IndexFunc_wear_Record_wear_Record_L0, h1]
  | m + 1, i, hi, X, N + 1, hN => by
    have hil : i < l.length := by omega
    have h1 : (((i : Nat) : Int) < ((l.length : Nat) : Int)) = True := by simp; omega
    have wk : IntKind.i64.wrap ((i + 1 : Nat) : Int) = ((i + 1 : Nat) : Int) := wi64 (by omega)
    have okz : okSz 13 (l.map Rcd.c) = true := okSz_map (f := Rcd.c) (k := 13) (fun _ => rfl) l
    have hcc := hc l[i] (by simp)
    rw [List.drop_eq_getElem_cons hil, List.any_cons]
    have gd : (l.map Rcd.c)[i]? = some (Rcd.c l[i]) := by rw [List.getElem?_map, List.getElem?_eq_getElem hil]; rfl
    generalize l[i] = p at *
    obtain ⟨a1, a2, a3, a4, a5, a6, a7, a8, a9, a10, a11, a12, a13, ec⟩ := rcd_cells p
    rw [ec] at gd hcc
    cases hb : bad p with
    | true =>
      rw [hb] at hcc
      rw [Bool.true_or, if_pos rfl]
      refine ⟨(i : Int), [], by omega, round_ret ?_⟩
      simp only [go_sem, Fn.slices_IndexFunc_wear_Record_wear_Record_L0, h1, gd, okz, hcc]
    | false =>
      rw [hb] at hcc
      rw [Bool.false_or]
      have hst : evC (evF E n) n Fn.slices_IndexFunc_wear_Record_wear_Record_L0 ⟨env ((0, .one (.sl false (l.map Rcd.c))) :: (1, .one (.fn f [] [])) :: (7, .one (.int .i64 (l.length : Int))) :: (8, .one (.int .i64 (i : Int))) :: X), ob, fz, nx⟩ = some (.nrm, ⟨env [(0, .one (.sl false (l.map Rcd.c))), (1, .one (.fn f [] [])), (7, .one (.int .i64 (l.length : Int))), (8, .one (.int .i64 ((i + 1 : Nat) : Int)))], ob, fz, nx⟩) := by
        simp only [go_sem, Fn.slices_IndexFunc_wear_Record_wear_Record_L0, h1, gd, okz, hcc, add1, wk]
      rw [round_nrm hst]
      exact indexRecord_loop f bad l hl hc m (i + 1) (by omega) [] N (by omega)
theorem containsRecord_ends (f : FuncId) (bad : Rcd → Bool) (l : List Rcd) (hl : l.length < 2 ^ 60) (hc : ∃ N, ∀ n, N ≤ n → ∀ p ∈ l, ∀ (ob : Nat → Option AObj) (fz : Nat → Nat), callV (evF E n) f [.agg p.c] ob fz = some (.fzd fz (.one (.bool (bad p))))) : Ends Id.slices_ContainsFunc_wear_Record_wear_Record [.one (.sl false (l.map Rcd.c)), .one (.fn f [] [])] (.one (.bool (l.any bad))) := by
  obtain ⟨N, hN⟩ := hc
  refine .of (N + l.length + 3) fun {n} hn => ?_
  obtain ⟨n, rfl⟩ : ∃ m, n = m + 1 := ⟨n - 1, by omega⟩
  have hcn : CanS (.one (.fn f [] [])) := .one _ (.fn _)
  have hi : ∃ k : Int, decide (k ≥ 0) = l.any bad ∧ evV E (n + 1) Id.slices_IndexFunc_wear_Record_wear_Record [.one (.sl false (l.map Rcd.c)), .one (.fn f [] [])] = some (.one (.int .i64 k)) := by
    rw [evV_succ E_slices_IndexFunc_wear_Record_wear_Record]
    have hlo := indexRecord_loop (n := n) (ob := ob0) (fz := fz0) (nx := 0) f bad l hl (hN n (by omega)) l.length 0 (by omega) [] n (by omega)
    rw [show ((0 : Nat) : Int) = 0 from rfl, List.drop_zero] at hlo
    by_cases ha : l.any bad = true
    · rw [if_pos ha] at hlo
      obtain ⟨k, X', hk, hlo⟩ := hlo
      refine ⟨k, by rw [ha]; simpa using hk, ?_⟩
      simp only [go_sem, Fn.slices_IndexFunc_wear_Record_wear_Record, List.length_map, hlo]
    · rw [if_neg ha] at hlo
      obtain ⟨X', hlo⟩ := hlo
      rw [Bool.not_eq_true] at ha
      refine ⟨-1, by rw [ha]; rfl, ?_⟩
      simp only [go_sem, Fn.slices_IndexFunc_wear_Record_wear_Record, List.length_map, hlo]
  obtain ⟨k, hk, hi⟩ := hi
  have hic := callV_can hi (can2 (.one _ (.sl _)) hcn)
  rw [evV_succ E_slices_ContainsFunc_wear_Record_wear_Record, ← hk]
  simp only [go_sem, Fn.slices_ContainsFunc_wear_Record_wear_Record, hic]
theorem containsRecord_call (f : FuncId) (bad : Rcd → Bool) (l : List Rcd) (hl : l.length < 2 ^ 60) (hc : ∃ N, ∀ n, N ≤ n → ∀ p ∈ l, ∀ (ob : Nat → Option AObj) (fz : Nat → Nat), callV (evF E n) f [.agg p.c] ob fz = some (.fzd fz (.one (.bool (bad p))))) : Calling Id.slices_ContainsFunc_wear_Record_wear_Record [.one (.sl false (l.map Rcd.c)), .one (.fn f [] [])] (.one (.bool (l.any bad))) :=
  (containsRecord_ends f bad l hl hc).call (can2 (.one _ (.sl _)) (.one _ (.fn _)))
def badR (x : Rcd) : Bool := decide (5 ≤ x.ph)
theorem boxes1_ends (x : Rcd) : Ends Id.wear_Boxes_1 [.agg x.c] (.one (.bool (badR x))) := by
  refine .of 0 fun {n} hn => ?_
  rw [evV_succ E_wear_Boxes_1]
  obtain ⟨s0, s1, s2, s3, s4, s5, s6, s7, s8, es', -, -, -, -, -, -, -, -, -⟩ := samp_cells x.s
  obtain ⟨q0, q1, q2, eq, -, -, -⟩ := qC_cells x.m
  have ec : x.c = [.int .u8 (x.ph : Int), s0, s1, s2, s3, s4, s5, s6, s7, s8, q0, q1, q2] := by unfold Rcd.c; rw [es', eq]; rfl
  have h5 : decide (((x.ph : Nat) : Int) ≥ 5) = badR x := by unfold badR; rw [Bool.eq_iff_iff]; simp only [decide_eq_true_eq]; omega
  rw [ec]
  simp only [go_sem, Fn.wear_Boxes_1, h5]
def z18 : List AV := [.bool false, .nils, .nils, .bool false, .nils, .nils, .bool false, .nils, .nils, .bool false, .nils, .nils, .bool false, .nils, .nils, .bool false, .nils, .nils]
def rawB (p : Bx × Bool) : List AV := bif p.2 then p.1.c else z18
def rawK (p : Bx × Bool) : List AV := [.bool p.2]
def bxOf (p : Bx × Bool) (x : Rcd) : Bx := bif p.2 then p.1 else ⟨x.s, x.s⟩
def bx0 : Bx × Bool := (⟨⟨0, 0, 0⟩, ⟨0, 0, 0⟩⟩, false)
def boxS (S : List (Bx × Bool)) (x : Rcd) : List (Bx × Bool) := S.set x.ph (joinB (bxOf ((S[x.ph]?).getD bx0) x) x.s, true)
def boxL : List (Bx × Bool) → List Rcd → List (Bx × Bool)
  | S, [] => S
  | S, x :: r => boxL (boxS S x) r
theorem boxS_len (S : List (Bx × Bool)) (x : Rcd) : (boxS S x).length = S.length := by unfold boxS; simp
theorem boxL_len : ∀ (l : List Rcd) (S : List (Bx × Bool)), (boxL S l).length = S.length
  | [], S => rfl
  | x :: r, S => by unfold boxL; rw [boxL_len r, boxS_len]
set_option maxRecDepth 100000 in
set_option maxHeartbeats 1000000 in
theorem boxes_round {n nx i : Nat} {ob : Nat → Option AObj} (l : List Rcd) (x : Rcd) (gl : l[i]? = some x) (hl : l.length < 2 ^ 20) (hi : i < l.length) (S : List (Bx × Bool)) (hS : S.length = 5) (p : Bx × Bool) (gp : S[x.ph]? = some p) (hph : x.ph < 5) (hn2 : 2 ≤ nx) (o0 : ob 0 = some (.row 18 (S.map rawB) 0)) (o1 : ob 1 = some (.row 1 (S.map rawK) 0))
    (hc : ∀ (ob : Nat → Option AObj) (fz : Nat → Nat), callV (evF E n) Id.wear_Box_joined [.agg (bxOf p x).c, .agg x.s.c] ob fz = some (.fzd fz (.agg (joinB (bxOf p x) x.s).c))) (v4 : SV) (X : List (Nat × SV)) :
    ∃ ob', evC (evF E n) n Fn.wear_Boxes_L0 ⟨env ((0, .one (.sl false (l.map Rcd.c))) :: (2, .one (.rsl 0 0 18 0 5 false)) :: (3, .one (.rsl 1 0 1 0 5 false)) :: (4, v4) :: (21, .one (.sl false (l.map Rcd.c))) :: (22, .one (.int .i64 (l.length : Int))) :: (23, .one (.int .i64 (i : Int))) :: X), ob, fz0, nx⟩ =
      some (.nrm, ⟨env [(0, .one (.sl false (l.map Rcd.c))), (2, .one (.rsl 0 0 18 0 5 false)), (3, .one (.rsl 1 0 1 0 5 false)), (4, v4), (21, .one (.sl false (l.map Rcd.c))), (22, .one (.int .i64 (l.length : Int))), (23, .one (.int .i64 ((i + 1 : Nat) : Int)))], ob', fz0, nx + 4⟩) ∧ ob' 0 = some (.row 18 ((boxS S x).map rawB) 0) ∧ ob' 1 = some (.row 1 ((boxS S x).map rawK) 0) := by
  have h1 : (((i : Nat) : Int) < ((l.length : Nat) : Int)) = True := by simp; omega
  have wk : IntKind.i64.wrap ((i + 1 : Nat) : Int) = ((i + 1 : Nat) : Int) := wi64 (by omega)
  have okz : okSz 13 (l.map Rcd.c) = true := okSz_map (f := Rcd.c) (k := 13) (fun _ => rfl) l
  have ge : (l.map Rcd.c)[i]? = some x.c := by rw [List.getElem?_map, gl]; rfl
  have gB : (S.map rawB)[x.ph]? = some (rawB p) := by rw [List.getElem?_map, gp]; rfl
  have gK : (S.map rawK)[x.ph]? = some [.bool p.2] := by rw [List.getElem?_map, gp]; rfl
  have hset : ∀ v, ((S.map rawB).set x.ph v)[x.ph]? = some v := fun v => by rw [List.getElem?_set_self]; simp; omega
  have ss : ∀ a b, ((S.map rawB).set x.ph a).set x.ph b = (S.map rawB).set x.ph b := fun a b => List.set_set _
  have h5 : (x.ph < 5) = True := by simp [hph]
  have fB : fz0 0 = 0 := rfl
  have fK : fz0 1 = 0 := rfl
  have n0 : ∀ k, (0 = nx + k) = False := fun k => by simp only [eq_iff_iff, iff_false]; omega
  have n1 : ∀ k, (1 = nx + k) = False := fun k => by simp only [eq_iff_iff, iff_false]; omega
  have n0' : ∀ k, (nx + k = 0) = False := fun k => by simp only [eq_iff_iff, iff_false]; omega
  have n1' : ∀ k, (nx + k = 1) = False := fun k => by simp only [eq_iff_iff, iff_false]; omega
  have p0 : ∀ k, (0 < nx + k) = True := fun k => by simp only [eq_iff_iff, iff_true]; omega
  have p1 : ∀ k, (1 < nx + k) = True := fun k => by simp only [eq_iff_iff, iff_true]; omega
  have r0 : rowAt ob 0 0 = some (18, S.map rawB) := rowAt_of o0
  have r1 : rowAt ob 1 0 = some (1, S.map rawK) := rowAt_of o1
  have ra : ∀ k y ob a ver, a < 2 → rowAt (upd ob (nx + k) y) a ver = rowAt ob a ver := fun k y ob a ver ha => rowAt_ne (by omega)
  have ra0 : ∀ k y ob ver, rowAt (upd ob (nx + k) y) 0 ver = rowAt ob 0 ver := fun k y ob ver => ra k y ob 0 ver (by omega)
  have ra1 : ∀ k y ob ver, rowAt (upd ob (nx + k) y) 1 ver = rowAt ob 1 ver := fun k y ob ver => ra k y ob 1 ver (by omega)
  have rb1 : ∀ y ob ver, rowAt (upd ob 0 y) 1 ver = rowAt ob 1 ver := fun y ob ver => rowAt_ne (by decide)
  have rb0 : ∀ y ob ver, rowAt (upd ob 1 y) 0 ver = rowAt ob 0 ver := fun y ob ver => rowAt_ne (by decide)
  obtain ⟨s0, s1, s2, s3, s4, s5, s6, s7, s8, es', -, -, -, -, -, -, -, -, -⟩ := samp_cells x.s
  obtain ⟨q0, q1, q2, eq, -, -, -⟩ := qC_cells x.m
  have ec : x.c = [.int .u8 (x.ph : Int), s0, s1, s2, s3, s4, s5, s6, s7, s8, q0, q1, q2] := by unfold Rcd.c; rw [es', eq]; rfl
  obtain ⟨j1, j2, j3, j4, j5, j6, j7, j8, j9, k1, k2, k3, k4, k5, k6, k7, k8, k9, ej⟩ : ∃ a1 a2 a3 a4 a5 a6 a7 a8 a9 b1 b2 b3 b4 b5 b6 b7 b8 b9, (joinB (bxOf p x) x.s).c = [a1, a2, a3, a4, a5, a6, a7, a8, a9, b1, b2, b3, b4, b5, b6, b7, b8, b9] := ⟨_, _, _, _, _, _, _, _, _, _, _, _, _, _, _, _, _, _, rfl⟩
  have fin : (boxS S x).map rawB = (S.map rawB).set x.ph (joinB (bxOf p x) x.s).c ∧ (boxS S x).map rawK = (S.map rawK).set x.ph [.bool true] := by
    unfold boxS
    rw [gp]
    refine ⟨?_, ?_⟩ <;> rw [List.map_set] <;> rfl
  rw [fin.1, fin.2]
  rw [ej] at hc ⊢
  rw [ec] at ge
  obtain ⟨r, hr0⟩ : ∃ r, evC (evF E n) n Fn.wear_Boxes_L0 ⟨env ((0, .one (.sl false (l.map Rcd.c))) :: (2, .one (.rsl 0 0 18 0 5 false)) :: (3, .one (.rsl 1 0 1 0 5 false)) :: (4, v4) :: (21, .one (.sl false (l.map Rcd.c))) :: (22, .one (.int .i64 (l.length : Int))) :: (23, .one (.int .i64 (i : Int))) :: X), ob, fz0, nx⟩ = r := ⟨_, rfl⟩
  have hr := hr0
  cases hk : p.2 with
  | true =>
    have eb : bxOf p x = p.1 := by unfold bxOf; rw [hk]; rfl
    have erb : rawB p = p.1.c := by unfold rawB; rw [hk]; rfl
    obtain ⟨a1, a2, a3, a4, a5, a6, a7, a8, a9, b1, b2, b3, b4, b5, b6, b7, b8, b9, e1⟩ : ∃ a1 a2 a3 a4 a5 a6 a7 a8 a9 b1 b2 b3 b4 b5 b6 b7 b8 b9, p.1.c = [a1, a2, a3, a4, a5, a6, a7, a8, a9, b1, b2, b3, b4, b5, b6, b7, b8, b9] := ⟨_, _, _, _, _, _, _, _, _, _, _, _, _, _, _, _, _, _, rfl⟩
    rw [hk] at gK
    rw [eb, e1, es'] at hc
    rw [erb, e1] at gB
    simp only [go_sem, Fn.wear_Boxes_L0, h1, ge, okz, gB, gK, hset, ss, h5, fB, fK, n0, n1, n0', n1', p0, p1, r0, r1, ra0, ra1, rb0, rb1, hc, add1, wk] at hr
    rw [hr0, ← hr]
    refine ⟨_, rfl, ?_, upd_same _ _ _⟩
    rw [upd_ne (by decide)]; exact upd_same _ _ _
  | false =>
    have eb : bxOf p x = ⟨x.s, x.s⟩ := by unfold bxOf; rw [hk]; rfl
    have erb : rawB p = z18 := by unfold rawB; rw [hk]; rfl
    have e1 : (⟨x.s, x.s⟩ : Bx).c = [s0, s1, s2, s3, s4, s5, s6, s7, s8, s0, s1, s2, s3, s4, s5, s6, s7, s8] := by unfold Bx.c; rw [es']; rfl
    rw [hk] at gK
    rw [eb, e1, es'] at hc
    rw [erb] at gB
    unfold z18 at gB
    simp only [go_sem, Fn.wear_Boxes_L0, h1, ge, okz, gB, gK, hset, ss, h5, fB, fK, n0, n1, n0', n1', p0, p1, r0, r1, ra0, ra1, rb0, rb1, hc, add1, wk] at hr
    rw [hr0, ← hr]
    refine ⟨_, rfl, ?_, upd_same _ _ _⟩
    rw [upd_ne (by decide)]; exact upd_same _ _ _
end Go.Ev
namespace Go.Ev
open Go.Dig
def SmS (S : List (Bx × Bool)) : Prop := ∀ p ∈ S, p.2 = true → SmBx p.1
theorem joinB_sm {b : Bx} {s : Samp} (hb : SmBx b) (hs : SmSamp s) : SmBx (joinB b s) :=
  ⟨⟨hb.low.load.min hs.load, hb.low.angle.min hs.angle, hb.low.speed.min hs.speed⟩, ⟨hb.high.load.max hs.load, hb.high.angle.max hs.angle, hb.high.speed.max hs.speed⟩⟩
theorem bxOf_sm {p : Bx × Bool} {x : Rcd} (hp : p.2 = true → SmBx p.1) (hs : SmSamp x.s) : SmBx (bxOf p x) := by
  unfold bxOf
  cases h : p.2 with
  | true => exact hp h
  | false => exact ⟨hs, hs⟩
theorem boxS_sm {S : List (Bx × Bool)} {x : Rcd} (hS : SmS S) (hs : SmSamp x.s) : SmS (boxS S x) := by
  intro p hp hk
  unfold boxS at hp
  rcases List.mem_or_eq_of_mem_set hp with h | h
  · exact hS p h hk
  · rw [h]
    refine joinB_sm (bxOf_sm ?_ hs) hs
    intro h'
    cases hq : S[x.ph]? with
    | none => rw [hq] at h'; cases h'
    | some q => rw [hq] at h'; exact hS q (List.mem_of_getElem? hq) h'
theorem boxL_sm : ∀ (l : List Rcd) (S : List (Bx × Bool)), SmS S → (∀ x ∈ l, SmSamp x.s) → SmS (boxL S l)
  | [], S, hS, hl => hS
  | x :: r, S, hS, hl => boxL_sm r (boxS S x) (boxS_sm hS (hl x (by simp))) fun y hy => hl y (by simp [hy])
theorem joined_call (b : Bx) (s : Samp) (hb : SmBx b) (hs : SmSamp s) : Calling Id.wear_Box_joined [.agg b.c, .agg s.c] (.agg (joinB b s).c) :=
  (joined_ends b s (S := 256) (by decide) hb.low.load hb.low.angle hb.low.speed hb.high.load hb.high.angle hb.high.speed hs.load hs.angle hs.speed).call (can2 (CanL.bx b).agg (CanL.samp s).agg)
theorem boxes_loop : ∀ (r pre : List Rcd) (S : List (Bx × Bool)), S.length = 5 → SmS S → (∀ x ∈ r, x.ph < 5 ∧ SmSamp x.s) → (pre ++ r).length < 2 ^ 20 →
    ∃ N, ∀ n, N ≤ n → ∀ (ob : Nat → Option AObj) (nx : Nat) (v4 : SV) (X : List (Nat × SV)), 2 ≤ nx → ob 0 = some (.row 18 (S.map rawB) 0) → ob 1 = some (.row 1 (S.map rawK) 0) → ∀ M, r.length < M →
      ∃ ob' nx' X', loopN (evC (evF E n) n Fn.wear_Boxes_L0) M ⟨env ((0, .one (.sl false ((pre ++ r).map Rcd.c))) :: (2, .one (.rsl 0 0 18 0 5 false)) :: (3, .one (.rsl 1 0 1 0 5 false)) :: (4, v4) :: (21, .one (.sl false ((pre ++ r).map Rcd.c))) :: (22, .one (.int .i64 ((pre ++ r).length : Int))) :: (23, .one (.int .i64 (pre.length : Int))) :: X), ob, fz0, nx⟩ =
        some (.ext 1, ⟨env ((0, .one (.sl false ((pre ++ r).map Rcd.c))) :: (2, .one (.rsl 0 0 18 0 5 false)) :: (3, .one (.rsl 1 0 1 0 5 false)) :: (4, v4) :: X'), ob', fz0, nx'⟩) ∧ nx ≤ nx' ∧ ob' 0 = some (.row 18 ((boxL S r).map rawB) 0) ∧ ob' 1 = some (.row 1 ((boxL S r).map rawK) 0)
  | [], pre, S, hS, hs, hr, hlen => by
    refine ⟨0, fun n hn ob nx v4 X h2 o0 o1 M hM => ?_⟩
    obtain ⟨M, rfl⟩ : ∃ k, M = k + 1 := ⟨M - 1, by simp at hM; omega⟩
    rw [List.append_nil]
    have hlt : (((pre.length : Nat) : Int) < ((pre.length : Nat) : Int)) = False := by simp
    refine ⟨ob, nx, [(21, .one (.sl false (pre.map Rcd.c))), (22, .one (.int .i64 (pre.length : Int))), (23, .one (.int .i64 (pre.length : Int))), (24, .one (.bool false))], round_ext ?_, Nat.le_refl _, o0, o1⟩
    simp only [go_sem, Fn.wear_Boxes_L0, hlt]
  | x :: r, pre, S, hS, hs, hr, hlen => by
    obtain ⟨hph, hsm⟩ := hr x (by simp)
    have gp : S[x.ph]? = some S[x.ph] := List.getElem?_eq_getElem (by omega)
    have hb : SmBx (bxOf S[x.ph] x) := bxOf_sm (hs _ (by simp)) hsm
    obtain ⟨N1, k1⟩ := joined_call (bxOf S[x.ph] x) x.s hb hsm
    obtain ⟨N2, k2⟩ := boxes_loop r (pre ++ [x]) (boxS S x) (by rw [boxS_len, hS]) (boxS_sm hs hsm) (fun y hy => hr y (by simp [hy])) (by simpa using hlen)
    refine ⟨N1 + N2, fun n hn ob nx v4 X h2 o0 o1 M hM => ?_⟩
    obtain ⟨M, rfl⟩ : ∃ k, M = k + 1 := ⟨M - 1, by simp at hM; omega⟩
    have gx : (pre ++ x :: r)[pre.length]? = some x := by simp
    obtain ⟨ob1, hst, q0, q1⟩ := boxes_round (n := n) (nx := nx) (ob := ob) (pre ++ x :: r) x gx hlen (by simp) S hS _ gp hph h2 o0 o1 (k1 n (by omega)) v4 X
    obtain ⟨ob', nx', X', g1, g2, g3, g4⟩ := k2 n (by omega) ob1 (nx + 4) v4 [] (by omega) q0 q1 M (by simp only [List.length_cons] at hM; omega)
    rw [show pre ++ [x] ++ r = pre ++ x :: r by simp, show (pre ++ [x]).length = pre.length + 1 by simp] at g1
    exact ⟨ob', nx', X', by rw [round_nrm hst]; exact g1, by omega, g3, g4⟩
def mixP (S : List (Bx × Bool)) (x : Rcd) (p : Nat) : Bool := match S[p]? with
  | some q => q.2 && (decide (p ≠ x.ph) && hasBx q.1 x.s)
  | none => false
def mixC (q : Nat × Nat) : List AV := [.int .i64 (q.1 : Int), .int .i64 (q.2 : Int)]
def mixR (S : List (Bx × Bool)) (i : Nat) (x : Rcd) (p m : Nat) : List (Nat × Nat) := ((List.range' p m).filter (mixP S x)).map fun p => (i, p)
def mixL (S : List (Bx × Bool)) : Nat → List Rcd → List (Nat × Nat)
  | _, [] => []
  | i, x :: r => mixR S i x 0 5 ++ mixL S (i + 1) r
set_option maxRecDepth 100000 in
set_option maxHeartbeats 2000000 in
theorem mix_round {n nx : Nat} {ob : Nat → Option AObj} (S : List (Bx × Bool)) (hS : S.length = 5) (p : Nat) (hp : p < 5) (q : Bx × Bool) (gp : S[p]? = some q) (i : Nat) (hi : i < 2 ^ 20) (x : Rcd) (hx : x.ph < 5) (b9 : Nat) (h9 : 2 ≤ b9) (h9' : b9 < nx) (o9 : ob b9 = some (.box x.c)) (o0 : ob 0 = some (.row 18 (S.map rawB) 0)) (o1 : ob 1 = some (.row 1 (S.map rawK) 0)) (v : AV) (es : List (List AV)) (hv : OutE 2 ob nx v es) (hes : es.length < 2 ^ 30)
    (hc : q.2 = true → ∀ (ob : Nat → Option AObj) (fz : Nat → Nat), callV (evF E n) Id.wear_Box_has [.agg q.1.c, .agg x.s.c] ob fz = some (.fzd fz (.one (.bool (hasBx q.1 x.s))))) (y59 y60 y61 : SV) (X : List (Nat × SV)) :
    ∃ ob' nx' v', evC (evF E n) n Fn.wear_Boxes_L1 ⟨env ((2, .one (.rsl 0 0 18 0 5 false)) :: (3, .one (.rsl 1 0 1 0 5 false)) :: (4, .one v) :: (8, .one (.int .i64 (i : Int))) :: (9, .one (.box b9 0)) :: (59, y59) :: (60, y60) :: (61, y61) :: (66, .one (.rsl 0 0 18 0 5 false)) :: (67, .one (.int .i64 5)) :: (68, .one (.int .i64 (p : Int))) :: X), ob, fz0, nx⟩ =
      some (.nrm, ⟨env [(2, .one (.rsl 0 0 18 0 5 false)), (3, .one (.rsl 1 0 1 0 5 false)), (4, .one v'), (8, .one (.int .i64 (i : Int))), (9, .one (.box b9 0)), (59, y59), (60, y60), (61, y61), (66, .one (.rsl 0 0 18 0 5 false)), (67, .one (.int .i64 5)), (68, .one (.int .i64 ((p + 1 : Nat) : Int)))], ob', fz0, nx'⟩) ∧ nx ≤ nx' ∧ OutE 2 ob' nx' v' (bif mixP S x p then es ++ [mixC (i, p)] else es) ∧ ob' 0 = ob 0 ∧ ob' 1 = ob 1 ∧ ob' b9 = ob b9 := by
  have h1 : (((p : Nat) : Int) < 5) = True := by simp; omega
  have h5 : (p < 5) = True := by simp [hp]
  have wk : IntKind.i64.wrap ((p + 1 : Nat) : Int) = ((p + 1 : Nat) : Int) := wi64 (by omega)
  have wph : IntKind.i64.wrap ((x.ph : Nat) : Int) = ((x.ph : Nat) : Int) := wi64 (by omega)
  have gB : (S.map rawB)[p]? = some (rawB q) := by rw [List.getElem?_map, gp]; rfl
  have gK : (S.map rawK)[p]? = some [.bool q.2] := by rw [List.getElem?_map, gp]; rfl
  have n0 : ∀ k, (0 = nx + k) = False := fun k => by simp only [eq_iff_iff, iff_false]; omega
  have n1 : ∀ k, (1 = nx + k) = False := fun k => by simp only [eq_iff_iff, iff_false]; omega
  have n9 : ∀ k, (b9 = nx + k) = False := fun k => by simp only [eq_iff_iff, iff_false]; omega
  have n0' : ∀ k, (nx + k = 0) = False := fun k => by simp only [eq_iff_iff, iff_false]; omega
  have n1' : ∀ k, (nx + k = 1) = False := fun k => by simp only [eq_iff_iff, iff_false]; omega
  have n9' : ∀ k, (nx + k = b9) = False := fun k => by simp only [eq_iff_iff, iff_false]; omega
  have nxa : ∀ a b : Nat, nx + a + b = nx + (a + b) := fun a b => Nat.add_assoc nx a b
  have r0 : rowAt ob 0 0 = some (18, S.map rawB) := rowAt_of o0
  have r1 : rowAt ob 1 0 = some (1, S.map rawK) := rowAt_of o1
  have ra0 : ∀ k y ob ver, rowAt (upd ob (nx + k) y) 0 ver = rowAt ob 0 ver := fun k y ob ver => rowAt_ne (by omega)
  have ra1 : ∀ k y ob ver, rowAt (upd ob (nx + k) y) 1 ver = rowAt ob 1 ver := fun k y ob ver => rowAt_ne (by omega)
  obtain ⟨s0, s1, s2, s3, s4, s5, s6, s7, s8, es', -, -, -, -, -, -, -, -, -⟩ := samp_cells x.s
  obtain ⟨q0, q1, q2, eq, -, -, -⟩ := qC_cells x.m
  have ec : x.c = [.int .u8 (x.ph : Int), s0, s1, s2, s3, s4, s5, s6, s7, s8, q0, q1, q2] := by unfold Rcd.c; rw [es', eq]; rfl
  obtain ⟨a1, a2, a3, a4, a5, a6, a7, a8, a9, b1, b2, b3, b4, b5, b6, b7, b8, b9', e1⟩ : ∃ a1 a2 a3 a4 a5 a6 a7 a8 a9 b1 b2 b3 b4 b5 b6 b7 b8 b9, rawB q = [a1, a2, a3, a4, a5, a6, a7, a8, a9, b1, b2, b3, b4, b5, b6, b7, b8, b9] := by
    unfold rawB
    cases q.2
    · exact ⟨_, _, _, _, _, _, _, _, _, _, _, _, _, _, _, _, _, _, rfl⟩
    · exact ⟨_, _, _, _, _, _, _, _, _, _, _, _, _, _, _, _, _, _, rfl⟩
  have hc' : q.2 = true → ∀ (ob : Nat → Option AObj) (fz : Nat → Nat), callV (evF E n) Id.wear_Box_has [.agg [a1, a2, a3, a4, a5, a6, a7, a8, a9, b1, b2, b3, b4, b5, b6, b7, b8, b9'], .agg [s0, s1, s2, s3, s4, s5, s6, s7, s8]] ob fz = some (.fzd fz (.one (.bool (hasBx q.1 x.s)))) := by
    intro hk
    have := hc hk
    have e2 : rawB q = q.1.c := by unfold rawB; rw [hk]; rfl
    rw [← e1, e2, ← es']
    exact this
  rw [e1] at gB
  rw [ec] at o9
  have hm : mixP S x p = (q.2 && (decide (p ≠ x.ph) && hasBx q.1 x.s)) := by unfold mixP; rw [gp]
  rw [hm]
  have qne : (((p : Nat) : Int) != ((x.ph : Nat) : Int)) = decide (p ≠ x.ph) := by rw [Bool.eq_iff_iff]; simp; omega
  obtain ⟨r, hr0⟩ : ∃ r, evC (evF E n) n Fn.wear_Boxes_L1 ⟨env ((2, .one (.rsl 0 0 18 0 5 false)) :: (3, .one (.rsl 1 0 1 0 5 false)) :: (4, .one v) :: (8, .one (.int .i64 (i : Int))) :: (9, .one (.box b9 0)) :: (59, y59) :: (60, y60) :: (61, y61) :: (66, .one (.rsl 0 0 18 0 5 false)) :: (67, .one (.int .i64 5)) :: (68, .one (.int .i64 (p : Int))) :: X), ob, fz0, nx⟩ = r := ⟨_, rfl⟩
  have hr := hr0
  have kp : ∀ id, id < nx → ∀ y : AObj, upd ob (nx + 3) y id = ob id := fun id h y => upd_ne (by omega)
  have keep : ∀ y : AObj, OutE 2 (upd ob (nx + 3) y) (nx + 6) v es := fun y => by
    rcases hv with h | ⟨id, ver, h1, h2, h3⟩
    · exact .inl h
    · exact .inr ⟨id, ver, h1, by rw [kp id h3]; exact h2, by omega⟩
  cases hk : q.2 with
  | false =>
    rw [hk] at gK
    rw [Bool.false_and, cond_false]
    simp only [go_sem, Fn.wear_Boxes_L1, h1, h5, gB, gK, n0, n1, n9, n0', n1', n9', nxa, r0, r1, ra0, ra1, o9, add1, wk] at hr
    rw [hr0, ← hr]
    exact ⟨_, _, _, rfl, by omega, keep _, kp 0 (by omega) _, kp 1 (by omega) _, kp b9 h9' _⟩
  | true =>
    rw [hk] at gK
    have hc' := hc' hk
    rw [Bool.true_and]
    cases hpx : decide (p ≠ x.ph) with
    | false =>
      rw [hpx] at qne
      rw [Bool.false_and, cond_false]
      simp only [go_sem, Fn.wear_Boxes_L1, h1, h5, gB, gK, n0, n1, n9, n0', n1', n9', nxa, r0, r1, ra0, ra1, o9, wph, qne, add1, wk] at hr
      rw [hr0, ← hr]
      exact ⟨_, _, _, rfl, by omega, keep _, kp 0 (by omega) _, kp 1 (by omega) _, kp b9 h9' _⟩
    | true =>
      rw [hpx] at qne
      rw [Bool.true_and]
      cases hh : hasBx q.1 x.s with
      | false =>
        rw [hh] at hc'
        rw [cond_false]
        simp only [go_sem, Fn.wear_Boxes_L1, h1, h5, gB, gK, n0, n1, n9, n0', n1', n9', nxa, r0, r1, ra0, ra1, o9, wph, qne, hc', add1, wk] at hr
        rw [hr0, ← hr]
        exact ⟨_, _, _, rfl, by omega, keep _, kp 0 (by omega) _, kp 1 (by omega) _, kp b9 h9' _⟩
      | true =>
        rw [hh] at hc'
        rw [cond_true]
        rcases hv with ⟨rfl, rfl⟩ | ⟨a, va, rfl, h2, h3⟩
        · simp only [go_sem, Fn.wear_Boxes_L1, h1, h5, gB, gK, n0, n1, n9, n0', n1', n9', nxa, r0, r1, ra0, ra1, o9, wph, qne, hc', okSz, ROOM, add1, wk] at hr
          rw [hr0, ← hr]
          refine ⟨_, _, _, rfl, by omega, .inr ⟨nx + 11, 0, rfl, upd_same _ _ _, by omega⟩, ?_, ?_, ?_⟩
          all_goals rw [upd_ne (by omega), upd_ne (by omega), upd_ne (by omega)]
        · have a0 : a ≠ 0 := fun e => by rw [e, o0] at h2; simp at h2
          have a1' : a ≠ 1 := fun e => by rw [e, o1] at h2; simp at h2
          have a9 : a ≠ b9 := fun e => by rw [e, o9] at h2; simp at h2
          have k1 : ∀ k ob y ver, rowAt (upd ob (nx + k) y) a ver = rowAt ob a ver := fun k ob y ver => rowAt_ne (by omega)
          have hra : rowAt ob a va = some (2, es) := rowAt_of h2
          have b1' : (es.length == es.length) = true := by simp
          have w1 : (es.length + 1) * 16 ≤ 140737488355328 := by omega
          simp only [go_sem, Fn.wear_Boxes_L1, h1, h5, gB, gK, n0, n1, n9, n0', n1', n9', nxa, r0, r1, ra0, ra1, o9, wph, qne, hc', okSz, ROOM, k1, hra, b1', w1, add1, wk] at hr
          rw [hr0, ← hr]
          refine ⟨_, _, _, rfl, by omega, .inr ⟨a, va + 1, ?_, upd_same _ _ _, by omega⟩, ?_, ?_, ?_⟩
          · rw [List.length_append]; rfl
          · rw [upd_ne (Ne.symm a0), upd_ne (by omega), upd_ne (by omega)]
          · rw [upd_ne (Ne.symm a1'), upd_ne (by omega), upd_ne (by omega)]
          · rw [upd_ne (Ne.symm a9), upd_ne (by omega), upd_ne (by omega)]
theorem mix_loop1 {n : Nat} (S : List (Bx × Bool)) (hS : S.length = 5) (i : Nat) (hi : i < 2 ^ 20) (x : Rcd) (hx : x.ph < 5) (b9 : Nat) (h9 : 2 ≤ b9) (hc : ∀ q ∈ S, q.2 = true → ∀ (ob : Nat → Option AObj) (fz : Nat → Nat), callV (evF E n) Id.wear_Box_has [.agg q.1.c, .agg x.s.c] ob fz = some (.fzd fz (.one (.bool (hasBx q.1 x.s))))) (y59 y60 y61 : SV) : ∀ (m p : Nat), p + m = 5 → ∀ (ob : Nat → Option AObj) (nx : Nat) (v : AV) (es : List (List AV)) (X : List (Nat × SV)), b9 < nx → ob b9 = some (.box x.c) → ob 0 = some (.row 18 (S.map rawB) 0) → ob 1 = some (.row 1 (S.map rawK) 0) → OutE 2 ob nx v es → es.length + m < 2 ^ 30 → ∀ N, m < N →
    ∃ ob' nx' v' X', loopN (evC (evF E n) n Fn.wear_Boxes_L1) N ⟨env ((2, .one (.rsl 0 0 18 0 5 false)) :: (3, .one (.rsl 1 0 1 0 5 false)) :: (4, .one v) :: (8, .one (.int .i64 (i : Int))) :: (9, .one (.box b9 0)) :: (59, y59) :: (60, y60) :: (61, y61) :: (66, .one (.rsl 0 0 18 0 5 false)) :: (67, .one (.int .i64 5)) :: (68, .one (.int .i64 (p : Int))) :: X), ob, fz0, nx⟩ =
      some (.ext 5, ⟨env ((2, .one (.rsl 0 0 18 0 5 false)) :: (3, .one (.rsl 1 0 1 0 5 false)) :: (4, .one v') :: (8, .one (.int .i64 (i : Int))) :: (9, .one (.box b9 0)) :: (59, y59) :: (60, y60) :: (61, y61) :: X'), ob', fz0, nx'⟩) ∧ nx ≤ nx' ∧ OutE 2 ob' nx' v' (es ++ (mixR S i x p m).map mixC) ∧ ob' 0 = some (.row 18 (S.map rawB) 0) ∧ ob' 1 = some (.row 1 (S.map rawK) 0)
  | 0, p, hp, ob, nx, v, es, X, h9', o9, o0, o1, hv, hes, N + 1, hN => by
    have hp' : p = 5 := by omega
    subst hp'
    have hlt : (((5 : Nat) : Int) < 5) = False := by simp
    refine ⟨ob, nx, v, [(66, .one (.rsl 0 0 18 0 5 false)), (67, .one (.int .i64 5)), (68, .one (.int .i64 ((5 : Nat) : Int))), (69, .one (.bool false))], round_ext ?_, Nat.le_refl _, ?_, o0, o1⟩
    · simp only [go_sem, Fn.wear_Boxes_L1, hlt]
    · have e : mixR S i x 5 0 = [] := rfl
      rw [e]; simpa using hv
  | m + 1, p, hp, ob, nx, v, es, X, h9', o9, o0, o1, hv, hes, N + 1, hN => by
    have gp : S[p]? = some S[p] := List.getElem?_eq_getElem (by omega)
    obtain ⟨ob1, nx1, v1, hst, g1, g2, g3, g4, g5⟩ := mix_round (n := n) (nx := nx) (ob := ob) S hS p (by omega) S[p] gp i hi x hx b9 h9 h9' o9 o0 o1 v es hv (by omega) (hc _ (by simp)) y59 y60 y61 X
    have hl : (bif mixP S x p then es ++ [mixC (i, p)] else es).length + m < 2 ^ 30 := by
      cases mixP S x p
      · simp only [cond_false]; omega
      · simp only [cond_true, List.length_append, List.length_cons, List.length_nil]; omega
    obtain ⟨ob', nx', v', X', q1, q2, q3, q4, q5⟩ := mix_loop1 S hS i hi x hx b9 h9 hc y59 y60 y61 m (p + 1) (by omega) ob1 nx1 v1 _ [] (by omega) (g5.trans o9) (g3.trans o0) (g4.trans o1) g2 hl N (by omega)
    refine ⟨ob', nx', v', X', by rw [round_nrm hst]; exact q1, by omega, ?_, q4, q5⟩
    have e : mixR S i x p (m + 1) = (bif mixP S x p then [(i, p)] else []) ++ mixR S i x (p + 1) m := by
      unfold mixR
      rw [List.range'_succ, List.filter_cons]
      cases mixP S x p <;> simp
    rw [e]
    cases hm : mixP S x p <;> rw [hm] at q3 <;> simpa using q3
theorem has_all (S : List (Bx × Bool)) (hS : SmS S) (x : Rcd) (hx : SmSamp x.s) : ∃ N, ∀ n, N ≤ n → ∀ q ∈ S, q.2 = true → ∀ (ob : Nat → Option AObj) (fz : Nat → Nat), callV (evF E n) Id.wear_Box_has [.agg q.1.c, .agg x.s.c] ob fz = some (.fzd fz (.one (.bool (hasBx q.1 x.s)))) := by
  induction S with
  | nil => exact ⟨0, fun _ _ _ h => by cases h⟩
  | cons c r ih =>
    obtain ⟨Nb, kb⟩ := ih fun q hq hk => hS q (by simp [hq]) hk
    cases hk : c.2 with
    | false =>
      refine ⟨Nb, fun n hn q hq hk' => ?_⟩
      rcases List.mem_cons.1 hq with rfl | h
      · rw [hk] at hk'; cases hk'
      · exact kb n hn q h hk'
    | true =>
      obtain ⟨Na, ka⟩ := has_call c.1 x.s (hS c (by simp) hk) hx
      refine ⟨Na + Nb, fun n hn q hq hk' => ?_⟩
      rcases List.mem_cons.1 hq with rfl | h
      · exact ka n (by omega)
      · exact kb n (by omega) q h hk'
theorem mixR_len (S : List (Bx × Bool)) (i : Nat) (x : Rcd) (p m : Nat) : (mixR S i x p m).length ≤ m := by
  unfold mixR
  rw [List.length_map]
  exact Nat.le_trans (List.length_filter_le _ _) (by simp)
theorem mix_loop2 (S : List (Bx × Bool)) (hS : S.length = 5) (hsS : SmS S) : ∀ (r pre : List Rcd), (∀ x ∈ r, x.ph < 5 ∧ SmSamp x.s) → (pre ++ r).length < 2 ^ 20 →
    ∃ N, ∀ n, N ≤ n → ∀ (ob : Nat → Option AObj) (nx : Nat) (v : AV) (es : List (List AV)) (X : List (Nat × SV)), 2 ≤ nx → ob 0 = some (.row 18 (S.map rawB) 0) → ob 1 = some (.row 1 (S.map rawK) 0) → OutE 2 ob nx v es → es.length + 5 * r.length + 5 < 2 ^ 30 → ∀ M, r.length < M →
      ∃ ob' nx' v' X', loopN (evC (evF E n) n Fn.wear_Boxes_L2) M ⟨env ((2, .one (.rsl 0 0 18 0 5 false)) :: (3, .one (.rsl 1 0 1 0 5 false)) :: (4, .one v) :: (59, .one (.sl false ((pre ++ r).map Rcd.c))) :: (60, .one (.int .i64 ((pre ++ r).length : Int))) :: (61, .one (.int .i64 (pre.length : Int))) :: X), ob, fz0, nx⟩ =
        some (.ext 3, ⟨env ((2, .one (.rsl 0 0 18 0 5 false)) :: (3, .one (.rsl 1 0 1 0 5 false)) :: (4, .one v') :: X'), ob', fz0, nx'⟩) ∧ nx ≤ nx' ∧ OutE 2 ob' nx' v' (es ++ (mixL S pre.length r).map mixC) ∧ ob' 0 = some (.row 18 (S.map rawB) 0) ∧ ob' 1 = some (.row 1 (S.map rawK) 0)
  | [], pre, hr, hlen => by
    refine ⟨0, fun n hn ob nx v es X h2 o0 o1 hv hes M hM => ?_⟩
    obtain ⟨M, rfl⟩ : ∃ k, M = k + 1 := ⟨M - 1, by simp at hM; omega⟩
    rw [List.append_nil]
    have hlt : (((pre.length : Nat) : Int) < ((pre.length : Nat) : Int)) = False := by simp
    refine ⟨ob, nx, v, [(59, .one (.sl false (pre.map Rcd.c))), (60, .one (.int .i64 (pre.length : Int))), (61, .one (.int .i64 (pre.length : Int))), (62, .one (.bool false))], round_ext ?_, Nat.le_refl _, ?_, o0, o1⟩
    · simp only [go_sem, Fn.wear_Boxes_L2, hlt]
    · unfold mixL; simpa using hv
  | x :: r, pre, hr, hlen => by
    obtain ⟨hph, hsm⟩ := hr x (by simp)
    obtain ⟨N1, k1⟩ := has_all S hsS x hsm
    obtain ⟨N2, k2⟩ := mix_loop2 S hS hsS r (pre ++ [x]) (fun y hy => hr y (by simp [hy])) (by simpa using hlen)
    refine ⟨N1 + N2 + 6, fun n hn ob nx v es X h2 o0 o1 hv hes M hM => ?_⟩
    obtain ⟨M, rfl⟩ : ∃ k, M = k + 1 := ⟨M - 1, by simp at hM; omega⟩
    have gx : (pre ++ x :: r)[pre.length]? = some x := by simp
    have ge : ((pre ++ x :: r).map Rcd.c)[pre.length]? = some x.c := by rw [List.getElem?_map, gx]; rfl
    have okz : okSz 13 ((pre ++ x :: r).map Rcd.c) = true := okSz_map (f := Rcd.c) (k := 13) (fun _ => rfl) _
    have hi : pre.length < 2 ^ 20 := by simp at hlen; omega
    have h1 : (((pre.length : Nat) : Int) < (((pre ++ x :: r).length : Nat) : Int)) = True := by simp; omega
    have wk : IntKind.i64.wrap ((pre.length + 1 : Nat) : Int) = ((pre.length + 1 : Nat) : Int) := wi64 (by omega)
    obtain ⟨c1, c2, c3, c4, c5, c6, c7, c8, c9, c10, c11, c12, c13, ec⟩ := rcd_cells x
    have fr : ∀ id, id < nx → upd ob (nx + 3) (.box x.c) id = ob id := fun id h => upd_ne (by omega)
    have hv1 : OutE 2 (upd ob (nx + 3) (.box x.c)) (nx + 6) v es := by
      rcases hv with h | ⟨id, ver, h1, h2, h3⟩
      · exact .inl h
      · exact .inr ⟨id, ver, h1, by rw [fr id h3]; exact h2, by omega⟩
    obtain ⟨ob1, nx1, v1, X1, hl1, g1, g2, g3, g4⟩ := mix_loop1 (n := n) S hS pre.length hi x hph (nx + 3) (by omega) (k1 n (by omega)) (.one (.sl false ((pre ++ x :: r).map Rcd.c))) (.one (.int .i64 ((pre ++ x :: r).length : Int))) (.one (.int .i64 (pre.length : Int))) 5 0 (by omega) (upd ob (nx + 3) (.box x.c)) (nx + 6) v es [] (by omega) (upd_same _ _ _) ((fr 0 (by omega)).trans o0) ((fr 1 (by omega)).trans o1) hv1 (by omega) n (by omega)
    have hm := mixR_len S pre.length x 0 5
    obtain ⟨ob', nx', v', X', q1, q2, q3, q4, q5⟩ := k2 n (by omega) ob1 nx1 v1 _ [] (by omega) g3 g4 g2 (by rw [List.length_append, List.length_map]; simp only [List.length_cons] at hes; omega) M (by simp only [List.length_cons] at hM; omega)
    rw [show pre ++ [x] ++ r = pre ++ x :: r by simp, show (pre ++ [x]).length = pre.length + 1 by simp] at q1
    rw [show (pre ++ [x]).length = pre.length + 1 by simp] at q3
    refine ⟨ob', nx', v', X', ?_, by omega, by unfold mixL; rw [List.map_append, ← List.append_assoc]; exact q3, q4, q5⟩
    rw [round_nrm (st' := ⟨env [(2, .one (.rsl 0 0 18 0 5 false)), (3, .one (.rsl 1 0 1 0 5 false)), (4, .one v1), (59, .one (.sl false ((pre ++ x :: r).map Rcd.c))), (60, .one (.int .i64 ((pre ++ x :: r).length : Int))), (61, .one (.int .i64 ((pre.length + 1 : Nat) : Int)))], ob1, fz0, nx1⟩)]
    · exact q1
    · rw [show ((0 : Nat) : Int) = 0 from rfl] at hl1
      rw [ec] at ge hl1
      have e55 : ((5 : Nat) : Int) = 5 := rfl
      simp only [go_sem, Fn.wear_Boxes_L2, h1, ge, okz, Nat.add_assoc, e55, hl1, add1, wk]
end Go.Ev
namespace Go.Ev
open Go.Dig
theorem Sub_call {S T : Nat} (a b : Rat) (ha : SmQ S a) (hb : SmQ T b) (hS : S + T < 2 ^ 36) : Calling Id.exact_Q_Sub [.agg (qC a), .agg (qC b)] (.agg (qC (a - b))) :=
  (Ends.of (K (S + T + 1) + 4) fun hn => Sub_run a b ha hb hS hn : Ends Id.exact_Q_Sub [.agg (qC a), .agg (qC b)] (.agg (qC (a - b)))).call (can2 (canS_q _) (canS_q _))
theorem Add_call {S T : Nat} (a b : Rat) (ha : SmQ S a) (hb : SmQ T b) (hS : S + T < 2 ^ 36) : Calling Id.exact_Q_Add [.agg (qC a), .agg (qC b)] (.agg (qC (a + b))) :=
  (Ends.of (K (S + T + 1) + 2) fun hn => Add_run a b ha hb hS hn : Ends Id.exact_Q_Add [.agg (qC a), .agg (qC b)] (.agg (qC (a + b)))).call (can2 (canS_q _) (canS_q _))
theorem Mul_call {S T : Nat} (a b : Rat) (ha : SmQ S a) (hb : SmQ T b) (hS : S + T < 2 ^ 36) : Calling Id.exact_Q_Mul [.agg (qC a), .agg (qC b)] (.agg (qC (a * b))) :=
  (Ends.of (K (S + T) + 2) fun hn => Mul_run a b ha hb hS hn : Ends Id.exact_Q_Mul [.agg (qC a), .agg (qC b)] (.agg (qC (a * b)))).call (can2 (canS_q _) (canS_q _))
theorem Div_call {S T : Nat} (a b : Rat) (h0 : b.num ≠ 0) (ha : SmQ S a) (hb : SmQ T b) (hS : S + T < 2 ^ 36) : Calling Id.exact_Q_Div [.agg (qC a), .agg (qC b)] (.tup [.agg (qC (a / b)), .one (.int .i64 0)]) :=
  (Ends.of (K (S + T) + 4) fun hn => Div_run a b h0 ha hb hS hn : Ends Id.exact_Q_Div [.agg (qC a), .agg (qC b)] (.tup [.agg (qC (a / b)), .one (.int .i64 0)])).call (can2 (canS_q _) (canS_q _))
theorem Neg_call (a : Rat) : Calling Id.exact_Q_Neg [.agg (qC a)] (.agg (qC (-a))) :=
  (Ends.of 1 fun {n} hn => by obtain ⟨m, rfl⟩ : ∃ m, n = m + 1 := ⟨n - 1, by omega⟩; exact Neg_run a m : Ends Id.exact_Q_Neg [.agg (qC a)] (.agg (qC (-a)))).call (can1 (canS_q _))
theorem Int_call (z : Int) (h1 : -9223372036854775808 ≤ z) (h2 : z < 9223372036854775808) : Calling Id.exact_Int [.one (.int .i64 z)] (.agg (qC (Rat.ofInt z))) :=
  (Ends.of 8 fun hn => Int_run z h1 h2 hn : Ends Id.exact_Int [.one (.int .i64 z)] (.agg (qC (Rat.ofInt z)))).call (can1 (canS_int _ _))
theorem SmQ.one : SmQ 1 (Rat.ofInt 1) := ⟨by decide, by decide⟩
theorem cmpQ_self (a : Rat) : cmpQ a a = 0 := by
  unfold cmpQ cmpZ
  rw [if_neg (Int.lt_irrefl _), if_neg (Int.lt_irrefl _)]
theorem sub_num {a b : Rat} (h : cmpQ a b < 0) : (b - a).num ≠ 0 := by
  intro e
  have h0 : b - a = 0 := Rat.num_eq_zero.1 e
  have h1 : b = a := by
    have : b - a + a = 0 + a := by rw [h0]
    rw [Rat.sub_add_cancel, Rat.zero_add] at this
    exact this
  subst h1
  rw [cmpQ_self] at h
  exact absurd h (by decide)
theorem incC_get : ∀ (l : List Pt) (k : Nat) (h : k + 1 < l.length), incC l = true → cmpQ (l[k]'(by omega)).x l[k + 1].x < 0
  | [], k, h, _ => by simp at h
  | [a], k, h, _ => by simp at h
  | a :: b :: r, 0, h, hi => by
    simp only [incC, Bool.and_eq_true, decide_eq_true_eq] at hi
    exact hi.1
  | a :: b :: r, k + 1, h, hi => by
    simp only [incC, Bool.and_eq_true, decide_eq_true_eq] at hi
    exact incC_get (b :: r) k (by simpa using h) hi.2
def partC (p : Nat × Rat) : List AV := .int .i64 (p.1 : Int) :: qC p.2
theorem CanL.part (p : Nat × Rat) : CanL (partC p) := .cons (.int _ _) (.q _)
def ptAt (l : List Pt) (k : Nat) : Pt := (l[k]?).getD ⟨0, 0⟩
def shareQ (l : List Pt) (q : Rat) (k : Nat) : Rat := (q - (ptAt l (k - 1)).x) / ((ptAt l k).x - (ptAt l (k - 1)).x)
def partsL (l : List Pt) (q : Rat) : List (Nat × Rat) :=
  if place l q = l.length then [(place l q - 1, Rat.ofInt 1)]
  else if place l q = 0 then [(place l q, Rat.ofInt 1)]
  else if cmpQ (ptAt l (place l q)).x q = 0 then [(place l q, Rat.ofInt 1)]
  else [(place l q - 1, Rat.ofInt 1 - shareQ l q (place l q)), (place l q, shareQ l q (place l q))]
theorem frz_row1 {ob : Nat → Option AObj} {id : Nat} {es : List (List AV)} (hc : CanonEs es) (fz : Nat → Nat) (full : Bool) : frzS (upd ob id (.row 4 es 0)) fz (.one (.rsl id 0 4 0 es.length full)) = some (raise fz id es.length, .one (.sl false es)) := by
  have h1 := frzS_row (sz := 4) (full := full) fz (rowAt_upd (ob := ob) (id := id) (ver := 0) (sz := 4) (es := es)) (lo := 0) (len := es.length) (by simp) hc
  simpa only [List.drop_zero, Nat.zero_add, List.take_length] using h1
theorem parts_ends (l : List Pt) (q : Rat) (hl : l.length < 2 ^ 20) (h1 : 1 ≤ l.length) (hi : incC l = true) (hp : ∀ p ∈ l, SmPt p) (hq : SmQ 256 q) : Ends Id.wear_Curve_parts [.one (.sl false (l.map Pt.c)), .agg (qC q)] (.one (.sl false ((partsL l q).map partC))) := by
  obtain ⟨b, N1, k1⟩ := search_call (S := 256) l q (Nat.lt_trans hl (by decide)) (fun p h => (hp p h).x) hq (by decide)
  obtain ⟨N2, k2⟩ := Int_call 1 (by decide) (by decide)
  have hk := place_le l q
  have okz : okSz 6 (l.map Pt.c) = true := okSz_map pt_len l
  have n0 : ((1 : Nat) : Int) = 1 := rfl
  unfold partsL
  by_cases c1 : place l q = l.length
  · rw [if_pos c1]
    refine .of (N1 + N2) fun {n} hn => ?_
    have k1 := k1 n (by omega)
    have k2 := k2 n (by omega)
    rw [evV_succ E_wear_Curve_parts]
    rw [c1] at k1 ⊢
    have w1 : IntKind.i64.wrap ((l.length : Int) - 1) = ((l.length - 1 : Nat) : Int) := by rw [wrap_i64 (by omega)]; omega
    have hf := fun ob id fz full => frz_row1 (ob := ob) (id := id) (canonEs1 (CanL.part (l.length - 1, Rat.ofInt 1))) fz full
    unfold partC at hf
    simp only [List.map_cons, List.map_nil]
    unfold partC
    obtain ⟨a1, a2, a3, ea, -, -, -⟩ := qC_cells q
    obtain ⟨b1, b2, b3, eb, -, -, -⟩ := qC_cells (Rat.ofInt 1)
    dsimp only at hf ⊢
    rw [eb] at hf k2 ⊢
    rw [ea] at k1 ⊢
    simp only [List.length_cons, List.length_nil, Nat.zero_add] at hf
    simp only [go_sem, Fn.wear_Curve_parts, List.length_map, k1, k2, beq_self_eq_true, w1, hf]
  rw [if_neg c1]
  have hkl : place l q < l.length := by omega
  have e1 : (((place l q : Nat) : Int) == ((l.length : Nat) : Int)) = false := by simp only [beq_eq_false_iff_ne, ne_eq]; omega
  by_cases c2 : place l q = 0
  · rw [if_pos c2]
    refine .of (N1 + N2) fun {n} hn => ?_
    have k1 := k1 n (by omega)
    have k2 := k2 n (by omega)
    rw [evV_succ E_wear_Curve_parts]
    rw [c2] at k1 e1 ⊢
    have hf := fun ob id fz full => frz_row1 (ob := ob) (id := id) (canonEs1 (CanL.part (0, Rat.ofInt 1))) fz full
    unfold partC at hf
    simp only [List.map_cons, List.map_nil]
    unfold partC
    obtain ⟨a1, a2, a3, ea, -, -, -⟩ := qC_cells q
    obtain ⟨b1, b2, b3, eb, -, -, -⟩ := qC_cells (Rat.ofInt 1)
    dsimp only at hf ⊢
    rw [eb] at hf k2 ⊢
    rw [ea] at k1 ⊢
    have e2 : (((0 : Nat) : Int) == 0) = true := rfl
    simp only [List.length_cons, List.length_nil, Nat.zero_add] at hf
    simp only [go_sem, Fn.wear_Curve_parts, List.length_map, k1, k2, e1, e2, hf]
  rw [if_neg c2]
  have e2 : (((place l q : Nat) : Int) == 0) = false := by simp only [beq_eq_false_iff_ne, ne_eq]; omega
  have gk : l[place l q]? = some l[place l q] := by simp
  have gk1 : l[place l q - 1]? = some (l[place l q - 1]'(by omega)) := List.getElem?_eq_getElem _
  have pk : ptAt l (place l q) = l[place l q] := by unfold ptAt; rw [gk]; rfl
  have pk1 : ptAt l (place l q - 1) = l[place l q - 1]'(by omega) := by unfold ptAt; rw [gk1]; rfl
  have hm : ptAt l (place l q) ∈ l := by rw [pk]; simp
  have hm1 : ptAt l (place l q - 1) ∈ l := by rw [pk1]; simp
  have hk' : l[place l q]? = some (ptAt l (place l q)) := by rw [pk, gk]
  have hk1' : l[place l q - 1]? = some (ptAt l (place l q - 1)) := by rw [pk1, gk1]
  have hinc : cmpQ (ptAt l (place l q - 1)).x (ptAt l (place l q)).x < 0 := by
    have h := incC_get l (place l q - 1) (by omega) hi
    rw [pk, pk1]
    simpa only [Nat.sub_add_cancel (show 1 ≤ place l q by omega)] using h
  have w1 : IntKind.i64.wrap ((place l q : Int) - 1) = ((place l q - 1 : Nat) : Int) := by rw [wrap_i64 (by omega)]; omega
  unfold shareQ
  clear pk pk1 gk gk1
  generalize place l q = k at *
  generalize ptAt l k = P at *
  generalize ptAt l (k - 1) = P1 at *
  have ge : (l.map Pt.c)[k]? = some P.c := by rw [List.getElem?_map, hk']; rfl
  have ge1 : (l.map Pt.c)[k - 1]? = some P1.c := by rw [List.getElem?_map, hk1']; rfl
  obtain ⟨N3, k3⟩ := Cmp_call P.x q (hp P hm).x hq (by decide)
  by_cases c3 : cmpQ P.x q = 0
  · rw [if_pos c3]
    refine .of (N1 + N2 + N3) fun {n} hn => ?_
    have k1 := k1 n (by omega)
    have k2 := k2 n (by omega)
    have k3 := k3 n (by omega)
    rw [evV_succ E_wear_Curve_parts]
    have hf := fun ob id fz full => frz_row1 (ob := ob) (id := id) (canonEs1 (CanL.part (k, Rat.ofInt 1))) fz full
    unfold partC at hf
    simp only [List.map_cons, List.map_nil]
    unfold partC
    obtain ⟨p1, p2, p3, p4, p5, p6, ep, -, ep'⟩ := pt_cells P
    obtain ⟨a1, a2, a3, ea, -, -, -⟩ := qC_cells q
    obtain ⟨b1, b2, b3, eb, -, -, -⟩ := qC_cells (Rat.ofInt 1)
    dsimp only at hf ⊢
    rw [eb] at hf k2 ⊢
    rw [ea] at k1 k3 ⊢
    rw [ep, c3] at k3
    rw [ep'] at ge
    have e3 : ((0 : Int) == 0) = true := rfl
    simp only [List.length_cons, List.length_nil, Nat.zero_add] at hf
    simp only [go_sem, Fn.wear_Curve_parts, List.length_map, k1, k2, k3, e1, e2, e3, ge, okz, hf]
  · rw [if_neg c3]
    have s1 := (SmQ.sub hq (hp P1 hm1).x)
    have s2 := (SmQ.sub (hp P hm).x (hp P1 hm1).x)
    have s3 := SmQ.div (sub_num hinc) s1 s2
    obtain ⟨N4, k4⟩ := Sub_call q P1.x hq (hp P1 hm1).x (by decide)
    obtain ⟨N5, k5⟩ := Sub_call P.x P1.x (hp P hm).x (hp P1 hm1).x (by decide)
    obtain ⟨N6, k6⟩ := Div_call (q - P1.x) (P.x - P1.x) (sub_num hinc) s1 s2 (by decide)
    obtain ⟨N7, k7⟩ := Sub_call (Rat.ofInt 1) ((q - P1.x) / (P.x - P1.x)) SmQ.one s3 (by decide)
    refine .of (N1 + N2 + N3 + N4 + N5 + N6 + N7) fun {n} hn => ?_
    have k1 := k1 n (by omega)
    have k2 := k2 n (by omega)
    have k3 := k3 n (by omega)
    have k4 := k4 n (by omega)
    have k5 := k5 n (by omega)
    have k6 := k6 n (by omega)
    have k7 := k7 n (by omega)
    rw [evV_succ E_wear_Curve_parts]
    generalize (q - P1.x) / (P.x - P1.x) = sh at *
    generalize Rat.ofInt 1 - sh = os at *
    have hf := fun ob id fz full => frz_row1 (ob := ob) (id := id) (canonEs2 (CanL.part (k - 1, os)) (CanL.part (k, sh))) fz full
    unfold partC at hf
    simp only [List.map_cons, List.map_nil]
    unfold partC
    obtain ⟨p1, p2, p3, p4, p5, p6, ep, -, ep'⟩ := pt_cells P
    obtain ⟨r1, r2, r3, r4, r5, r6, er, -, er'⟩ := pt_cells P1
    obtain ⟨a1, a2, a3, ea, -, -, -⟩ := qC_cells q
    obtain ⟨b1, b2, b3, eb, -, -, -⟩ := qC_cells (Rat.ofInt 1)
    obtain ⟨d1, d2, d3, ed, -, -, -⟩ := qC_cells sh
    obtain ⟨g1, g2, g3, eg, -, -, -⟩ := qC_cells os
    obtain ⟨h1', h2', h3', eh, -, -, -⟩ := qC_cells (q - P1.x)
    obtain ⟨i1, i2, i3, ei, -, -, -⟩ := qC_cells (P.x - P1.x)
    have e3 : (cmpQ P.x q == 0) = false := by simpa using c3
    dsimp only at hf ⊢
    rw [ed, eg] at hf ⊢
    rw [eb] at k2
    rw [ea] at k1 k3 ⊢
    rw [ep] at k3
    rw [ea, er, eh] at k4
    rw [ep, er, ei] at k5
    rw [eh, ei, ed] at k6
    rw [eb, ed, eg] at k7
    rw [ep'] at ge
    rw [er'] at ge1
    simp only [List.length_cons, List.length_nil, Nat.zero_add] at hf
    simp only [go_sem, Fn.wear_Curve_parts, List.length_map, k1, k2, k3, k4, k5, k6, k7, e1, e2, e3, ge, ge1, okz, w1, hf]
end Go.Ev
namespace Go.Ev
open Go.Dig
theorem qC_zero : qC 0 = [.bool false, .sl false [], .sl false []] := by
  unfold qC natV
  have e1 : ((0 : Rat).num.natAbs) = 0 := rfl
  have e2 : ((0 : Rat).den - 1) = 0 := rfl
  rw [e1, e2, digs_zero]
  rfl
theorem callV_nils {n : Nat} {f : FuncId} {r y : SV} (h : evV E n f [.agg (qC 0), y] = some r) (hy : CanS y) (ob : Nat → Option AObj) (fz : Nat → Nat) : callV (evF E n) f [.agg [.bool false, .nils, .nils], y] ob fz = some (.fzd fz r) := by
  have h2 := callV_can h (can2 (canS_q 0) hy) ob fz
  rw [callV_ev] at h2 ⊢
  have e : mapFz (frzS ob) fz [.agg [.bool false, .nils, .nils], y] = mapFz (frzS ob) fz [.agg (qC 0), y] := by
    rw [qC_zero]
    simp only [mapFz, frzS_q0, frzS_q]
  rw [e]
  exact h2
def atQ (l : List Pt) (q : Rat) : Rat := (partsL l q).foldl (fun m p => m + (ptAt l p.1).z * p.2) 0
theorem at_round {n b5 : Nat} {ob : Nat → Option AObj} {fz : Nat → Nat} {nx i : Nat} {m1 m2 m3 : AV} (l : List Pt) (ps : List (Nat × Rat)) (p : Nat × Rat) (P : Pt) (m' : Rat) (gp : ps[i]? = some p) (hi : i < ps.length) (hps : ps.length < 2 ^ 20) (hk : l[p.1]? = some P) (h5 : b5 < nx) (o5 : ob b5 = some (.box [m1, m2, m3]))
    (hm : ∀ (ob : Nat → Option AObj) (fz : Nat → Nat), callV (evF E n) Id.exact_Q_Mul [.agg (qC P.z), .agg (qC p.2)] ob fz = some (.fzd fz (.agg (qC (P.z * p.2)))))
    (ha : ∀ (ob : Nat → Option AObj) (fz : Nat → Nat), callV (evF E n) Id.exact_Q_Add [.agg [m1, m2, m3], .agg (qC (P.z * p.2))] ob fz = some (.fzd fz (.agg (qC m')))) (x4 : SV) (X : List (Nat × SV)) :
    ∃ ob' : Nat → Option AObj, evC (evF E n) n Fn.wear_Curve_at_L0 ⟨env ((0, .one (.sl false (l.map Pt.c))) :: (4, x4) :: (5, .one (.box b5 0)) :: (10, .one (.sl false (ps.map partC))) :: (11, .one (.int .i64 (ps.length : Int))) :: (12, .one (.int .i64 (i : Int))) :: X), ob, fz, nx⟩ =
      some (.nrm, ⟨env [(0, .one (.sl false (l.map Pt.c))), (4, x4), (5, .one (.box b5 0)), (10, .one (.sl false (ps.map partC))), (11, .one (.int .i64 (ps.length : Int))), (12, .one (.int .i64 ((i + 1 : Nat) : Int)))], ob', fz, nx + 4⟩) ∧ ob' b5 = some (.box (qC m')) ∧ ∀ id, id < nx → id ≠ b5 → ob' id = ob id := by
  have h1 : (((i : Nat) : Int) < ((ps.length : Nat) : Int)) = True := by simp; omega
  have wk : IntKind.i64.wrap ((i + 1 : Nat) : Int) = ((i + 1 : Nat) : Int) := wi64 (by omega)
  have okz : okSz 6 (l.map Pt.c) = true := okSz_map pt_len l
  have okp : okSz 4 (ps.map partC) = true := okSz_map (f := partC) (k := 4) (fun _ => rfl) ps
  have ge : (ps.map partC)[i]? = some (.int .i64 (p.1 : Int) :: qC p.2) := by rw [List.getElem?_map, gp]; rfl
  have gl : (l.map Pt.c)[p.1]? = some P.c := by rw [List.getElem?_map, hk]; rfl
  obtain ⟨k, sh⟩ := p
  dsimp only at *
  obtain ⟨p1, p2, p3, p4, p5, p6, -, ep, ep'⟩ := pt_cells P
  obtain ⟨d1, d2, d3, ed, -, -, -⟩ := qC_cells sh
  obtain ⟨e1, e2, e3, ee, -, -, -⟩ := qC_cells (P.z * sh)
  obtain ⟨g1, g2, g3, eg, -, -, -⟩ := qC_cells m'
  rw [ed] at ge
  rw [ep, ed, ee] at hm
  rw [ee, eg] at ha
  rw [ep'] at gl
  rw [eg]
  have n5 : ∀ k, (b5 = nx + k) = False := fun k => by simp only [eq_iff_iff, iff_false]; omega
  have t5 : ∀ k, (b5 < nx + k) = True := fun k => by simp only [eq_iff_iff, iff_true]; omega
  have n5' : ∀ k, (nx + k = b5) = False := fun k => by simp only [eq_iff_iff, iff_false]; omega
  obtain ⟨r, hr0⟩ : ∃ r, evC (evF E n) n Fn.wear_Curve_at_L0 ⟨env ((0, .one (.sl false (l.map Pt.c))) :: (4, x4) :: (5, .one (.box b5 0)) :: (10, .one (.sl false (ps.map partC))) :: (11, .one (.int .i64 (ps.length : Int))) :: (12, .one (.int .i64 (i : Int))) :: X), ob, fz, nx⟩ = r := ⟨_, rfl⟩
  have hr := hr0
  simp only [go_sem, Fn.wear_Curve_at_L0, h1, ge, gl, okz, okp, o5, n5, n5', t5, hm, ha, add1, wk] at hr
  rw [hr0, ← hr]
  refine ⟨_, rfl, upd_same _ _ _, fun id q1 q2 => ?_⟩
  have m0 : ∀ k, (id = nx + k) = False := fun k => by simp only [eq_iff_iff, iff_false]; omega
  have m2' : (id = b5) = False := by simp [q2]
  simp only [upd_if, m0, m2', if_false]
theorem at_exit {n : Nat} {ob : Nat → Option AObj} {fz : Nat → Nat} {nx i : Nat} (l : List Pt) (ps : List (Nat × Rat)) (hi : i = ps.length) (x4 x5 : SV) (X : List (Nat × SV)) : ∃ X', evC (evF E n) n Fn.wear_Curve_at_L0 ⟨env ((0, .one (.sl false (l.map Pt.c))) :: (4, x4) :: (5, x5) :: (10, .one (.sl false (ps.map partC))) :: (11, .one (.int .i64 (ps.length : Int))) :: (12, .one (.int .i64 (i : Int))) :: X), ob, fz, nx⟩ = some (.ext 0, ⟨env ((0, .one (.sl false (l.map Pt.c))) :: (4, x4) :: (5, x5) :: X'), ob, fz, nx⟩) := by
  have h1 : (((i : Nat) : Int) < ((ps.length : Nat) : Int)) = False := by simp only [eq_iff_iff, iff_false]; omega
  refine ⟨[(10, .one (.sl false (ps.map partC))), (11, .one (.int .i64 (ps.length : Int))), (12, .one (.int .i64 (i : Int))), (13, .one (.bool false))], ?_⟩
  simp only [go_sem, Fn.wear_Curve_at_L0, h1]
theorem SmQ.zero : SmQ 1 (0 : Rat) := ⟨by decide, by decide⟩
theorem partsL_ok (l : List Pt) (q : Rat) (h1 : 1 ≤ l.length) (hi : incC l = true) (hp : ∀ p ∈ l, SmPt p) (hq : SmQ 256 q) : ((∃ p, partsL l q = [p]) ∨ ∃ p p', partsL l q = [p, p']) ∧ ∀ p ∈ partsL l q, p.1 < l.length ∧ SmQ 1028 p.2 := by
  have hk := place_le l q
  unfold partsL
  split
  · refine ⟨.inl ⟨_, rfl⟩, fun p h => ?_⟩
    simp only [List.mem_cons, List.not_mem_nil, or_false] at h
    subst h
    exact ⟨by dsimp only; omega, SmQ.mono SmQ.one (by decide)⟩
  · split
    · refine ⟨.inl ⟨_, rfl⟩, fun p h => ?_⟩
      simp only [List.mem_cons, List.not_mem_nil, or_false] at h
      subst h
      exact ⟨by dsimp only; omega, SmQ.mono SmQ.one (by decide)⟩
    · split
      · refine ⟨.inl ⟨_, rfl⟩, fun p h => ?_⟩
        simp only [List.mem_cons, List.not_mem_nil, or_false] at h
        subst h
        exact ⟨by dsimp only; omega, SmQ.mono SmQ.one (by decide)⟩
      · rename_i c1 c2 c3
        have pk : ptAt l (place l q) = l[place l q]'(by omega) := by unfold ptAt; rw [List.getElem?_eq_getElem (by omega)]; rfl
        have pk1 : ptAt l (place l q - 1) = l[place l q - 1]'(by omega) := by unfold ptAt; rw [List.getElem?_eq_getElem (by omega)]; rfl
        have hm : ptAt l (place l q) ∈ l := by rw [pk]; simp
        have hm1 : ptAt l (place l q - 1) ∈ l := by rw [pk1]; simp
        have hinc : cmpQ (ptAt l (place l q - 1)).x (ptAt l (place l q)).x < 0 := by
          have h := incC_get l (place l q - 1) (by omega) hi
          rw [pk, pk1]
          simpa only [Nat.sub_add_cancel (show 1 ≤ place l q by omega)] using h
        have hs : SmQ 1026 (shareQ l q (place l q)) := SmQ.div (sub_num hinc) (SmQ.sub hq (hp _ hm1).x) (SmQ.sub (hp _ hm).x (hp _ hm1).x)
        refine ⟨.inr ⟨_, _, rfl⟩, fun p h => ?_⟩
        simp only [List.mem_cons, List.not_mem_nil, or_false] at h
        rcases h with rfl | rfl
        · exact ⟨by dsimp only; omega, SmQ.sub SmQ.one hs⟩
        · exact ⟨by dsimp only; omega, SmQ.mono hs (by decide)⟩
def atT : ACode := match Fn.wear_Curve_at.code with | .seq _ (.seq _ (.seq _ t)) => t | _ => .skip
theorem at_ends (l : List Pt) (q : Rat) (hl : l.length < 2 ^ 20) (h1 : 1 ≤ l.length) (hi : incC l = true) (hp : ∀ p ∈ l, SmPt p) (hq : SmQ 256 q) : Ends Id.wear_Curve_at [.one (.sl false (l.map Pt.c)), .agg (qC q)] (.agg (qC (atQ l q))) ∧ SmQ 2571 (atQ l q) := by
  obtain ⟨N0, k0⟩ := (parts_ends l q hl h1 hi hp hq).call (can2 (.one _ (.sl _)) (canS_q _))
  obtain ⟨hs, hok⟩ := partsL_ok l q h1 hi hp hq
  have gk : ∀ k, k < l.length → l[k]? = some (ptAt l k) := fun k hk => by unfold ptAt; rw [List.getElem?_eq_getElem hk]; rfl
  have gm : ∀ k, k < l.length → ptAt l k ∈ l := fun k hk => by unfold ptAt; rw [List.getElem?_eq_getElem hk]; simp
  unfold atQ
  generalize partsL l q = ps at *
  obtain ⟨a1, a2, a3, ea, -, -, -⟩ := qC_cells q
  rw [ea] at k0 ⊢
  have z0 : ((0 : Nat) : Int) = 0 := rfl
  have fin : ∀ (n : Nat) (r : Rat), (∀ ob fz, callV (evF E n) Id.wear_Curve_parts [.one (.sl false (l.map Pt.c)), .agg [a1, a2, a3]] ob fz = some (.fzd fz (.one (.sl false (ps.map partC))))) →
      (∀ ob : Nat → Option AObj, ob 1 = some (.box [.bool false, .nils, .nils]) → ob 2 = some (.box [.bool false, .nils, .nils]) → ∃ (ob' : Nat → Option AObj) (nx' : Nat) (X' : List (Nat × SV)), loopN (evC (evF E n) n Fn.wear_Curve_at_L0) n ⟨env [(0, .one (.sl false (l.map Pt.c))), (4, .one (.box 1 0)), (5, .one (.box 2 0)), (10, .one (.sl false (ps.map partC))), (11, .one (.int .i64 (ps.length : Int))), (12, .one (.int .i64 0))], ob, fz0, 3⟩ = some (.ext 0, ⟨env ((0, .one (.sl false (l.map Pt.c))) :: (4, .one (.box 1 0)) :: (5, .one (.box 2 0)) :: X'), ob', fz0, nx'⟩) ∧ ob' 2 = some (.box (qC r)) ∧ ob' 1 = some (.box [.bool false, .nils, .nils])) →
      evV E (n + 1) Id.wear_Curve_at [.one (.sl false (l.map Pt.c)), .agg [a1, a2, a3]] = some (.agg (qC r)) := by
    intro n r k0 hlo
    rw [evV_succ E_wear_Curve_at]
    have key : ∀ (ob : Nat → Option AObj), ob 1 = some (.box [.bool false, .nils, .nils]) → ob 2 = some (.box [.bool false, .nils, .nils]) → finV Fn.wear_Curve_at.res (thenC (evF E n) n atT (blkC 0 (loopN (evC (evF E n) n Fn.wear_Curve_at_L0) n ⟨env [(0, .one (.sl false (l.map Pt.c))), (4, .one (.box 1 0)), (5, .one (.box 2 0)), (10, .one (.sl false (ps.map partC))), (11, .one (.int .i64 (ps.length : Int))), (12, .one (.int .i64 0))], ob, fz0, 3⟩))) = some (.agg (qC r)) := by
      intro ob o1 o2
      obtain ⟨ob', nx', X', hl, p2, p1⟩ := hlo ob o1 o2
      obtain ⟨g1, g2, g3, eg, f1, f2, f3⟩ := qC_cells r
      rw [eg] at p2 ⊢
      unfold Fz at *
      unfold atT Fn.wear_Curve_at
      simp only [go_sem, hl, p1, p2, f1, f2, f3]
    unfold Fn.wear_Curve_at
    simp only [go_sem, k0, List.length_map]
    refine key _ ?_ ?_
    · rfl
    · rfl
  rcases hs with ⟨p, rfl⟩ | ⟨p, p', rfl⟩
  · obtain ⟨i1, s1⟩ := hok p (by simp)
    have sm := SmQ.mul (hp _ (gm _ i1)).z s1
    have sa := SmQ.add SmQ.zero sm
    obtain ⟨N1, k1⟩ := Mul_call _ _ (hp _ (gm _ i1)).z s1 (by decide)
    have k2 := fun n (hn : K (1 + (256 + 1028) + 1) + 2 ≤ n) => callV_nils (Add_run (0 : Rat) ((ptAt l p.1).z * p.2) SmQ.zero sm (by decide) (n := n) hn) (canS_q _)
    refine ⟨.of (N0 + N1 + K (1 + (256 + 1028) + 1) + 6) fun {n} hn => ?_, SmQ.mono sa (by decide)⟩
    refine fin n _ (k0 n (by omega)) fun ob o1 o2 => ?_
    obtain ⟨n, rfl⟩ : ∃ m, n = m + 2 := ⟨n - 2, by omega⟩
    obtain ⟨ob', hr, p5, pf⟩ := at_round (n := n + 2) (ob := ob) (fz := fz0) (nx := 3) (i := 0) l [p] p _ (0 + (ptAt l p.1).z * p.2) rfl (by simp) (by simp) (gk _ i1) (by decide) o2 (k1 _ (by omega)) (k2 (n + 1) (by omega)) (.one (.box 1 0)) []
    obtain ⟨X', he⟩ := at_exit (n := n + 2) (ob := ob') (fz := fz0) (nx := 3 + 4) (i := 0 + 1) l [p] rfl (.one (.box 1 0)) (.one (.box 2 0)) []
    refine ⟨ob', 3 + 4, X', ?_, p5, by rw [pf 1 (by decide) (by decide)]; exact o1⟩
    rw [z0] at hr
    rw [round_nrm hr]
    exact round_ext he
  · obtain ⟨i1, s1⟩ := hok p (by simp)
    obtain ⟨i2, s2⟩ := hok p' (by simp)
    have sm := SmQ.mul (hp _ (gm _ i1)).z s1
    have sa := SmQ.add SmQ.zero sm
    have sm' := SmQ.mul (hp _ (gm _ i2)).z s2
    have sa' := SmQ.add sa sm'
    obtain ⟨N1, k1⟩ := Mul_call _ _ (hp _ (gm _ i1)).z s1 (by decide)
    have k2 := fun n (hn : K (1 + (256 + 1028) + 1) + 2 ≤ n) => callV_nils (Add_run (0 : Rat) ((ptAt l p.1).z * p.2) SmQ.zero sm (by decide) (n := n) hn) (canS_q _)
    obtain ⟨N3, k3⟩ := Mul_call _ _ (hp _ (gm _ i2)).z s2 (by decide)
    obtain ⟨N4, k4⟩ := Add_call _ _ sa sm' (by decide)
    refine ⟨.of (N0 + N1 + N3 + N4 + K (1 + (256 + 1028) + 1) + 6) fun {n} hn => ?_, SmQ.mono sa' (by decide)⟩
    refine fin n _ (k0 n (by omega)) fun ob o1 o2 => ?_
    obtain ⟨n, rfl⟩ : ∃ m, n = m + 3 := ⟨n - 3, by omega⟩
    obtain ⟨ob1, hr, p5, pf⟩ := at_round (n := n + 3) (ob := ob) (fz := fz0) (nx := 3) (i := 0) l [p, p'] p _ (0 + (ptAt l p.1).z * p.2) rfl (by simp) (by simp) (gk _ i1) (by decide) o2 (k1 _ (by omega)) (k2 (n + 2) (by omega)) (.one (.box 1 0)) []
    obtain ⟨c1, c2, c3, ec, -, -, -⟩ := qC_cells (0 + (ptAt l p.1).z * p.2)
    rw [ec] at p5 k4
    obtain ⟨ob2, hr2, p52, pf2⟩ := at_round (n := n + 3) (ob := ob1) (fz := fz0) (nx := 3 + 4) (i := 0 + 1) l [p, p'] p' _ (0 + (ptAt l p.1).z * p.2 + (ptAt l p'.1).z * p'.2) rfl (by simp) (by simp) (gk _ i2) (by decide) p5 (k3 _ (by omega)) (k4 _ (by omega)) (.one (.box 1 0)) []
    obtain ⟨X', he⟩ := at_exit (n := n + 3) (ob := ob2) (fz := fz0) (nx := 3 + 4 + 4) (i := 0 + 1 + 1) l [p, p'] rfl (.one (.box 1 0)) (.one (.box 2 0)) []
    refine ⟨ob2, 3 + 4 + 4, X', ?_, p52, by rw [pf2 1 (by decide) (by decide), pf 1 (by decide) (by decide)]; exact o1⟩
    rw [z0] at hr
    rw [round_nrm hr, round_nrm hr2]
    exact round_ext he
theorem at_call (l : List Pt) (q : Rat) (hl : l.length < 2 ^ 20) (h1 : 1 ≤ l.length) (hi : incC l = true) (hp : ∀ p ∈ l, SmPt p) (hq : SmQ 256 q) : Calling Id.wear_Curve_at [.one (.sl false (l.map Pt.c)), .agg (qC q)] (.agg (qC (atQ l q))) := (at_ends l q hl h1 hi hp hq).1.call (can2 (.one _ (.sl _)) (canS_q _))
end Go.Ev
namespace Go.Ev
open Go.Dig
def IntKeys (es : List AEnt) : Prop := ∀ e ∈ es, ∃ z : Int, e.key = .int .i64 z
theorem keyEq_int (a b : Int) : keyEq (.int .i64 a) (.int .i64 b) = some (a == b) := rfl
theorem findE_put (z : Int) (v : SV) : ∀ (es : List AEnt), IntKeys es → ∀ i,
    (findE (.int .i64 z) es i = some none ∧ ∀ b y, findE (.int .i64 y) (es ++ [⟨.int .i64 z, v, b⟩]) i = if y = z then some (some (i + es.length, ⟨.int .i64 z, v, b⟩)) else findE (.int .i64 y) es i) ∨
    (∃ j e, findE (.int .i64 z) es i = some (some (i + j, e)) ∧ ∀ b y, findE (.int .i64 y) (es.set j ⟨.int .i64 z, v, b⟩) i = if y = z then some (some (i + j, ⟨.int .i64 z, v, b⟩)) else findE (.int .i64 y) es i)
  | [], _, i => by
    left
    refine ⟨rfl, fun b y => ?_⟩
    simp only [List.nil_append, findE, keyEq_int]
    by_cases h : y = z
    · subst h; simp
    · have h' : (y == z) = false := by simp [h]
      simp only [h', if_neg h]
  | e0 :: r, hk, i => by
    obtain ⟨a, ha⟩ := hk e0 (by simp)
    have hr : IntKeys r := fun e he => hk e (by simp [he])
    by_cases hza : z = a
    · right
      refine ⟨0, e0, ?_, fun b y => ?_⟩
      · simp only [findE, ha, keyEq_int, hza, beq_self_eq_true, Nat.add_zero]
      · simp only [List.set_cons_zero, findE, keyEq_int, ha, Nat.add_zero]
        by_cases h : y = z
        · subst h; simp
        · have h' : (y == z) = false := by simp [h]
          have h'' : (y == a) = false := by rw [← hza]; exact h'
          simp only [h', h'', if_neg h]
    · have hza' : (z == a) = false := by simp [hza]
      rcases findE_put z v r hr (i + 1) with ⟨h1, h2⟩ | ⟨j, e, h1, h2⟩
      · left
        refine ⟨by simp only [findE, ha, keyEq_int, hza', h1], fun b y => ?_⟩
        simp only [List.cons_append, findE, ha, keyEq_int, List.length_cons]
        rw [h2 b y]
        by_cases hya : y = a
        · have : (y == a) = true := by simp [hya]
          have hyz : ¬ y = z := fun e => hza (by rw [← e, hya])
          simp only [this, if_neg hyz]
        · have : (y == a) = false := by simp [hya]
          simp only [this]
          split
          · rw [show i + 1 + r.length = i + (r.length + 1) by omega]
          · rfl
      · right
        refine ⟨j + 1, e, by simp only [findE, ha, keyEq_int, hza', h1, show i + 1 + j = i + (j + 1) by omega], fun b y => ?_⟩
        simp only [List.set_cons_succ, findE, ha, keyEq_int]
        rw [h2 b y]
        by_cases hya : y = a
        · have : (y == a) = true := by simp [hya]
          have hyz : ¬ y = z := fun e => hza (by rw [← e, hya])
          simp only [this, if_neg hyz]
        · have : (y == a) = false := by simp [hya]
          simp only [this, show i + 1 + j = i + (j + 1) by omega]
theorem intKeys_app {es : List AEnt} (h : IntKeys es) (z : Int) (v : SV) (b : Nat) : IntKeys (es ++ [⟨.int .i64 z, v, b⟩]) := fun e he => by
  rcases List.mem_append.1 he with h1 | h1
  · exact h e h1
  · simp only [List.mem_cons, List.not_mem_nil, or_false] at h1
    subst h1
    exact ⟨z, rfl⟩
theorem intKeys_set {es : List AEnt} (h : IntKeys es) (j : Nat) (z : Int) (v : SV) (b : Nat) : IntKeys (es.set j ⟨.int .i64 z, v, b⟩) := fun e he => by
  rcases List.mem_or_eq_of_mem_set he with h1 | h1
  · exact h e h1
  · subst h1
    exact ⟨z, rfl⟩
def Rep (es : List AEnt) (cnt : Nat → Nat) : Prop := IntKeys es ∧ ∀ i : Nat, (findE (.int .i64 (i : Int)) es 0 = some none ∧ cnt i = 0) ∨ ∃ j e, findE (.int .i64 (i : Int)) es 0 = some (some (j, e)) ∧ e.val = .one (.int .i64 (cnt i : Int))
theorem Rep.nil : Rep [] fun _ => 0 := ⟨fun _ h => by simp at h, fun i => .inl ⟨rfl, rfl⟩⟩
def setN (c : Nat → Nat) (i v : Nat) : Nat → Nat := fun k => if k = i then v else c k
theorem put_cases {es : List AEnt} {cnt : Nat → Nat} (h : Rep es cnt) (i v : Nat) :
    (findE (.int .i64 (i : Int)) es 0 = some none ∧ cnt i = 0 ∧ ∀ b, (∃ j, findE (.int .i64 (i : Int)) (es ++ [⟨.int .i64 (i : Int), .one (.int .i64 (v : Int)), b⟩]) 0 = some (some (j, ⟨.int .i64 (i : Int), .one (.int .i64 (v : Int)), b⟩))) ∧ Rep (es ++ [⟨.int .i64 (i : Int), .one (.int .i64 (v : Int)), b⟩]) (setN cnt i v)) ∨
    (∃ j k b0, findE (.int .i64 (i : Int)) es 0 = some (some (j, ⟨k, .one (.int .i64 (cnt i : Int)), b0⟩)) ∧ ∀ b, (findE (.int .i64 (i : Int)) (es.set j ⟨.int .i64 (i : Int), .one (.int .i64 (v : Int)), b⟩) 0 = some (some (j, ⟨.int .i64 (i : Int), .one (.int .i64 (v : Int)), b⟩))) ∧ Rep (es.set j ⟨.int .i64 (i : Int), .one (.int .i64 (v : Int)), b⟩) (setN cnt i v)) := by
  rcases findE_put (i : Int) (.one (.int .i64 (v : Int))) es h.1 0 with ⟨h1, h2⟩ | ⟨j, e, h1, h2⟩
  · left
    refine ⟨h1, ?_, fun b => ⟨⟨_, by rw [h2 b (i : Int), if_pos rfl]⟩, intKeys_app h.1 _ _ _, fun k => ?_⟩⟩
    · rcases h.2 i with ⟨_, h⟩ | ⟨j, e, h, _⟩
      · exact h
      · rw [h1] at h; simp at h
    · rw [h2 b (k : Int)]
      unfold setN
      by_cases hk : k = i
      · subst hk
        rw [if_pos rfl, if_pos rfl]
        exact .inr ⟨_, _, rfl, rfl⟩
      · rw [if_neg hk, if_neg (by omega)]
        exact h.2 k
  · right
    rw [Nat.zero_add] at h1
    rcases h.2 i with ⟨h3, _⟩ | ⟨j', e', h3, h4⟩
    · rw [h1] at h3; simp at h3
    rw [h1] at h3
    simp only [Option.some.injEq, Prod.mk.injEq] at h3
    obtain ⟨rfl, rfl⟩ := h3
    obtain ⟨k0, v0, b0⟩ := e
    dsimp only at h4
    subst h4
    refine ⟨j, k0, b0, h1, fun b => ⟨by rw [h2 b (i : Int), if_pos rfl, Nat.zero_add], intKeys_set h.1 _ _ _ _, fun k => ?_⟩⟩
    rw [h2 b (k : Int)]
    unfold setN
    by_cases hk : k = i
    · subst hk
      rw [if_pos rfl, if_pos rfl]
      exact .inr ⟨_, _, rfl, rfl⟩
    · rw [if_neg hk, if_neg (by omega)]
      exact h.2 k
def seeS (ph : Nat) (s : Samp) (g : Guard) (i : Nat) (c : Nat → Nat) (f : Option Nat) : (Nat → Nat) × Option Nat :=
  if g.from_ = ph then (if hasBx g.box s = true then (setN c i (c i + 1), if g.hold ≤ ((c i + 1 : Nat) : Int) ∧ f = none then some i else f) else (setN c i 0, f)) else (c, f)
def seeL (ph : Nat) (s : Samp) : List Guard → Nat → (Nat → Nat) → Option Nat → (Nat → Nat) × Option Nat
  | [], _, c, f => (c, f)
  | g :: r, i, c, f => seeL ph s r (i + 1) (seeS ph s g i c f).1 (seeS ph s g i c f).2
def firedI : Option Nat → Int
  | none => -1
  | some k => (k : Int)
theorem fired_lt (f : Option Nat) : (firedI f < 0) = (f = none) := by
  cases f with
  | none => simp [firedI]
  | some k => simp [firedI]
section
variable {n : Nat} {fz : Nat → Nat}
theorem see_round {bw mid b3 nx i : Nat} {ob : Nat → Option AObj} {es : List AEnt} {clk ph : Nat} {cnt : Nat → Nat} {w1 w2 w3 w4 w5 w6 : AV} (l : List Guard) (g : Guard) (s : Samp) (gd : l[i]? = some g) (hil : i < l.length) (hl : l.length < 2 ^ 20) (hb : bw < nx) (hm : mid < nx) (h3 : b3 < nx) (hne : bw ≠ mid ∧ bw ≠ b3 ∧ mid ≠ b3) (ow : ob bw = some (.box [w1, w2, w3, w4, w5, w6, .int .u8 (ph : Int), .mp mid])) (om : ob mid = some (.map es clk)) (o3 : ob b3 = some (.box s.c)) (hr : Rep es cnt) (hcnt : cnt i < 2 ^ 40) (f : Option Nat)
    (hc : ∀ (ob : Nat → Option AObj) (fz : Nat → Nat), callV (evF E n) Id.wear_Box_has [.agg g.box.c, .agg s.c] ob fz = some (.fzd fz (.one (.bool (hasBx g.box s))))) (X : List (Nat × SV)) :
    ∃ (ob' : Nat → Option AObj) (es' : List AEnt) (clk' : Nat), evC (evF E n) n Fn.wear_watcher_see_L0 ⟨env ((0, .one (.box bw 0)) :: (3, .one (.box b3 0)) :: (4, .one (.int .i64 (firedI f))) :: (11, .one (.sl false (l.map Guard.c))) :: (12, .one (.int .i64 (l.length : Int))) :: (13, .one (.int .i64 (i : Int))) :: X), ob, fz, nx⟩ =
      some (.nrm, ⟨env [(0, .one (.box bw 0)), (3, .one (.box b3 0)), (4, .one (.int .i64 (firedI (seeS ph s g i cnt f).2))), (11, .one (.sl false (l.map Guard.c))), (12, .one (.int .i64 (l.length : Int))), (13, .one (.int .i64 ((i + 1 : Nat) : Int)))], ob', fz, nx + 6⟩) ∧ ob' mid = some (.map es' clk') ∧ Rep es' (seeS ph s g i cnt f).1 ∧ ∀ id, id < nx → id ≠ mid → ob' id = ob id := by
  have h1 : (((i : Nat) : Int) < ((l.length : Nat) : Int)) = True := by simp; omega
  have wk : IntKind.i64.wrap ((i + 1 : Nat) : Int) = ((i + 1 : Nat) : Int) := wi64 (by omega)
  have wc : IntKind.i64.wrap ((cnt i + 1 : Nat) : Int) = ((cnt i + 1 : Nat) : Int) := wi64 (by omega)
  have okz : okSz 21 (l.map Guard.c) = true := okSz_map (f := Guard.c) (k := 21) (fun _ => rfl) l
  have ge : (l.map Guard.c)[i]? = some g.c := by rw [List.getElem?_map, gd]; rfl
  obtain ⟨c0, c1, c2, c3, c4, c5, c6, c7, c8, c9, c10, c11, c12, c13, c14, c15, c16, c17, eb, ec⟩ := guard_cells g
  obtain ⟨s0, s1, s2, s3, s4, s5, s6, s7, s8, es', -, -, -, -, -, -, -, -, -⟩ := samp_cells s
  rw [eb, es'] at hc
  rw [ec] at ge
  rw [es'] at o3
  obtain ⟨hn1, hn2, hn3⟩ := hne
  have n1 : ∀ k, (bw = nx + k) = False := fun k => by simp only [eq_iff_iff, iff_false]; omega
  have n2 : ∀ k, (mid = nx + k) = False := fun k => by simp only [eq_iff_iff, iff_false]; omega
  have n3 : ∀ k, (b3 = nx + k) = False := fun k => by simp only [eq_iff_iff, iff_false]; omega
  have n1' : ∀ k, (nx + k = bw) = False := fun k => by simp only [eq_iff_iff, iff_false]; omega
  have n2' : ∀ k, (nx + k = mid) = False := fun k => by simp only [eq_iff_iff, iff_false]; omega
  have n3' : ∀ k, (nx + k = b3) = False := fun k => by simp only [eq_iff_iff, iff_false]; omega
  have t1 : ∀ k, (bw < nx + k) = True := fun k => by simp only [eq_iff_iff, iff_true]; omega
  have t2 : ∀ k, (mid < nx + k) = True := fun k => by simp only [eq_iff_iff, iff_true]; omega
  have t3 : ∀ k, (b3 < nx + k) = True := fun k => by simp only [eq_iff_iff, iff_true]; omega
  have e1 : (bw = mid) = False := by simp [hn1]
  have e2 : (b3 = mid) = False := by simp [Ne.symm hn3]
  have kI : ∀ z : Int, keyIs (.int .i64) (.int .i64 z) = true := fun z => rfl
  have frame : ∀ (y : AObj) (ob1 : Nat → Option AObj), (∀ id, id < nx → ob1 id = ob id) → ∀ id, id < nx → id ≠ mid → upd ob1 mid y id = ob id := fun y ob1 h id q1 q2 => by rw [upd_ne q2]; exact h id q1
  have fresh : ∀ (y z : AObj) id, id < nx → upd (upd ob (nx + 3) y) (nx + 3) z id = ob id := fun y z id q => by rw [upd_ne (by omega), upd_ne (by omega)]
  obtain ⟨r, hr0⟩ : ∃ r, evC (evF E n) n Fn.wear_watcher_see_L0 ⟨env ((0, .one (.box bw 0)) :: (3, .one (.box b3 0)) :: (4, .one (.int .i64 (firedI f))) :: (11, .one (.sl false (l.map Guard.c))) :: (12, .one (.int .i64 (l.length : Int))) :: (13, .one (.int .i64 (i : Int))) :: X), ob, fz, nx⟩ = r := ⟨_, rfl⟩
  have hr1 := hr0
  unfold seeS
  by_cases p1 : g.from_ = ph
  · have q1 : ((g.from_ : Int) != (ph : Int)) = false := by simp [p1]
    rw [if_pos p1]
    cases hh : hasBx g.box s with
    | false =>
      rw [hh] at hc
      rw [if_neg (by simp)]
      have z0 : ((0 : Nat) : Int) = 0 := rfl
      rcases put_cases hr i 0 with ⟨f1, f2, f3⟩ | ⟨j, k0, b0, f1, f3⟩
      · obtain ⟨-, hrep⟩ := f3 clk
        rw [z0] at hrep
        simp only [go_sem, Fn.wear_watcher_see_L0, h1, ge, okz, ow, om, o3, q1, hc, n1, n2, n3, n1', n2', n3', t1, t2, t3, e1, e2, kI, f1, add1, wk] at hr1
        rw [hr0, ← hr1]
        exact ⟨_, _, _, rfl, upd_same _ _ _, hrep, fun id q1 q2 => by rw [upd_ne q2, upd_ne (by omega)]⟩
      · obtain ⟨-, hrep⟩ := f3 b0
        rw [z0] at hrep
        simp only [go_sem, Fn.wear_watcher_see_L0, h1, ge, okz, ow, om, o3, q1, hc, n1, n2, n3, n1', n2', n3', t1, t2, t3, e1, e2, kI, f1, add1, wk] at hr1
        rw [hr0, ← hr1]
        exact ⟨_, _, _, rfl, upd_same _ _ _, hrep, fun id q1 q2 => by rw [upd_ne q2, upd_ne (by omega)]⟩
    | true =>
      rw [hh] at hc
      rw [if_pos rfl]
      have q3 := fired_lt f
      have q2 : (((cnt i + 1 : Nat) : Int) ≥ g.hold) = (g.hold ≤ ((cnt i + 1 : Nat) : Int)) := rfl
      generalize hcn : cnt i + 1 = cn at *
      rcases put_cases hr i cn with ⟨f1, f2, f3⟩ | ⟨j, k0, b0, f1, f3⟩
      · obtain ⟨⟨j, f4⟩, hrep⟩ := f3 clk
        have a0 : ((0 : Int) + 1) = (cn : Int) := by omega
        by_cases g1 : g.hold ≤ (cn : Int)
        · by_cases g2 : f = none
          · subst g2
            rw [if_pos ⟨g1, rfl⟩]
            simp only [go_sem, Fn.wear_watcher_see_L0, h1, ge, okz, ow, om, o3, q1, hc, n1, n2, n3, n1', n2', n3', t1, t2, t3, e1, e2, kI, f1, f4, a0, wc, q2, g1, q3, add1, wk] at hr1
            rw [hr0, ← hr1]
            exact ⟨_, _, _, rfl, upd_same _ _ _, hrep, fun id q1 q2 => by rw [upd_ne q2, upd_ne (by omega)]⟩
          · rw [if_neg (fun h => g2 h.2)]
            have g2' : (f = none) = False := by simp [g2]
            rw [g2'] at q3
            simp only [go_sem, Fn.wear_watcher_see_L0, h1, ge, okz, ow, om, o3, q1, hc, n1, n2, n3, n1', n2', n3', t1, t2, t3, e1, e2, kI, f1, f4, a0, wc, q2, g1, q3, add1, wk] at hr1
            rw [hr0, ← hr1]
            exact ⟨_, _, _, rfl, upd_same _ _ _, hrep, fun id q1 q2 => by rw [upd_ne q2, upd_ne (by omega)]⟩
        · rw [if_neg (fun h => g1 h.1)]
          simp only [go_sem, Fn.wear_watcher_see_L0, h1, ge, okz, ow, om, o3, q1, hc, n1, n2, n3, n1', n2', n3', t1, t2, t3, e1, e2, kI, f1, f4, a0, wc, q2, g1, q3, add1, wk] at hr1
          rw [hr0, ← hr1]
          exact ⟨_, _, _, rfl, upd_same _ _ _, hrep, fun id q1 q2 => by rw [upd_ne q2, upd_ne (by omega)]⟩
      · obtain ⟨f4, hrep⟩ := f3 b0
        have a0 : ((cnt i : Int) + 1) = (cn : Int) := by omega
        by_cases g1 : g.hold ≤ (cn : Int)
        · by_cases g2 : f = none
          · subst g2
            rw [if_pos ⟨g1, rfl⟩]
            simp only [go_sem, Fn.wear_watcher_see_L0, h1, ge, okz, ow, om, o3, q1, hc, n1, n2, n3, n1', n2', n3', t1, t2, t3, e1, e2, kI, f1, f4, a0, wc, q2, g1, q3, add1, wk] at hr1
            rw [hr0, ← hr1]
            exact ⟨_, _, _, rfl, upd_same _ _ _, hrep, fun id q1 q2 => by rw [upd_ne q2, upd_ne (by omega)]⟩
          · rw [if_neg (fun h => g2 h.2)]
            have g2' : (f = none) = False := by simp [g2]
            rw [g2'] at q3
            simp only [go_sem, Fn.wear_watcher_see_L0, h1, ge, okz, ow, om, o3, q1, hc, n1, n2, n3, n1', n2', n3', t1, t2, t3, e1, e2, kI, f1, f4, a0, wc, q2, g1, q3, add1, wk] at hr1
            rw [hr0, ← hr1]
            exact ⟨_, _, _, rfl, upd_same _ _ _, hrep, fun id q1 q2 => by rw [upd_ne q2, upd_ne (by omega)]⟩
        · rw [if_neg (fun h => g1 h.1)]
          simp only [go_sem, Fn.wear_watcher_see_L0, h1, ge, okz, ow, om, o3, q1, hc, n1, n2, n3, n1', n2', n3', t1, t2, t3, e1, e2, kI, f1, f4, a0, wc, q2, g1, q3, add1, wk] at hr1
          rw [hr0, ← hr1]
          exact ⟨_, _, _, rfl, upd_same _ _ _, hrep, fun id q1 q2 => by rw [upd_ne q2, upd_ne (by omega)]⟩
  · have q1 : ((g.from_ : Int) != (ph : Int)) = true := by simp only [bne_iff_ne, ne_eq]; omega
    rw [if_neg p1]
    simp only [go_sem, Fn.wear_watcher_see_L0, h1, ge, okz, ow, om, o3, q1, n1, n2, n3, n1', n2', n3', t1, t2, t3, add1, wk] at hr1
    rw [hr0, ← hr1]
    refine ⟨_, es, clk, rfl, ?_, hr, fun id q1 q2 => ?_⟩
    · rw [upd_ne (by omega)]; exact om
    · rw [upd_ne (by omega)]
end
end Go.Ev
namespace Go.Ev
open Go.Dig
theorem seeS_other (ph : Nat) (s : Samp) (g : Guard) (i : Nat) (c : Nat → Nat) (f : Option Nat) (k : Nat) (h : k ≠ i) : (seeS ph s g i c f).1 k = c k := by
  unfold seeS
  split
  · split
    · simp [setN, h]
    · simp [setN, h]
  · rfl
theorem seeS_fired (ph : Nat) (s : Samp) (g : Guard) (i : Nat) (c : Nat → Nat) (f : Option Nat) (k : Nat) (h : (seeS ph s g i c f).2 = some k) : f = some k ∨ k = i := by
  unfold seeS at h
  split at h
  · split at h
    · dsimp only at h
      split at h
      · right; simpa using h.symm
      · exact .inl h
    · exact .inl h
  · exact .inl h
theorem seeL_fired (ph : Nat) (s : Samp) : ∀ (l : List Guard) (i : Nat) (c : Nat → Nat) (f : Option Nat) (k : Nat), (seeL ph s l i c f).2 = some k → f = some k ∨ (i ≤ k ∧ k < i + l.length)
  | [], i, c, f, k, h => .inl h
  | g :: r, i, c, f, k, h => by
    unfold seeL at h
    rcases seeL_fired ph s r (i + 1) _ _ k h with h | h
    · rcases seeS_fired ph s g i c f k h with h | h
      · exact .inl h
      · right; simp only [List.length_cons]; omega
    · right; simp only [List.length_cons]; omega
def seeW (gs : List Guard) (ph : Nat) (cnt : Nat → Nat) (s : Samp) : Nat × (Nat → Nat) :=
  match (seeL ph s gs 0 cnt none).2 with
  | none => (ph, (seeL ph s gs 0 cnt none).1)
  | some k => (((gs[k]?).map Guard.to).getD 0, fun _ => 0)
section
variable {n : Nat} {fz : Nat → Nat}
theorem see_loop {bw mid b3 ph : Nat} {w1 w2 w3 w4 w5 w6 : AV} (l : List Guard) (s : Samp) (hl : l.length < 2 ^ 20) (hne : bw ≠ mid ∧ bw ≠ b3 ∧ mid ≠ b3) (hc : ∀ g ∈ l, ∀ (ob : Nat → Option AObj) (fz : Nat → Nat), callV (evF E n) Id.wear_Box_has [.agg g.box.c, .agg s.c] ob fz = some (.fzd fz (.one (.bool (hasBx g.box s))))) : ∀ (m i : Nat), i + m = l.length → ∀ (ob : Nat → Option AObj) (nx : Nat) (es : List AEnt) (clk : Nat) (cnt : Nat → Nat) (f : Option Nat) (X : List (Nat × SV)), bw < nx → mid < nx → b3 < nx → ob bw = some (.box [w1, w2, w3, w4, w5, w6, .int .u8 (ph : Int), .mp mid]) → ob mid = some (.map es clk) → ob b3 = some (.box s.c) → Rep es cnt → (∀ k, i ≤ k → cnt k < 2 ^ 40) → ∀ N, m < N →
    ∃ (ob' : Nat → Option AObj) (nx' : Nat) (es' : List AEnt) (clk' : Nat) (X' : List (Nat × SV)), loopN (evC (evF E n) n Fn.wear_watcher_see_L0) N ⟨env ((0, .one (.box bw 0)) :: (3, .one (.box b3 0)) :: (4, .one (.int .i64 (firedI f))) :: (11, .one (.sl false (l.map Guard.c))) :: (12, .one (.int .i64 (l.length : Int))) :: (13, .one (.int .i64 (i : Int))) :: X), ob, fz, nx⟩ =
      some (.ext 0, ⟨env ((0, .one (.box bw 0)) :: (3, .one (.box b3 0)) :: (4, .one (.int .i64 (firedI (seeL ph s (l.drop i) i cnt f).2))) :: X'), ob', fz, nx'⟩) ∧ nx ≤ nx' ∧ ob' mid = some (.map es' clk') ∧ Rep es' (seeL ph s (l.drop i) i cnt f).1 ∧ ∀ id, id < nx → id ≠ mid → ob' id = ob id
  | 0, i, hi, ob, nx, es, clk, cnt, f, X, h1, h2, h3, ow, om, o3, hr, hcnt, N + 1, hN => by
    have hi' : i = l.length := by omega
    subst hi'
    rw [List.drop_length]
    have hlt : (((l.length : Nat) : Int) < ((l.length : Nat) : Int)) = False := by simp
    refine ⟨ob, nx, es, clk, [(11, .one (.sl false (l.map Guard.c))), (12, .one (.int .i64 (l.length : Int))), (13, .one (.int .i64 (l.length : Int))), (14, .one (.bool false))], round_ext ?_, Nat.le_refl _, om, hr, fun _ _ _ => rfl⟩
    unfold seeL
    simp only [go_sem, Fn.wear_watcher_see_L0, hlt]
  | m + 1, i, hi, ob, nx, es, clk, cnt, f, X, h1, h2, h3, ow, om, o3, hr, hcnt, N + 1, hN => by
    have hil : i < l.length := by omega
    obtain ⟨ob1, es1, clk1, hst, p1, p2, p3⟩ := see_round (fz := fz) (ph := ph) l l[i] s (by simp) hil hl h1 h2 h3 hne ow om o3 hr (hcnt i (Nat.le_refl _)) f (hc _ (by simp)) X
    rw [List.drop_eq_getElem_cons hil]
    unfold seeL
    obtain ⟨ob', nx', es', clk', X', q1, q2, q3, q4, q5⟩ := see_loop l s hl hne hc m (i + 1) (by omega) ob1 (nx + 6) es1 clk1 _ _ [] (by omega) (by omega) (by omega) ((p3 bw h1 hne.1).trans ow) p1 ((p3 b3 h3 (Ne.symm hne.2.2)).trans o3) p2 (fun k hk => by rw [seeS_other _ _ _ _ _ _ _ (by omega)]; exact hcnt k (by omega)) N (by omega)
    exact ⟨ob', nx', es', clk', X', by rw [round_nrm hst]; exact q1, by omega, q3, q4, fun id i1 i2 => by rw [q5 id (by omega) i2, p3 id i1 i2]⟩
end
theorem shut_eq {ob0 ob : Nat → Option AObj} {k : Nat} (h : ob k = ob0 k) : shut ob0 ob k = ob0 k := by
  unfold shut
  rw [h]
  cases ob0 k with
  | none => rfl
  | some o => cases o <;> rfl
theorem shut_box {ob0 ob : Nat → Option AObj} {k : Nat} {cs : List AV} (h : ob k = some (.box cs)) : shut ob0 ob k = some (.box cs) := by
  unfold shut; rw [h]
theorem shut_map {ob0 ob : Nat → Option AObj} {k c : Nat} {es : List AEnt} (h : ob k = some (.map es c)) : shut ob0 ob k = some (.map es c) := by
  unfold shut; rw [h]
theorem shut_rowk {ob0 ob : Nat → Option AObj} {k sz v : Nat} {es : List (List AV)} (h : ob k = some (.row sz es v)) : shut ob0 ob k = some (.row sz es v) := by
  unfold shut; rw [h]
theorem shut_loopk {ob0 ob : Nat → Option AObj} {k : Nat} {l : ALoop} (h : ob k = some (.loop l)) : shut ob0 ob k = some (.loop l) := by
  unfold shut; rw [h]
def seeT : ACode := match Fn.wear_watcher_see.code with | .seq _ (.seq _ (.seq _ t)) => t | _ => .skip
theorem see_ref {n : Nat} {bw mid ph nx : Nat} {ob : Nat → Option AObj} {fz : Nat → Nat} {es : List AEnt} {clk : Nat} {cnt : Nat → Nat} {w2 w3 w4 w5 w6 : AV} (l : List Guard) (s : Samp) (hl : l.length < 2 ^ 20) (hn : l.length + 1 ≤ n) (hne : bw ≠ mid) (hc : ∀ g ∈ l, ∀ (ob : Nat → Option AObj) (fz : Nat → Nat), callV (evF E n) Id.wear_Box_has [.agg g.box.c, .agg s.c] ob fz = some (.fzd fz (.one (.bool (hasBx g.box s))))) (h1 : bw < nx) (h2 : mid < nx) (ow : ob bw = some (.box [.sl false (l.map Guard.c), w2, w3, w4, w5, w6, .int .u8 (ph : Int), .mp mid])) (om : ob mid = some (.map es clk)) (hr : Rep es cnt) (hcnt : ∀ k, cnt k < 2 ^ 40) :
    ∃ (ob' : Nat → Option AObj) (nx' : Nat) (es' : List AEnt) (clk' : Nat), evF E (n + 1) (.fn Id.wear_watcher_see) [.one (.box bw 0), .agg s.c] ⟨ob, fz, nx⟩ = some (.tup [], ⟨ob', fz, nx'⟩) ∧ nx ≤ nx' ∧ ob' bw = some (.box [.sl false (l.map Guard.c), w2, w3, w4, w5, w6, .int .u8 ((seeW l ph cnt s).1 : Int), .mp mid]) ∧ ob' mid = some (.map es' clk') ∧ Rep es' (seeW l ph cnt s).2 ∧ ∀ id, id < nx → id ≠ bw → id ≠ mid → ob' id = ob id := by
  rw [evF_succ E_wear_watcher_see]
  have fresh : ∀ id, id < nx → upd ob nx (.box s.c) id = ob id := fun id h => upd_ne (by omega)
  obtain ⟨obL, nxL, esL, clkL, XL, hlo, q2, q3, q4, q5⟩ := see_loop (n := n) (fz := fz) (bw := bw) (mid := mid) (b3 := nx) (ph := ph) l s hl ⟨hne, by omega, by omega⟩ hc l.length 0 (by omega) (upd ob nx (.box s.c)) (nx + 1) es clk cnt none [] (by omega) (by omega) (by omega) ((fresh bw h1).trans ow) ((fresh mid h2).trans om) (upd_same _ _ _) hr (fun k _ => hcnt k) n (by omega)
  rw [List.drop_zero] at q4 hlo
  have hf := seeL_fired ph s l 0 cnt none
  unfold seeW
  have owL : obL bw = _ := (q5 bw (by omega) hne).trans ((fresh bw h1).trans ow)
  have z0 : ((0 : Nat) : Int) = 0 := rfl
  rw [z0] at hlo
  rw [show firedI none = -1 from rfl] at hlo
  have okz : okSz 21 (l.map Guard.c) = true := okSz_map (f := Guard.c) (k := 21) (fun _ => rfl) l
  have e1 : ∀ k, (bw = nx + k) = False := fun k => by simp only [eq_iff_iff, iff_false]; omega
  have e2 : (bw = nx) = False := by simp only [eq_iff_iff, iff_false]; omega
  have e3 : (mid = bw) = False := by simp [Ne.symm hne]
  have key : ∀ (obx : Nat → Option AObj), obx = upd ob nx (.box s.c) → ∃ (ob' : Nat → Option AObj) (nx' : Nat) (es' : List AEnt) (clk' : Nat), finF Fn.wear_watcher_see.res ob (thenC (evF E n) n seeT (blkC 0 (loopN (evC (evF E n) n Fn.wear_watcher_see_L0) n ⟨env [(0, .one (.box bw 0)), (3, .one (.box nx 0)), (4, .one (.int .i64 (-1))), (11, .one (.sl false (l.map Guard.c))), (12, .one (.int .i64 (l.length : Int))), (13, .one (.int .i64 0))], obx, fz, nx + 1⟩))) = some (.tup [], ⟨ob', fz, nx'⟩) ∧ nx ≤ nx' ∧ ob' bw = some (.box [.sl false (l.map Guard.c), w2, w3, w4, w5, w6, .int .u8 ((match (seeL ph s l 0 cnt none).2 with | none => (ph, (seeL ph s l 0 cnt none).1) | some k => (((l[k]?).map Guard.to).getD 0, fun _ => 0)).1 : Int), .mp mid]) ∧ ob' mid = some (.map es' clk') ∧ Rep es' (match (seeL ph s l 0 cnt none).2 with | none => (ph, (seeL ph s l 0 cnt none).1) | some k => (((l[k]?).map Guard.to).getD 0, fun _ => 0)).2 ∧ ∀ id, id < nx → id ≠ bw → id ≠ mid → ob' id = ob id := by
    intro obx hx
    subst hx
    rw [hlo]
    unfold seeT Fn.wear_watcher_see
    generalize (seeL ph s l 0 cnt none).1 = cn at *
    generalize (seeL ph s l 0 cnt none).2 = fo at *
    cases fo with
    | none =>
      have g1 : ((-1 : Int) ≥ 0) = False := by simp
      refine ⟨shut ob obL, nxL, esL, clkL, ?_, by omega, shut_box owL, shut_map q3, q4, fun id i1 i2 i3 => shut_eq ((q5 id (by omega) i3).trans (fresh id i1))⟩
      rw [show firedI none = -1 from rfl]
      simp only [go_sem, g1]
    | some k =>
      have hk : k < l.length := by
        rcases hf k rfl with h | h
        · simp at h
        · omega
      have g1 : (((k : Nat) : Int) ≥ 0) = True := by simp
      have ge : (l.map Guard.c)[k]? = some l[k].c := by rw [List.getElem?_map, List.getElem?_eq_getElem hk]; rfl
      have gk : l[k]? = some l[k] := by simp
      dsimp only
      rw [gk, Option.map_some, Option.getD_some]
      generalize l[k] = g at *
      obtain ⟨c0, c1, c2, c3, c4, c5, c6, c7, c8, c9, c10, c11, c12, c13, c14, c15, c16, c17, -, ec⟩ := guard_cells g
      rw [ec] at ge
      rw [show firedI (some k) = (k : Int) from rfl]
      refine ⟨shut ob (upd (upd obL bw (.box [.sl false (l.map Guard.c), w2, w3, w4, w5, w6, .int .u8 (g.to : Int), .mp mid])) mid (.map [] clkL)), nxL, [], clkL, ?_, by omega, shut_box (by rw [upd_ne hne]; exact upd_same _ _ _), shut_map (upd_same _ _ _), Rep.nil, fun id i1 i2 i3 => shut_eq (by rw [upd_ne i3, upd_ne i2]; exact (q5 id (by omega) i3).trans (fresh id i1))⟩
      simp only [go_sem, g1, owL, ge, okz, q3, e3]
  unfold Fn.wear_watcher_see at key ⊢
  have ow' : upd ob nx (.box s.c) bw = _ := (fresh bw h1).trans ow
  obtain ⟨s0, s1, s2, s3, s4, s5, s6, s7, s8, es', -, -, -, -, -, -, -, -, -⟩ := samp_cells s
  rw [es'] at ow' key ⊢
  simp only [go_sem, ow', ow, e1, e2, List.length_map]
  exact key _ rfl
end Go.Ev
