/-
  PROVED HERE: WearTaught returns true, and its arguments read behind the call as before, for every input of bulk at most 1048576.
  CONDITIONS: none beyond the given statement's own.
-/
import Derived.Test.YthghhnhojdmcpaaP4
import Derived.Test.YthghhnhojdmcpaaP1
set_option linter.all false
namespace Go.Ev
open Go.Dig
theorem evF_rnd {n l : Nat} {args : List SV} {ob : Nat → Option AObj} {fz : Nat → Nat} {nx : Nat} {r r1 r2 : ALoop} {st1 st2 : St} (ho : ob l = some (.loop r)) (hok : (Nat.beq args.length r.ps.length && naOk r.asg && naOk r.body) = true) (h1 : evC (evF E n) n r.asg ⟨setPs r.ps args r.sl, ob, fz, nx⟩ = some (.nrm, st1)) (ho1 : st1.ob l = some (.loop r1)) (hr : r1.st = .ready)
    (h2 : evC (evF E n) n r.body { st1 with ob := upd st1.ob l (.loop { r1 with st := .busy }) } = some (.nrm, st2)) (ho2 : st2.ob l = some (.loop r2)) :
    evF E (n + 1) (.rnd l) args ⟨ob, fz, nx⟩ = some (.one (.bool true), ⟨upd st2.ob l (.loop { r2 with st := .ready, pend := none }), st2.fz, st2.nx⟩) := by
  simp only [evF, ho, hok, cond_true, h1, ho1, hr, h2, ho2, Ex.pend]
theorem putS_env' (k : Nat) (v : SV) (L : List (Nat × SV)) : putS (env L) (some k) v = env ((k, v) :: L) := by
  funext i
  rfl
theorem setPs2 (p q : Nat) (v w : SV) (L : List (Nat × SV)) : setPs [p, q] [v, w] (env L) = env ((q, w) :: (p, v) :: L) := by
  simp only [setPs, putS_env']
def OutB (base : Nat) (ob : Nat → Option AObj) (nx : Nat) (x : AV) (es : List (List AV)) : Prop :=
  (es = [] ∧ x = .nils) ∨ ∃ id ver, x = .rsl id ver 4 0 es.length false ∧ ob id = some (.row 4 es ver) ∧ id < nx ∧ base ≤ id
theorem OutB.frame {base nx nx' : Nat} {ob ob' : Nat → Option AObj} {x : AV} {es : List (List AV)} (h : OutB base ob nx x es) (hnx : nx ≤ nx') (hf : ∀ id, base ≤ id → id < nx → ob' id = ob id) : OutB base ob' nx' x es := by
  rcases h with h | ⟨id, ver, h1, h2, h3, h4⟩
  · exact .inl h
  · exact .inr ⟨id, ver, h1, by rw [hf id h4 h3]; exact h2, by omega, h4⟩
def actAsg : ACode := .reg false [⟨some 9, .alloc [(.int .u8 0), (.bool false), .nils, .nils], none, .no⟩, ⟨none, .store 4 (.t 9) (.t 20), none, .no⟩] 2 [7, 9]
end Go.Ev
namespace Go.Ev
open Go.Dig
def wkB : ACode := match Fn.wear_Device_walk_1_L0 with | .seq _ (.seq _ (.seq (.block _ b) _)) => b | _ => .skip
def wkA : ACode := match Fn.wear_Device_walk_1_L0 with | .seq a _ => a | _ => .skip
def wkC : ACode := match Fn.wear_Device_walk_1_L0 with | .seq _ (.seq c _) => c | _ => .skip
def wkI : ACode := match Fn.wear_Device_walk_1_L0 with | .seq _ (.seq _ (.seq _ i)) => i | _ => .skip
def wk1 : ACode := match wkB with | .seq a _ => a | _ => .skip
def wk2 : ACode := match wkB with | .seq _ (.seq a _) => a | _ => .skip
def wk3 : ACode := match wkB with | .seq _ (.seq _ (.seq a _)) => a | _ => .skip
def wk4 : ACode := match wkB with | .seq _ (.seq _ (.seq _ (.seq a _))) => a | _ => .skip
def wk5 : ACode := match wkB with | .seq _ (.seq _ (.seq _ (.seq _ (.seq a _)))) => a | _ => .skip
def wk6 : ACode := match wkB with | .seq _ (.seq _ (.seq _ (.seq _ (.seq _ (.seq a _))))) => a | _ => .skip
def wk7 : ACode := match wkB with | .seq _ (.seq _ (.seq _ (.seq _ (.seq _ (.seq _ a))))) => a | _ => .skip
theorem wk_eq : Fn.wear_Device_walk_1_L0 = .seq wkA (.seq wkC (.seq (.block 1 (.seq wk1 (.seq wk2 (.seq wk3 (.seq wk4 (.seq wk5 (.seq wk6 wk7))))))) wkI)) := rfl
def MQ (m : Rat) (mc : List AV) : Prop := mc = qC m ∨ (m = 0 ∧ mc = [.bool false, .nils, .nils])
theorem Ends.mq {f : FuncId} {m : Rat} {mc : List AV} {y r : SV} (h : Ends f [.agg (qC m), y] r) (hy : CanS y) (hm : MQ m mc) : Calling f [.agg mc, y] r := by
  rcases hm with rfl | ⟨rfl, rfl⟩
  · exact h.call (can2 (canS_q _) hy)
  · obtain ⟨N, h⟩ := h
    exact ⟨N, fun n hn => callV_nils (h n hn) hy⟩
section
variable {n : Nat} {fz : Nat → Nat} {ob : Nat → Option AObj} {nx : Nat}
theorem piece1 {i : Nat} (x0 x1 x4 x5 : SV) (l : List Samp) (s : Samp) (gs : l[i]? = some s) (X : List (Nat × SV)) :
    evC (evF E n) n wk1 ⟨env ((0, x0) :: (1, x1) :: (4, x4) :: (5, x5) :: (13, .one (.sl false (l.map Samp.c))) :: (14, .one (.int .i64 (l.length : Int))) :: (15, .one (.int .i64 (i : Int))) :: X), ob, fz, nx⟩ =
      some (.nrm, ⟨env [(0, x0), (1, x1), (4, x4), (5, x5), (7, .one (.box (nx + 2) 0)), (13, .one (.sl false (l.map Samp.c))), (14, .one (.int .i64 (l.length : Int))), (15, .one (.int .i64 (i : Int)))], upd ob (nx + 2) (.box s.c), fz, nx + 4⟩) := by
  have ge : (l.map Samp.c)[i]? = some s.c := by rw [List.getElem?_map, gs]; rfl
  have okz : okSz 9 (l.map Samp.c) = true := okSz_map (f := Samp.c) (k := 9) (fun _ => rfl) l
  obtain ⟨s0, s1, s2, s3, s4, s5, s6, s7, s8, es', -, -, -, -, -, -, -, -, -⟩ := samp_cells s
  rw [es'] at ge ⊢
  unfold wk1 wkB Fn.wear_Device_walk_1_L0
  simp only [go_sem, ge, okz]
theorem piece2 {bw b7 : Nat} (x0 x1 x5 x13 x14 x15 : SV) (s : Samp) (o7 : ob b7 = some (.box s.c)) (ob' : Nat → Option AObj) (nx' : Nat) (h : evF E n (.fn Id.wear_watcher_see) [.one (.box bw 0), .agg s.c] ⟨ob, fz, nx⟩ = some (.tup [], ⟨ob', fz, nx'⟩)) :
    evC (evF E n) n wk2 ⟨env [(0, x0), (1, x1), (4, .one (.box bw 0)), (5, x5), (7, .one (.box b7 0)), (13, x13), (14, x14), (15, x15)], ob, fz, nx⟩ =
      some (.nrm, ⟨env [(0, x0), (1, x1), (4, .one (.box bw 0)), (5, x5), (7, .one (.box b7 0)), (13, x13), (14, x14), (15, x15)], ob', fz, nx'⟩) := by
  obtain ⟨s0, s1, s2, s3, s4, s5, s6, s7, s8, es', -, -, -, -, -, -, -, -, -⟩ := samp_cells s
  rw [es'] at o7 h
  unfold wk2 wkB Fn.wear_Device_walk_1_L0
  simp only [go_sem, o7, Nat.add_zero, h]
theorem piece3 {bd bw b7 ph : Nat} (x0 x5 x13 x14 x15 : SV) {w1 w2 c1 c2 c3 w6 y1 y2 y3 y4 y5 y6 : AV} (ls : List Pt) (P : Pt) (gp : ls[ph]? = some P) (hd : bd < nx) (hw : bw < nx) (od : ob bd = some (.box [w1, w2, .sl false (ls.map Pt.c), c1, c2, c3])) (ow : ob bw = some (.box [y1, y2, y3, y4, y5, y6, .int .u8 (ph : Int), w6])) :
    evC (evF E n) n wk3 ⟨env [(0, x0), (1, .one (.box bd 0)), (4, .one (.box bw 0)), (5, x5), (7, .one (.box b7 0)), (13, x13), (14, x14), (15, x15)], ob, fz, nx⟩ =
      some (.nrm, ⟨env [(0, x0), (1, .one (.box bd 0)), (4, .one (.box bw 0)), (5, x5), (7, .one (.box b7 0)), (8, .one (.box (nx + 8) 0)), (13, x13), (14, x14), (15, x15)], upd ob (nx + 8) (.box P.c), fz, nx + 10⟩) := by
  have ge : (ls.map Pt.c)[ph]? = some P.c := by rw [List.getElem?_map, gp]; rfl
  have okz : okSz 6 (ls.map Pt.c) = true := okSz_map pt_len ls
  have hd' : (bd < nx) = True := by simp [hd]
  have hw' : (bw < nx) = True := by simp [hw]
  obtain ⟨p1, p2, p3, p4, p5, p6, -, -, ep⟩ := pt_cells P
  rw [ep] at ge ⊢
  unfold wk3 wkB Fn.wear_Device_walk_1_L0
  simp only [go_sem, od, ow, hd', hw', ge, okz]
theorem piece4 {bd bw bm b7 b8 ph : Nat} (x0 x13 x14 x15 : SV) {w1 w2 c1 c2 c3 w6 y1 y2 y3 y4 y5 y6 m1 m2 m3 : AV} (cs : List (List Pt)) (c : List Pt) (s : Samp) (P : Pt) (a lo hi r : Rat) (gc : cs[ph]? = some c) (hd : bd < nx) (hw : bw < nx) (hm : bm < nx) (h7 : b7 < nx) (h8 : b8 < nx) (od : ob bd = some (.box [w1, .sl false (cs.map fun s => [.sl false (s.map Pt.c)]), w2, c1, c2, c3])) (ow : ob bw = some (.box [y1, y2, y3, y4, y5, y6, .int .u8 (ph : Int), w6])) (om : ob bm = some (.box [m1, m2, m3])) (o7 : ob b7 = some (.box s.c)) (o8 : ob b8 = some (.box P.c))
    (k1 : ∀ (ob : Nat → Option AObj) (fz : Nat → Nat), callV (evF E n) Id.wear_Curve_at [.one (.sl false (c.map Pt.c)), .agg (qC s.angle)] ob fz = some (.fzd fz (.agg (qC a)))) (k2 : ∀ (ob : Nat → Option AObj) (fz : Nat → Nat), callV (evF E n) Id.exact_Q_Sub [.agg [m1, m2, m3], .agg (qC P.z)] ob fz = some (.fzd fz (.agg (qC lo)))) (k3 : ∀ (ob : Nat → Option AObj) (fz : Nat → Nat), callV (evF E n) Id.exact_Q_Add [.agg [m1, m2, m3], .agg (qC P.z)] ob fz = some (.fzd fz (.agg (qC hi)))) (k4 : ∀ (ob : Nat → Option AObj) (fz : Nat → Nat), callV (evF E n) Id.wear_clamp [.agg (qC a), .agg (qC lo), .agg (qC hi)] ob fz = some (.fzd fz (.agg (qC r)))) :
    evC (evF E n) n wk4 ⟨env [(0, x0), (1, .one (.box bd 0)), (4, .one (.box bw 0)), (5, .one (.box bm 0)), (7, .one (.box b7 0)), (8, .one (.box b8 0)), (13, x13), (14, x14), (15, x15)], ob, fz, nx⟩ =
      some (.nrm, ⟨env [(0, x0), (1, .one (.box bd 0)), (4, .one (.box bw 0)), (5, .one (.box bm 0)), (7, .one (.box b7 0)), (8, .one (.box b8 0)), (13, x13), (14, x14), (15, x15)], upd ob bm (.box (qC r)), fz, nx⟩) := by
  have ge : (cs.map fun s => [AV.sl false (s.map Pt.c)])[ph]? = some [.sl false (c.map Pt.c)] := by rw [List.getElem?_map, gc]; rfl
  have okz : okSz 1 (cs.map fun s => [AV.sl false (s.map Pt.c)]) = true := okSz_map (f := fun s : List Pt => [AV.sl false (s.map Pt.c)]) (k := 1) (fun _ => rfl) cs
  have hd' : (bd < nx) = True := by simp [hd]
  have hw' : (bw < nx) = True := by simp [hw]
  have hm' : (bm < nx) = True := by simp [hm]
  have h7' : (b7 < nx) = True := by simp [h7]
  have h8' : (b8 < nx) = True := by simp [h8]
  unfold Samp.c at o7
  obtain ⟨p1, p2, p3, p4, p5, p6, -, ez, ep⟩ := pt_cells P
  obtain ⟨s1, s2, s3, es1, -, -, -⟩ := qC_cells s.load
  obtain ⟨s4, s5, s6, es2, -, -, -⟩ := qC_cells s.angle
  obtain ⟨s7, s8, s9, es3, -, -, -⟩ := qC_cells s.speed
  obtain ⟨a1, a2, a3, ea, -, -, -⟩ := qC_cells a
  obtain ⟨l1, l2, l3, el, -, -, -⟩ := qC_cells lo
  obtain ⟨h1, h2, h3, eh, -, -, -⟩ := qC_cells hi
  obtain ⟨r1, r2, r3, er, -, -, -⟩ := qC_cells r
  simp only [es1, es2, es3, List.cons_append, List.nil_append] at o7 k1
  rw [ea] at k1 k4
  rw [ez, el] at k2
  rw [ez, eh] at k3
  rw [el, eh, er] at k4
  rw [ep] at o8
  rw [er]
  unfold wk4 wkB Fn.wear_Device_walk_1_L0
  simp only [go_sem, od, ow, om, o7, o8, hd', hw', hm', h7', h8', ge, okz, k1, k2, k3, k4]
theorem piece5 {bm b8 : Nat} (x0 x1 x4 x7 x13 x14 x15 : SV) (P : Pt) (m r : Rat) (hm : bm < nx) (h8 : b8 < nx) (om : ob bm = some (.box (qC m))) (o8 : ob b8 = some (.box P.c))
    (k1 : ∀ (ob : Nat → Option AObj) (fz : Nat → Nat), callV (evF E n) Id.exact_Q_Neg [.agg (qC P.x)] ob fz = some (.fzd fz (.agg (qC (-P.x))))) (k2 : ∀ (ob : Nat → Option AObj) (fz : Nat → Nat), callV (evF E n) Id.wear_clamp [.agg (qC m), .agg (qC (-P.x)), .agg (qC P.x)] ob fz = some (.fzd fz (.agg (qC r)))) :
    evC (evF E n) n wk5 ⟨env [(0, x0), (1, x1), (4, x4), (5, .one (.box bm 0)), (7, x7), (8, .one (.box b8 0)), (13, x13), (14, x14), (15, x15)], ob, fz, nx⟩ =
      some (.nrm, ⟨env [(0, x0), (1, x1), (4, x4), (5, .one (.box bm 0)), (7, x7), (13, x13), (14, x14), (15, x15)], upd ob bm (.box (qC r)), fz, nx⟩) := by
  have hm' : (bm < nx) = True := by simp [hm]
  have h8' : (b8 < nx) = True := by simp [h8]
  obtain ⟨p1, p2, p3, p4, p5, p6, ex, -, ep⟩ := pt_cells P
  obtain ⟨a1, a2, a3, ea, -, -, -⟩ := qC_cells m
  obtain ⟨l1, l2, l3, el, -, -, -⟩ := qC_cells (-P.x)
  obtain ⟨r1, r2, r3, er, -, -, -⟩ := qC_cells r
  rw [ex, el] at k1
  rw [ea, ex, el, er] at k2
  rw [ep] at o8
  rw [ea] at om
  rw [er]
  unfold wk5 wkB Fn.wear_Device_walk_1_L0
  simp only [go_sem, om, o8, hm', h8', k1, k2]
def stopB (ph : Nat) (m v : Rat) : Bool := decide (ph = 4) && decide (signI (m * v).num > 0)
theorem piece6 {bw bm b7 ph : Nat} (x0 x1 x13 x14 x15 : SV) {w6 y1 y2 y3 y4 y5 y6 : AV} (s : Samp) (m : Rat) (ow : ob bw = some (.box [y1, y2, y3, y4, y5, y6, .int .u8 (ph : Int), w6])) (om : ob bm = some (.box (qC m))) (o7 : ob b7 = some (.box s.c))
    (k1 : ∀ (ob : Nat → Option AObj) (fz : Nat → Nat), callV (evF E n) Id.exact_Q_Mul [.agg (qC m), .agg (qC s.speed)] ob fz = some (.fzd fz (.agg (qC (m * s.speed))))) (k2 : ∀ (ob : Nat → Option AObj) (fz : Nat → Nat), callV (evF E n) Id.exact_Q_Sign [.agg (qC (m * s.speed))] ob fz = some (.fzd fz (.one (.int .i64 (signI (m * s.speed).num))))) :
    ∃ X', evC (evF E n) n wk6 ⟨env [(0, x0), (1, x1), (4, .one (.box bw 0)), (5, .one (.box bm 0)), (7, .one (.box b7 0)), (13, x13), (14, x14), (15, x15)], ob, fz, nx⟩ =
      some (.nrm, ⟨env ((0, x0) :: (1, x1) :: (4, .one (.box bw 0)) :: (5, .one (.box bm 0)) :: (7, .one (.box b7 0)) :: (13, x13) :: (14, x14) :: (15, x15) :: X'), bif stopB ph m s.speed then upd ob bm (.box [.bool false, .nils, .nils]) else ob, fz, nx⟩) := by
  unfold Samp.c at o7
  obtain ⟨s1, s2, s3, es1, -, -, -⟩ := qC_cells s.load
  obtain ⟨s4, s5, s6, es2, -, -, -⟩ := qC_cells s.angle
  obtain ⟨s7, s8, s9, es3, -, -, -⟩ := qC_cells s.speed
  obtain ⟨a1, a2, a3, ea, -, -, -⟩ := qC_cells m
  obtain ⟨r1, r2, r3, er, -, -, -⟩ := qC_cells (m * s.speed)
  simp only [es1, es2, es3, List.cons_append, List.nil_append] at o7
  rw [ea, es3, er] at k1
  rw [er] at k2
  rw [ea] at om
  unfold stopB
  generalize signI (m * s.speed).num = sg at *
  unfold wk6 wkB Fn.wear_Device_walk_1_L0
  by_cases h4 : ph = 4
  · have q1 : ((ph : Int) == 4) = true := by simp [h4]
    by_cases hs : sg > 0
    · have e : (decide (ph = 4) && decide (sg > 0)) = true := by rw [decide_eq_true h4, decide_eq_true hs]; rfl
      rw [e]
      refine ⟨[], ?_⟩
      simp only [go_sem, ow, om, o7, q1, k1, k2, hs]
    · have e : (decide (ph = 4) && decide (sg > 0)) = false := by rw [decide_eq_true h4, decide_eq_false hs]; rfl
      rw [e]
      refine ⟨[(69, .one (.bool false))], ?_⟩
      simp only [go_sem, ow, om, o7, q1, k1, k2, hs]
  · have q1 : ((ph : Int) == 4) = false := by simp only [beq_eq_false_iff_ne, ne_eq]; omega
    have e : (decide (ph = 4) && decide (sg > 0)) = false := by rw [decide_eq_false h4]; rfl
    rw [e]
    refine ⟨[(69, .one (.bool false))], ?_⟩
    simp only [go_sem, ow, om, o7, q1]
theorem piece7 {lid bw bm b7 ph : Nat} (x1 x13 x14 x15 : SV) {w6 y1 y2 y3 y4 y5 y6 m1 m2 m3 : AV} (s : Samp) (hw : bw < nx) (hm : bm < nx) (h7 : b7 < nx) (ow : ob bw = some (.box [y1, y2, y3, y4, y5, y6, .int .u8 (ph : Int), w6])) (om : ob bm = some (.box [m1, m2, m3])) (o7 : ob b7 = some (.box s.c)) (ob' : Nat → Option AObj) (nx' : Nat)
    (k : evF E n (.rnd lid) [.agg s.c, .agg [.int .u8 (ph : Int), m1, m2, m3]] ⟨ob, fz, nx⟩ = some (.one (.bool true), ⟨ob', fz, nx'⟩)) (X : List (Nat × SV)) :
    ∃ X', evC (evF E n) n wk7 ⟨env ((0, .one (.yld lid)) :: (1, x1) :: (4, .one (.box bw 0)) :: (5, .one (.box bm 0)) :: (7, .one (.box b7 0)) :: (13, x13) :: (14, x14) :: (15, x15) :: X), ob, fz, nx⟩ =
      some (.nrm, ⟨env ((0, .one (.yld lid)) :: (1, x1) :: (4, .one (.box bw 0)) :: (5, .one (.box bm 0)) :: (13, x13) :: (14, x14) :: (15, x15) :: X'), ob', fz, nx'⟩) := by
  have hw' : (bw < nx) = True := by simp [hw]
  have hm' : (bm < nx) = True := by simp [hm]
  have h7' : (b7 < nx) = True := by simp [h7]
  obtain ⟨s0, s1, s2, s3, s4, s5, s6, s7, s8, es', -, -, -, -, -, -, -, -, -⟩ := samp_cells s
  rw [es'] at o7 k
  unfold wk7 wkB Fn.wear_Device_walk_1_L0
  refine ⟨[(80, .one (.bool false))], ?_⟩
  simp only [go_sem, ow, om, o7, hw', hm', h7', Nat.add_zero, k]
end
end Go.Ev
namespace Go.Ev
open Go.Dig
theorem seeL_low (ph : Nat) (s : Samp) : ∀ (l : List Guard) (i : Nat) (c : Nat → Nat) (f : Option Nat) (k : Nat), k < i → (seeL ph s l i c f).1 k = c k
  | [], i, c, f, k, h => rfl
  | g :: r, i, c, f, k, h => by
    unfold seeL
    rw [seeL_low ph s r (i + 1) _ _ k (by omega), seeS_other _ _ _ _ _ _ _ (by omega)]
theorem seeL_le (ph : Nat) (s : Samp) : ∀ (l : List Guard) (i : Nat) (c : Nat → Nat) (f : Option Nat) (k : Nat), (seeL ph s l i c f).1 k ≤ c k + 1
  | [], i, c, f, k => Nat.le_succ _
  | g :: r, i, c, f, k => by
    unfold seeL
    by_cases h : k = i
    · subst h
      rw [seeL_low ph s r (k + 1) _ _ k (by omega)]
      unfold seeS
      split
      · split
        · simp [setN]
        · simp [setN]
      · exact Nat.le_succ _
    · refine Nat.le_trans (seeL_le ph s r (i + 1) _ _ k) ?_
      rw [seeS_other _ _ _ _ _ _ _ h]
      exact Nat.le_refl _
theorem seeW_le (gs : List Guard) (ph : Nat) (cnt : Nat → Nat) (s : Samp) (k : Nat) : (seeW gs ph cnt s).2 k ≤ cnt k + 1 := by
  unfold seeW
  split
  · exact seeL_le ph s gs 0 cnt none k
  · exact Nat.zero_le _
theorem seeW_ph (gs : List Guard) (ph : Nat) (cnt : Nat → Nat) (s : Samp) (B : Nat) (h : ph < B) (hg : ∀ g ∈ gs, g.to < B) : (seeW gs ph cnt s).1 < B := by
  unfold seeW
  split
  · exact h
  · rename_i k _
    dsimp only
    cases hk : gs[k]? with
    | none => simp; omega
    | some g => exact hg g (List.mem_of_getElem? hk)
structure WSt where
  ph : Nat
  cnt : Nat → Nat
  m : Rat
def curveAt (d : Dev) (ph : Nat) : List Pt := (d.curves[ph]?).getD []
def momW (d : Dev) (w : WSt) (s : Samp) : Rat :=
  clampQ (clampQ (atQ (curveAt d (seeW d.guards w.ph w.cnt s).1) s.angle) (w.m - (ptAt d.limits (seeW d.guards w.ph w.cnt s).1).z) (w.m + (ptAt d.limits (seeW d.guards w.ph w.cnt s).1).z)) (-(ptAt d.limits (seeW d.guards w.ph w.cnt s).1).x) (ptAt d.limits (seeW d.guards w.ph w.cnt s).1).x
def stopW (d : Dev) (w : WSt) (s : Samp) : Bool := stopB (seeW d.guards w.ph w.cnt s).1 (momW d w s) s.speed
def stepW (d : Dev) (w : WSt) (s : Samp) : WSt := ⟨(seeW d.guards w.ph w.cnt s).1, (seeW d.guards w.ph w.cnt s).2, bif stopW d w s then 0 else momW d w s⟩
def rawM (d : Dev) (w : WSt) (s : Samp) : List AV := bif stopW d w s then [.bool false, .nils, .nils] else qC (momW d w s)
def rawA (d : Dev) (w : WSt) (s : Samp) : List AV := .int .u8 ((stepW d w s).ph : Int) :: rawM d w s
def acts (d : Dev) : WSt → List Samp → List (Nat × Rat)
  | _, [] => []
  | w, s :: r => ((stepW d w s).ph, (stepW d w s).m) :: acts d (stepW d w s) r
theorem rawM_mq (d : Dev) (w : WSt) (s : Samp) : MQ (stepW d w s).m (rawM d w s) := by
  unfold stepW rawM
  cases stopW d w s
  · exact .inl rfl
  · exact .inr ⟨rfl, rfl⟩
theorem MQ.cells {m : Rat} {mc : List AV} (h : MQ m mc) : ∃ a b c, mc = [a, b, c] := by
  rcases h with rfl | ⟨_, rfl⟩
  · exact ⟨_, _, _, rfl⟩
  · exact ⟨_, _, _, rfl⟩
structure OkDev (d : Dev) : Prop where
  sm : SmDev d
  c5 : d.curves.length = 5
  l5 : d.limits.length = 5
  to : ∀ g ∈ d.guards, g.to < 5
  cr : ∀ c ∈ d.curves, incC c = true ∧ 1 ≤ c.length
theorem rightD_ok {d : Dev} (h : SmDev d) (hr : rightD d = true) : OkDev d := by
  unfold rightD at hr
  simp only [Bool.and_eq_true, Bool.not_eq_true', Bool.or_eq_false_iff, decide_eq_false_iff_not, ne_eq, Decidable.not_not] at hr
  obtain ⟨⟨-, h1, h2, -⟩, h3, h4, -⟩ := hr
  refine ⟨h, h1, h2, fun g hg => ?_, fun c hc => ?_⟩
  · have hb := List.any_eq_false.1 h3 g hg
    unfold badG at hb
    simp only [Bool.or_eq_true, decide_eq_true_eq, not_or] at hb
    omega
  · have hb := List.any_eq_false.1 h4 c hc
    unfold badC rightC at hb
    simp only [Bool.not_eq_true', Bool.and_eq_false_iff, not_or, Bool.not_eq_false, decide_eq_true_eq] at hb
    exact ⟨hb.1, hb.2.1⟩
structure WIds (Own : Nat → Prop) (bd bw mid bm base : Nat) : Prop where
  d : bd < base
  w : bw < base
  i : mid < base
  m : bm < base
  dw : bd ≠ bw
  di : bd ≠ mid
  dm : bd ≠ bm
  wi : bw ≠ mid
  wm : bw ≠ bm
  im : mid ≠ bm
  od : ¬ Own bd
  ow : ¬ Own bw
  oi : ¬ Own mid
  om : ¬ Own bm
  o : ∀ id, Own id → id < base
theorem dev_cells (d : Dev) : ∃ a b c, qC d.step = [a, b, c] ∧ d.c = [.sl false (d.guards.map Guard.c), .sl false (d.curves.map fun s => [.sl false (s.map Pt.c)]), .sl false (d.limits.map Pt.c), a, b, c] := ⟨_, _, _, rfl, rfl⟩
def stepsW (d : Dev) : WSt → List Samp → List (WSt × Samp)
  | _, [] => []
  | w, s :: r => (w, s) :: stepsW d (stepW d w s) r
structure Taker (d : Dev) (n0 base lid Smax : Nat) (fz : Nat → Nat) (Own : Nat → Prop) (Acc : (Nat → Option AObj) → Nat → List (WSt × Samp) → Prop) : Prop where
  frame : ∀ ob ob' nx nx' out, Acc ob nx out → nx ≤ nx' → (∀ id, Own id ∨ (base ≤ id ∧ id < nx) → ob' id = ob id) → Acc ob' nx' out
  step : ∀ n, n0 ≤ n → ∀ (w : WSt) (s : Samp) (ob : Nat → Option AObj) (nx : Nat) (out : List (WSt × Samp)), Acc ob nx out → base ≤ nx → out.length < 2 ^ 20 → SmSamp s → (stepW d w s).ph < 5 → SmQ Smax (stepW d w s).m →
    ∃ ob' nx', evF E (n + 1) (.rnd lid) [.agg s.c, .agg (rawA d w s)] ⟨ob, fz, nx⟩ = some (.one (.bool true), ⟨ob', fz, nx'⟩) ∧ nx ≤ nx' ∧ Acc ob' nx' (out ++ [(w, s)]) ∧ ∀ id, id < base → ¬ Own id → ob' id = ob id
set_option maxRecDepth 100000 in
theorem walk_loop (d : Dev) (hd : OkDev d) {bd bw mid bm lid base n0 Smax : Nat} {Own : Nat → Prop} {Acc : (Nat → Option AObj) → Nat → List (WSt × Samp) → Prop} (I : WIds Own bd bw mid bm base) (fz : Nat → Nat) (T : Taker d n0 base lid Smax fz Own Acc) (hSm : Smax ≤ 2 ^ 29) : ∀ (ss pre : List Samp) (w : WSt) (mc : List AV) (S : Nat), MQ w.m mc → SmQ S w.m → 2571 ≤ S → S + 257 * ss.length ≤ Smax → w.ph < 5 → (∀ k, w.cnt k + ss.length < 2 ^ 40) → (∀ s ∈ ss, SmSamp s) → (pre ++ ss).length < 2 ^ 20 →
    ∃ N, ∀ n, N ≤ n → ∀ (ob : Nat → Option AObj) (nx : Nat) (es : List AEnt) (clk : Nat) (out : List (WSt × Samp)) (X : List (Nat × SV)), base ≤ nx → ob bd = some (.box d.c) → ob bw = some (.box (d.c ++ [.int .u8 (w.ph : Int), .mp mid])) → ob mid = some (.map es clk) → Rep es w.cnt → ob bm = some (.box mc) → Acc ob nx out → out.length = pre.length → ∀ M, ss.length < M →
      ∃ (ob' : Nat → Option AObj) (nx' : Nat) (X' : List (Nat × SV)), loopN (evC (evF E n) n Fn.wear_Device_walk_1_L0) M ⟨env ((0, .one (.yld lid)) :: (1, .one (.box bd 0)) :: (4, .one (.box bw 0)) :: (5, .one (.box bm 0)) :: (13, .one (.sl false ((pre ++ ss).map Samp.c))) :: (14, .one (.int .i64 ((pre ++ ss).length : Int))) :: (15, .one (.int .i64 (pre.length : Int))) :: X), ob, fz, nx⟩ =
        some (.ext 0, ⟨env X', ob', fz, nx'⟩) ∧ nx ≤ nx' ∧ Acc ob' nx' (out ++ stepsW d w ss)
  | [], pre, w, mc, S, hm, hS, hS1, hS2, hph, hcnt, hss, hlen => by
    refine ⟨0, fun n hn ob nx es clk out X hb od ow oi hr om hx hout M hM => ?_⟩
    obtain ⟨M, rfl⟩ : ∃ k, M = k + 1 := ⟨M - 1, by simp at hM; omega⟩
    rw [List.append_nil]
    have hlt : (((pre.length : Nat) : Int) < ((pre.length : Nat) : Int)) = False := by simp
    refine ⟨ob, nx, [(0, .one (.yld lid)), (1, .one (.box bd 0)), (4, .one (.box bw 0)), (5, .one (.box bm 0)), (13, .one (.sl false (pre.map Samp.c))), (14, .one (.int .i64 (pre.length : Int))), (15, .one (.int .i64 (pre.length : Int))), (16, .one (.bool false))], round_ext ?_, Nat.le_refl _, by unfold stepsW; rw [List.append_nil]; exact hx⟩
    simp only [go_sem, Fn.wear_Device_walk_1_L0, hlt]
  | s :: r, pre, w, mc, S, hm, hS, hS1, hS2, hph, hcnt, hss, hlen => by
    have hs := hss s (by simp)
    simp only [List.length_cons] at hS2 hcnt
    have hph' : (seeW d.guards w.ph w.cnt s).1 < 5 := seeW_ph _ _ _ _ 5 hph hd.to
    have gc : d.curves[(seeW d.guards w.ph w.cnt s).1]? = some (curveAt d (seeW d.guards w.ph w.cnt s).1) := by
      unfold curveAt; rw [List.getElem?_eq_getElem (by rw [hd.c5]; exact hph')]; rfl
    have gl : d.limits[(seeW d.guards w.ph w.cnt s).1]? = some (ptAt d.limits (seeW d.guards w.ph w.cnt s).1) := by
      unfold ptAt; rw [List.getElem?_eq_getElem (by rw [hd.l5]; exact hph')]; rfl
    have hcm := List.mem_of_getElem? gc
    have hlm := List.mem_of_getElem? gl
    have sP := hd.sm.ls _ hlm
    obtain ⟨i1, i2⟩ := hd.cr _ hcm
    have sat := (at_ends _ s.angle (hd.sm.cll _ hcm) i2 i1 (hd.sm.cs _ hcm) hs.angle).2
    have slo := SmQ.sub hS sP.z
    have shi := SmQ.add hS sP.z
    have sat' := SmQ.mono sat (show 2571 ≤ S + 256 + 1 by omega)
    have sr1 := SmQ.clamp sat' slo shi
    have snx := SmQ.mono (SmQ.neg sP.x) (show 256 ≤ S + 256 + 1 by omega)
    have spx := SmQ.mono sP.x (show 256 ≤ S + 256 + 1 by omega)
    have sr2 := SmQ.clamp sr1 snx spx
    obtain ⟨N1, k1⟩ := at_call _ s.angle (hd.sm.cll _ hcm) i2 i1 (hd.sm.cs _ hcm) hs.angle
    obtain ⟨N2, k2⟩ := (Ends.of (K (S + 256 + 1) + 4) fun hn => Sub_run w.m (ptAt d.limits (seeW d.guards w.ph w.cnt s).1).z hS sP.z (by omega) hn : Ends Id.exact_Q_Sub [.agg (qC w.m), .agg (qC _)] (.agg (qC _))).mq (canS_q _) hm
    obtain ⟨N3, k3⟩ := (Ends.of (K (S + 256 + 1) + 2) fun hn => Add_run w.m (ptAt d.limits (seeW d.guards w.ph w.cnt s).1).z hS sP.z (by omega) hn : Ends Id.exact_Q_Add [.agg (qC w.m), .agg (qC _)] (.agg (qC _))).mq (canS_q _) hm
    obtain ⟨N4, k4⟩ := clamp_call _ _ _ sat' slo shi (by omega)
    obtain ⟨N5, k5⟩ := Neg_call (ptAt d.limits (seeW d.guards w.ph w.cnt s).1).x
    obtain ⟨N6, k6⟩ := clamp_call _ _ _ sr1 snx spx (by omega)
    obtain ⟨N7, k7⟩ := Mul_call _ s.speed sr2 hs.speed (by omega)
    obtain ⟨N8, k8⟩ := Sign_call (momW d w s * s.speed)
    obtain ⟨N9, k9⟩ : ∃ N, ∀ n, N ≤ n → ∀ g ∈ d.guards, ∀ (ob : Nat → Option AObj) (fz : Nat → Nat), callV (evF E n) Id.wear_Box_has [.agg g.box.c, .agg s.c] ob fz = some (.fzd fz (.one (.bool (hasBx g.box s)))) := by
      have hg := fun g hg => (hd.sm.gs g hg).box
      revert hg
      generalize d.guards = l
      intro hg
      induction l with
      | nil => exact ⟨0, fun _ _ _ h => by simp at h⟩
      | cons c r ih =>
        obtain ⟨Na, ka⟩ := has_call c.box s (hg c (by simp)) hs
        obtain ⟨Nb, kb⟩ := ih (fun c hc => hg c (by simp [hc]))
        refine ⟨Na + Nb, fun n hn y hy => ?_⟩
        rcases List.mem_cons.1 hy with rfl | e
        · exact ka n (by omega)
        · exact kb n (by omega) y e
    have hS' : SmQ (S + 256 + 1) (stepW d w s).m := by
      unfold stepW
      cases stopW d w s
      · exact sr2
      · exact SmQ.mono SmQ.zero (by omega)
    obtain ⟨N10, k10⟩ := walk_loop d hd I fz T hSm r (pre ++ [s]) (stepW d w s) (rawM d w s) (S + 256 + 1) (rawM_mq d w s) hS' (by omega) (by omega) hph' (fun k => by
      have h1 := seeW_le d.guards w.ph w.cnt s k
      have h2 := hcnt k
      show (seeW d.guards w.ph w.cnt s).2 k + r.length < 2 ^ 40
      omega) (fun t ht => hss t (by simp [ht])) (by simpa using hlen)
    refine ⟨N1 + N2 + N3 + N4 + N5 + N6 + N7 + N8 + N9 + N10 + n0 + d.guards.length + 3, fun n hn ob nx es clk out X hb od ow oi hr om hx hout M hM => ?_⟩
    obtain ⟨M, rfl⟩ : ∃ k, M = k + 1 := ⟨M - 1, by simp at hM; omega⟩
    have hM' : r.length < M := by simp only [List.length_cons] at hM; omega
    have k1 := k1 n (by omega)
    have k2 := k2 n (by omega)
    have k3 := k3 n (by omega)
    have k4 := k4 n (by omega)
    have k5 := k5 n (by omega)
    have k6 := k6 n (by omega)
    have k7 := k7 n (by omega)
    have k8 := k8 n (by omega)
    have k10 := k10 n (by omega)
    obtain ⟨n, rfl⟩ : ∃ m, n = m + 1 := ⟨n - 1, by omega⟩
    have k9 := k9 n (by omega)
    obtain ⟨m1, m2, m3, hmc⟩ := hm.cells
    rw [hmc] at k2 k3 om
    obtain ⟨t1, t2, t3, -, hdc⟩ := dev_cells d
    have gs : (pre ++ s :: r)[pre.length]? = some s := by simp
    have I' := I
    obtain ⟨jd, jw, ji, jm, jdw, jdi, jdm, jwi, jwm, jim, od', ow', oi', om', jo⟩ := I'
    have hlt : (((pre.length : Nat) : Int) < (((pre ++ s :: r).length : Nat) : Int)) = True := by simp; omega
    have hA : evC (evF E (n + 1)) (n + 1) wkA ⟨env ((0, .one (.yld lid)) :: (1, .one (.box bd 0)) :: (4, .one (.box bw 0)) :: (5, .one (.box bm 0)) :: (13, .one (.sl false ((pre ++ s :: r).map Samp.c))) :: (14, .one (.int .i64 ((pre ++ s :: r).length : Int))) :: (15, .one (.int .i64 (pre.length : Int))) :: X), ob, fz, nx⟩ = some (.nrm, ⟨env [(0, .one (.yld lid)), (1, .one (.box bd 0)), (4, .one (.box bw 0)), (5, .one (.box bm 0)), (13, .one (.sl false ((pre ++ s :: r).map Samp.c))), (14, .one (.int .i64 ((pre ++ s :: r).length : Int))), (15, .one (.int .i64 (pre.length : Int))), (16, .one (.bool true))], ob, fz, nx⟩) := by
      unfold wkA Fn.wear_Device_walk_1_L0
      simp only [go_sem, hlt]
    have hC : evC (evF E (n + 1)) (n + 1) wkC ⟨env [(0, .one (.yld lid)), (1, .one (.box bd 0)), (4, .one (.box bw 0)), (5, .one (.box bm 0)), (13, .one (.sl false ((pre ++ s :: r).map Samp.c))), (14, .one (.int .i64 ((pre ++ s :: r).length : Int))), (15, .one (.int .i64 (pre.length : Int))), (16, .one (.bool true))], ob, fz, nx⟩ = some (.nrm, ⟨env [(0, .one (.yld lid)), (1, .one (.box bd 0)), (4, .one (.box bw 0)), (5, .one (.box bm 0)), (13, .one (.sl false ((pre ++ s :: r).map Samp.c))), (14, .one (.int .i64 ((pre ++ s :: r).length : Int))), (15, .one (.int .i64 (pre.length : Int))), (16, .one (.bool true))], ob, fz, nx⟩) := by
      unfold wkC Fn.wear_Device_walk_1_L0
      simp only [go_sem]
    have h1 := piece1 (n := n + 1) (fz := fz) (ob := ob) (nx := nx) (i := pre.length) (.one (.yld lid)) (.one (.box bd 0)) (.one (.box bw 0)) (.one (.box bm 0)) (pre ++ s :: r) s gs [(16, .one (.bool true))]
    have f1 : ∀ id, id < nx → upd ob (nx + 2) (.box s.c) id = ob id := fun id h => upd_ne (by omega)
    rw [hdc, List.cons_append, List.cons_append, List.cons_append, List.cons_append, List.cons_append, List.cons_append, List.nil_append] at ow
    obtain ⟨ob2, nx2, es2, clk2, hsee, b1, b2, b3, b4, b5⟩ := see_ref (n := n) (fz := fz) (nx := nx + 4) (ob := upd ob (nx + 2) (.box s.c)) d.guards s hd.sm.gl (by omega) jwi k9 (by omega) (by omega) ((f1 bw (by omega)).trans ow) ((f1 mid (by omega)).trans oi) hr (fun k => by have := hcnt k; omega)
    have o7 : ob2 (nx + 2) = some (.box s.c) := (b5 (nx + 2) (by omega) (by omega) (by omega)).trans (upd_same _ _ _)
    have f2 : ∀ id, id < nx → id ≠ bw → id ≠ mid → ob2 id = ob id := fun id h h1 h2 => (b5 id (by omega) h1 h2).trans (f1 id h)
    have h2 := piece2 (n := n + 1) (fz := fz) (ob := upd ob (nx + 2) (.box s.c)) (nx := nx + 4) (bw := bw) (b7 := nx + 2) (.one (.yld lid)) (.one (.box bd 0)) (.one (.box bm 0)) (.one (.sl false ((pre ++ s :: r).map Samp.c))) (.one (.int .i64 ((pre ++ s :: r).length : Int))) (.one (.int .i64 (pre.length : Int))) s (upd_same _ _ _) ob2 nx2 hsee
    have od2 : ob2 bd = _ := (f2 bd (by omega) jdw jdi).trans (od.trans (by rw [hdc]))
    have h3 := piece3 (n := n + 1) (fz := fz) (ob := ob2) (nx := nx2) (bd := bd) (bw := bw) (b7 := nx + 2) (.one (.yld lid)) (.one (.box bm 0)) (.one (.sl false ((pre ++ s :: r).map Samp.c))) (.one (.int .i64 ((pre ++ s :: r).length : Int))) (.one (.int .i64 (pre.length : Int))) d.limits _ gl (by omega) (by omega) od2 b2
    have f3 : ∀ (y : AObj) id, id < nx2 → upd ob2 (nx2 + 8) y id = ob2 id := fun y id h => upd_ne (by omega)
    have om2 : ob2 bm = _ := (f2 bm (by omega) (Ne.symm jwm) (Ne.symm jim)).trans om
    have h4 := piece4 (n := n + 1) (fz := fz) (ob := upd ob2 (nx2 + 8) (.box (ptAt d.limits (seeW d.guards w.ph w.cnt s).1).c)) (nx := nx2 + 10) (bd := bd) (bw := bw) (bm := bm) (b7 := nx + 2) (b8 := nx2 + 8) (.one (.yld lid)) (.one (.sl false ((pre ++ s :: r).map Samp.c))) (.one (.int .i64 ((pre ++ s :: r).length : Int))) (.one (.int .i64 (pre.length : Int))) d.curves _ s _ _ _ _ _ gc (by omega) (by omega) (by omega) (by omega) (by omega) ((f3 _ bd (by omega)).trans od2) ((f3 _ bw (by omega)).trans b2) ((f3 _ bm (by omega)).trans om2) ((f3 _ (nx + 2) (by omega)).trans o7) (upd_same _ _ _) k1 k2 k3 k4
    have h5 := piece5 (n := n + 1) (fz := fz) (ob := upd (upd ob2 (nx2 + 8) (.box (ptAt d.limits (seeW d.guards w.ph w.cnt s).1).c)) bm (.box (qC _))) (nx := nx2 + 10) (bm := bm) (b8 := nx2 + 8) (.one (.yld lid)) (.one (.box bd 0)) (.one (.box bw 0)) (.one (.box (nx + 2) 0)) (.one (.sl false ((pre ++ s :: r).map Samp.c))) (.one (.int .i64 ((pre ++ s :: r).length : Int))) (.one (.int .i64 (pre.length : Int))) _ _ (momW d w s) (by omega) (by omega) (upd_same _ _ _) (by rw [upd_ne (by omega)]; exact upd_same _ _ _) k5 k6
    obtain ⟨ob5, hob5⟩ : ∃ o, o = upd (upd ob2 (nx2 + 8) (.box (ptAt d.limits (seeW d.guards w.ph w.cnt s).1).c)) bm (.box (qC (momW d w s))) := ⟨_, rfl⟩
    rw [upd_upd, ← hob5] at h5
    have f5 : ∀ id, id < nx2 → id ≠ bm → ob5 id = ob2 id := fun id h h1 => by rw [hob5, upd_ne h1]; exact f3 _ id h
    have om5 : ob5 bm = some (.box (qC (momW d w s))) := by rw [hob5]; exact upd_same _ _ _
    obtain ⟨X6, h6⟩ := piece6 (n := n + 1) (fz := fz) (ob := ob5) (nx := nx2 + 10) (bw := bw) (bm := bm) (b7 := nx + 2) (.one (.yld lid)) (.one (.box bd 0)) (.one (.sl false ((pre ++ s :: r).map Samp.c))) (.one (.int .i64 ((pre ++ s :: r).length : Int))) (.one (.int .i64 (pre.length : Int))) s (momW d w s) ((f5 bw (by omega) jwm).trans b2) om5 ((f5 (nx + 2) (by omega) (by omega)).trans o7) k7 k8
    obtain ⟨ob6, hob6⟩ : ∃ o, o = (bif stopB (seeW d.guards w.ph w.cnt s).1 (momW d w s) s.speed then upd ob5 bm (.box [.bool false, .nils, .nils]) else ob5) := ⟨_, rfl⟩
    rw [← hob6] at h6
    have f6 : ∀ id, id < nx2 → id ≠ bm → ob6 id = ob2 id := fun id h h1 => by
      rw [hob6]
      cases stopB (seeW d.guards w.ph w.cnt s).1 (momW d w s) s.speed
      · exact f5 id h h1
      · rw [cond_true, upd_ne h1]; exact f5 id h h1
    have om6 : ob6 bm = some (.box (rawM d w s)) := by
      rw [hob6]
      unfold rawM stopW
      cases stopB (seeW d.guards w.ph w.cnt s).1 (momW d w s) s.speed
      · exact om5
      · exact upd_same _ _ _
    obtain ⟨r1, r2, r3, hrm⟩ := (rawM_mq d w s).cells
    have f6' : ∀ id, id < nx → id ≠ bw → id ≠ mid → id ≠ bm → ob6 id = ob id := fun id h h1 h2 h3 => (f6 id (by omega) h3).trans (f2 id h h1 h2)
    have hx6 := T.frame ob ob6 nx (nx2 + 10) out hx (by omega) fun id hid => by
      rcases hid with h | ⟨h, h'⟩
      · have := jo id h
        exact f6' id (by omega) (fun e => ow' (e ▸ h)) (fun e => oi' (e ▸ h)) (fun e => om' (e ▸ h))
      · exact f6' id h' (by omega) (by omega) (by omega)
    obtain ⟨ob7, nx7, hrnd, c1, c2, c5⟩ := T.step n (by omega) w s ob6 (nx2 + 10) out hx6 (by omega) (by rw [hout]; simp at hlen; omega) hs hph' (SmQ.mono hS' (by omega))
    have e : rawA d w s = [.int .u8 ((seeW d.guards w.ph w.cnt s).1 : Int), r1, r2, r3] := by unfold rawA; rw [hrm]; rfl
    rw [e] at hrnd
    rw [hrm] at om6
    obtain ⟨X7, h7⟩ := piece7 (n := n + 1) (fz := fz) (ob := ob6) (nx := nx2 + 10) (lid := lid) (bw := bw) (bm := bm) (b7 := nx + 2) (.one (.box bd 0)) (.one (.sl false ((pre ++ s :: r).map Samp.c))) (.one (.int .i64 ((pre ++ s :: r).length : Int))) (.one (.int .i64 (pre.length : Int))) s (by omega) (by omega) (by omega) ((f6 bw (by omega) jwm).trans b2) om6 ((f6 (nx + 2) (by omega) (by omega)).trans o7) ob7 nx7 hrnd X6
    have wk : IntKind.i64.wrap ((pre.length + 1 : Nat) : Int) = ((pre.length + 1 : Nat) : Int) := wi64 (by simp at hlen; omega)
    have hI : evC (evF E (n + 1)) (n + 1) wkI ⟨env ((0, .one (.yld lid)) :: (1, .one (.box bd 0)) :: (4, .one (.box bw 0)) :: (5, .one (.box bm 0)) :: (13, .one (.sl false ((pre ++ s :: r).map Samp.c))) :: (14, .one (.int .i64 ((pre ++ s :: r).length : Int))) :: (15, .one (.int .i64 (pre.length : Int))) :: X7), ob7, fz, nx7⟩ = some (.nrm, ⟨env [(0, .one (.yld lid)), (1, .one (.box bd 0)), (4, .one (.box bw 0)), (5, .one (.box bm 0)), (13, .one (.sl false ((pre ++ s :: r).map Samp.c))), (14, .one (.int .i64 ((pre ++ s :: r).length : Int))), (15, .one (.int .i64 ((pre.length + 1 : Nat) : Int)))], ob7, fz, nx7⟩) := by
      unfold wkI Fn.wear_Device_walk_1_L0
      simp only [go_sem, add1, wk]
    have hst : evC (evF E (n + 1)) (n + 1) Fn.wear_Device_walk_1_L0 ⟨env ((0, .one (.yld lid)) :: (1, .one (.box bd 0)) :: (4, .one (.box bw 0)) :: (5, .one (.box bm 0)) :: (13, .one (.sl false ((pre ++ s :: r).map Samp.c))) :: (14, .one (.int .i64 ((pre ++ s :: r).length : Int))) :: (15, .one (.int .i64 (pre.length : Int))) :: X), ob, fz, nx⟩ = some (.nrm, ⟨env [(0, .one (.yld lid)), (1, .one (.box bd 0)), (4, .one (.box bw 0)), (5, .one (.box bm 0)), (13, .one (.sl false ((pre ++ s :: r).map Samp.c))), (14, .one (.int .i64 ((pre ++ s :: r).length : Int))), (15, .one (.int .i64 ((pre.length + 1 : Nat) : Int)))], ob7, fz, nx7⟩) := by
      rw [wk_eq]
      simp only [x_seq, hA, thenC_nrm, hC, x_block, h1, h2, h3, h4, h5, h6, h7, blkC_nrm, hI]
    have hpl : (pre ++ [s]).length = pre.length + 1 := by simp
    have hpa : pre ++ [s] ++ r = pre ++ s :: r := by simp
    rw [hpa, hpl] at k10
    obtain ⟨ob8, nx8, X8, g1, g2, g5⟩ := k10 ob7 nx7 es2 clk2 (out ++ [(w, s)]) [] (by omega) (by
      rw [c5 bd jd od', f6' bd (by omega) jdw jdi jdm, od]) (by
      rw [c5 bw jw ow', f6 bw (by omega) jwm, b2, hdc]; rfl) (by
      rw [c5 mid ji oi', f6 mid (by omega) jim]; exact b3) b4 (by
      rw [c5 bm jm om', om6, hrm]) c2 (by simp [hout]) M hM'
    refine ⟨ob8, nx8, X8, by rw [round_nrm hst]; exact g1, by omega, ?_⟩
    unfold stepsW
    simpa using g5
end Go.Ev
namespace Go.Ev
open Go.Dig
theorem OutB.shut {base nx : Nat} {ob0 ob : Nat → Option AObj} {x : AV} {es : List (List AV)} (h : OutB base ob nx x es) : OutB base (shut ob0 ob) nx x es := by
  rcases h with h | ⟨id, ver, h1, h2, h3, h4⟩
  · exact .inl h
  · exact .inr ⟨id, ver, h1, shut_rowk h2, h3, h4⟩
def w0 : WSt := ⟨0, fun _ => 0, 0⟩
set_option maxRecDepth 100000 in
theorem walk1_ref (d : Dev) (hd : OkDev d) (l : List Samp) (hl : l.length < 2 ^ 20) (hs : ∀ s ∈ l, SmSamp s) {n0 : Nat} {Own : Nat → Prop} {Acc : (Nat → Option AObj) → Nat → List (WSt × Samp) → Prop} (lid bd bl nx : Nat) (fz : Nat → Nat) (T : Taker d n0 (nx + 6) lid (2 ^ 29) fz Own Acc) (hO : ∀ id, Own id → id < nx) (hbd : ¬ Own bd) (h2 : bd < nx) (h3 : bl < nx) : ∃ N, ∀ n, N ≤ n → ∀ (ob : Nat → Option AObj), ob bd = some (.box d.c) → ob bl = some (.box [.sl false (l.map Samp.c)]) → Acc ob nx [] →
    ∃ (ob' : Nat → Option AObj) (nx' : Nat), evF E (n + 1) (.fn Id.wear_Device_walk_1) [.one (.yld lid), .one (.box bd 0), .one (.box bl 0)] ⟨ob, fz, nx⟩ = some (.tup [], ⟨Ev.shut ob ob', fz, nx'⟩) ∧ nx ≤ nx' ∧ Acc ob' nx' (stepsW d w0 l) := by
  have hp : 257 * (2 ^ 20) + 2571 ≤ 2 ^ 29 := by decide
  have hn : ∀ k, ¬ Own (nx + k) := fun k h => by have := hO _ h; omega
  obtain ⟨N, h⟩ := walk_loop d hd (bd := bd) (bw := nx + 3) (mid := nx + 1) (bm := nx + 5) (base := nx + 6) ⟨by omega, by omega, by omega, by omega, by omega, by omega, by omega, by omega, by omega, by omega, hbd, hn 3, hn 1, hn 5, fun id h => by have := hO _ h; omega⟩ fz T (Nat.le_refl _) l [] w0 [.bool false, .nils, .nils] 2571 (.inr ⟨rfl, rfl⟩) (SmQ.mono SmQ.zero (by omega)) (Nat.le_refl _) (by omega) (by decide) (fun k => by
    show 0 + l.length < 2 ^ 40
    exact Nat.lt_trans (by omega) (show 2 ^ 20 < 2 ^ 40 by decide)) hs (by simpa using hl)
  refine ⟨N + l.length + 1, fun n hn ob od ol hA => ?_⟩
  obtain ⟨t1, t2, t3, -, hdc⟩ := dev_cells d
  have n2 : ∀ k, (bd = nx + k) = False := fun k => by simp only [eq_iff_iff, iff_false]; omega
  have n3 : ∀ k, (bl = nx + k) = False := fun k => by simp only [eq_iff_iff, iff_false]; omega
  obtain ⟨ob1, hob1⟩ : ∃ o, o = upd (upd (upd ob (nx + 1) (.map [] 0)) (nx + 3) (.box (d.c ++ [.int .u8 0, .mp (nx + 1)]))) (nx + 5) (.box [.bool false, .nils, .nils]) := ⟨_, rfl⟩
  have f1 : ∀ id, id < nx → ob1 id = ob id := fun id hi => by rw [hob1, upd_ne (by omega), upd_ne (by omega), upd_ne (by omega)]
  obtain ⟨ob', nx', X', g1, g2, g5⟩ := h n (by omega) ob1 (nx + 6) [] 0 [] [] (Nat.le_refl _) ((f1 bd h2).trans od) (by rw [hob1, upd_ne (by omega)]; exact upd_same _ _ _) (by rw [hob1, upd_ne (by omega), upd_ne (by omega)]; exact upd_same _ _ _) Rep.nil (by rw [hob1]; exact upd_same _ _ _) (T.frame ob ob1 nx (nx + 6) [] hA (by omega) fun id hid => by
      rcases hid with h | h
      · exact f1 id (hO id h)
      · omega) rfl n (by omega)
  refine ⟨ob', nx', ?_, by omega, g5⟩
  rw [hob1] at g1
  rw [List.nil_append] at g1
  have z0 : (([] : List Samp).length : Int) = 0 := rfl
  rw [z0] at g1
  rw [hdc] at od g1
  simp only [List.cons_append, List.nil_append] at g1
  rw [evF_succ E_wear_Device_walk_1]
  have hlm : (l.map Samp.c).length = l.length := List.length_map _
  simp only [go_sem, Fn.wear_Device_walk_1, od, ol, n2, n3, hlm, Nat.add_assoc, g1]
theorem evC_rangeF {F : Caller} {fuel : Nat} {g : Opd} {ps : List Nat} {asg body : ACode} {st : St} {f : FuncId} {first caps : List AV} {r : SV} {s : Sto} {l : ALoop} (hg : g.ev st.sl = .one (.fn f first caps)) (hc : F (.fn f) (first.map .one ++ [.one (.yld (st.nx + 1))] ++ caps.map .one) ⟨upd (upd st.ob st.nx .dfr) (st.nx + 1) (.loop ⟨st.sl, ps, asg, body, .ready, none⟩), st.fz, st.nx + 2⟩ = some (r, s)) (hl : s.ob (st.nx + 1) = some (.loop l)) (hb : l.st = .ready) :
    evC F fuel (.rangeF g ps asg body) st = some (l.pend.getD .nrm, ⟨st.sl, upd s.ob (st.nx + 1) (.loop { l with st := .exhausted }), s.fz, s.nx⟩) := by
  simp only [evC, hg, hc, hl, hb]
theorem walk_ref {n : Nat} (d : Dev) (l : List Samp) (ob : Nat → Option AObj) (fz : Nat → Nat) (nx : Nat) : evF E (n + 1) (.fn Id.wear_Device_walk) [.agg d.c, .one (.sl false (l.map Samp.c))] ⟨ob, fz, nx⟩ = some (.one (.fn Id.wear_Device_walk_1 [] [.box nx 0, .box (nx + 1) 0]), ⟨shut ob (upd (upd ob nx (.box d.c)) (nx + 1) (.box [.sl false (l.map Samp.c)])), fz, nx + 3⟩) := by
  rw [evF_succ E_wear_Device_walk]
  obtain ⟨t1, t2, t3, -, hdc⟩ := dev_cells d
  rw [hdc]
  simp only [go_sem, Fn.wear_Device_walk, List.mapM_cons, List.mapM_nil, Option.bind_eq_bind, Option.bind_some, Option.pure_def, SV.av]
theorem OutB.frzR {base nx : Nat} {ob : Nat → Option AObj} {x : AV} {es fs : List (List AV)} (h : OutB base ob nx x es) (hf : ∀ fz, mapFz (mapFz (Ev.frz ob 7)) fz es = some (fz, fs)) (hl : es = [] → fs = []) : ∃ g : (Nat → Nat) → (Nat → Nat), ∀ fz, frzS ob fz (.one x) = some (g fz, .one (.sl false fs)) := by
  rcases h with ⟨h1, rfl⟩ | ⟨id, ver, rfl, hid, _⟩
  · exact ⟨fun fz => fz, fun fz => by rw [hl h1]; rfl⟩
  · refine ⟨fun fz => raise fz id (0 + es.length), fun fz => ?_⟩
    have hb : Nat.ble (0 + es.length) es.length = true := by simp
    have h1 : Ev.frz ob DEPTH fz (.rsl id ver 4 0 es.length false) = some (raise fz id (0 + es.length), .sl false fs) := by
      rw [show DEPTH = 7 + 1 from rfl, frz_rsl, rowAt_of hid]
      simp only [hb, cond_true, List.drop_zero, List.take_length, hf]
    simp only [frzS, h1]
theorem mayI_ok {d : Dev} {l : List Samp} (h : mayI d l = 0) : rightD d = true := by
  unfold mayI errD at h
  by_cases hr : rightD d = true
  · exact hr
  · rw [if_neg hr] at h; simp at h
end Go.Ev
namespace Go.Ev
def CLe (F F' : Caller) : Prop := ∀ c args s r, F c args s = some r → F' c args s = some r
theorem callV_mono {F F' : Caller} (h : CLe F F') {f : FuncId} {args : List SV} {ob : Nat → Option AObj} {fz : Nat → Nat} {e : Eff} (he : callV F f args ob fz = some e) : callV F' f args ob fz = some e := by
  unfold callV at he ⊢
  cases h1 : mapFz (frzS ob) fz args with
  | none => rw [h1] at he; cases he
  | some p =>
    obtain ⟨fz', args'⟩ := p
    rw [h1] at he
    simp only at he ⊢
    cases h2 : F (.fn f) args' Sto.empty with
    | none => rw [h2] at he; cases he
    | some q =>
      rw [h _ _ _ _ h2]
      rw [h2] at he
      exact he
theorem evOp_mono {F F' : Caller} (h : CLe F F') {d : Bool} {rb id : Nat} {st : St} {o : AOp} {e : Eff} (he : evOp F d rb id st o = some e) : evOp F' d rb id st o = some e := by
  cases o with
  | call byref f args =>
    simp only [evOp] at he ⊢
    cases byref with
    | true =>
      simp only [cond_true] at he ⊢
      cases h2 : F (.fn f) (args.map (·.ev st.sl)) ⟨st.ob, st.fz, st.nx⟩ with
      | none => rw [h2] at he; cases he
      | some q => rw [h _ _ _ _ h2]; rw [h2] at he; exact he
    | false => exact callV_mono h he
  | callv x args =>
    simp only [evOp] at he ⊢
    split at he
    · exact callV_mono h he
    · rename_i f first caps hne hx
      cases h2 : F (.fn f) (first.map .one ++ args.map (·.ev st.sl) ++ caps.map .one) ⟨st.ob, st.fz, st.nx⟩ with
      | none => rw [h2] at he; cases he
      | some q => rw [h _ _ _ _ h2]; rw [h2] at he; exact he
    · rename_i l hx
      cases h2 : F (.rnd l) (args.map (·.ev st.sl)) ⟨st.ob, st.fz, st.nx⟩ with
      | none => rw [h2] at he; cases he
      | some q => rw [h _ _ _ _ h2]; rw [h2] at he; exact he
    · cases he
  | _ => exact he
theorem evO_mono {F F' : Caller} (h : CLe F F') {d : Bool} {rb i : Nat} {st st' : St} {o : AOper} (he : evO F d rb i o st = some st') : evO F' d rb i o st = some st' := by
  unfold evO at he ⊢
  split at he
  · cases hl : limOk st.sl o.op o.lim with
    | false => rw [hl] at he; cases he
    | true =>
      rw [hl] at he
      simp only [cond_true] at he ⊢
      cases h2 : evOp F d rb (rb + i) st o.op with
      | none => rw [h2] at he; cases he
      | some q => rw [evOp_mono h h2]; rw [h2] at he; exact he
  · exact he
  · cases he
theorem evOps_mono {F F' : Caller} (h : CLe F F') {d : Bool} {rb : Nat} : ∀ {ops : List AOper} {i : Nat} {st st' : St}, evOps F d rb i ops st = some st' → evOps F' d rb i ops st = some st'
  | [], i, st, st', he => he
  | o :: r, i, st, st', he => by
    unfold evOps at he ⊢
    cases h2 : evO F d rb i o st with
    | none => rw [h2] at he; cases he
    | some q => rw [evO_mono h h2]; rw [h2] at he; exact evOps_mono h he
theorem loopN_mono {b b' : St → Option (Ex × St)} (h : ∀ st r, b st = some r → b' st = some r) : ∀ {k k' : Nat} {st : St} {r : Ex × St}, k ≤ k' → loopN b k st = some r → loopN b' k' st = some r
  | 0, k', st, r, hk, he => by cases he
  | k + 1, 0, st, r, hk, he => by omega
  | k + 1, k' + 1, st, r, hk, he => by
    unfold loopN at he ⊢
    cases h2 : b st with
    | none => rw [h2] at he; cases he
    | some q =>
      rw [h _ _ h2]
      rw [h2] at he
      obtain ⟨e, st'⟩ := q
      cases e with
      | nrm => exact loopN_mono h (by omega) he
      | ext id => exact he
      | ret => exact he
theorem evC_mono {F F' : Caller} (h : CLe F F') {fuel fuel' : Nat} (hf : fuel ≤ fuel') : ∀ (a : ACode) {st : St} {r : Ex × St}, evC F fuel a st = some r → evC F' fuel' a st = some r
  | .skip, st, r, he => he
  | .reg d ops na ks, st, r, he => by
    unfold evC at he ⊢
    cases h2 : evOps F d st.nx 0 ops { st with nx := st.nx + na } with
    | none => rw [h2] at he; cases he
    | some q => rw [evOps_mono h h2]; rw [h2] at he; exact he
  | .seq a b, st, r, he => by
    unfold evC at he ⊢
    cases h2 : evC F fuel a st with
    | none => rw [h2] at he; cases he
    | some q =>
      rw [evC_mono h hf a h2]
      rw [h2] at he
      obtain ⟨e, st'⟩ := q
      cases e with
      | nrm => exact evC_mono h hf b he
      | ext id => exact he
      | ret => exact he
  | .cond c a b, st, r, he => by
    unfold evC at he ⊢
    cases h2 : isBool (c.ev st.sl) with
    | none => rw [h2] at he; cases he
    | some t =>
      rw [h2] at he
      cases t with
      | true => exact evC_mono h hf a he
      | false => exact evC_mono h hf b he
  | .block id a, st, r, he => by
    unfold evC at he ⊢
    cases h2 : evC F fuel a st with
    | none => rw [h2] at he; cases he
    | some q => rw [evC_mono h hf a h2]; rw [h2] at he; exact he
  | .loop a, st, r, he => by
    unfold evC at he ⊢
    exact loopN_mono (fun st r hr => evC_mono h hf a hr) hf he
  | .exit id, st, r, he => he
  | .ret, st, r, he => he
  | .rangeF g ps asg body, st, r, he => by
    unfold evC at he ⊢
    split at he
    · rename_i f first caps hg
      cases h2 : F (.fn f) (first.map .one ++ [.one (.yld (st.nx + 1))] ++ caps.map .one) ⟨upd (upd st.ob st.nx .dfr) (st.nx + 1) (.loop ⟨st.sl, ps, asg, body, .ready, none⟩), st.fz, st.nx + 2⟩ with
      | none => rw [h2] at he; cases he
      | some q => rw [h _ _ _ _ h2]; rw [h2] at he; exact he
    · cases he
theorem evF_step (E : Env) : ∀ n, CLe (evF E n) (evF E (n + 1))
  | 0 => fun c args s r h => by cases c <;> cases h
  | n + 1 => fun c args s r h => by
    have ih := evF_step E n
    have hC : ∀ (a : ACode) (st : St) (r : Ex × St), evC (evF E n) n a st = some r → evC (evF E (n + 1)) (n + 1) a st = some r := fun a st r hr => evC_mono ih (Nat.le_succ n) a hr
    cases c with
    | fn f =>
      rw [evF] at h ⊢
      cases hE : E f with
      | none => rw [hE] at h; cases h
      | some fn =>
        rw [hE] at h
        simp only at h ⊢
        cases h2 : evC (evF E n) n fn.code { sl := env (ofArgs 0 args), ob := s.ob, fz := s.fz, nx := s.nx } with
        | none => rw [h2] at h; cases h
        | some q => rw [hC _ _ _ h2]; rw [h2] at h; exact h
    | rnd l =>
      rw [evF] at h ⊢
      split at h
      · rename_i lr hl
        cases hb : (Nat.beq args.length lr.ps.length && naOk lr.asg && naOk lr.body) with
        | false => rw [hb] at h; cases h
        | true =>
          rw [hb] at h
          simp only [cond_true] at h ⊢
          cases h2 : evC (evF E n) n lr.asg { sl := setPs lr.ps args lr.sl, ob := s.ob, fz := s.fz, nx := s.nx } with
          | none => rw [h2] at h; cases h
          | some q =>
            rw [hC _ _ _ h2]
            rw [h2] at h
            obtain ⟨e, st⟩ := q
            cases e with
            | ext id => cases h
            | ret => cases h
            | nrm =>
              simp only at h ⊢
              split at h
              · rename_i r1 hr1
                split at h
                · rename_i hst
                  cases h3 : evC (evF E n) n lr.body { st with ob := upd st.ob l (.loop { r1 with st := .busy }) } with
                  | none => rw [h3] at h; cases h
                  | some q => rw [hC _ _ _ h3]; rw [h3] at h; exact h
                · cases h
              · cases h
      · cases h
theorem evF_mono (E : Env) {n m : Nat} (h : n ≤ m) : CLe (evF E n) (evF E m) := by
  induction h with
  | refl => exact fun c args s r h => h
  | step _ ih => exact fun c args s r h => evF_step E _ c args s r (ih c args s r h)
theorem evV_mono {E : Env} {n m : Nat} (h : n ≤ m) {f : FuncId} {args : List SV} {r : SV} (he : evV E n f args = some r) : evV E m f args = some r := by
  unfold evV at he ⊢
  cases h2 : evF E n (.fn f) args Sto.empty with
  | none => rw [h2] at he; cases he
  | some q => rw [evF_mono E h _ _ _ _ h2]; rw [h2] at he; exact he
end Go.Ev
namespace Go.Ev
open Go.Dig
theorem Leg.sm (g : Leg) (h1 : g.gates.length < 2 ^ 20) (h2 : g.curves.length < 2 ^ 20) (h2' : ∀ c ∈ g.curves, c.length < 2 ^ 20) (h3 : g.limits.length < 2 ^ 20) (hg : ∀ x ∈ g.gates, x.from_ < 256 ∧ x.to < 256) : SmDev g.d := by
  refine ⟨fun x hx => ?_, fun c hc p hp => ?_, fun p hp => ?_, Num.qS _, by unfold Leg.d; simpa using h1, by unfold Leg.d; simpa using h2, fun c hc => ?_, by unfold Leg.d; simpa using h3⟩
  · obtain ⟨y, hy, rfl⟩ := List.mem_map.1 hx
    exact ⟨⟨Beat.sm _, Beat.sm _⟩, (hg y hy).1, (hg y hy).2⟩
  · obtain ⟨y, hy, rfl⟩ := List.mem_map.1 hc
    obtain ⟨z, hz, rfl⟩ := List.mem_map.1 hp
    exact ⟨Num.qS _, Num.qS _⟩
  · obtain ⟨z, hz, rfl⟩ := List.mem_map.1 hp
    exact ⟨Num.qS _, Num.qS _⟩
  · obtain ⟨y, hy, rfl⟩ := List.mem_map.1 hc
    simpa using h2' y hy
theorem mayI_eq {d : Dev} {l : List Samp} (h : errD d = 0) (hl : l.length ≤ 1024) : mayI d l = 0 := by
  unfold mayI; rw [if_pos h, if_pos hl]
end Go.Ev
namespace Go.Ev
theorem cmpZ_gt (a b : Int) : (cmpZ a b > 0) = (b < a) := by
  unfold cmpZ; rw [eq_iff_iff]; (repeat split) <;> omega
theorem cmpZ_lt (a b : Int) : (cmpZ a b < 0) = (a < b) := by
  unfold cmpZ; rw [eq_iff_iff]; (repeat split) <;> omega
theorem cmpQ_gt (a b : Rat) : (cmpQ a b > 0) = (b < a) := by
  unfold cmpQ; rw [cmpZ_gt, Rat.lt_iff]
theorem cmpQ_lt (a b : Rat) : (cmpQ a b < 0) = (a < b) := by
  unfold cmpQ; rw [cmpZ_lt, Rat.lt_iff]
theorem cmpQ_ge (a b : Rat) : (cmpQ a b ≥ 0) = (b ≤ a) := by
  have h := cmpQ_lt a b
  rw [eq_iff_iff] at h ⊢
  rw [← Rat.not_lt, ← h]; omega
theorem cmpQ_le (a b : Rat) : (cmpQ a b ≤ 0) = (a ≤ b) := by
  have h := cmpQ_gt a b
  rw [eq_iff_iff] at h ⊢
  rw [← Rat.not_lt, ← h]; omega
theorem minQ_eq (a b : Rat) : minQ a b = if b < a then b else a := by
  unfold minQ; simp only [cmpQ_lt]
theorem maxQ_eq (a b : Rat) : maxQ a b = if a < b then b else a := by
  unfold maxQ; simp only [cmpQ_gt]
end Go.Ev
namespace Go.Ev
open Go.Dig
def FzS (x y : SV) : Prop := ∀ (ob : Nat → Option AObj) (fz : Nat → Nat), frzS ob fz x = some (fz, y)
theorem FzS.one {x y : SV} (h : FzS x y) : ∀ (ob : Nat → Option AObj) (fz : Nat → Nat), mapFz (frzS ob) fz [x] = some (fz, [y]) := fun ob fz => by simp only [mapFz, h ob fz]
theorem FzS.two {x y x' y' : SV} (h : FzS x y) (h' : FzS x' y') : ∀ (ob : Nat → Option AObj) (fz : Nat → Nat), mapFz (frzS ob) fz [x, x'] = some (fz, [y, y']) := fun ob fz => by simp only [mapFz, h ob fz, h' ob fz]
theorem FzS.three {x y x' y' x2 y2 : SV} (h : FzS x y) (h' : FzS x' y') (h2 : FzS x2 y2) : ∀ (ob : Nat → Option AObj) (fz : Nat → Nat), mapFz (frzS ob) fz [x, x', x2] = some (fz, [y, y', y2]) := fun ob fz => by simp only [mapFz, h ob fz, h' ob fz, h2 ob fz]
end Go.Ev
namespace Go.Ev
open Go.Dig
def Z0 (S : List (Bx × Bool)) : Prop := ∀ q ∈ S, q.2 = false → q = bx0
theorem boxL_z0 : ∀ (l : List Rcd) (S : List (Bx × Bool)), Z0 S → Z0 (boxL S l)
  | [], S, h => h
  | x :: r, S, h => boxL_z0 r (boxS S x) fun q hq hk => by
    unfold boxS at hq
    rcases List.mem_or_eq_of_mem_set hq with h1 | h1
    · exact h q h1 hk
    · rw [h1] at hk; cases hk
theorem frz_z18 (ob : Nat → Option AObj) (k : Nat) (fz : Nat → Nat) : mapFz (Ev.frz ob (k + 1)) fz z18 = some (fz, bx0.1.c) := by
  unfold bx0 Bx.c Samp.c
  simp only [qC_zero]
  rfl
theorem frz_boxes (ob : Nat → Option AObj) (k : Nat) (fz : Nat → Nat) : ∀ (S : List (Bx × Bool)), Z0 S → mapFz (mapFz (Ev.frz ob (k + 1))) fz (S.map rawB) = some (fz, S.map fun q => q.1.c)
  | [], h => rfl
  | q :: r, h => by
    have h1 : mapFz (Ev.frz ob (k + 1)) fz (rawB q) = some (fz, q.1.c) := by
      unfold rawB
      cases hk : q.2 with
      | true => exact mapFz_id _ fun x hx => (CanL.bx q.1 x hx).frz ob k fz
      | false => rw [cond_false, frz_z18, h q (by simp) hk]
    simp only [List.map_cons, mapFz, h1, frz_boxes ob k fz r fun q hq => h q (by simp [hq])]
theorem frzS_rowTo {ob : Nat → Option AObj} {id ver sz z : Nat} {full : Bool} {es fs : List (List AV)} (fz : Nat → Nat) (hr : ob id = some (.row z es ver)) (hf : ∀ fz, mapFz (mapFz (Ev.frz ob 7)) fz es = some (fz, fs)) (n : Nat) (hn : n = es.length) :
    frzS ob fz (.one (.rsl id ver sz 0 n full)) = some (raise fz id n, .one (.sl false fs)) := by
  subst hn
  have hb : Nat.ble (0 + es.length) es.length = true := by simp
  have h1 : Ev.frz ob DEPTH fz (.rsl id ver sz 0 es.length full) = some (raise fz id (0 + es.length), .sl false fs) := by
    rw [show DEPTH = 7 + 1 from rfl, frz_rsl, rowAt_of hr]
    simp only [hb, cond_true, List.drop_zero, List.take_length, hf]
  rw [Nat.zero_add] at h1
  simp only [frzS, h1]
theorem canL_rawK (q : Bx × Bool) : CanL (rawK q) := .cons (.bool _) .nil
theorem canL_mixC (q : Nat × Nat) : CanL (mixC q) := .cons (.int _ _) (.cons (.int _ _) .nil)
def boxesE (l : List Rcd) : Int := if l.any badR = true then 2 else if 1024 < l.length then 5 else 0
def boxes0 : List (Bx × Bool) := List.replicate 5 bx0
def boxesF (l : List Rcd) : List (Bx × Bool) := boxL boxes0 l
def boxesA (l : List Rcd) : SV := if boxesE l = 0 then .tup [.one (.sl false ((boxesF l).map fun q => q.1.c)), .one (.sl false ((boxesF l).map rawK)), .one (.sl false ((mixL (boxesF l) 0 l).map mixC)), .one (.int .i64 0)] else .tup [.one (.sl false []), .one (.sl false []), .one (.sl false []), .one (.int .i64 (boxesE l))]
theorem boxesE_ok {l : List Rcd} (h : boxesE l = 0) : (∀ x ∈ l, x.ph < 5) ∧ l.length ≤ 1024 := by
  unfold boxesE at h
  by_cases h1 : l.any badR = true
  · rw [if_pos h1] at h; simp at h
  · rw [if_neg h1] at h
    by_cases h2 : 1024 < l.length
    · rw [if_pos h2] at h; simp at h
    · refine ⟨fun x hx => ?_, by omega⟩
      rw [Bool.not_eq_true] at h1
      have hb := List.any_eq_false.1 h1 x hx
      unfold badR at hb
      simp only [decide_eq_true_eq] at hb
      omega
set_option maxRecDepth 100000 in
theorem Boxes_ends (l : List Rcd) (hl : l.length < 2 ^ 20) (hs : ∀ x ∈ l, SmSamp x.s) : Ends Id.wear_Boxes [.one (.sl false (l.map Rcd.c))] (boxesA l) := by
  obtain ⟨N1, k1⟩ := containsRecord_call Id.wear_Boxes_1 badR l (Nat.lt_trans hl (by decide)) (calling_all (fun x : Rcd => (boxes1_ends x).call (can1' (CanL.rcd x))) l)
  unfold boxesA
  have q1 : (((l.length : Nat) : Int) > 1024) = (1024 < l.length) := by rw [eq_iff_iff]; omega
  by_cases h1 : l.any badR = true
  · have e : boxesE l = 2 := by unfold boxesE; rw [if_pos h1]
    rw [e, if_neg (by decide)]
    rw [h1] at k1
    refine .of N1 fun {n} hn => ?_
    have k1 := k1 n hn
    rw [evV_succ E_wear_Boxes]
    simp only [go_sem, Fn.wear_Boxes, k1]
  · by_cases h2 : 1024 < l.length
    · have e : boxesE l = 5 := by unfold boxesE; rw [if_neg h1, if_pos h2]
      rw [e, if_neg (by decide)]
      rw [Bool.not_eq_true] at h1
      rw [h1] at k1
      refine .of N1 fun {n} hn => ?_
      have k1 := k1 n hn
      rw [evV_succ E_wear_Boxes]
      simp only [go_sem, Fn.wear_Boxes, k1, List.length_map, q1, h2]
    · have e : boxesE l = 0 := by unfold boxesE; rw [if_neg h1, if_neg h2]
      obtain ⟨hph, -⟩ := boxesE_ok e
      rw [if_pos e]
      rw [Bool.not_eq_true] at h1
      rw [h1] at k1
      have hS0 : SmS boxes0 := fun q hq hk => by
        rw [List.eq_of_mem_replicate hq] at hk; cases hk
      have hF : (boxesF l).length = 5 := by unfold boxesF; rw [boxL_len]; rfl
      have hFs : SmS (boxesF l) := boxL_sm l boxes0 hS0 hs
      have hFz : Z0 (boxesF l) := boxL_z0 l boxes0 fun q hq _ => List.eq_of_mem_replicate hq
      obtain ⟨N2, k2⟩ := boxes_loop l [] boxes0 rfl hS0 (fun x hx => ⟨hph x hx, hs x hx⟩) (by simpa using hl)
      obtain ⟨N3, k3⟩ := mix_loop2 (boxesF l) hF hFs l [] (fun x hx => ⟨hph x hx, hs x hx⟩) (by simpa using hl)
      refine .of (N1 + N2 + N3 + l.length + 1) fun {n} hn => ?_
      have k1 := k1 n (by omega)
      have k2 := k2 n (by omega) (upd (upd ob0 0 (.row 18 [z18, z18, z18, z18, z18] 0)) 1 (.row 1 [[.bool false], [.bool false], [.bool false], [.bool false], [.bool false]] 0)) 4 (.one .nils) [] (by decide) (by rw [upd_ne (by decide)]; exact upd_same _ _ _) (upd_same _ _ _) n (by omega)
      obtain ⟨ob1, nx1, X1, g1, g2, g3, g4⟩ := k2
      obtain ⟨ob2, nx2, v2, X2, g5, g6, g7, g8, g9⟩ := k3 n (by omega) ob1 nx1 .nils [] [] (by omega) g3 g4 (.inl ⟨rfl, rfl⟩) (by simp only [List.length_nil]; omega) n (by omega)
      have z0 : (([] : List Rcd).length : Int) = 0 := rfl
      rw [List.nil_append, z0] at g1 g5
      have f1 := fun fz => frzS_rowTo (sz := 18) (full := false) fz g8 (fun fz => frz_boxes ob2 6 fz (boxesF l) hFz) 5 (by rw [List.length_map, hF])
      have f2 := fun fz => frzS_rowTo (sz := 1) (full := false) fz g9 (fun fz => (canonEs_map canL_rawK (boxesF l)).frz ob2 6 fz) 5 (by rw [List.length_map, hF])
      rw [List.nil_append] at g7
      obtain ⟨g, f3⟩ := g7.frz (canonEs_map canL_mixC (mixL (boxesF l) 0 l))
      rw [evV_succ E_wear_Boxes]
      unfold z18 at g1
      have r5 : ∀ (z : List AV), List.replicate (Int.toNat 5) z = [z, z, z, z, z] := fun z => rfl
      simp only [go_sem, Fn.wear_Boxes, k1, List.length_map, q1, h2, natOf, g1, g5, f1, f2, f3]
end Go.Ev
namespace Go.Ev
open Go.Dig
theorem digs_one {n : Nat} (h0 : n ≠ 0) (h : n < B32) : digs B32 n = [n] := by
  have h1 : n / B32 = 0 := Nat.div_eq_of_lt h
  have h2 : n % B32 = n := Nat.mod_eq_of_lt h
  rw [digs, dif_neg (by simp only [not_or]; exact ⟨h0, by decide⟩), h1, h2, digs_zero]
theorem natV_one {n : Nat} (h0 : n ≠ 0) (h : n < B32) : natV n = .sl false [[.int .u32 (n : Int)]] := by
  unfold natV; rw [digs_one h0 h]; rfl
theorem natV_zero : natV 0 = .sl false [] := by unfold natV; rw [digs_zero]; rfl
theorem qC_of {q : Rat} {n d : Nat} {b : Bool} (hb : decide (q.num < 0) = b) (hn : q.num.natAbs = n) (hd : q.den - 1 = d) : qC q = [.bool b, natV n, natV d] := by
  unfold qC; rw [hb, hn, hd]
theorem qC_int {q : Rat} {n : Nat} {b : Bool} (hb : decide (q.num < 0) = b) (hn : q.num.natAbs = n) (hd : q.den - 1 = 0) (h0 : n ≠ 0) (h : n < B32) : qC q = [.bool b, .sl false [[.int .u32 (n : Int)]], .sl false []] := by
  rw [qC_of hb hn hd, natV_one h0 h, natV_zero]
def legD0 : Dev := ⟨[⟨0, 1, ⟨⟨100, -100, -100⟩, ⟨2000, 100, 100⟩⟩, 1⟩, ⟨1, 4, ⟨⟨0, -100, -1⟩, ⟨2000, 100, 1⟩⟩, 3⟩, ⟨4, 0, ⟨⟨0, -100, -100⟩, ⟨50, 100, 100⟩⟩, 1⟩], List.replicate 5 [⟨0, 0⟩, ⟨10, 20⟩], List.replicate 5 ⟨15, 6⟩, mkRat 1 100⟩
set_option maxRecDepth 100000 in
theorem leg_run : evV E 200 Id.amblelaw11_leg [] = some (.agg [.sl false [[.int .u8 0, .int .u8 1, .bool false, .sl false [[.int .u32 100]], .sl false [], .bool true, .sl false [[.int .u32 100]], .sl false [], .bool true, .sl false [[.int .u32 100]], .sl false [], .bool false, .sl false [[.int .u32 2000]], .sl false [], .bool false, .sl false [[.int .u32 100]], .sl false [], .bool false, .sl false [[.int .u32 100]], .sl false [], .int .i64 1], [.int .u8 1, .int .u8 4, .bool false, .sl false [], .sl false [], .bool true, .sl false [[.int .u32 100]], .sl false [], .bool true, .sl false [[.int .u32 1]], .sl false [], .bool false, .sl false [[.int .u32 2000]], .sl false [], .bool false, .sl false [[.int .u32 100]], .sl false [], .bool false, .sl false [[.int .u32 1]], .sl false [], .int .i64 3], [.int .u8 4, .int .u8 0, .bool false, .sl false [], .sl false [], .bool true, .sl false [[.int .u32 100]], .sl false [], .bool true, .sl false [[.int .u32 100]], .sl false [], .bool false, .sl false [[.int .u32 50]], .sl false [], .bool false, .sl false [[.int .u32 100]], .sl false [], .bool false, .sl false [[.int .u32 100]], .sl false [], .int .i64 1]], .sl false [[.sl false [[.bool false, .sl false [], .sl false [], .bool false, .sl false [], .sl false []], [.bool false, .sl false [[.int .u32 10]], .sl false [], .bool false, .sl false [[.int .u32 20]], .sl false []]]], [.sl false [[.bool false, .sl false [], .sl false [], .bool false, .sl false [], .sl false []], [.bool false, .sl false [[.int .u32 10]], .sl false [], .bool false, .sl false [[.int .u32 20]], .sl false []]]], [.sl false [[.bool false, .sl false [], .sl false [], .bool false, .sl false [], .sl false []], [.bool false, .sl false [[.int .u32 10]], .sl false [], .bool false, .sl false [[.int .u32 20]], .sl false []]]], [.sl false [[.bool false, .sl false [], .sl false [], .bool false, .sl false [], .sl false []], [.bool false, .sl false [[.int .u32 10]], .sl false [], .bool false, .sl false [[.int .u32 20]], .sl false []]]], [.sl false [[.bool false, .sl false [], .sl false [], .bool false, .sl false [], .sl false []], [.bool false, .sl false [[.int .u32 10]], .sl false [], .bool false, .sl false [[.int .u32 20]], .sl false []]]]], .sl false [[.bool false, .sl false [[.int .u32 15]], .sl false [], .bool false, .sl false [[.int .u32 6]], .sl false []], [.bool false, .sl false [[.int .u32 15]], .sl false [], .bool false, .sl false [[.int .u32 6]], .sl false []], [.bool false, .sl false [[.int .u32 15]], .sl false [], .bool false, .sl false [[.int .u32 6]], .sl false []], [.bool false, .sl false [[.int .u32 15]], .sl false [], .bool false, .sl false [[.int .u32 6]], .sl false []], [.bool false, .sl false [[.int .u32 15]], .sl false [], .bool false, .sl false [[.int .u32 6]], .sl false []]], .bool false, .sl false [[.int .u32 1]], .sl false [[.int .u32 99]]]) := by kernel_rfl
set_option maxRecDepth 100000 in
theorem leg_c : legD0.c = [.sl false [[.int .u8 0, .int .u8 1, .bool false, .sl false [[.int .u32 100]], .sl false [], .bool true, .sl false [[.int .u32 100]], .sl false [], .bool true, .sl false [[.int .u32 100]], .sl false [], .bool false, .sl false [[.int .u32 2000]], .sl false [], .bool false, .sl false [[.int .u32 100]], .sl false [], .bool false, .sl false [[.int .u32 100]], .sl false [], .int .i64 1], [.int .u8 1, .int .u8 4, .bool false, .sl false [], .sl false [], .bool true, .sl false [[.int .u32 100]], .sl false [], .bool true, .sl false [[.int .u32 1]], .sl false [], .bool false, .sl false [[.int .u32 2000]], .sl false [], .bool false, .sl false [[.int .u32 100]], .sl false [], .bool false, .sl false [[.int .u32 1]], .sl false [], .int .i64 3], [.int .u8 4, .int .u8 0, .bool false, .sl false [], .sl false [], .bool true, .sl false [[.int .u32 100]], .sl false [], .bool true, .sl false [[.int .u32 100]], .sl false [], .bool false, .sl false [[.int .u32 50]], .sl false [], .bool false, .sl false [[.int .u32 100]], .sl false [], .bool false, .sl false [[.int .u32 100]], .sl false [], .int .i64 1]], .sl false [[.sl false [[.bool false, .sl false [], .sl false [], .bool false, .sl false [], .sl false []], [.bool false, .sl false [[.int .u32 10]], .sl false [], .bool false, .sl false [[.int .u32 20]], .sl false []]]], [.sl false [[.bool false, .sl false [], .sl false [], .bool false, .sl false [], .sl false []], [.bool false, .sl false [[.int .u32 10]], .sl false [], .bool false, .sl false [[.int .u32 20]], .sl false []]]], [.sl false [[.bool false, .sl false [], .sl false [], .bool false, .sl false [], .sl false []], [.bool false, .sl false [[.int .u32 10]], .sl false [], .bool false, .sl false [[.int .u32 20]], .sl false []]]], [.sl false [[.bool false, .sl false [], .sl false [], .bool false, .sl false [], .sl false []], [.bool false, .sl false [[.int .u32 10]], .sl false [], .bool false, .sl false [[.int .u32 20]], .sl false []]]], [.sl false [[.bool false, .sl false [], .sl false [], .bool false, .sl false [], .sl false []], [.bool false, .sl false [[.int .u32 10]], .sl false [], .bool false, .sl false [[.int .u32 20]], .sl false []]]]], .sl false [[.bool false, .sl false [[.int .u32 15]], .sl false [], .bool false, .sl false [[.int .u32 6]], .sl false []], [.bool false, .sl false [[.int .u32 15]], .sl false [], .bool false, .sl false [[.int .u32 6]], .sl false []], [.bool false, .sl false [[.int .u32 15]], .sl false [], .bool false, .sl false [[.int .u32 6]], .sl false []], [.bool false, .sl false [[.int .u32 15]], .sl false [], .bool false, .sl false [[.int .u32 6]], .sl false []], [.bool false, .sl false [[.int .u32 15]], .sl false [], .bool false, .sl false [[.int .u32 6]], .sl false []]], .bool false, .sl false [[.int .u32 1]], .sl false [[.int .u32 99]]] := by
  have e0 : qC (0 : Rat) = [.bool false, .sl false [], .sl false []] := by rw [qC_of (n := 0) (d := 0) (b := false) rfl rfl rfl, natV_zero]
  have e100 : qC (100 : Rat) = [.bool false, .sl false [[.int .u32 100]], .sl false []] := qC_int (n := 100) (b := false) rfl rfl rfl (by decide) (by decide)
  have em100 : qC (-100 : Rat) = [.bool true, .sl false [[.int .u32 100]], .sl false []] := qC_int (n := 100) (b := true) rfl rfl rfl (by decide) (by decide)
  have e2000 : qC (2000 : Rat) = [.bool false, .sl false [[.int .u32 2000]], .sl false []] := qC_int (n := 2000) (b := false) rfl rfl rfl (by decide) (by decide)
  have em1 : qC (-1 : Rat) = [.bool true, .sl false [[.int .u32 1]], .sl false []] := qC_int (n := 1) (b := true) rfl rfl rfl (by decide) (by decide)
  have e1 : qC (1 : Rat) = [.bool false, .sl false [[.int .u32 1]], .sl false []] := qC_int (n := 1) (b := false) rfl rfl rfl (by decide) (by decide)
  have e50 : qC (50 : Rat) = [.bool false, .sl false [[.int .u32 50]], .sl false []] := qC_int (n := 50) (b := false) rfl rfl rfl (by decide) (by decide)
  have e10 : qC (10 : Rat) = [.bool false, .sl false [[.int .u32 10]], .sl false []] := qC_int (n := 10) (b := false) rfl rfl rfl (by decide) (by decide)
  have e20 : qC (20 : Rat) = [.bool false, .sl false [[.int .u32 20]], .sl false []] := qC_int (n := 20) (b := false) rfl rfl rfl (by decide) (by decide)
  have e15 : qC (15 : Rat) = [.bool false, .sl false [[.int .u32 15]], .sl false []] := qC_int (n := 15) (b := false) rfl rfl rfl (by decide) (by decide)
  have e6 : qC (6 : Rat) = [.bool false, .sl false [[.int .u32 6]], .sl false []] := qC_int (n := 6) (b := false) rfl rfl rfl (by decide) (by decide)
  have es : qC (mkRat 1 100) = [.bool false, .sl false [[.int .u32 1]], .sl false [[.int .u32 99]]] := by
    rw [qC_of (n := 1) (d := 99) (b := false) (by decide) (by decide) (by decide), natV_one (by decide) (by decide), natV_one (by decide) (by decide)]
    rfl
  have r5 : ∀ {α : Type} (z : α), List.replicate 5 z = [z, z, z, z, z] := fun z => rfl
  unfold legD0 Dev.c
  simp only [r5, List.map_cons, List.map_nil, Guard.c, Bx.c, Samp.c, Pt.c, e0, e100, em100, e2000, em1, e1, e50, e10, e20, e15, e6, es]
  rfl
theorem leg_ends : Ends Id.amblelaw11_leg [] (.agg legD0.c) := by
  rw [leg_c]
  exact ⟨200, fun n hn => evV_mono hn leg_run⟩
theorem leg_call : Calling Id.amblelaw11_leg [] (.agg legD0.c) := leg_ends.call fun x h => by cases h
end Go.Ev
namespace Go.Ev
open Go.Dig
theorem amongB_iff (q lo hi : Rat) : (amongB q lo hi = true) ↔ (lo ≤ q ∧ q ≤ hi) := by
  unfold amongB
  simp only [Bool.and_eq_true, decide_eq_true_eq, cmpQ_ge, cmpQ_le]
theorem hasBx_iff (b : Bx) (s : Samp) : (hasBx b s = true) ↔ ((b.low.load ≤ s.load ∧ s.load ≤ b.high.load) ∧ (b.low.angle ≤ s.angle ∧ s.angle ≤ b.high.angle) ∧ (b.low.speed ≤ s.speed ∧ s.speed ≤ b.high.speed)) := by
  unfold hasBx
  simp only [Bool.and_eq_true, amongB_iff]
theorem rightBx_iff (b : Bx) : (rightBx b = true) ↔ (b.low.load ≤ b.high.load ∧ b.low.angle ≤ b.high.angle ∧ b.low.speed ≤ b.high.speed) := by
  unfold rightBx
  simp only [Bool.and_eq_true, decide_eq_true_eq, cmpQ_le]
theorem minQ_le (a b : Rat) : minQ a b ≤ a ∧ minQ a b ≤ b := by rw [minQ_eq]; grind
theorem maxQ_le (a b : Rat) : a ≤ maxQ a b ∧ b ≤ maxQ a b := by rw [maxQ_eq]; grind
theorem joinB_has (b : Bx) (s : Samp) : hasBx (joinB b s) s = true := by
  rw [hasBx_iff]
  exact ⟨⟨(minQ_le _ _).2, (maxQ_le _ _).2⟩, ⟨(minQ_le _ _).2, (maxQ_le _ _).2⟩, ⟨(minQ_le _ _).2, (maxQ_le _ _).2⟩⟩
theorem joinB_keeps (b : Bx) (s t : Samp) (h : hasBx b t = true) : hasBx (joinB b s) t = true := by
  rw [hasBx_iff] at *
  obtain ⟨⟨h1, h2⟩, ⟨h3, h4⟩, h5, h6⟩ := h
  exact ⟨⟨Rat.le_trans (minQ_le _ _).1 h1, Rat.le_trans h2 (maxQ_le _ _).1⟩, ⟨Rat.le_trans (minQ_le _ _).1 h3, Rat.le_trans h4 (maxQ_le _ _).1⟩, ⟨Rat.le_trans (minQ_le _ _).1 h5, Rat.le_trans h6 (maxQ_le _ _).1⟩⟩
theorem has_right {b : Bx} {s : Samp} (h : hasBx b s = true) : rightBx b = true := by
  rw [hasBx_iff] at h
  rw [rightBx_iff]
  exact ⟨Rat.le_trans h.1.1 h.1.2, Rat.le_trans h.2.1.1 h.2.1.2, Rat.le_trans h.2.2.1 h.2.2.2⟩
def RtS (S : List (Bx × Bool)) : Prop := ∀ q ∈ S, q.2 = true → rightBx q.1 = true
theorem boxS_rt {S : List (Bx × Bool)} {x : Rcd} (hS : RtS S) : RtS (boxS S x) := by
  intro q hq hk
  unfold boxS at hq
  rcases List.mem_or_eq_of_mem_set hq with h | h
  · exact hS q h hk
  · rw [h]; exact has_right (joinB_has _ _)
theorem boxL_rt : ∀ (l : List Rcd) (S : List (Bx × Bool)), RtS S → RtS (boxL S l)
  | [], S, hS => hS
  | x :: r, S, hS => boxL_rt r (boxS S x) (boxS_rt hS)
theorem boxL_keeps : ∀ (l : List Rcd) (S : List (Bx × Bool)) (p : Nat) (b : Bx) (t : Samp), S[p]? = some (b, true) → hasBx b t = true → ∃ b', (boxL S l)[p]? = some (b', true) ∧ hasBx b' t = true
  | [], S, p, b, t, h, ht => ⟨b, h, ht⟩
  | x :: r, S, p, b, t, h, ht => by
    have hp : p < S.length := (List.getElem?_eq_some_iff.1 h).1
    by_cases e : p = x.ph
    · have h' : (boxS S x)[p]? = some (joinB b x.s, true) := by
        unfold boxS
        rw [← e, h, List.getElem?_set_self hp]
        rfl
      exact boxL_keeps r _ p _ t h' (joinB_keeps _ _ _ ht)
    · have h' : (boxS S x)[p]? = some (b, true) := by
        unfold boxS
        rw [List.getElem?_set_ne (Ne.symm e)]; exact h
      exact boxL_keeps r _ p _ t h' ht
theorem boxL_has : ∀ (l : List Rcd) (S : List (Bx × Bool)), S.length = 5 → (∀ x ∈ l, x.ph < 5) → ∀ x ∈ l, ∃ b, (boxL S l)[x.ph]? = some (b, true) ∧ hasBx b x.s = true
  | [], S, hS, hl, x, hx => by cases hx
  | y :: r, S, hS, hl, x, hx => by
    rcases List.mem_cons.1 hx with rfl | h
    · have hp := hl x (by simp)
      have h' : (boxS S x)[x.ph]? = some (joinB (bxOf ((S[x.ph]?).getD bx0) x) x.s, true) := by
        unfold boxS
        rw [List.getElem?_set_self (by omega)]
      exact boxL_keeps r _ x.ph _ x.s h' (joinB_has _ _)
    · exact boxL_has r (boxS S y) (by rw [boxS_len, hS]) (fun z hz => hl z (by simp [hz])) x h
theorem mixL_none (S : List (Bx × Bool)) : ∀ (l : List Rcd) (i : Nat), mixL S i l = [] → ∀ x ∈ l, ∀ p, p < 5 → mixP S x p = false
  | [], i, h, x, hx, p, hp => by cases hx
  | y :: r, i, h, x, hx, p, hp => by
    unfold mixL at h
    rw [List.append_eq_nil_iff] at h
    rcases List.mem_cons.1 hx with rfl | hx'
    · have h1 := h.1
      unfold mixR at h1
      rw [List.map_eq_nil_iff, List.filter_eq_nil_iff] at h1
      have := h1 p (by rw [List.mem_range']; exact ⟨p, by omega, by omega⟩)
      simpa using this
    · exact mixL_none S r (i + 1) h.2 x hx' p hp
theorem seeL_some (ph : Nat) (s : Samp) : ∀ (l : List Guard) (i : Nat) (c : Nat → Nat) (k : Nat), (seeL ph s l i c (some k)).2 = some k
  | [], i, c, k => rfl
  | g :: r, i, c, k => by
    unfold seeL
    have e : (seeS ph s g i c (some k)).2 = some k := by
      unfold seeS
      split
      · split
        · simp
        · rfl
      · rfl
    rw [e]
    exact seeL_some ph s r _ _ k
def firesTo (s : Samp) (gs : List Guard) : Nat := ((gs.find? fun g => hasBx g.box s).map Guard.to).getD 0
theorem seeL_fire (s : Samp) : ∀ (gs pre : List Guard) (c : Nat → Nat), (∀ g ∈ gs, g.from_ = 0 ∧ g.hold = 1) →
    (match (seeL 0 s gs pre.length c none).2 with | none => 0 | some k => (((pre ++ gs)[k]?).map Guard.to).getD 0) = firesTo s gs
  | [], pre, c, h => rfl
  | g :: r, pre, c, h => by
    obtain ⟨h1, h2⟩ := h g (by simp)
    unfold seeL firesTo
    rw [List.find?_cons]
    cases hb : hasBx g.box s with
    | true =>
      have e : (seeS 0 s g pre.length c none).2 = some pre.length := by
        unfold seeS
        rw [if_pos h1, if_pos hb, h2]
        simp; omega
      rw [e, seeL_some]
      simp
    | false =>
      have e : (seeS 0 s g pre.length c none).2 = none := by
        unfold seeS
        rw [if_pos h1, hb]
        simp
      rw [e]
      have := seeL_fire s r (pre ++ [g]) (seeS 0 s g pre.length c none).1 fun x hx => h x (by simp [hx])
      rw [List.length_append, List.append_assoc] at this
      exact this
theorem seeW_fire (s : Samp) (gs : List Guard) (c : Nat → Nat) (h : ∀ g ∈ gs, g.from_ = 0 ∧ g.hold = 1) : (seeW gs 0 c s).1 = firesTo s gs := by
  have h1 := seeL_fire s gs [] c h
  rw [List.nil_append, List.length_nil] at h1
  unfold seeW
  cases hf : (seeL 0 s gs 0 c none).2 with
  | none => rw [hf] at h1; exact h1
  | some k => rw [hf] at h1; exact h1
def guardsP (S : List (Bx × Bool)) (p m : Nat) : List Guard := ((List.range' p m).filter fun p => ((S[p]?).getD bx0).2).map fun p => ⟨0, p, ((S[p]?).getD bx0).1, 1⟩
def devT (S : List (Bx × Bool)) : Dev := ⟨guardsP S 1 4, legD0.curves, legD0.limits, legD0.step⟩
theorem guardsP_mem {S : List (Bx × Bool)} {p m : Nat} {g : Guard} (h : g ∈ guardsP S p m) : ∃ k b, p ≤ k ∧ k < p + m ∧ S[k]? = some (b, true) ∧ g = ⟨0, k, b, 1⟩ := by
  unfold guardsP at h
  obtain ⟨k, hk, rfl⟩ := List.mem_map.1 h
  obtain ⟨h1, h2⟩ := List.mem_filter.1 hk
  rw [List.mem_range'] at h1
  obtain ⟨j, hj, rfl⟩ := h1
  cases hs : S[p + 1 * j]? with
  | none => rw [hs] at h2; cases h2
  | some q =>
    rw [hs] at h2
    obtain ⟨b, k⟩ := q
    cases h2
    exact ⟨p + 1 * j, b, by omega, by omega, hs, by simp⟩
theorem devT_right {S : List (Bx × Bool)} (hS : RtS S) : rightD (devT S) = true := by
  have hl : (guardsP S 1 4).length ≤ 4 := by
    unfold guardsP; rw [List.length_map]
    exact Nat.le_trans (List.length_filter_le _ _) (by simp)
  have hg : (devT S).guards.any badG = false := by
    rw [List.any_eq_false]
    intro g hgm
    obtain ⟨k, b, h1, h2, h3, rfl⟩ := guardsP_mem hgm
    have hr : rightBx b = true := hS (b, true) (List.mem_of_getElem? h3) rfl
    unfold badG
    simp only [hr]
    have : ¬ 5 ≤ k := by omega
    have : ¬ 0 = k := by omega
    simp [*]
  have hc : (devT S).curves.any badC = false := by
    have e : (devT S).curves = List.replicate 5 [⟨0, 0⟩, ⟨10, 20⟩] := rfl
    rw [e, List.any_eq_false]
    intro c hc
    rw [List.eq_of_mem_replicate hc]
    unfold badC rightC incC
    have h1 : cmpQ 0 10 < 0 := by decide
    simp [h1, incC]
  have hm : (devT S).limits.any badL = false := by
    have e : (devT S).limits = List.replicate 5 ⟨15, 6⟩ := rfl
    rw [e, List.any_eq_false]
    intro c hc
    rw [List.eq_of_mem_replicate hc]
    decide
  have hs : ¬ signI (devT S).step.num ≤ 0 := by
    have e : (devT S).step = mkRat 1 100 := rfl
    rw [e]; decide
  have hgl : (devT S).guards.length ≤ 4 := hl
  unfold rightD
  rw [hg, hc, hm]
  have h16 : ¬ 16 < (devT S).guards.length := by omega
  have hcl : (devT S).curves.length = 5 := rfl
  have hll : (devT S).limits.length = 5 := rfl
  simp [h16, hcl, hll, hs]
theorem devT_phase {S : List (Bx × Bool)} (x : Rcd) (hx : x.ph < 5) (hm : ∀ p, p < 5 → mixP S x p = false) (hb : ∃ b, S[x.ph]? = some (b, true) ∧ hasBx b x.s = true) : (acts (devT S) w0 [x.s]).map (·.1) = [x.ph] := by
  have e : (acts (devT S) w0 [x.s]).map (·.1) = [(seeW (guardsP S 1 4) 0 (fun _ => 0) x.s).1] := rfl
  rw [e, seeW_fire x.s (guardsP S 1 4) _ (fun g hg => by obtain ⟨k, b, -, -, -, rfl⟩ := guardsP_mem hg; exact ⟨rfl, rfl⟩)]
  have only : ∀ g ∈ guardsP S 1 4, hasBx g.box x.s = true → g.to = x.ph := by
    intro g hg hh
    obtain ⟨k, b, h1, h2, h3, rfl⟩ := guardsP_mem hg
    by_cases hk : k = x.ph
    · exact hk
    · have := hm k (by omega)
      unfold mixP at this
      rw [h3] at this
      simp [hk] at this
      simp only at hh
      rw [this] at hh; cases hh
  obtain ⟨b, hb1, hb2⟩ := hb
  unfold firesTo
  cases hf : (guardsP S 1 4).find? fun g => hasBx g.box x.s with
  | some g =>
    have h1 := only g (List.mem_of_find?_eq_some hf) (by have := List.find?_some hf; exact this)
    simp [h1]
  | none =>
    rw [List.find?_eq_none] at hf
    have : x.ph = 0 := by
      by_cases h0 : x.ph = 0
      · exact h0
      · exfalso
        have hmem : (⟨0, x.ph, b, 1⟩ : Guard) ∈ guardsP S 1 4 := by
          unfold guardsP
          refine List.mem_map.2 ⟨x.ph, List.mem_filter.2 ⟨?_, by rw [hb1]; rfl⟩, by rw [hb1]; rfl⟩
          rw [List.mem_range']
          exact ⟨x.ph - 1, by omega, by omega⟩
        exact hf _ hmem hb2
    rw [this]; rfl
end Go.Ev
namespace Go.Ev
open Go.Dig
def OutS (sz base : Nat) (ob : Nat → Option AObj) (nx : Nat) (x : AV) (es : List (List AV)) : Prop :=
  (es = [] ∧ x = .nils) ∨ ∃ id ver, x = .rsl id ver sz 0 es.length false ∧ ob id = some (.row sz es ver) ∧ id < nx ∧ base ≤ id
theorem OutS.frame {sz base nx nx' : Nat} {ob ob' : Nat → Option AObj} {x : AV} {es : List (List AV)} (h : OutS sz base ob nx x es) (hnx : nx ≤ nx') (hf : ∀ id, base ≤ id → id < nx → ob' id = ob id) : OutS sz base ob' nx' x es := by
  rcases h with h | ⟨id, ver, h1, h2, h3, h4⟩
  · exact .inl h
  · exact .inr ⟨id, ver, h1, by rw [hf id h4 h3]; exact h2, by omega, h4⟩
theorem OutS.shut {sz base nx : Nat} {ob0 ob : Nat → Option AObj} {x : AV} {es : List (List AV)} (h : OutS sz base ob nx x es) : OutS sz base (Ev.shut ob0 ob) nx x es := by
  rcases h with h | ⟨id, ver, h1, h2, h3, h4⟩
  · exact .inl h
  · exact .inr ⟨id, ver, h1, shut_rowk h2, h3, h4⟩
theorem OutS.frzR {sz base nx : Nat} {ob : Nat → Option AObj} {x : AV} {es fs : List (List AV)} (h : OutS sz base ob nx x es) (hf : ∀ fz, mapFz (mapFz (Ev.frz ob 7)) fz es = some (fz, fs)) (hl : es = [] → fs = []) : ∃ g : (Nat → Nat) → (Nat → Nat), ∀ fz, frzS ob fz (.one x) = some (g fz, .one (.sl false fs)) := by
  rcases h with ⟨h1, rfl⟩ | ⟨id, ver, rfl, hid, _⟩
  · exact ⟨fun fz => fz, fun fz => by rw [hl h1]; rfl⟩
  · refine ⟨fun fz => raise fz id (0 + es.length), fun fz => ?_⟩
    have hb : Nat.ble (0 + es.length) es.length = true := by simp
    have h1 : Ev.frz ob DEPTH fz (.rsl id ver sz 0 es.length false) = some (raise fz id (0 + es.length), .sl false fs) := by
      rw [show DEPTH = 7 + 1 from rfl, frz_rsl, rowAt_of hid]
      simp only [hb, cond_true, List.drop_zero, List.take_length, hf]
    simp only [frzS, h1]
def phLoop (L : List (Nat × SV)) : ALoop := ⟨env L, [19, 20], actAsg, Fn.wear_Phases_R0, .ready, none⟩
theorem prnd_ref {n lid bo base nx : Nat} {ob : Nat → Option AObj} {fz : Nat → Nat} {x : AV} {es : List (List AV)} {L : List (Nat × SV)} {c0 m1 m2 m3 : AV} (v19 : SV) (hL : env L 7 = .one (.box bo 0)) (ho : ob lid = some (.loop (phLoop L))) (hb : ob bo = some (.box [x])) (hx : OutS 1 base ob nx x es) (h1 : lid < base) (h2 : bo < base) (h3 : base ≤ nx) (hne : lid ≠ bo) (hes : es.length < 2 ^ 20) :
    ∃ (ob' : Nat → Option AObj) (nx' : Nat) (x' : AV), evF E (n + 1) (.rnd lid) [v19, .agg [c0, m1, m2, m3]] ⟨ob, fz, nx⟩ = some (.one (.bool true), ⟨ob', fz, nx'⟩) ∧ nx ≤ nx' ∧ ob' lid = some (.loop (phLoop L)) ∧ ob' bo = some (.box [x']) ∧ OutS 1 base ob' nx' x' (es ++ [[c0]]) ∧ ∀ id, id < base → id ≠ lid → id ≠ bo → ob' id = ob id := by
  have n1 : ∀ k, (lid = nx + k) = False := fun k => by simp only [eq_iff_iff, iff_false]; omega
  have n2 : ∀ k, (bo = nx + k) = False := fun k => by simp only [eq_iff_iff, iff_false]; omega
  have n3 : (bo = lid) = False := by simp [Ne.symm hne]
  have n1n : (lid = nx) = False := by simp only [eq_iff_iff, iff_false]; omega
  have n2n : (bo = nx) = False := by simp only [eq_iff_iff, iff_false]; omega
  have n1' : ∀ k, (nx + k = lid) = False := fun k => by simp only [eq_iff_iff, iff_false]; omega
  have n2' : ∀ k, (nx + k = bo) = False := fun k => by simp only [eq_iff_iff, iff_false]; omega
  have n1n' : (nx = lid) = False := by simp only [eq_iff_iff, iff_false]; omega
  have n2n' : (nx = bo) = False := by simp only [eq_iff_iff, iff_false]; omega
  have nxa : ∀ a b : Nat, nx + a + b = nx + (a + b) := fun a b => Nat.add_assoc nx a b
  have hL' : ∀ (a b : SV), env ((20, a) :: (19, b) :: L) 7 = .one (.box bo 0) := fun a b => by rw [← hL]; rfl
  have a1 : evC (evF E n) n actAsg ⟨env ((20, .agg [c0, m1, m2, m3]) :: (19, v19) :: L), ob, fz, nx⟩ = some (.nrm, ⟨env [(7, .one (.box bo 0)), (9, .one (.box nx 0))], upd ob nx (.box [c0, m1, m2, m3]), fz, nx + 2⟩) := by
    unfold actAsg
    simp only [go_sem, hL]
  have o1 : upd ob nx (.box [c0, m1, m2, m3]) lid = some (.loop (phLoop L)) := by rw [upd_ne (by omega)]; exact ho
  have body : ∃ (ob2 : Nat → Option AObj) (x' : AV), evC (evF E n) n Fn.wear_Phases_R0 ⟨env [(7, .one (.box bo 0)), (9, .one (.box nx 0))], upd (upd ob nx (.box [c0, m1, m2, m3])) lid (.loop { phLoop L with st := .busy }), fz, nx + 2⟩ = some (.nrm, ⟨env [], ob2, fz, nx + 8⟩) ∧ ob2 lid = some (.loop { phLoop L with st := .busy }) ∧ ob2 bo = some (.box [x']) ∧ OutS 1 base ob2 (nx + 8) x' (es ++ [[c0]]) ∧ ∀ id, id < base → id ≠ lid → id ≠ bo → ob2 id = ob id := by
    generalize { phLoop L with st := .busy } = lp
    obtain ⟨r, hr0⟩ : ∃ r, evC (evF E n) n Fn.wear_Phases_R0 ⟨env [(7, .one (.box bo 0)), (9, .one (.box nx 0))], upd (upd ob nx (.box [c0, m1, m2, m3])) lid (.loop lp), fz, nx + 2⟩ = r := ⟨_, rfl⟩
    have hr := hr0
    rcases hx with ⟨rfl, rfl⟩ | ⟨a, va, rfl, h4, h5, h6⟩
    · simp only [go_sem, Fn.wear_Phases_R0, n1, n2, n3, n1', n2', n1n, n2n, n1n', n2n', nxa, hb, okSz, ROOM] at hr
      rw [hr0, ← hr]
      refine ⟨_, _, rfl, ?_, upd_same _ _ _, .inr ⟨nx + 6, 0, rfl, ?_, by omega, by omega⟩, fun id q1 q2 q3 => ?_⟩
      · rw [upd_ne hne, upd_ne (by omega), upd_ne (by omega)]; exact upd_same _ _ _
      · rw [upd_ne (by omega)]; exact upd_same _ _ _
      · rw [upd_ne q3, upd_ne (by omega), upd_ne (by omega), upd_ne q2, upd_ne (by omega)]
    · have w1 : (es.length + 1) * 1 ≤ 140737488355328 := by omega
      have b1 : (es.length == es.length) = true := by simp
      have k1 : ∀ k ob y ver, rowAt (upd ob (nx + k) y) a ver = rowAt ob a ver := fun k ob y ver => rowAt_ne (by omega)
      have k2 : ∀ ob y ver, rowAt (upd ob nx y) a ver = rowAt ob a ver := fun ob y ver => rowAt_ne (by omega)
      have k3 : ∀ ob y ver, rowAt (upd ob lid y) a ver = rowAt ob a ver := fun ob y ver => rowAt_ne (by omega)
      have hra : rowAt ob a va = some (1, es) := rowAt_of h4
      have k4 : (bo = a) = False := by simp only [eq_iff_iff, iff_false]; omega
      simp only [go_sem, Fn.wear_Phases_R0, n1, n2, n3, n1', n2', n1n, n2n, n1n', n2n', nxa, hb, okSz, ROOM, w1, b1, k1, k2, k3, k4, hra] at hr
      rw [hr0, ← hr]
      refine ⟨_, _, rfl, ?_, upd_same _ _ _, .inr ⟨a, va + 1, ?_, ?_, by omega, h6⟩, fun id q1 q2 q3 => ?_⟩
      · rw [upd_ne hne, upd_ne (by omega), upd_ne (by omega)]; exact upd_same _ _ _
      · rw [List.length_append]; rfl
      · rw [upd_ne (by omega)]; exact upd_same _ _ _
      · rw [upd_ne q3, upd_ne (by omega), upd_ne (by omega), upd_ne q2, upd_ne (by omega)]
  obtain ⟨ob2, x', b1, b2, b3, b4, b5⟩ := body
  refine ⟨upd ob2 lid (.loop (phLoop L)), nx + 8, x', ?_, by omega, upd_same _ _ _, by rw [upd_ne (Ne.symm hne)]; exact b3, b4.frame (Nat.le_refl _) (fun id q1 q2 => upd_ne (by omega)), fun id q1 q2 q3 => by rw [upd_ne q2]; exact b5 id q1 q2 q3⟩
  exact evF_rnd (r := phLoop L) (r1 := phLoop L) (r2 := { phLoop L with st := .busy }) ho rfl ((congrArg (fun sl => evC (evF E n) n actAsg ⟨sl, ob, fz, nx⟩) (setPs2 19 20 v19 (.agg [c0, m1, m2, m3]) L)).trans a1) o1 rfl b1 b2
def PhAcc (d : Dev) (L : List (Nat × SV)) (lid bo base : Nat) (ob : Nat → Option AObj) (nx : Nat) (out : List (WSt × Samp)) : Prop :=
  ob lid = some (.loop (phLoop L)) ∧ ∃ x, ob bo = some (.box [x]) ∧ OutS 1 base ob nx x (out.map fun p => [AV.int .u8 ((stepW d p.1 p.2).ph : Int)])
theorem ph_taker (d : Dev) {L : List (Nat × SV)} (lid bo base : Nat) (fz : Nat → Nat) (hL : env L 7 = .one (.box bo 0)) (h1 : lid < base) (h2 : bo < base) (hne : lid ≠ bo) : Taker d 0 base lid (2 ^ 29) fz (fun id => id = lid ∨ id = bo) (PhAcc d L lid bo base) := by
  refine ⟨fun ob ob' nx nx' out h hn hf => ?_, fun n _ w s ob nx out h hb ho hs hph hm => ?_⟩
  · obtain ⟨a, x, b, c⟩ := h
    exact ⟨(hf lid (.inl (.inl rfl))).trans a, x, (hf bo (.inl (.inr rfl))).trans b, c.frame hn fun id q1 q2 => hf id (.inr ⟨q1, q2⟩)⟩
  · obtain ⟨a, x, b, c⟩ := h
    obtain ⟨r1, r2, r3, hrm⟩ := (rawM_mq d w s).cells
    obtain ⟨ob', nx', x', g1, g2, g3, g4, g5, g6⟩ := prnd_ref (n := n) (lid := lid) (bo := bo) (base := base) (nx := nx) (ob := ob) (fz := fz) (x := x) (es := out.map fun p => [AV.int .u8 ((stepW d p.1 p.2).ph : Int)]) (L := L) (c0 := .int .u8 ((stepW d w s).ph : Int)) (m1 := r1) (m2 := r2) (m3 := r3) (.agg s.c) hL a b c h1 h2 hb hne (by rw [List.length_map]; exact ho)
    have e : rawA d w s = [.int .u8 ((stepW d w s).ph : Int), r1, r2, r3] := by unfold rawA; rw [hrm]
    refine ⟨ob', nx', by rw [e]; exact g1, g2, ⟨g3, x', g4, ?_⟩, fun id q1 q2 => g6 id q1 (fun e => q2 (.inl e)) (fun e => q2 (.inr e))⟩
    rw [List.map_append, List.map_cons, List.map_nil]
    exact g5
theorem steps_phs (d : Dev) : ∀ (l : List Samp) (w : WSt), ((stepsW d w l).map fun p => [AV.int .u8 ((stepW d p.1 p.2).ph : Int)]) = (acts d w l).map fun a => [AV.int .u8 (a.1 : Int)]
  | [], w => rfl
  | s :: r, w => by unfold stepsW acts; rw [List.map_cons, List.map_cons, steps_phs d r]
def phC (a : Nat × Rat) : List AV := [.int .u8 (a.1 : Int)]
theorem canL_phC (a : Nat × Rat) : CanL (phC a) := .cons (.int _ _) .nil
set_option maxRecDepth 100000 in
theorem Phases_ends (d : Dev) (h : SmDev d) (l : List Samp) (hl : l.length < 2 ^ 20) (hs : ∀ s ∈ l, SmSamp s) : Ends Id.wear_Phases [.agg d.c, .one (.sl false (l.map Samp.c))] (.tup [.one (.sl false (if mayI d l = 0 then (acts d w0 l).map phC else [])), .one (.int .i64 (mayI d l))]) := by
  obtain ⟨N1, k1⟩ := may_call d h l
  by_cases he : mayI d l = 0
  · have hd := rightD_ok h (mayI_ok he)
    obtain ⟨N2, k2⟩ := walk1_ref d hd l hl hs 8 4 5 9 (fun _ => 0) (ph_taker d (L := [(7, .one (.box 3 0)), (18, .one (.fn Id.wear_Device_walk_1 [] [.box 4 0, .box 5 0]))]) 8 3 15 (fun _ => 0) rfl (by decide) (by decide) (by decide)) (fun id h => by rcases h with rfl | rfl <;> decide) (by decide) (by decide) (by decide)
    refine .of (N1 + N2 + 3) fun {n} hn => ?_
    have k1 := k1 n (by omega)
    rw [if_pos he]
    rw [he] at k1 ⊢
    obtain ⟨m, rfl⟩ : ∃ m, n = m + 1 := ⟨n - 1, by omega⟩
    have k2 := k2 m (by omega)
    have k3 := walk_ref (n := m) d l
    rw [evV_succ E_wear_Phases]
    obtain ⟨obA, hobA⟩ : ∃ o, o = Ev.shut (upd (upd ob0 0 (.box d.c)) 3 (.box [.nils])) (upd (upd (upd (upd ob0 0 (.box d.c)) 3 (.box [.nils])) 4 (.box d.c)) 5 (.box [.sl false (l.map Samp.c)])) := ⟨_, rfl⟩
    obtain ⟨obL, hobL⟩ : ∃ o, o = upd (upd obA 7 .dfr) 8 (.loop (phLoop [(7, .one (.box 3 0)), (18, .one (.fn Id.wear_Device_walk_1 [] [.box 4 0, .box 5 0]))])) := ⟨_, rfl⟩
    have a4 : obA 4 = some (.box d.c) := by rw [hobA]; exact shut_box (by rw [upd_ne (by decide)]; exact upd_same _ _ _)
    have a5 : obA 5 = some (.box [.sl false (l.map Samp.c)]) := by rw [hobA]; exact shut_box (upd_same _ _ _)
    have a3 : obA 3 = some (.box [.nils]) := by rw [hobA]; exact shut_box (by rw [upd_ne (by decide), upd_ne (by decide)]; exact upd_same _ _ _)
    obtain ⟨ob1', nx', q1, q2, q3', x', q4', q5'⟩ := k2 obL (by rw [hobL, upd_ne (by decide), upd_ne (by decide)]; exact a4) (by rw [hobL, upd_ne (by decide), upd_ne (by decide)]; exact a5) ⟨by rw [hobL]; exact upd_same _ _ _, .nils, by rw [hobL, upd_ne (by decide), upd_ne (by decide)]; exact a3, .inl ⟨rfl, rfl⟩⟩
    rw [steps_phs] at q5'
    obtain ⟨ob', hob'⟩ : ∃ o, o = Ev.shut obL ob1' := ⟨_, rfl⟩
    have q3 := shut_loopk (ob0 := obL) q3'
    rw [← hob'] at q3
    have q4 : ob' 3 = some (.box [x']) := by rw [hob']; exact shut_box q4'
    have q5 : OutS 1 15 ob' nx' x' ((acts d w0 l).map phC) := by rw [hob']; exact q5'.shut
    rw [← hob'] at q1
    obtain ⟨lp, hlp⟩ : ∃ lp : ALoop, lp = { phLoop [(7, .one (.box 3 0)), (18, .one (.fn Id.wear_Device_walk_1 [] [.box 4 0, .box 5 0]))] with st := .exhausted } := ⟨_, rfl⟩
    have hR : evC (evF E (m + 1)) (m + 1) (.rangeF (.t 18) [19, 20] actAsg Fn.wear_Phases_R0) ⟨env [(7, .one (.box 3 0)), (18, .one (.fn Id.wear_Device_walk_1 [] [.box 4 0, .box 5 0]))], obA, fz0, 7⟩ = some (.nrm, ⟨env [(7, .one (.box 3 0)), (18, .one (.fn Id.wear_Device_walk_1 [] [.box 4 0, .box 5 0]))], upd ob' 8 (.loop lp), fz0, nx'⟩) := by
      rw [hlp]
      exact evC_rangeF (F := evF E (m + 1)) (fuel := m + 1) (g := .t 18) (ps := [19, 20]) (asg := actAsg) (body := Fn.wear_Phases_R0) (st := ⟨env [(7, .one (.box 3 0)), (18, .one (.fn Id.wear_Device_walk_1 [] [.box 4 0, .box 5 0]))], obA, fz0, 7⟩) (first := []) (caps := [.box 4 0, .box 5 0]) rfl (by
        show evF E (m + 1) _ _ ⟨upd (upd obA 7 .dfr) 8 _, fz0, 9⟩ = _
        have e := q1
        rw [hobL] at e
        exact e) q3 rfl
    have k3 := k3 (upd (upd ob0 0 (.box d.c)) 3 (.box [.nils])) fz0 4
    rw [← hobA] at k3
    have hq5 : OutS 1 15 (upd ob' 8 (.loop lp)) nx' x' ((acts d w0 l).map phC) := q5.frame (Nat.le_refl _) fun id h1 h2 => upd_ne (by omega)
    obtain ⟨g, hg⟩ := hq5.frzR (fun fz => (canonEs_map canL_phC (acts d w0 l)).frz _ 6 fz) (fun h => h)
    unfold actAsg at hR
    have e8 : upd ob' 8 (.loop lp) 3 = some (.box [x']) := by rw [upd_ne (by decide)]; exact q4
    generalize upd ob' 8 (.loop lp) = obE at hR hg e8
    obtain ⟨t1, t2, t3, -, hdc⟩ := dev_cells d
    have hz : IntKind.i64.wrap 0 = 0 := rfl
    rw [hdc] at k1 k3 ⊢
    simp only [go_sem, Fn.wear_Phases, k1, k3, bne_self_eq_false, hR, e8, hg]
  · refine .of (N1 + 1) fun {n} hn => ?_
    have k1 := k1 n (by omega)
    rw [if_neg he, evV_succ E_wear_Phases]
    obtain ⟨t1, t2, t3, -, hdc⟩ := dev_cells d
    rw [hdc] at k1 ⊢
    generalize mayI d l = e at *
    have e1 : (e != 0) = true := by simp [he]
    simp only [go_sem, Fn.wear_Phases, k1, e1]
end Go.Ev
namespace Go.Ev
set_option maxRecDepth 100000 in
theorem awake_run : evV E 200 Id.amblelaw11_awake [] = some (.one (.bool true)) := by kernel_rfl
theorem awake_ends : Ends Id.amblelaw11_awake [] (.one (.bool true)) := ⟨200, fun n hn => evV_mono hn awake_run⟩
theorem awake_call : Calling Id.amblelaw11_awake [] (.one (.bool true)) := awake_ends.call fun x h => by cases h
end Go.Ev
namespace Go.Ev
open Go.Dig
theorem wu8 {x : Nat} (h : x < 256) : IntKind.u8.wrap (x : Int) = (x : Int) := by rw [IntKind.wrap_u8]; omega
section
variable {fz : Nat → Nat}
set_option maxRecDepth 100000 in
set_option maxHeartbeats 1000000 in
theorem taught_round {n nx b12 : Nat} {ob : Nat → Option AObj} (S : List (Bx × Bool)) (hS : S.length = 5) (p : Nat) (hp : p < 5) (q : Bx × Bool) (gp : S[p]? = some q) (h12 : b12 < nx) (v c1 c2 c3 c4 c5 : AV) (o12 : ob b12 = some (.box [v, c1, c2, c3, c4, c5])) (es : List (List AV)) (hv : OutE 21 ob nx v es) (hes : es.length < 2 ^ 20) (y11 : SV) (X : List (Nat × SV)) :
    ∃ ob' nx' v', evC (evF E n) n Fn.amblelaw11_WearTaught_L0 ⟨env ((7, .one (.sl false (S.map fun q => q.1.c))) :: (8, .one (.sl false (S.map rawK))) :: (11, y11) :: (12, .one (.box b12 0)) :: (13, .one (.int .u8 (p : Int))) :: X), ob, fz, nx⟩ =
      some (.nrm, ⟨env [(7, .one (.sl false (S.map fun q => q.1.c))), (8, .one (.sl false (S.map rawK))), (11, y11), (12, .one (.box b12 0)), (13, .one (.int .u8 ((p + 1 : Nat) : Int)))], ob', fz, nx'⟩) ∧ nx ≤ nx' ∧ ob' b12 = some (.box [v', c1, c2, c3, c4, c5]) ∧ OutE 21 ob' nx' v' (bif q.2 then es ++ [(⟨0, p, q.1, 1⟩ : Guard).c] else es) ∧ ∀ id cs, id < nx → id ≠ b12 → ob id = some (.box cs) → ob' id = some (.box cs) := by
  have h1 : (((p : Nat) : Int) < 5) = True := by simp; omega
  have wk : IntKind.u8.wrap ((p + 1 : Nat) : Int) = ((p + 1 : Nat) : Int) := wu8 (by omega)
  have gB : (S.map fun q => q.1.c)[p]? = some q.1.c := by rw [List.getElem?_map, gp]; rfl
  have gK : (S.map rawK)[p]? = some [.bool q.2] := by rw [List.getElem?_map, gp]; rfl
  have oB : okSz 18 (S.map fun q => q.1.c) = true := okSz_map (f := fun q : Bx × Bool => q.1.c) (k := 18) (fun _ => rfl) S
  have oK : okSz 1 (S.map rawK) = true := okSz_map (f := rawK) (k := 1) (fun _ => rfl) S
  have n12 : ∀ k, (b12 = nx + k) = False := fun k => by simp only [eq_iff_iff, iff_false]; omega
  have n12' : ∀ k, (nx + k = b12) = False := fun k => by simp only [eq_iff_iff, iff_false]; omega
  have l12 : (b12 < nx) = True := by simp [h12]
  have l12' : ∀ k, (b12 < nx + k) = True := fun k => by simp only [eq_iff_iff, iff_true]; omega
  obtain ⟨a1, a2, a3, a4, a5, a6, a7, a8, a9, b1, b2, b3, b4, b5, b6, b7, b8, b9, e1⟩ : ∃ a1 a2 a3 a4 a5 a6 a7 a8 a9 b1 b2 b3 b4 b5 b6 b7 b8 b9, q.1.c = [a1, a2, a3, a4, a5, a6, a7, a8, a9, b1, b2, b3, b4, b5, b6, b7, b8, b9] := ⟨_, _, _, _, _, _, _, _, _, _, _, _, _, _, _, _, _, _, rfl⟩
  have eg : (⟨0, p, q.1, 1⟩ : Guard).c = [.int .u8 0, .int .u8 (p : Int), a1, a2, a3, a4, a5, a6, a7, a8, a9, b1, b2, b3, b4, b5, b6, b7, b8, b9, .int .i64 1] := by unfold Guard.c; rw [e1]; rfl
  rw [eg]
  rw [e1] at gB
  obtain ⟨r, hr0⟩ : ∃ r, evC (evF E n) n Fn.amblelaw11_WearTaught_L0 ⟨env ((7, .one (.sl false (S.map fun q => q.1.c))) :: (8, .one (.sl false (S.map rawK))) :: (11, y11) :: (12, .one (.box b12 0)) :: (13, .one (.int .u8 (p : Int))) :: X), ob, fz, nx⟩ = r := ⟨_, rfl⟩
  have hr := hr0
  cases hk : q.2 with
  | false =>
    rw [hk] at gK
    rw [cond_false]
    simp only [go_sem, Fn.amblelaw11_WearTaught_L0, h1, oK, gK, add1, wk] at hr
    rw [hr0, ← hr]
    exact ⟨_, _, _, rfl, Nat.le_refl _, o12, hv, fun id cs _ _ h => h⟩
  | true =>
    rw [hk] at gK
    rw [cond_true]
    rcases hv with ⟨rfl, rfl⟩ | ⟨a, va, rfl, h2, h3⟩
    · simp only [go_sem, Fn.amblelaw11_WearTaught_L0, h1, oK, gK, oB, gB, o12, n12, n12', l12, l12', okSz, ROOM, add1, wk] at hr
      rw [hr0, ← hr]
      refine ⟨_, _, _, rfl, by omega, upd_same _ _ _, .inr ⟨nx + 9, 0, rfl, ?_, by omega⟩, fun id cs q1 q2 h => ?_⟩
      · rw [upd_ne (by omega)]; exact upd_same _ _ _
      · rw [upd_ne q2, upd_ne (by omega), upd_ne (by omega)]; exact h
    · have a12 : a ≠ b12 := fun e => by rw [e, o12] at h2; simp at h2
      have k1 : ∀ k ob y ver, rowAt (upd ob (nx + k) y) a ver = rowAt ob a ver := fun k ob y ver => rowAt_ne (by omega)
      have hra : rowAt ob a va = some (21, es) := rowAt_of h2
      have b1' : (es.length == es.length) = true := by simp
      have w1 : (es.length + 1) * 352 ≤ 140737488355328 := by omega
      have k2 : (b12 = a) = False := by simp only [eq_iff_iff, iff_false]; omega
      simp only [go_sem, Fn.amblelaw11_WearTaught_L0, h1, oK, gK, oB, gB, o12, n12, n12', l12, l12', okSz, ROOM, k1, k2, hra, b1', w1, add1, wk] at hr
      rw [hr0, ← hr]
      refine ⟨_, _, _, rfl, by omega, upd_same _ _ _, .inr ⟨a, va + 1, ?_, ?_, by omega⟩, fun id cs q1 q2 h => ?_⟩
      · rw [List.length_append]; rfl
      · rw [upd_ne a12]; exact upd_same _ _ _
      · have : id ≠ a := fun e => by rw [e, h2] at h; simp at h
        rw [upd_ne q2, upd_ne this, upd_ne (by omega)]; exact h
theorem taught_loop {n b12 : Nat} (S : List (Bx × Bool)) (hS : S.length = 5) (c1 c2 c3 c4 c5 : AV) (y11 : SV) : ∀ (m p : Nat), p + m = 5 → ∀ (ob : Nat → Option AObj) (nx : Nat) (v : AV) (es : List (List AV)) (X : List (Nat × SV)), b12 < nx → ob b12 = some (.box [v, c1, c2, c3, c4, c5]) → OutE 21 ob nx v es → es.length + m < 2 ^ 20 → ∀ N, m < N →
    ∃ ob' nx' v' X', loopN (evC (evF E n) n Fn.amblelaw11_WearTaught_L0) N ⟨env ((7, .one (.sl false (S.map fun q => q.1.c))) :: (8, .one (.sl false (S.map rawK))) :: (11, y11) :: (12, .one (.box b12 0)) :: (13, .one (.int .u8 (p : Int))) :: X), ob, fz, nx⟩ =
      some (.ext 0, ⟨env ((7, .one (.sl false (S.map fun q => q.1.c))) :: (8, .one (.sl false (S.map rawK))) :: (11, y11) :: (12, .one (.box b12 0)) :: X'), ob', fz, nx'⟩) ∧ nx ≤ nx' ∧ ob' b12 = some (.box [v', c1, c2, c3, c4, c5]) ∧ OutE 21 ob' nx' v' (es ++ (guardsP S p m).map Guard.c) ∧ ∀ id cs, id < nx → id ≠ b12 → ob id = some (.box cs) → ob' id = some (.box cs)
  | 0, p, hp, ob, nx, v, es, X, h12, o12, hv, hes, N + 1, hN => by
    have hp' : p = 5 := by omega
    subst hp'
    have hlt : (((5 : Nat) : Int) < 5) = False := by simp
    refine ⟨ob, nx, v, [(13, .one (.int .u8 ((5 : Nat) : Int))), (72, .one (.bool false))], round_ext ?_, Nat.le_refl _, o12, ?_, fun id cs _ _ h => h⟩
    · simp only [go_sem, Fn.amblelaw11_WearTaught_L0, hlt]
    · have e : guardsP S 5 0 = [] := rfl
      rw [e]; simpa using hv
  | m + 1, p, hp, ob, nx, v, es, X, h12, o12, hv, hes, N + 1, hN => by
    have gp : S[p]? = some S[p] := List.getElem?_eq_getElem (by omega)
    obtain ⟨ob1, nx1, v1, hst, g1, g2, g3, g4⟩ := taught_round (fz := fz) (n := n) (nx := nx) (b12 := b12) (ob := ob) S hS p (by omega) S[p] gp h12 v c1 c2 c3 c4 c5 o12 es hv (by omega) y11 X
    have hl : (bif (S[p]).2 then es ++ [(⟨0, p, (S[p]).1, 1⟩ : Guard).c] else es).length + m < 2 ^ 20 := by
      cases (S[p]).2
      · simp only [cond_false]; omega
      · simp only [cond_true, List.length_append, List.length_cons, List.length_nil]; omega
    obtain ⟨ob', nx', v', X', q1, q2, q3, q4, q5⟩ := taught_loop S hS c1 c2 c3 c4 c5 y11 m (p + 1) (by omega) ob1 nx1 v1 _ [] (by omega) g2 g3 hl N (by omega)
    refine ⟨ob', nx', v', X', by rw [round_nrm hst]; exact q1, by omega, q3, ?_, fun id cs i1 i2 h => q5 id cs (by omega) i2 (g4 id cs i1 i2 h)⟩
    have e : guardsP S p (m + 1) = (bif (S[p]).2 then [⟨0, p, (S[p]).1, 1⟩] else []) ++ guardsP S (p + 1) m := by
      unfold guardsP
      rw [List.range'_succ, List.filter_cons, gp]
      cases hk : (S[p]).2 <;> simp [hk, gp]
    rw [e]
    cases hm : (S[p]).2 <;> rw [hm] at q4 <;> simpa using q4
end
theorem Note.sm (x : Note) : SmSamp x.q.s := Beat.sm x.beat
theorem devT_sm {S : List (Bx × Bool)} (hS : SmS S) : SmDev (devT S) := by
  have e1 : (devT S).curves = List.replicate 5 [⟨0, 0⟩, ⟨10, 20⟩] := rfl
  have e2 : (devT S).limits = List.replicate 5 ⟨15, 6⟩ := rfl
  have e3 : (devT S).step = mkRat 1 100 := rfl
  have hl : (guardsP S 1 4).length ≤ 4 := by
    unfold guardsP; rw [List.length_map]
    exact Nat.le_trans (List.length_filter_le _ _) (by simp)
  refine ⟨fun g hg => ?_, fun c hc p hp => ?_, fun p hp => ?_, ?_, Nat.lt_of_le_of_lt hl (by decide), by rw [e1]; decide, fun c hc => ?_, by rw [e2]; decide⟩
  · obtain ⟨k, b, h1, h2, h3, rfl⟩ := guardsP_mem hg
    exact ⟨hS _ (List.mem_of_getElem? h3) rfl, by show 0 < 256; decide, by show k < 256; omega⟩
  · rw [e1] at hc
    rw [List.eq_of_mem_replicate hc] at hp
    simp only [List.mem_cons, List.not_mem_nil, or_false] at hp
    rcases hp with rfl | rfl
    · exact ⟨⟨by decide, by decide⟩, ⟨by decide, by decide⟩⟩
    · exact ⟨⟨by decide, by decide⟩, ⟨by decide, by decide⟩⟩
  · rw [e2] at hp
    rw [List.eq_of_mem_replicate hp]
    exact ⟨⟨by decide, by decide⟩, ⟨by decide, by decide⟩⟩
  · rw [e3]; exact ⟨by decide, by decide⟩
  · rw [e1] at hc
    rw [List.eq_of_mem_replicate hc]; decide
set_option maxRecDepth 100000 in
set_option maxHeartbeats 1000000 in
theorem Taught_ends (l : List Note) (hl : l.length < 2 ^ 20) (wh : Nat) (hwh : wh < 256) :
    Ends Id.amblelaw11_WearTaught [.one (.sl false (l.map Note.c)), .one (.int .u8 (wh : Int))] (.one (.bool true)) := by
  obtain ⟨N1, k1⟩ := awake_call
  have q0 : (((l.length : Nat) : Int) == 0) = decide (l.length = 0) := by rw [Bool.eq_iff_iff]; simp
  have q30 : (((l.length : Nat) : Int) > 30) = (30 < l.length) := by rw [eq_iff_iff]; omega
  by_cases p0 : l.length = 0
  · refine .of N1 fun {n} hn => ?_
    have k1 := k1 n hn
    rw [evV_succ E_amblelaw11_WearTaught]
    have q0' : (((l.length : Nat) : Int) == 0) = true := by rw [q0]; simp [p0]
    simp only [go_sem, Fn.amblelaw11_WearTaught, List.length_map, q0', k1]
  have q0' : (((l.length : Nat) : Int) == 0) = false := by rw [q0]; simp [p0]
  by_cases p1 : 30 < l.length
  · refine .of N1 fun {n} hn => ?_
    have k1 := k1 n hn
    rw [evV_succ E_amblelaw11_WearTaught]
    simp only [go_sem, Fn.amblelaw11_WearTaught, List.length_map, q0', q30, p1, k1]
  obtain ⟨N2, k2⟩ := notes_call l hl
  obtain ⟨L, hL⟩ : ∃ L, L = l.map Note.q := ⟨_, rfl⟩
  have hLl : L.length = l.length := by rw [hL, List.length_map]
  have hLc : (l.map fun s => s.q.c) = L.map Rcd.c := by rw [hL, List.map_map]; rfl
  have hLs : ∀ x ∈ L, SmSamp x.s := fun x hx => by rw [hL] at hx; obtain ⟨y, _, rfl⟩ := List.mem_map.1 hx; exact Note.sm y
  obtain ⟨N3, k3⟩ := (Boxes_ends L (by rw [hLl]; exact hl) hLs).call (can1 (.one _ (.sl _)))
  rw [hLc] at k2
  by_cases pe : boxesE L = 0
  case neg =>
    have pe2 : boxesE L = 2 := by
      unfold boxesE at pe ⊢
      by_cases h : L.any badR = true
      · rw [if_pos h]
      · rw [if_neg h, if_neg (by omega)] at pe; exact absurd rfl pe
    unfold boxesA at k3
    rw [if_neg pe, pe2] at k3
    refine .of (N1 + N2 + N3) fun {n} hn => ?_
    have k1 := k1 n (by omega)
    have k2 := k2 n (by omega)
    have k3 := k3 n (by omega)
    rw [evV_succ E_amblelaw11_WearTaught]
    have t1 : ((2 : Int) != 0) = true := rfl
    have t2 : ((2 : Int) == 0) = false := rfl
    have t3 : ((2 : Int) == 2) = true := rfl
    simp only [go_sem, Fn.amblelaw11_WearTaught, List.length_map, q0', q30, p1, k1, k2, k3, t1, t2, t3]
  obtain ⟨hph, -⟩ := boxesE_ok pe
  unfold boxesA at k3
  rw [if_pos pe] at k3
  have hS0 : SmS boxes0 := fun q hq hk => by
    rw [List.eq_of_mem_replicate hq] at hk; cases hk
  have hF : (boxesF L).length = 5 := by unfold boxesF; rw [boxL_len]; rfl
  have hFs : SmS (boxesF L) := boxL_sm L boxes0 hS0 hLs
  have hFr : RtS (boxesF L) := boxL_rt L boxes0 fun q hq hk => by rw [List.eq_of_mem_replicate hq] at hk; cases hk
  have hhas : ∀ x ∈ L, ∃ b, (boxesF L)[x.ph]? = some (b, true) ∧ hasBx b x.s = true := boxL_has L boxes0 rfl hph
  have hmix := mixL_none (boxesF L) L 0
  have hmL : (mixL (boxesF L) 0 L).length < 2 ^ 30 := by
    have hg : ∀ (r : List Rcd) (i : Nat), (mixL (boxesF L) i r).length ≤ 5 * r.length := by
      intro r
      induction r with
      | nil => intro i; exact Nat.zero_le _
      | cons x r ih =>
        intro i
        unfold mixL
        rw [List.length_append, List.length_cons]
        have h1 := mixR_len (boxesF L) i x 0 5
        have h2 := ih (i + 1)
        omega
    have := hg L 0
    omega
  have t00 : ((0 : Int) != 0) = false := rfl
  have t01 : ((0 : Int) == 0) = true := rfl
  by_cases pm : 0 < (mixL (boxesF L) 0 L).length
  · have qm : ((((mixL (boxesF L) 0 L).length : Nat) : Int) > 0) = True := by simp only [eq_iff_iff, iff_true]; omega
    refine .of (N1 + N2 + N3) fun {n} hn => ?_
    have k1 := k1 n (by omega)
    have k2 := k2 n (by omega)
    have k3 := k3 n (by omega)
    rw [evV_succ E_amblelaw11_WearTaught]
    simp only [go_sem, Fn.amblelaw11_WearTaught, List.length_map, q0', q30, p1, k1, k2, k3, t00, t01, qm]
  have hm0 : mixL (boxesF L) 0 L = [] := List.eq_nil_of_length_eq_zero (by omega)
  have hmix := hmix hm0
  rw [hm0] at k3
  have hi : wh % L.length < L.length := Nat.mod_lt _ (by omega)
  obtain ⟨k, hk⟩ : ∃ k, k = wh % L.length := ⟨_, rfl⟩
  rw [← hk] at hi
  obtain ⟨x, hx⟩ : ∃ x, x = L[k] := ⟨_, rfl⟩
  have gx : L[k]? = some x := by rw [hx]; exact List.getElem?_eq_getElem hi
  have hxm : x ∈ L := List.mem_of_getElem? gx
  have hxp := hph x hxm
  generalize boxesF L = S at *
  have hphs := devT_phase x hxp (hmix x hxm) (hhas x hxm)
  have hright := devT_right hFr
  have hdev := devT_sm hFs
  have herr : errD (devT S) = 0 := by unfold errD; rw [if_pos hright]
  have hmay : mayI (devT S) [x.s] = 0 := mayI_eq herr (by simp)
  obtain ⟨N4, k4⟩ := Phases_ends (devT S) hdev [x.s] (by show 1 < 2 ^ 20; decide) (fun s hs => by simp only [List.mem_cons, List.not_mem_nil, or_false] at hs; rw [hs]; exact hLs x hxm)
  rw [if_pos hmay, hmay] at k4
  have hpc : (acts (devT S) w0 [x.s]).map phC = [[.int .u8 (x.ph : Int)]] := by
    have e : (acts (devT S) w0 [x.s]).map phC = ((acts (devT S) w0 [x.s]).map (·.1)).map fun p : Nat => [AV.int .u8 (p : Int)] := by rw [List.map_map]; rfl
    rw [e, hphs]; rfl
  rw [hpc] at k4
  obtain ⟨N5, k5⟩ := leg_call
  obtain ⟨d1, d2, d3, hd3, hdc⟩ := dev_cells legD0
  have hdt : (devT S).c = [.sl false ((guardsP S 1 4).map Guard.c), .sl false (legD0.curves.map fun s => [.sl false (s.map Pt.c)]), .sl false (legD0.limits.map Pt.c), d1, d2, d3] := by
    unfold Dev.c devT
    rw [hd3]; rfl
  refine .of (N1 + N2 + N3 + N4 + N5 + 6) fun {n} hn => ?_
  have k1 := k1 n (by omega)
  have k2 := k2 n (by omega)
  have k3 := k3 n (by omega)
  have k4 := k4 n (by omega)
  have k5 := k5 n (by omega)
  rw [hdc] at k5
  have ge : (L.map Rcd.c)[k]? = some x.c := by rw [List.getElem?_map, gx]; rfl
  have okz : okSz 13 (L.map Rcd.c) = true := okSz_map (f := Rcd.c) (k := 13) (fun _ => rfl) _
  obtain ⟨s0, s1, s2, s3, s4, s5, s6, s7, s8, es', -, -, -, -, -, -, -, -, -⟩ := samp_cells x.s
  obtain ⟨q0, q1, q2, eq, -, -, -⟩ := qC_cells x.m
  have ec : x.c = [.int .u8 (x.ph : Int), s0, s1, s2, s3, s4, s5, s6, s7, s8, q0, q1, q2] := by unfold Rcd.c; rw [es', eq]; rfl
  rw [ec] at ge
  have wc : IntKind.i64.wrap (wh : Int) = (wh : Int) := wi64 (by omega)
  have tm : (((wh : Nat) : Int).tmod ((L.length : Nat) : Int)) = (k : Int) := by
    rw [hk, Int.tmod_eq_emod_of_nonneg (by omega)]; rfl
  have ne0 : ((((L.length : Nat) : Int)) = 0) = False := by simp only [eq_iff_iff, iff_false]; omega
  obtain ⟨obL, nxL, v, XL, hlo, g1, g2, g3, g4⟩ := taught_loop (n := n) (fz := fz0) (b12 := 11) S hF (.sl false (legD0.curves.map fun s => [.sl false (s.map Pt.c)])) (.sl false (legD0.limits.map Pt.c)) d1 d2 d3 (.one (.box 8 0)) 4 1 (by omega) (upd (upd (upd (upd ob0 8 (.box x.c)) 11 (.box [.nils, .nils, .nils, .bool false, .nils, .nils])) 11 (.box legD0.c)) 11 (.box [.nils, .sl false (legD0.curves.map fun s => [.sl false (s.map Pt.c)]), .sl false (legD0.limits.map Pt.c), d1, d2, d3])) 13 .nils [] [] (by decide) (upd_same _ _ _) (.inl ⟨rfl, rfl⟩) (by decide) n (by omega)
  have z1 : ((1 : Nat) : Int) = 1 := rfl
  rw [z1] at hlo
  have o8 : obL 8 = some (.box x.c) := g4 8 _ (by decide) (by decide) (by rw [upd_ne (by decide), upd_ne (by decide), upd_ne (by decide)]; exact upd_same _ _ _)
  rw [ec] at o8 hlo
  rw [hdc] at hlo
  simp only [upd_upd] at hlo
  have hv : OutE 21 (upd obL (nxL + 3) (.row 9 [[s0, s1, s2, s3, s4, s5, s6, s7, s8]] 0)) (nxL + 10) v ((guardsP S 1 4).map Guard.c) := by
    rcases g3 with h | ⟨id, ver, h1, h2, h3⟩
    · exact .inl h
    · exact .inr ⟨id, ver, h1, by rw [upd_ne (by omega)]; exact h2, by omega⟩
  obtain ⟨g, hg⟩ := hv.frzD (canonEs_map CanL.guard _)
  have f3 : ∀ (ob : Nat → Option AObj) (fz : Nat → Nat), mapFz (Ev.frz ob DEPTH) fz [.sl false (legD0.curves.map fun s => [.sl false (s.map Pt.c)]), .sl false (legD0.limits.map Pt.c), d1, d2, d3] = some (fz, [.sl false (legD0.curves.map fun s => [.sl false (s.map Pt.c)]), .sl false (legD0.limits.map Pt.c), d1, d2, d3]) := fun ob fz => mapFz_id _ fun y hy => Canon.frz (by
    have := CanL.dev legD0 y
    rw [hdc] at this
    exact this (by simp only [List.mem_cons] at hy ⊢; exact .inr hy)) ob 7 fz
  have hA : ∀ fz, frzS (upd obL (nxL + 3) (.row 9 [[s0, s1, s2, s3, s4, s5, s6, s7, s8]] 0)) fz (.agg [v, .sl false (legD0.curves.map fun s => [.sl false (s.map Pt.c)]), .sl false (legD0.limits.map Pt.c), d1, d2, d3]) = some (g fz, .agg (devT S).c) := fun fz => by
    rw [hdt]
    simp only [frzS]
    rw [mapFz, hg fz]
    simp only [f3]
  have hB : ∀ fz, frzS (upd obL (nxL + 3) (.row 9 [[s0, s1, s2, s3, s4, s5, s6, s7, s8]] 0)) fz (.one (.rsl (nxL + 3) 0 9 0 1 false)) = some (raise fz (nxL + 3) 1, .one (.sl false ([x.s].map Samp.c))) := fun fz => by
    have h := frzS_row (ob := upd obL (nxL + 3) (.row 9 [[s0, s1, s2, s3, s4, s5, s6, s7, s8]] 0)) (id := nxL + 3) (ver := 0) (sz := 9) (z := 9) (lo := 0) (len := 1) (full := false) (es := [[s0, s1, s2, s3, s4, s5, s6, s7, s8]]) fz rowAt_upd (by simp) (by rw [← es']; exact canonEs1 (CanL.samp _))
    rw [h, es'.symm]
    rfl
  have hcall : ∀ fz, callV (evF E n) Id.wear_Phases [.agg [v, .sl false (legD0.curves.map fun s => [.sl false (s.map Pt.c)]), .sl false (legD0.limits.map Pt.c), d1, d2, d3], .one (.rsl (nxL + 3) 0 9 0 1 false)] (upd obL (nxL + 3) (.row 9 [[s0, s1, s2, s3, s4, s5, s6, s7, s8]] 0)) fz = some (.fzd (raise (g fz) (nxL + 3) 1) (.tup [.one (.sl false [[.int .u8 (x.ph : Int)]]), .one (.int .i64 0)])) := fun fz => by
    rw [callV_ev]
    simp only [mapFz, hA, hB, k4, Option.map_some]
  have l8 : (8 < nxL) = True := by simp only [eq_iff_iff, iff_true]; omega
  have l11 : (11 < nxL) = True := by simp only [eq_iff_iff, iff_true]; omega
  have m8 : ∀ k, (8 = nxL + k) = False := fun k => by simp only [eq_iff_iff, iff_false]; omega
  have m11 : ∀ k, (11 = nxL + k) = False := fun k => by simp only [eq_iff_iff, iff_false]; omega
  have e5 : (((5 : Nat) : Int) != 5) = false := rfl
  have pp : (((x.ph : Nat) : Int) == ((x.ph : Nat) : Int)) = true := by simp
  have e11 : (((1 : Nat) : Int) == 1) = true := rfl
  rw [evV_succ E_amblelaw11_WearTaught]
  have hz : ((0 : Nat) : Int) = 0 := rfl
  have hgt : (((0 : Nat) : Int) > 0) = False := by simp
  simp only [go_sem, Fn.amblelaw11_WearTaught, List.length_map, q0', q30, p1, k1, k2, k3, k5, t00, t01, hgt, hF, e5, wc, tm, ne0, okz, ge, hLl ▸ hLl]
  rw [hlo]
  have nz : Ev.natOf 0 = some 0 := rfl
  have l8' : ∀ k, (8 < nxL + k) = True := fun k => by simp only [eq_iff_iff, iff_true]; omega
  simp only [go_sem, g2, o8, nz, hcall, l8, l8', l11, m8, m11, t01, e11, pp, k1]
end Go.Ev
namespace Go.Proofs.Ythghhnhojdmcpaa.wearTaught
open Go.Ev
theorem own : ownKnob Try.prog.godebug = none := by kernel_rfl
theorem laid : laidOutB Try.prog = true := by kernel_rfl
def shapes : List TD := [.slice noteD, .int .u8]
theorem fnd : Try.prog.funcs[5]? = some Try.f5 := Try.func5
theorem tysB : (Try.f5.params.toList.zip shapes).all (fun p => okT Try.prog 10 p.1 && tyIs Try.prog 10 p.1 p.2) = true := by kernel_rfl
theorem tsB : Try.f5.params.toList.all (fun t => Try.prog.readableRec t && decide (t < Try.prog.types.size)) = true := by kernel_rfl
theorem resB : Try.f5.resultTypes = #[4] := by kernel_rfl
theorem spec {H : Type} (ds : List (DataW H)) (svs : List SV) (h : IsArgs shapes ds svs) : Rows.wearTaughtSpec.fn H ds = { results := [.lit (.bool true)], args := ds } := by
  unfold shapes at h
  simp only [IsArgs] at h
  obtain ⟨d1, r1, x1, s1, rfl, rfl, h1, d2, r2, x2, s2, rfl, rfl, h2, rfl, rfl⟩ := h
  rfl
theorem run {H : Type} (ds : List (DataW H)) (svs : List SV) (h : IsArgs shapes ds svs) (hb : Rows.uptoBulkAll ds ≤ 1048576) : ∃ k, evV E k 5 svs = some (.one (.bool true)) := by
  unfold shapes at h
  simp only [IsArgs] at h
  obtain ⟨d1, r1, x1, s1, rfl, rfl, h1, d2, r2, x2, s2, rfl, rfl, h2, rfl, rfl⟩ := h
  obtain ⟨b1, hb⟩ := bulk_cons hb
  obtain ⟨b2, hb⟩ := bulk_cons hb
  obtain ⟨l, rfl, l1⟩ := isD_notes h1 b1
  obtain ⟨c, rfl, c1⟩ := isD_u8 h2
  have e : (2 : Nat) ^ 20 = 1048576 := by decide
  rw [← e] at l1
  obtain ⟨N, hN⟩ := Taught_ends l l1 c c1
  exact ⟨N, hN N (Nat.le_refl N)⟩
set_option maxRecDepth 100000 in
theorem lifted (os : Os) (started : os.Started) (H : Type) (enc : TypeId × Value → H) (F : Stop.Interp) :
    ReturnsInHanded {} Try.checked os 5 .any ((Rows.OpenSpec.upto Rows.wearTaughtSpec).pre6 enc Try.prog Try.f5 Rows.wearTaughtUptoRow.domain false) (((Rows.OpenSpec.upto Rows.wearTaughtSpec).at F).post enc Try.prog Try.f5 false true false false) := by
  refine returnsInHanded_of_cond (C := Try.checked) (s := Rows.OpenSpec.upto Rows.wearTaughtSpec) (k := Rows.uptoSmall) rfl own started (by kernel_rfl) fnd
    (OpenSpec.witness (enc := enc) (C := Try.checked) (s := Rows.OpenSpec.upto Rows.wearTaughtSpec) (k := Rows.uptoSmall) rfl false ⟨#[], #[.slice none 0 0, .int .u8 0], []⟩ 8 (by kernel_rfl) (by kernel_rfl) (by kernel_rfl)
      (x := ([.nil, .lit (.int .u8 0)], [], [])) (by kernel_rfl) rfl (by kernel_rfl)) ?_
  intro W base args ds gs before hval hW _ hk _
  refine law_contract (k := 10) (Ds := shapes) fnd laid rfl (fun t ht => ?_) resB (by kernel_rfl) (by kernel_rfl) (fun p hp => ?_) (fun H ds svs h => spec ds svs h) (fun H ds svs h hb => run ds svs h hb) W base args ds gs before hval hW hk
  · have := List.all_eq_true.1 tsB t ht
    simpa using this
  · have := List.all_eq_true.1 tysB p hp
    simpa using this
theorem proved : Rows.WearTaughtUptoSaid :=
  OpenClaim.holds_of_cond 5 Try.f5 rfl rfl rfl rfl rfl rfl rfl ⟨rfl, rfl, rfl, rfl, rfl⟩ rfl rfl rfl rfl rfl (by kernel_rfl) fnd (by kernel_rfl)
    (of_decide_eq_true (by kernel_rfl)) (by unfold Func.isWrapper; first | (rw [if_pos (by decide +kernel)]; kernel_rfl) | (rw [if_neg (by decide +kernel)]; exact ⟨rfl, rfl⟩))
    (fun os started H enc _ F => lifted os started H enc F)
end Go.Proofs.Ythghhnhojdmcpaa.wearTaught
