import Derived.Test.YthghhnhojdmcpaaGreatP4
import Derived.Test.YthghhnhojdmcpaaGreatP1
set_option linter.all false
namespace Go.Ev
open Go.Dig
def IntKeys (es : List AEnt) : Prop := ∀ e ∈ es, ∃ z : Int, e.key = .int .i64 z
theorem keyEq_int (a b : Int) : keyEq (.int .i64 a) (.int .i64 b) = some (a == b) := rfl
theorem findE_put (z : Int) (v : SV) : ∀ (es : List AEnt), IntKeys es → ∀ i,
    (findE (.int .i64 z) es i = some none ∧ ∀ b y, findE (.int .i64 y) (es ++ [⟨.int .i64 z, v, b⟩]) i = if y = z then some (some (i + es.length, ⟨.int .i64 z, v, b⟩)) else findE (.int .i64 y) es i) ∨
    (∃ j e, findE (.int .i64 z) es i = some (some (i + j, e)) ∧ ∀ b y, findE (.int .i64 y) (es.set j ⟨.int .i64 z, v, b⟩) i = if y = z then some (some (i + j, ⟨.int .i64 z, v, b⟩)) else findE (.int .i64 y) es i)
  | [], _, i => by
    left
    refine ⟨rfl, fun b y => ?_⟩
    simp only [List.nil_append, findE, keyEq_int]
    by_cases h : y = z
    · subst h; simp
    · have h' : (y == z) = false := by simp [h]
      simp only [h', if_neg h]
  | e0 :: r, hk, i => by
    obtain ⟨a, ha⟩ := hk e0 (by simp)
    have hr : IntKeys r := fun e he => hk e (by simp [he])
    by_cases hza : z = a
    · right
      refine ⟨0, e0, ?_, fun b y => ?_⟩
      · simp only [findE, ha, keyEq_int, hza, beq_self_eq_true, Nat.add_zero]
      · simp only [List.set_cons_zero, findE, keyEq_int, ha, Nat.add_zero]
        by_cases h : y = z
        · subst h; simp
        · have h' : (y == z) = false := by simp [h]
          have h'' : (y == a) = false := by rw [← hza]; exact h'
          simp only [h', h'', if_neg h]
    · have hza' : (z == a) = false := by simp [hza]
      rcases findE_put z v r hr (i + 1) with ⟨h1, h2⟩ | ⟨j, e, h1, h2⟩
      · left
        refine ⟨by simp only [findE, ha, keyEq_int, hza', h1], fun b y => ?_⟩
        simp only [List.cons_append, findE, ha, keyEq_int, List.length_cons]
        rw [h2 b y]
        by_cases hya : y = a
        · have : (y == a) = true := by simp [hya]
          have hyz : ¬ y = z := fun e => hza (by rw [← e, hya])
          simp only [this, if_neg hyz]
        · have : (y == a) = false := by simp [hya]
          simp only [this]
          split
          · rw [show i + 1 + r.length = i + (r.length + 1) by omega]
          · rfl
      · right
        refine ⟨j + 1, e, by simp only [findE, ha, keyEq_int, hza', h1, show i + 1 + j = i + (j + 1) by omega], fun b y => ?_⟩
        simp only [List.set_cons_succ, findE, ha, keyEq_int]
        rw [h2 b y]
        by_cases hya : y = a
        · have : (y == a) = true := by simp [hya]
          have hyz : ¬ y = z := fun e => hza (by rw [← e, hya])
          simp only [this, if_neg hyz]
        · have : (y == a) = false := by simp [hya]
          simp only [this, show i + 1 + j = i + (j + 1) by omega]
theorem intKeys_app {es : List AEnt} (h : IntKeys es) (z : Int) (v : SV) (b : Nat) : IntKeys (es ++ [⟨.int .i64 z, v, b⟩]) := fun e he => by
  rcases List.mem_append.1 he with h1 | h1
  · exact h e h1
  · simp only [List.mem_cons, List.not_mem_nil, or_false] at h1
    subst h1
    exact ⟨z, rfl⟩
theorem intKeys_set {es : List AEnt} (h : IntKeys es) (j : Nat) (z : Int) (v : SV) (b : Nat) : IntKeys (es.set j ⟨.int .i64 z, v, b⟩) := fun e he => by
  rcases List.mem_or_eq_of_mem_set he with h1 | h1
  · exact h e h1
  · subst h1
    exact ⟨z, rfl⟩
def Rep (es : List AEnt) (cnt : Nat → Nat) : Prop := IntKeys es ∧ ∀ i : Nat, (findE (.int .i64 (i : Int)) es 0 = some none ∧ cnt i = 0) ∨ ∃ j e, findE (.int .i64 (i : Int)) es 0 = some (some (j, e)) ∧ e.val = .one (.int .i64 (cnt i : Int))
theorem Rep.nil : Rep [] fun _ => 0 := ⟨fun _ h => by simp at h, fun i => .inl ⟨rfl, rfl⟩⟩
def setN (c : Nat → Nat) (i v : Nat) : Nat → Nat := fun k => if k = i then v else c k
theorem put_cases {es : List AEnt} {cnt : Nat → Nat} (h : Rep es cnt) (i v : Nat) :
    (findE (.int .i64 (i : Int)) es 0 = some none ∧ cnt i = 0 ∧ ∀ b, (∃ j, findE (.int .i64 (i : Int)) (es ++ [⟨.int .i64 (i : Int), .one (.int .i64 (v : Int)), b⟩]) 0 = some (some (j, ⟨.int .i64 (i : Int), .one (.int .i64 (v : Int)), b⟩))) ∧ Rep (es ++ [⟨.int .i64 (i : Int), .one (.int .i64 (v : Int)), b⟩]) (setN cnt i v)) ∨
    (∃ j k b0, findE (.int .i64 (i : Int)) es 0 = some (some (j, ⟨k, .one (.int .i64 (cnt i : Int)), b0⟩)) ∧ ∀ b, (findE (.int .i64 (i : Int)) (es.set j ⟨.int .i64 (i : Int), .one (.int .i64 (v : Int)), b⟩) 0 = some (some (j, ⟨.int .i64 (i : Int), .one (.int .i64 (v : Int)), b⟩))) ∧ Rep (es.set j ⟨.int .i64 (i : Int), .one (.int .i64 (v : Int)), b⟩) (setN cnt i v)) := by
  rcases findE_put (i : Int) (.one (.int .i64 (v : Int))) es h.1 0 with ⟨h1, h2⟩ | ⟨j, e, h1, h2⟩
  · left
    refine ⟨h1, ?_, fun b => ⟨⟨_, by rw [h2 b (i : Int), if_pos rfl]⟩, intKeys_app h.1 _ _ _, fun k => ?_⟩⟩
    · rcases h.2 i with ⟨_, h⟩ | ⟨j, e, h, _⟩
      · exact h
      · rw [h1] at h; simp at h
    · rw [h2 b (k : Int)]
      unfold setN
      by_cases hk : k = i
      · subst hk
        rw [if_pos rfl, if_pos rfl]
        exact .inr ⟨_, _, rfl, rfl⟩
      · rw [if_neg hk, if_neg (by omega)]
        exact h.2 k
  · right
    rw [Nat.zero_add] at h1
    rcases h.2 i with ⟨h3, _⟩ | ⟨j', e', h3, h4⟩
    · rw [h1] at h3; simp at h3
    rw [h1] at h3
    simp only [Option.some.injEq, Prod.mk.injEq] at h3
    obtain ⟨rfl, rfl⟩ := h3
    obtain ⟨k0, v0, b0⟩ := e
    dsimp only at h4
    subst h4
    refine ⟨j, k0, b0, h1, fun b => ⟨by rw [h2 b (i : Int), if_pos rfl, Nat.zero_add], intKeys_set h.1 _ _ _ _, fun k => ?_⟩⟩
    rw [h2 b (k : Int)]
    unfold setN
    by_cases hk : k = i
    · subst hk
      rw [if_pos rfl, if_pos rfl]
      exact .inr ⟨_, _, rfl, rfl⟩
    · rw [if_neg hk, if_neg (by omega)]
      exact h.2 k
def seeS (ph : Nat) (s : Samp) (g : Guard) (i : Nat) (c : Nat → Nat) (f : Option Nat) : (Nat → Nat) × Option Nat :=
  if g.from_ = ph then (if hasBx g.box s = true then (setN c i (c i + 1), if g.hold ≤ ((c i + 1 : Nat) : Int) ∧ f = none then some i else f) else (setN c i 0, f)) else (c, f)
def seeL (ph : Nat) (s : Samp) : List Guard → Nat → (Nat → Nat) → Option Nat → (Nat → Nat) × Option Nat
  | [], _, c, f => (c, f)
  | g :: r, i, c, f => seeL ph s r (i + 1) (seeS ph s g i c f).1 (seeS ph s g i c f).2
def firedI : Option Nat → Int
  | none => -1
  | some k => (k : Int)
theorem fired_lt (f : Option Nat) : (firedI f < 0) = (f = none) := by
  cases f with
  | none => simp [firedI]
  | some k => simp [firedI]
section
variable {n : Nat} {fz : Nat → Nat}
theorem see_round {bw mid b3 nx i : Nat} {ob : Nat → Option AObj} {es : List AEnt} {clk ph : Nat} {cnt : Nat → Nat} {w1 w2 w3 w4 w5 w6 : AV} (l : List Guard) (g : Guard) (s : Samp) (gd : l[i]? = some g) (hil : i < l.length) (hl : l.length < 2 ^ 20) (hb : bw < nx) (hm : mid < nx) (h3 : b3 < nx) (hne : bw ≠ mid ∧ bw ≠ b3 ∧ mid ≠ b3) (ow : ob bw = some (.box [w1, w2, w3, w4, w5, w6, .int .u8 (ph : Int), .mp mid])) (om : ob mid = some (.map es clk)) (o3 : ob b3 = some (.box s.c)) (hr : Rep es cnt) (hcnt : cnt i < 2 ^ 40) (f : Option Nat)
    (hc : ∀ (ob : Nat → Option AObj) (fz : Nat → Nat), callV (evF E n) Id.wear_Box_has [.agg g.box.c, .agg s.c] ob fz = some (.fzd fz (.one (.bool (hasBx g.box s))))) (X : List (Nat × SV)) :
    ∃ (ob' : Nat → Option AObj) (es' : List AEnt) (clk' : Nat), evC (evF E n) n Fn.wear_watcher_see_L0 ⟨env ((0, .one (.box bw 0)) :: (3, .one (.box b3 0)) :: (4, .one (.int .i64 (firedI f))) :: (11, .one (.sl false (l.map Guard.c))) :: (12, .one (.int .i64 (l.length : Int))) :: (13, .one (.int .i64 (i : Int))) :: X), ob, fz, nx⟩ =
      some (.nrm, ⟨env [(0, .one (.box bw 0)), (3, .one (.box b3 0)), (4, .one (.int .i64 (firedI (seeS ph s g i cnt f).2))), (11, .one (.sl false (l.map Guard.c))), (12, .one (.int .i64 (l.length : Int))), (13, .one (.int .i64 ((i + 1 : Nat) : Int)))], ob', fz, nx + 6⟩) ∧ ob' mid = some (.map es' clk') ∧ Rep es' (seeS ph s g i cnt f).1 ∧ ∀ id, id < nx → id ≠ mid → ob' id = ob id := by
  have h1 : (((i : Nat) : Int) < ((l.length : Nat) : Int)) = True := by simp; omega
  have wk : IntKind.i64.wrap ((i + 1 : Nat) : Int) = ((i + 1 : Nat) : Int) := wi64 (by omega)
  have wc : IntKind.i64.wrap ((cnt i + 1 : Nat) : Int) = ((cnt i + 1 : Nat) : Int) := wi64 (by omega)
  have okz : okSz 21 (l.map Guard.c) = true := okSz_map (f := Guard.c) (k := 21) (fun _ => rfl) l
  have ge : (l.map Guard.c)[i]? = some g.c := by rw [List.getElem?_map, gd]; rfl
  obtain ⟨c0, c1, c2, c3, c4, c5, c6, c7, c8, c9, c10, c11, c12, c13, c14, c15, c16, c17, eb, ec⟩ := guard_cells g
  obtain ⟨s0, s1, s2, s3, s4, s5, s6, s7, s8, es', -, -, -, -, -, -, -, -, -⟩ := samp_cells s
  rw [eb, es'] at hc
  rw [ec] at ge
  rw [es'] at o3
  obtain ⟨hn1, hn2, hn3⟩ := hne
  have n1 : ∀ k, (bw = nx + k) = False := fun k => by simp only [eq_iff_iff, iff_false]; omega
  have n2 : ∀ k, (mid = nx + k) = False := fun k => by simp only [eq_iff_iff, iff_false]; omega
  have n3 : ∀ k, (b3 = nx + k) = False := fun k => by simp only [eq_iff_iff, iff_false]; omega
  have n1' : ∀ k, (nx + k = bw) = False := fun k => by simp only [eq_iff_iff, iff_false]; omega
  have n2' : ∀ k, (nx + k = mid) = False := fun k => by simp only [eq_iff_iff, iff_false]; omega
  have n3' : ∀ k, (nx + k = b3) = False := fun k => by simp only [eq_iff_iff, iff_false]; omega
  have t1 : ∀ k, (bw < nx + k) = True := fun k => by simp only [eq_iff_iff, iff_true]; omega
  have t2 : ∀ k, (mid < nx + k) = True := fun k => by simp only [eq_iff_iff, iff_true]; omega
  have t3 : ∀ k, (b3 < nx + k) = True := fun k => by simp only [eq_iff_iff, iff_true]; omega
  have e1 : (bw = mid) = False := by simp [hn1]
  have e2 : (b3 = mid) = False := by simp [Ne.symm hn3]
  have kI : ∀ z : Int, keyIs (.int .i64) (.int .i64 z) = true := fun z => rfl
  have frame : ∀ (y : AObj) (ob1 : Nat → Option AObj), (∀ id, id < nx → ob1 id = ob id) → ∀ id, id < nx → id ≠ mid → upd ob1 mid y id = ob id := fun y ob1 h id q1 q2 => by rw [upd_ne q2]; exact h id q1
  have fresh : ∀ (y z : AObj) id, id < nx → upd (upd ob (nx + 3) y) (nx + 3) z id = ob id := fun y z id q => by rw [upd_ne (by omega), upd_ne (by omega)]
  obtain ⟨r, hr0⟩ : ∃ r, evC (evF E n) n Fn.wear_watcher_see_L0 ⟨env ((0, .one (.box bw 0)) :: (3, .one (.box b3 0)) :: (4, .one (.int .i64 (firedI f))) :: (11, .one (.sl false (l.map Guard.c))) :: (12, .one (.int .i64 (l.length : Int))) :: (13, .one (.int .i64 (i : Int))) :: X), ob, fz, nx⟩ = r := ⟨_, rfl⟩
  have hr1 := hr0
  unfold seeS
  by_cases p1 : g.from_ = ph
  · have q1 : ((g.from_ : Int) != (ph : Int)) = false := by simp [p1]
    rw [if_pos p1]
    cases hh : hasBx g.box s with
    | false =>
      rw [hh] at hc
      rw [if_neg (by simp)]
      have z0 : ((0 : Nat) : Int) = 0 := rfl
      rcases put_cases hr i 0 with ⟨f1, f2, f3⟩ | ⟨j, k0, b0, f1, f3⟩
      · obtain ⟨-, hrep⟩ := f3 clk
        rw [z0] at hrep
        simp only [go_sem, Fn.wear_watcher_see_L0, h1, ge, okz, ow, om, o3, q1, hc, n1, n2, n3, n1', n2', n3', t1, t2, t3, e1, e2, kI, f1, add1, wk] at hr1
        rw [hr0, ← hr1]
        exact ⟨_, _, _, rfl, upd_same _ _ _, hrep, fun id q1 q2 => by rw [upd_ne q2, upd_ne (by omega)]⟩
      · obtain ⟨-, hrep⟩ := f3 b0
        rw [z0] at hrep
        simp only [go_sem, Fn.wear_watcher_see_L0, h1, ge, okz, ow, om, o3, q1, hc, n1, n2, n3, n1', n2', n3', t1, t2, t3, e1, e2, kI, f1, add1, wk] at hr1
        rw [hr0, ← hr1]
        exact ⟨_, _, _, rfl, upd_same _ _ _, hrep, fun id q1 q2 => by rw [upd_ne q2, upd_ne (by omega)]⟩
    | true =>
      rw [hh] at hc
      rw [if_pos rfl]
      have q3 := fired_lt f
      have q2 : (((cnt i + 1 : Nat) : Int) ≥ g.hold) = (g.hold ≤ ((cnt i + 1 : Nat) : Int)) := rfl
      generalize hcn : cnt i + 1 = cn at *
      rcases put_cases hr i cn with ⟨f1, f2, f3⟩ | ⟨j, k0, b0, f1, f3⟩
      · obtain ⟨⟨j, f4⟩, hrep⟩ := f3 clk
        have a0 : ((0 : Int) + 1) = (cn : Int) := by omega
        by_cases g1 : g.hold ≤ (cn : Int)
        · by_cases g2 : f = none
          · subst g2
            rw [if_pos ⟨g1, rfl⟩]
            simp only [go_sem, Fn.wear_watcher_see_L0, h1, ge, okz, ow, om, o3, q1, hc, n1, n2, n3, n1', n2', n3', t1, t2, t3, e1, e2, kI, f1, f4, a0, wc, q2, g1, q3, add1, wk] at hr1
            rw [hr0, ← hr1]
            exact ⟨_, _, _, rfl, upd_same _ _ _, hrep, fun id q1 q2 => by rw [upd_ne q2, upd_ne (by omega)]⟩
          · rw [if_neg (fun h => g2 h.2)]
            have g2' : (f = none) = False := by simp [g2]
            rw [g2'] at q3
            simp only [go_sem, Fn.wear_watcher_see_L0, h1, ge, okz, ow, om, o3, q1, hc, n1, n2, n3, n1', n2', n3', t1, t2, t3, e1, e2, kI, f1, f4, a0, wc, q2, g1, q3, add1, wk] at hr1
            rw [hr0, ← hr1]
            exact ⟨_, _, _, rfl, upd_same _ _ _, hrep, fun id q1 q2 => by rw [upd_ne q2, upd_ne (by omega)]⟩
        · rw [if_neg (fun h => g1 h.1)]
          simp only [go_sem, Fn.wear_watcher_see_L0, h1, ge, okz, ow, om, o3, q1, hc, n1, n2, n3, n1', n2', n3', t1, t2, t3, e1, e2, kI, f1, f4, a0, wc, q2, g1, q3, add1, wk] at hr1
          rw [hr0, ← hr1]
          exact ⟨_, _, _, rfl, upd_same _ _ _, hrep, fun id q1 q2 => by rw [upd_ne q2, upd_ne (by omega)]⟩
      · obtain ⟨f4, hrep⟩ := f3 b0
        have a0 : ((cnt i : Int) + 1) = (cn : Int) := by omega
        by_cases g1 : g.hold ≤ (cn : Int)
        · by_cases g2 : f = none
          · subst g2
            rw [if_pos ⟨g1, rfl⟩]
            simp only [go_sem, Fn.wear_watcher_see_L0, h1, ge, okz, ow, om, o3, q1, hc, n1, n2, n3, n1', n2', n3', t1, t2, t3, e1, e2, kI, f1, f4, a0, wc, q2, g1, q3, add1, wk] at hr1
            rw [hr0, ← hr1]
            exact ⟨_, _, _, rfl, upd_same _ _ _, hrep, fun id q1 q2 => by rw [upd_ne q2, upd_ne (by omega)]⟩
          · rw [if_neg (fun h => g2 h.2)]
            have g2' : (f = none) = False := by simp [g2]
            rw [g2'] at q3
            simp only [go_sem, Fn.wear_watcher_see_L0, h1, ge, okz, ow, om, o3, q1, hc, n1, n2, n3, n1', n2', n3', t1, t2, t3, e1, e2, kI, f1, f4, a0, wc, q2, g1, q3, add1, wk] at hr1
            rw [hr0, ← hr1]
            exact ⟨_, _, _, rfl, upd_same _ _ _, hrep, fun id q1 q2 => by rw [upd_ne q2, upd_ne (by omega)]⟩
        · rw [if_neg (fun h => g1 h.1)]
          simp only [go_sem, Fn.wear_watcher_see_L0, h1, ge, okz, ow, om, o3, q1, hc, n1, n2, n3, n1', n2', n3', t1, t2, t3, e1, e2, kI, f1, f4, a0, wc, q2, g1, q3, add1, wk] at hr1
          rw [hr0, ← hr1]
          exact ⟨_, _, _, rfl, upd_same _ _ _, hrep, fun id q1 q2 => by rw [upd_ne q2, upd_ne (by omega)]⟩
  · have q1 : ((g.from_ : Int) != (ph : Int)) = true := by simp only [bne_iff_ne, ne_eq]; omega
    rw [if_neg p1]
    simp only [go_sem, Fn.wear_watcher_see_L0, h1, ge, okz, ow, om, o3, q1, n1, n2, n3, n1', n2', n3', t1, t2, t3, add1, wk] at hr1
    rw [hr0, ← hr1]
    refine ⟨_, es, clk, rfl, ?_, hr, fun id q1 q2 => ?_⟩
    · rw [upd_ne (by omega)]; exact om
    · rw [upd_ne (by omega)]
end
end Go.Ev
namespace Go.Ev
open Go.Dig
theorem seeS_other (ph : Nat) (s : Samp) (g : Guard) (i : Nat) (c : Nat → Nat) (f : Option Nat) (k : Nat) (h : k ≠ i) : (seeS ph s g i c f).1 k = c k := by
  unfold seeS
  split
  · split
    · simp [setN, h]
    · simp [setN, h]
  · rfl
theorem seeS_fired (ph : Nat) (s : Samp) (g : Guard) (i : Nat) (c : Nat → Nat) (f : Option Nat) (k : Nat) (h : (seeS ph s g i c f).2 = some k) : f = some k ∨ k = i := by
  unfold seeS at h
  split at h
  · split at h
    · dsimp only at h
      split at h
      · right; simpa using h.symm
      · exact .inl h
    · exact .inl h
  · exact .inl h
theorem seeL_fired (ph : Nat) (s : Samp) : ∀ (l : List Guard) (i : Nat) (c : Nat → Nat) (f : Option Nat) (k : Nat), (seeL ph s l i c f).2 = some k → f = some k ∨ (i ≤ k ∧ k < i + l.length)
  | [], i, c, f, k, h => .inl h
  | g :: r, i, c, f, k, h => by
    unfold seeL at h
    rcases seeL_fired ph s r (i + 1) _ _ k h with h | h
    · rcases seeS_fired ph s g i c f k h with h | h
      · exact .inl h
      · right; simp only [List.length_cons]; omega
    · right; simp only [List.length_cons]; omega
def seeW (gs : List Guard) (ph : Nat) (cnt : Nat → Nat) (s : Samp) : Nat × (Nat → Nat) :=
  match (seeL ph s gs 0 cnt none).2 with
  | none => (ph, (seeL ph s gs 0 cnt none).1)
  | some k => (((gs[k]?).map Guard.to).getD 0, fun _ => 0)
section
variable {n : Nat} {fz : Nat → Nat}
theorem see_loop {bw mid b3 ph : Nat} {w1 w2 w3 w4 w5 w6 : AV} (l : List Guard) (s : Samp) (hl : l.length < 2 ^ 20) (hne : bw ≠ mid ∧ bw ≠ b3 ∧ mid ≠ b3) (hc : ∀ g ∈ l, ∀ (ob : Nat → Option AObj) (fz : Nat → Nat), callV (evF E n) Id.wear_Box_has [.agg g.box.c, .agg s.c] ob fz = some (.fzd fz (.one (.bool (hasBx g.box s))))) : ∀ (m i : Nat), i + m = l.length → ∀ (ob : Nat → Option AObj) (nx : Nat) (es : List AEnt) (clk : Nat) (cnt : Nat → Nat) (f : Option Nat) (X : List (Nat × SV)), bw < nx → mid < nx → b3 < nx → ob bw = some (.box [w1, w2, w3, w4, w5, w6, .int .u8 (ph : Int), .mp mid]) → ob mid = some (.map es clk) → ob b3 = some (.box s.c) → Rep es cnt → (∀ k, i ≤ k → cnt k < 2 ^ 40) → ∀ N, m < N →
    ∃ (ob' : Nat → Option AObj) (nx' : Nat) (es' : List AEnt) (clk' : Nat) (X' : List (Nat × SV)), loopN (evC (evF E n) n Fn.wear_watcher_see_L0) N ⟨env ((0, .one (.box bw 0)) :: (3, .one (.box b3 0)) :: (4, .one (.int .i64 (firedI f))) :: (11, .one (.sl false (l.map Guard.c))) :: (12, .one (.int .i64 (l.length : Int))) :: (13, .one (.int .i64 (i : Int))) :: X), ob, fz, nx⟩ =
      some (.ext 0, ⟨env ((0, .one (.box bw 0)) :: (3, .one (.box b3 0)) :: (4, .one (.int .i64 (firedI (seeL ph s (l.drop i) i cnt f).2))) :: X'), ob', fz, nx'⟩) ∧ nx ≤ nx' ∧ ob' mid = some (.map es' clk') ∧ Rep es' (seeL ph s (l.drop i) i cnt f).1 ∧ ∀ id, id < nx → id ≠ mid → ob' id = ob id
  | 0, i, hi, ob, nx, es, clk, cnt, f, X, h1, h2, h3, ow, om, o3, hr, hcnt, N + 1, hN => by
    have hi' : i = l.length := by omega
    subst hi'
    rw [List.drop_length]
    have hlt : (((l.length : Nat) : Int) < ((l.length : Nat) : Int)) = False := by simp
    refine ⟨ob, nx, es, clk, [(11, .one (.sl false (l.map Guard.c))), (12, .one (.int .i64 (l.length : Int))), (13, .one (.int .i64 (l.length : Int))), (14, .one (.bool false))], round_ext ?_, Nat.le_refl _, om, hr, fun _ _ _ => rfl⟩
    unfold seeL
    simp only [go_sem, Fn.wear_watcher_see_L0, hlt]
  | m + 1, i, hi, ob, nx, es, clk, cnt, f, X, h1, h2, h3, ow, om, o3, hr, hcnt, N + 1, hN => by
    have hil : i < l.length := by omega
    obtain ⟨ob1, es1, clk1, hst, p1, p2, p3⟩ := see_round (fz := fz) (ph := ph) l l[i] s (by simp) hil hl h1 h2 h3 hne ow om o3 hr (hcnt i (Nat.le_refl _)) f (hc _ (by simp)) X
    rw [List.drop_eq_getElem_cons hil]
    unfold seeL
    obtain ⟨ob', nx', es', clk', X', q1, q2, q3, q4, q5⟩ := see_loop l s hl hne hc m (i + 1) (by omega) ob1 (nx + 6) es1 clk1 _ _ [] (by omega) (by omega) (by omega) ((p3 bw h1 hne.1).trans ow) p1 ((p3 b3 h3 (Ne.symm hne.2.2)).trans o3) p2 (fun k hk => by rw [seeS_other _ _ _ _ _ _ _ (by omega)]; exact hcnt k (by omega)) N (by omega)
    exact ⟨ob', nx', es', clk', X', by rw [round_nrm hst]; exact q1, by omega, q3, q4, fun id i1 i2 => by rw [q5 id (by omega) i2, p3 id i1 i2]⟩
end
theorem shut_eq {ob0 ob : Nat → Option AObj} {k : Nat} (h : ob k = ob0 k) : shut ob0 ob k = ob0 k := by
  unfold shut
  rw [h]
  cases ob0 k with
  | none => rfl
  | some o => cases o <;> rfl
theorem shut_box {ob0 ob : Nat → Option AObj} {k : Nat} {cs : List AV} (h : ob k = some (.box cs)) : shut ob0 ob k = some (.box cs) := by
  unfold shut; rw [h]
theorem shut_map {ob0 ob : Nat → Option AObj} {k c : Nat} {es : List AEnt} (h : ob k = some (.map es c)) : shut ob0 ob k = some (.map es c) := by
  unfold shut; rw [h]
theorem shut_rowk {ob0 ob : Nat → Option AObj} {k sz v : Nat} {es : List (List AV)} (h : ob k = some (.row sz es v)) : shut ob0 ob k = some (.row sz es v) := by
  unfold shut; rw [h]
theorem shut_loopk {ob0 ob : Nat → Option AObj} {k : Nat} {l : ALoop} (h : ob k = some (.loop l)) : shut ob0 ob k = some (.loop l) := by
  unfold shut; rw [h]
def seeT : ACode := match Fn.wear_watcher_see.code with | .seq _ (.seq _ (.seq _ t)) => t | _ => .skip
theorem see_ref {n : Nat} {bw mid ph nx : Nat} {ob : Nat → Option AObj} {fz : Nat → Nat} {es : List AEnt} {clk : Nat} {cnt : Nat → Nat} {w2 w3 w4 w5 w6 : AV} (l : List Guard) (s : Samp) (hl : l.length < 2 ^ 20) (hn : l.length + 1 ≤ n) (hne : bw ≠ mid) (hc : ∀ g ∈ l, ∀ (ob : Nat → Option AObj) (fz : Nat → Nat), callV (evF E n) Id.wear_Box_has [.agg g.box.c, .agg s.c] ob fz = some (.fzd fz (.one (.bool (hasBx g.box s))))) (h1 : bw < nx) (h2 : mid < nx) (ow : ob bw = some (.box [.sl false (l.map Guard.c), w2, w3, w4, w5, w6, .int .u8 (ph : Int), .mp mid])) (om : ob mid = some (.map es clk)) (hr : Rep es cnt) (hcnt : ∀ k, cnt k < 2 ^ 40) :
    ∃ (ob' : Nat → Option AObj) (nx' : Nat) (es' : List AEnt) (clk' : Nat), evF E (n + 1) (.fn Id.wear_watcher_see) [.one (.box bw 0), .agg s.c] ⟨ob, fz, nx⟩ = some (.tup [], ⟨ob', fz, nx'⟩) ∧ nx ≤ nx' ∧ ob' bw = some (.box [.sl false (l.map Guard.c), w2, w3, w4, w5, w6, .int .u8 ((seeW l ph cnt s).1 : Int), .mp mid]) ∧ ob' mid = some (.map es' clk') ∧ Rep es' (seeW l ph cnt s).2 ∧ ∀ id, id < nx → id ≠ bw → id ≠ mid → ob' id = ob id := by
  rw [evF_succ E_wear_watcher_see]
  have fresh : ∀ id, id < nx → upd ob nx (.box s.c) id = ob id := fun id h => upd_ne (by omega)
  obtain ⟨obL, nxL, esL, clkL, XL, hlo, q2, q3, q4, q5⟩ := see_loop (n := n) (fz := fz) (bw := bw) (mid := mid) (b3 := nx) (ph := ph) l s hl ⟨hne, by omega, by omega⟩ hc l.length 0 (by omega) (upd ob nx (.box s.c)) (nx + 1) es clk cnt none [] (by omega) (by omega) (by omega) ((fresh bw h1).trans ow) ((fresh mid h2).trans om) (upd_same _ _ _) hr (fun k _ => hcnt k) n (by omega)
  rw [List.drop_zero] at q4 hlo
  have hf := seeL_fired ph s l 0 cnt none
  unfold seeW
  have owL : obL bw = _ := (q5 bw (by omega) hne).trans ((fresh bw h1).trans ow)
  have z0 : ((0 : Nat) : Int) = 0 := rfl
  rw [z0] at hlo
  rw [show firedI none = -1 from rfl] at hlo
  have okz : okSz 21 (l.map Guard.c) = true := okSz_map (f := Guard.c) (k := 21) (fun _ => rfl) l
  have e1 : ∀ k, (bw = nx + k) = False := fun k => by simp only [eq_iff_iff, iff_false]; omega
  have e2 : (bw = nx) = False := by simp only [eq_iff_iff, iff_false]; omega
  have e3 : (mid = bw) = False := by simp [Ne.symm hne]
  have key : ∀ (obx : Nat → Option AObj), obx = upd ob nx (.box s.c) → ∃ (ob' : Nat → Option AObj) (nx' : Nat) (es' : List AEnt) (clk' : Nat), finF Fn.wear_watcher_see.res ob (thenC (evF E n) n seeT (blkC 0 (loopN (evC (evF E n) n Fn.wear_watcher_see_L0) n ⟨env [(0, .one (.box bw 0)), (3, .one (.box nx 0)), (4, .one (.int .i64 (-1))), (11, .one (.sl false (l.map Guard.c))), (12, .one (.int .i64 (l.length : Int))), (13, .one (.int .i64 0))], obx, fz, nx + 1⟩))) = some (.tup [], ⟨ob', fz, nx'⟩) ∧ nx ≤ nx' ∧ ob' bw = some (.box [.sl false (l.map Guard.c), w2, w3, w4, w5, w6, .int .u8 ((match (seeL ph s l 0 cnt none).2 with | none => (ph, (seeL ph s l 0 cnt none).1) | some k => (((l[k]?).map Guard.to).getD 0, fun _ => 0)).1 : Int), .mp mid]) ∧ ob' mid = some (.map es' clk') ∧ Rep es' (match (seeL ph s l 0 cnt none).2 with | none => (ph, (seeL ph s l 0 cnt none).1) | some k => (((l[k]?).map Guard.to).getD 0, fun _ => 0)).2 ∧ ∀ id, id < nx → id ≠ bw → id ≠ mid → ob' id = ob id := by
    intro obx hx
    subst hx
    rw [hlo]
    unfold seeT Fn.wear_watcher_see
    generalize (seeL ph s l 0 cnt none).1 = cn at *
    generalize (seeL ph s l 0 cnt none).2 = fo at *
    cases fo with
    | none =>
      have g1 : ((-1 : Int) ≥ 0) = False := by simp
      refine ⟨shut ob obL, nxL, esL, clkL, ?_, by omega, shut_box owL, shut_map q3, q4, fun id i1 i2 i3 => shut_eq ((q5 id (by omega) i3).trans (fresh id i1))⟩
      rw [show firedI none = -1 from rfl]
      simp only [go_sem, g1]
    | some k =>
      have hk : k < l.length := by
        rcases hf k rfl with h | h
        · simp at h
        · omega
      have g1 : (((k : Nat) : Int) ≥ 0) = True := by simp
      have ge : (l.map Guard.c)[k]? = some l[k].c := by rw [List.getElem?_map, List.getElem?_eq_getElem hk]; rfl
      have gk : l[k]? = some l[k] := by simp
      dsimp only
      rw [gk, Option.map_some, Option.getD_some]
      generalize l[k] = g at *
      obtain ⟨c0, c1, c2, c3, c4, c5, c6, c7, c8, c9, c10, c11, c12, c13, c14, c15, c16, c17, -, ec⟩ := guard_cells g
      rw [ec] at ge
      rw [show firedI (some k) = (k : Int) from rfl]
      refine ⟨shut ob (upd (upd obL bw (.box [.sl false (l.map Guard.c), w2, w3, w4, w5, w6, .int .u8 (g.to : Int), .mp mid])) mid (.map [] clkL)), nxL, [], clkL, ?_, by omega, shut_box (by rw [upd_ne hne]; exact upd_same _ _ _), shut_map (upd_same _ _ _), Rep.nil, fun id i1 i2 i3 => shut_eq (by rw [upd_ne i3, upd_ne i2]; exact (q5 id (by omega) i3).trans (fresh id i1))⟩
      simp only [go_sem, g1, owL, ge, okz, q3, e3]
  unfold Fn.wear_watcher_see at key ⊢
  have ow' : upd ob nx (.box s.c) bw = _ := (fresh bw h1).trans ow
  obtain ⟨s0, s1, s2, s3, s4, s5, s6, s7, s8, es', -, -, -, -, -, -, -, -, -⟩ := samp_cells s
  rw [es'] at ow' key ⊢
  simp only [go_sem, ow', ow, e1, e2, List.length_map]
  exact key _ rfl
end Go.Ev
namespace Go.Ev
open Go.Dig
theorem evF_rnd {n l : Nat} {args : List SV} {ob : Nat → Option AObj} {fz : Nat → Nat} {nx : Nat} {r r1 r2 : ALoop} {st1 st2 : St} (ho : ob l = some (.loop r)) (hok : (Nat.beq args.length r.ps.length && naOk r.asg && naOk r.body) = true) (h1 : evC (evF E n) n r.asg ⟨setPs r.ps args r.sl, ob, fz, nx⟩ = some (.nrm, st1)) (ho1 : st1.ob l = some (.loop r1)) (hr : r1.st = .ready)
    (h2 : evC (evF E n) n r.body { st1 with ob := upd st1.ob l (.loop { r1 with st := .busy }) } = some (.nrm, st2)) (ho2 : st2.ob l = some (.loop r2)) :
    evF E (n + 1) (.rnd l) args ⟨ob, fz, nx⟩ = some (.one (.bool true), ⟨upd st2.ob l (.loop { r2 with st := .ready, pend := none }), st2.fz, st2.nx⟩) := by
  simp only [evF, ho, hok, cond_true, h1, ho1, hr, h2, ho2, Ex.pend]
theorem putS_env' (k : Nat) (v : SV) (L : List (Nat × SV)) : putS (env L) (some k) v = env ((k, v) :: L) := by
  funext i
  rfl
theorem setPs2 (p q : Nat) (v w : SV) (L : List (Nat × SV)) : setPs [p, q] [v, w] (env L) = env ((q, w) :: (p, v) :: L) := by
  simp only [setPs, putS_env']
def OutB (base : Nat) (ob : Nat → Option AObj) (nx : Nat) (x : AV) (es : List (List AV)) : Prop :=
  (es = [] ∧ x = .nils) ∨ ∃ id ver, x = .rsl id ver 4 0 es.length false ∧ ob id = some (.row 4 es ver) ∧ id < nx ∧ base ≤ id
theorem OutB.frame {base nx nx' : Nat} {ob ob' : Nat → Option AObj} {x : AV} {es : List (List AV)} (h : OutB base ob nx x es) (hnx : nx ≤ nx') (hf : ∀ id, base ≤ id → id < nx → ob' id = ob id) : OutB base ob' nx' x es := by
  rcases h with h | ⟨id, ver, h1, h2, h3, h4⟩
  · exact .inl h
  · exact .inr ⟨id, ver, h1, by rw [hf id h4 h3]; exact h2, by omega, h4⟩
def actAsg : ACode := .reg false [⟨some 9, .alloc [(.int .u8 0), (.bool false), .nils, .nils], none, .no⟩, ⟨none, .store 4 (.t 9) (.t 20), none, .no⟩] 2 [7, 9]
def actLoop (L : List (Nat × SV)) : ALoop := ⟨env L, [19, 20], actAsg, Fn.wear_Act_R0, .ready, none⟩
theorem rnd_ref {n lid bo base nx : Nat} {ob : Nat → Option AObj} {fz : Nat → Nat} {x : AV} {es : List (List AV)} {L : List (Nat × SV)} {c0 m1 m2 m3 : AV} (v19 : SV) (hL : env L 7 = .one (.box bo 0)) (ho : ob lid = some (.loop (actLoop L))) (hb : ob bo = some (.box [x])) (hx : OutB base ob nx x es) (h1 : lid < base) (h2 : bo < base) (h3 : base ≤ nx) (hne : lid ≠ bo) (hes : es.length < 2 ^ 20) :
    ∃ (ob' : Nat → Option AObj) (nx' : Nat) (x' : AV), evF E (n + 1) (.rnd lid) [v19, .agg [c0, m1, m2, m3]] ⟨ob, fz, nx⟩ = some (.one (.bool true), ⟨ob', fz, nx'⟩) ∧ nx ≤ nx' ∧ ob' lid = some (.loop (actLoop L)) ∧ ob' bo = some (.box [x']) ∧ OutB base ob' nx' x' (es ++ [[c0, m1, m2, m3]]) ∧ ∀ id, id < base → id ≠ lid → id ≠ bo → ob' id = ob id := by
  have n1 : ∀ k, (lid = nx + k) = False := fun k => by simp only [eq_iff_iff, iff_false]; omega
  have n2 : ∀ k, (bo = nx + k) = False := fun k => by simp only [eq_iff_iff, iff_false]; omega
  have n3 : (bo = lid) = False := by simp [Ne.symm hne]
  have n1n : (lid = nx) = False := by simp only [eq_iff_iff, iff_false]; omega
  have n2n : (bo = nx) = False := by simp only [eq_iff_iff, iff_false]; omega
  have n1' : ∀ k, (nx + k = lid) = False := fun k => by simp only [eq_iff_iff, iff_false]; omega
  have n2' : ∀ k, (nx + k = bo) = False := fun k => by simp only [eq_iff_iff, iff_false]; omega
  have n1n' : (nx = lid) = False := by simp only [eq_iff_iff, iff_false]; omega
  have n2n' : (nx = bo) = False := by simp only [eq_iff_iff, iff_false]; omega
  have nxa : ∀ a b : Nat, nx + a + b = nx + (a + b) := fun a b => Nat.add_assoc nx a b
  have hL' : ∀ (a b : SV), env ((20, a) :: (19, b) :: L) 7 = .one (.box bo 0) := fun a b => by rw [← hL]; rfl
  have a1 : evC (evF E n) n actAsg ⟨env ((20, .agg [c0, m1, m2, m3]) :: (19, v19) :: L), ob, fz, nx⟩ = some (.nrm, ⟨env [(7, .one (.box bo 0)), (9, .one (.box nx 0))], upd ob nx (.box [c0, m1, m2, m3]), fz, nx + 2⟩) := by
    unfold actAsg
    simp only [go_sem, hL]
  have o1 : upd ob nx (.box [c0, m1, m2, m3]) lid = some (.loop (actLoop L)) := by rw [upd_ne (by omega)]; exact ho
  have body : ∃ (ob2 : Nat → Option AObj) (x' : AV), evC (evF E n) n Fn.wear_Act_R0 ⟨env [(7, .one (.box bo 0)), (9, .one (.box nx 0))], upd (upd ob nx (.box [c0, m1, m2, m3])) lid (.loop { actLoop L with st := .busy }), fz, nx + 2⟩ = some (.nrm, ⟨env [], ob2, fz, nx + 7⟩) ∧ ob2 lid = some (.loop { actLoop L with st := .busy }) ∧ ob2 bo = some (.box [x']) ∧ OutB base ob2 (nx + 7) x' (es ++ [[c0, m1, m2, m3]]) ∧ ∀ id, id < base → id ≠ lid → id ≠ bo → ob2 id = ob id := by
    generalize { actLoop L with st := .busy } = lp
    obtain ⟨r, hr0⟩ : ∃ r, evC (evF E n) n Fn.wear_Act_R0 ⟨env [(7, .one (.box bo 0)), (9, .one (.box nx 0))], upd (upd ob nx (.box [c0, m1, m2, m3])) lid (.loop lp), fz, nx + 2⟩ = r := ⟨_, rfl⟩
    have hr := hr0
    rcases hx with ⟨rfl, rfl⟩ | ⟨a, va, rfl, h4, h5, h6⟩
    · simp only [go_sem, Fn.wear_Act_R0, n1, n2, n3, n1', n2', n1n, n2n, n1n', n2n', nxa, hb, okSz, ROOM] at hr
      rw [hr0, ← hr]
      refine ⟨_, _, rfl, ?_, upd_same _ _ _, .inr ⟨nx + 5, 0, rfl, ?_, by omega, by omega⟩, fun id q1 q2 q3 => ?_⟩
      · rw [upd_ne hne, upd_ne (by omega), upd_ne (by omega)]; exact upd_same _ _ _
      · rw [upd_ne (by omega)]; exact upd_same _ _ _
      · rw [upd_ne q3, upd_ne (by omega), upd_ne (by omega), upd_ne q2, upd_ne (by omega)]
    · have w1 : (es.length + 1) * 64 ≤ 140737488355328 := by omega
      have b1 : (es.length == es.length) = true := by simp
      have k1 : ∀ k ob y ver, rowAt (upd ob (nx + k) y) a ver = rowAt ob a ver := fun k ob y ver => rowAt_ne (by omega)
      have k2 : ∀ ob y ver, rowAt (upd ob nx y) a ver = rowAt ob a ver := fun ob y ver => rowAt_ne (by omega)
      have k3 : ∀ ob y ver, rowAt (upd ob lid y) a ver = rowAt ob a ver := fun ob y ver => rowAt_ne (by omega)
      have hra : rowAt ob a va = some (4, es) := rowAt_of h4
      have k4 : (bo = a) = False := by simp only [eq_iff_iff, iff_false]; omega
      simp only [go_sem, Fn.wear_Act_R0, n1, n2, n3, n1', n2', n1n, n2n, n1n', n2n', nxa, hb, okSz, ROOM, w1, b1, k1, k2, k3, k4, hra] at hr
      rw [hr0, ← hr]
      refine ⟨_, _, rfl, ?_, upd_same _ _ _, .inr ⟨a, va + 1, ?_, ?_, by omega, h6⟩, fun id q1 q2 q3 => ?_⟩
      · rw [upd_ne hne, upd_ne (by omega), upd_ne (by omega)]; exact upd_same _ _ _
      · rw [List.length_append]; rfl
      · rw [upd_ne (by omega)]; exact upd_same _ _ _
      · rw [upd_ne q3, upd_ne (by omega), upd_ne (by omega), upd_ne q2, upd_ne (by omega)]
  obtain ⟨ob2, x', b1, b2, b3, b4, b5⟩ := body
  refine ⟨upd ob2 lid (.loop (actLoop L)), nx + 7, x', ?_, by omega, upd_same _ _ _, by rw [upd_ne (Ne.symm hne)]; exact b3, b4.frame (Nat.le_refl _) (fun id q1 q2 => upd_ne (by omega)), fun id q1 q2 q3 => by rw [upd_ne q2]; exact b5 id q1 q2 q3⟩
  exact evF_rnd (r := actLoop L) (r1 := actLoop L) (r2 := { actLoop L with st := .busy }) ho rfl ((congrArg (fun sl => evC (evF E n) n actAsg ⟨sl, ob, fz, nx⟩) (setPs2 19 20 v19 (.agg [c0, m1, m2, m3]) L)).trans a1) o1 rfl b1 b2
end Go.Ev
namespace Go.Ev
open Go.Dig
def wkB : ACode := match Fn.wear_Device_walk_1_L0 with | .seq _ (.seq _ (.seq (.block _ b) _)) => b | _ => .skip
def wkA : ACode := match Fn.wear_Device_walk_1_L0 with | .seq a _ => a | _ => .skip
def wkC : ACode := match Fn.wear_Device_walk_1_L0 with | .seq _ (.seq c _) => c | _ => .skip
def wkI : ACode := match Fn.wear_Device_walk_1_L0 with | .seq _ (.seq _ (.seq _ i)) => i | _ => .skip
def wk1 : ACode := match wkB with | .seq a _ => a | _ => .skip
def wk2 : ACode := match wkB with | .seq _ (.seq a _) => a | _ => .skip
def wk3 : ACode := match wkB with | .seq _ (.seq _ (.seq a _)) => a | _ => .skip
def wk4 : ACode := match wkB with | .seq _ (.seq _ (.seq _ (.seq a _))) => a | _ => .skip
def wk5 : ACode := match wkB with | .seq _ (.seq _ (.seq _ (.seq _ (.seq a _)))) => a | _ => .skip
def wk6 : ACode := match wkB with | .seq _ (.seq _ (.seq _ (.seq _ (.seq _ (.seq a _))))) => a | _ => .skip
def wk7 : ACode := match wkB with | .seq _ (.seq _ (.seq _ (.seq _ (.seq _ (.seq _ a))))) => a | _ => .skip
theorem wk_eq : Fn.wear_Device_walk_1_L0 = .seq wkA (.seq wkC (.seq (.block 1 (.seq wk1 (.seq wk2 (.seq wk3 (.seq wk4 (.seq wk5 (.seq wk6 wk7))))))) wkI)) := rfl
def MQ (m : Rat) (mc : List AV) : Prop := mc = qC m ∨ (m = 0 ∧ mc = [.bool false, .nils, .nils])
theorem Ends.mq {f : FuncId} {m : Rat} {mc : List AV} {y r : SV} (h : Ends f [.agg (qC m), y] r) (hy : CanS y) (hm : MQ m mc) : Calling f [.agg mc, y] r := by
  rcases hm with rfl | ⟨rfl, rfl⟩
  · exact h.call (can2 (canS_q _) hy)
  · obtain ⟨N, h⟩ := h
    exact ⟨N, fun n hn => callV_nils (h n hn) hy⟩
section
variable {n : Nat} {fz : Nat → Nat} {ob : Nat → Option AObj} {nx : Nat}
theorem piece1 {i : Nat} (x0 x1 x4 x5 : SV) (l : List Samp) (s : Samp) (gs : l[i]? = some s) (X : List (Nat × SV)) :
    evC (evF E n) n wk1 ⟨env ((0, x0) :: (1, x1) :: (4, x4) :: (5, x5) :: (13, .one (.sl false (l.map Samp.c))) :: (14, .one (.int .i64 (l.length : Int))) :: (15, .one (.int .i64 (i : Int))) :: X), ob, fz, nx⟩ =
      some (.nrm, ⟨env [(0, x0), (1, x1), (4, x4), (5, x5), (7, .one (.box (nx + 2) 0)), (13, .one (.sl false (l.map Samp.c))), (14, .one (.int .i64 (l.length : Int))), (15, .one (.int .i64 (i : Int)))], upd ob (nx + 2) (.box s.c), fz, nx + 4⟩) := by
  have ge : (l.map Samp.c)[i]? = some s.c := by rw [List.getElem?_map, gs]; rfl
  have okz : okSz 9 (l.map Samp.c) = true := okSz_map (f := Samp.c) (k := 9) (fun _ => rfl) l
  obtain ⟨s0, s1, s2, s3, s4, s5, s6, s7, s8, es', -, -, -, -, -, -, -, -, -⟩ := samp_cells s
  rw [es'] at ge ⊢
  unfold wk1 wkB Fn.wear_Device_walk_1_L0
  simp only [go_sem, ge, okz]
theorem piece2 {bw b7 : Nat} (x0 x1 x5 x13 x14 x15 : SV) (s : Samp) (o7 : ob b7 = some (.box s.c)) (ob' : Nat → Option AObj) (nx' : Nat) (h : evF E n (.fn Id.wear_watcher_see) [.one (.box bw 0), .agg s.c] ⟨ob, fz, nx⟩ = some (.tup [], ⟨ob', fz, nx'⟩)) :
    evC (evF E n) n wk2 ⟨env [(0, x0), (1, x1), (4, .one (.box bw 0)), (5, x5), (7, .one (.box b7 0)), (13, x13), (14, x14), (15, x15)], ob, fz, nx⟩ =
      some (.nrm, ⟨env [(0, x0), (1, x1), (4, .one (.box bw 0)), (5, x5), (7, .one (.box b7 0)), (13, x13), (14, x14), (15, x15)], ob', fz, nx'⟩) := by
  obtain ⟨s0, s1, s2, s3, s4, s5, s6, s7, s8, es', -, -, -, -, -, -, -, -, -⟩ := samp_cells s
  rw [es'] at o7 h
  unfold wk2 wkB Fn.wear_Device_walk_1_L0
  simp only [go_sem, o7, Nat.add_zero, h]
theorem piece3 {bd bw b7 ph : Nat} (x0 x5 x13 x14 x15 : SV) {w1 w2 c1 c2 c3 w6 y1 y2 y3 y4 y5 y6 : AV} (ls : List Pt) (P : Pt) (gp : ls[ph]? = some P) (hd : bd < nx) (hw : bw < nx) (od : ob bd = some (.box [w1, w2, .sl false (ls.map Pt.c), c1, c2, c3])) (ow : ob bw = some (.box [y1, y2, y3, y4, y5, y6, .int .u8 (ph : Int), w6])) :
    evC (evF E n) n wk3 ⟨env [(0, x0), (1, .one (.box bd 0)), (4, .one (.box bw 0)), (5, x5), (7, .one (.box b7 0)), (13, x13), (14, x14), (15, x15)], ob, fz, nx⟩ =
      some (.nrm, ⟨env [(0, x0), (1, .one (.box bd 0)), (4, .one (.box bw 0)), (5, x5), (7, .one (.box b7 0)), (8, .one (.box (nx + 8) 0)), (13, x13), (14, x14), (15, x15)], upd ob (nx + 8) (.box P.c), fz, nx + 10⟩) := by
  have ge : (ls.map Pt.c)[ph]? = some P.c := by rw [List.getElem?_map, gp]; rfl
  have okz : okSz 6 (ls.map Pt.c) = true := okSz_map pt_len ls
  have hd' : (bd < nx) = True := by simp [hd]
  have hw' : (bw < nx) = True := by simp [hw]
  obtain ⟨p1, p2, p3, p4, p5, p6, -, -, ep⟩ := pt_cells P
  rw [ep] at ge ⊢
  unfold wk3 wkB Fn.wear_Device_walk_1_L0
  simp only [go_sem, od, ow, hd', hw', ge, okz]
theorem piece4 {bd bw bm b7 b8 ph : Nat} (x0 x13 x14 x15 : SV) {w1 w2 c1 c2 c3 w6 y1 y2 y3 y4 y5 y6 m1 m2 m3 : AV} (cs : List (List Pt)) (c : List Pt) (s : Samp) (P : Pt) (a lo hi r : Rat) (gc : cs[ph]? = some c) (hd : bd < nx) (hw : bw < nx) (hm : bm < nx) (h7 : b7 < nx) (h8 : b8 < nx) (od : ob bd = some (.box [w1, .sl false (cs.map fun s => [.sl false (s.map Pt.c)]), w2, c1, c2, c3])) (ow : ob bw = some (.box [y1, y2, y3, y4, y5, y6, .int .u8 (ph : Int), w6])) (om : ob bm = some (.box [m1, m2, m3])) (o7 : ob b7 = some (.box s.c)) (o8 : ob b8 = some (.box P.c))
    (k1 : ∀ (ob : Nat → Option AObj) (fz : Nat → Nat), callV (evF E n) Id.wear_Curve_at [.one (.sl false (c.map Pt.c)), .agg (qC s.angle)] ob fz = some (.fzd fz (.agg (qC a)))) (k2 : ∀ (ob : Nat → Option AObj) (fz : Nat → Nat), callV (evF E n) Id.exact_Q_Sub [.agg [m1, m2, m3], .agg (qC P.z)] ob fz = some (.fzd fz (.agg (qC lo)))) (k3 : ∀ (ob : Nat → Option AObj) (fz : Nat → Nat), callV (evF E n) Id.exact_Q_Add [.agg [m1, m2, m3], .agg (qC P.z)] ob fz = some (.fzd fz (.agg (qC hi)))) (k4 : ∀ (ob : Nat → Option AObj) (fz : Nat → Nat), callV (evF E n) Id.wear_clamp [.agg (qC a), .agg (qC lo), .agg (qC hi)] ob fz = some (.fzd fz (.agg (qC r)))) :
    evC (evF E n) n wk4 ⟨env [(0, x0), (1, .one (.box bd 0)), (4, .one (.box bw 0)), (5, .one (.box bm 0)), (7, .one (.box b7 0)), (8, .one (.box b8 0)), (13, x13), (14, x14), (15, x15)], ob, fz, nx⟩ =
      some (.nrm, ⟨env [(0, x0), (1, .one (.box bd 0)), (4, .one (.box bw 0)), (5, .one (.box bm 0)), (7, .one (.box b7 0)), (8, .one (.box b8 0)), (13, x13), (14, x14), (15, x15)], upd ob bm (.box (qC r)), fz, nx⟩) := by
  have ge : (cs.map fun s => [AV.sl false (s.map Pt.c)])[ph]? = some [.sl false (c.map Pt.c)] := by rw [List.getElem?_map, gc]; rfl
  have okz : okSz 1 (cs.map fun s => [AV.sl false (s.map Pt.c)]) = true := okSz_map (f := fun s : List Pt => [AV.sl false (s.map Pt.c)]) (k := 1) (fun _ => rfl) cs
  have hd' : (bd < nx) = True := by simp [hd]
  have hw' : (bw < nx) = True := by simp [hw]
  have hm' : (bm < nx) = True := by simp [hm]
  have h7' : (b7 < nx) = True := by simp [h7]
  have h8' : (b8 < nx) = True := by simp [h8]
  unfold Samp.c at o7
  obtain ⟨p1, p2, p3, p4, p5, p6, -, ez, ep⟩ := pt_cells P
  obtain ⟨s1, s2, s3, es1, -, -, -⟩ := qC_cells s.load
  obtain ⟨s4, s5, s6, es2, -, -, -⟩ := qC_cells s.angle
  obtain ⟨s7, s8, s9, es3, -, -, -⟩ := qC_cells s.speed
  obtain ⟨a1, a2, a3, ea, -, -, -⟩ := qC_cells a
  obtain ⟨l1, l2, l3, el, -, -, -⟩ := qC_cells lo
  obtain ⟨h1, h2, h3, eh, -, -, -⟩ := qC_cells hi
  obtain ⟨r1, r2, r3, er, -, -, -⟩ := qC_cells r
  simp only [es1, es2, es3, List.cons_append, List.nil_append] at o7 k1
  rw [ea] at k1 k4
  rw [ez, el] at k2
  rw [ez, eh] at k3
  rw [el, eh, er] at k4
  rw [ep] at o8
  rw [er]
  unfold wk4 wkB Fn.wear_Device_walk_1_L0
  simp only [go_sem, od, ow, om, o7, o8, hd', hw', hm', h7', h8', ge, okz, k1, k2, k3, k4]
theorem piece5 {bm b8 : Nat} (x0 x1 x4 x7 x13 x14 x15 : SV) (P : Pt) (m r : Rat) (hm : bm < nx) (h8 : b8 < nx) (om : ob bm = some (.box (qC m))) (o8 : ob b8 = some (.box P.c))
    (k1 : ∀ (ob : Nat → Option AObj) (fz : Nat → Nat), callV (evF E n) Id.exact_Q_Neg [.agg (qC P.x)] ob fz = some (.fzd fz (.agg (qC (-P.x))))) (k2 : ∀ (ob : Nat → Option AObj) (fz : Nat → Nat), callV (evF E n) Id.wear_clamp [.agg (qC m), .agg (qC (-P.x)), .agg (qC P.x)] ob fz = some (.fzd fz (.agg (qC r)))) :
    evC (evF E n) n wk5 ⟨env [(0, x0), (1, x1), (4, x4), (5, .one (.box bm 0)), (7, x7), (8, .one (.box b8 0)), (13, x13), (14, x14), (15, x15)], ob, fz, nx⟩ =
      some (.nrm, ⟨env [(0, x0), (1, x1), (4, x4), (5, .one (.box bm 0)), (7, x7), (13, x13), (14, x14), (15, x15)], upd ob bm (.box (qC r)), fz, nx⟩) := by
  have hm' : (bm < nx) = True := by simp [hm]
  have h8' : (b8 < nx) = True := by simp [h8]
  obtain ⟨p1, p2, p3, p4, p5, p6, ex, -, ep⟩ := pt_cells P
  obtain ⟨a1, a2, a3, ea, -, -, -⟩ := qC_cells m
  obtain ⟨l1, l2, l3, el, -, -, -⟩ := qC_cells (-P.x)
  obtain ⟨r1, r2, r3, er, -, -, -⟩ := qC_cells r
  rw [ex, el] at k1
  rw [ea, ex, el, er] at k2
  rw [ep] at o8
  rw [ea] at om
  rw [er]
  unfold wk5 wkB Fn.wear_Device_walk_1_L0
  simp only [go_sem, om, o8, hm', h8', k1, k2]
def stopB (ph : Nat) (m v : Rat) : Bool := decide (ph = 4) && decide (signI (m * v).num > 0)
theorem piece6 {bw bm b7 ph : Nat} (x0 x1 x13 x14 x15 : SV) {w6 y1 y2 y3 y4 y5 y6 : AV} (s : Samp) (m : Rat) (ow : ob bw = some (.box [y1, y2, y3, y4, y5, y6, .int .u8 (ph : Int), w6])) (om : ob bm = some (.box (qC m))) (o7 : ob b7 = some (.box s.c))
    (k1 : ∀ (ob : Nat → Option AObj) (fz : Nat → Nat), callV (evF E n) Id.exact_Q_Mul [.agg (qC m), .agg (qC s.speed)] ob fz = some (.fzd fz (.agg (qC (m * s.speed))))) (k2 : ∀ (ob : Nat → Option AObj) (fz : Nat → Nat), callV (evF E n) Id.exact_Q_Sign [.agg (qC (m * s.speed))] ob fz = some (.fzd fz (.one (.int .i64 (signI (m * s.speed).num))))) :
    ∃ X', evC (evF E n) n wk6 ⟨env [(0, x0), (1, x1), (4, .one (.box bw 0)), (5, .one (.box bm 0)), (7, .one (.box b7 0)), (13, x13), (14, x14), (15, x15)], ob, fz, nx⟩ =
      some (.nrm, ⟨env ((0, x0) :: (1, x1) :: (4, .one (.box bw 0)) :: (5, .one (.box bm 0)) :: (7, .one (.box b7 0)) :: (13, x13) :: (14, x14) :: (15, x15) :: X'), bif stopB ph m s.speed then upd ob bm (.box [.bool false, .nils, .nils]) else ob, fz, nx⟩) := by
  unfold Samp.c at o7
  obtain ⟨s1, s2, s3, es1, -, -, -⟩ := qC_cells s.load
  obtain ⟨s4, s5, s6, es2, -, -, -⟩ := qC_cells s.angle
  obtain ⟨s7, s8, s9, es3, -, -, -⟩ := qC_cells s.speed
  obtain ⟨a1, a2, a3, ea, -, -, -⟩ := qC_cells m
  obtain ⟨r1, r2, r3, er, -, -, -⟩ := qC_cells (m * s.speed)
  simp only [es1, es2, es3, List.cons_append, List.nil_append] at o7
  rw [ea, es3, er] at k1
  rw [er] at k2
  rw [ea] at om
  unfold stopB
  generalize signI (m * s.speed).num = sg at *
  unfold wk6 wkB Fn.wear_Device_walk_1_L0
  by_cases h4 : ph = 4
  · have q1 : ((ph : Int) == 4) = true := by simp [h4]
    by_cases hs : sg > 0
    · have e : (decide (ph = 4) && decide (sg > 0)) = true := by rw [decide_eq_true h4, decide_eq_true hs]; rfl
      rw [e]
      refine ⟨[], ?_⟩
      simp only [go_sem, ow, om, o7, q1, k1, k2, hs]
    · have e : (decide (ph = 4) && decide (sg > 0)) = false := by rw [decide_eq_true h4, decide_eq_false hs]; rfl
      rw [e]
      refine ⟨[(69, .one (.bool false))], ?_⟩
      simp only [go_sem, ow, om, o7, q1, k1, k2, hs]
  · have q1 : ((ph : Int) == 4) = false := by simp only [beq_eq_false_iff_ne, ne_eq]; omega
    have e : (decide (ph = 4) && decide (sg > 0)) = false := by rw [decide_eq_false h4]; rfl
    rw [e]
    refine ⟨[(69, .one (.bool false))], ?_⟩
    simp only [go_sem, ow, om, o7, q1]
theorem piece7 {lid bw bm b7 ph : Nat} (x1 x13 x14 x15 : SV) {w6 y1 y2 y3 y4 y5 y6 m1 m2 m3 : AV} (s : Samp) (hw : bw < nx) (hm : bm < nx) (h7 : b7 < nx) (ow : ob bw = some (.box [y1, y2, y3, y4, y5, y6, .int .u8 (ph : Int), w6])) (om : ob bm = some (.box [m1, m2, m3])) (o7 : ob b7 = some (.box s.c)) (ob' : Nat → Option AObj) (nx' : Nat)
    (k : evF E n (.rnd lid) [.agg s.c, .agg [.int .u8 (ph : Int), m1, m2, m3]] ⟨ob, fz, nx⟩ = some (.one (.bool true), ⟨ob', fz, nx'⟩)) (X : List (Nat × SV)) :
    ∃ X', evC (evF E n) n wk7 ⟨env ((0, .one (.yld lid)) :: (1, x1) :: (4, .one (.box bw 0)) :: (5, .one (.box bm 0)) :: (7, .one (.box b7 0)) :: (13, x13) :: (14, x14) :: (15, x15) :: X), ob, fz, nx⟩ =
      some (.nrm, ⟨env ((0, .one (.yld lid)) :: (1, x1) :: (4, .one (.box bw 0)) :: (5, .one (.box bm 0)) :: (13, x13) :: (14, x14) :: (15, x15) :: X'), ob', fz, nx'⟩) := by
  have hw' : (bw < nx) = True := by simp [hw]
  have hm' : (bm < nx) = True := by simp [hm]
  have h7' : (b7 < nx) = True := by simp [h7]
  obtain ⟨s0, s1, s2, s3, s4, s5, s6, s7, s8, es', -, -, -, -, -, -, -, -, -⟩ := samp_cells s
  rw [es'] at o7 k
  unfold wk7 wkB Fn.wear_Device_walk_1_L0
  refine ⟨[(80, .one (.bool false))], ?_⟩
  simp only [go_sem, ow, om, o7, hw', hm', h7', Nat.add_zero, k]
end
end Go.Ev
namespace Go.Ev
open Go.Dig
theorem seeL_low (ph : Nat) (s : Samp) : ∀ (l : List Guard) (i : Nat) (c : Nat → Nat) (f : Option Nat) (k : Nat), k < i → (seeL ph s l i c f).1 k = c k
  | [], i, c, f, k, h => rfl
  | g :: r, i, c, f, k, h => by
    unfold seeL
    rw [seeL_low ph s r (i + 1) _ _ k (by omega), seeS_other _ _ _ _ _ _ _ (by omega)]
theorem seeL_le (ph : Nat) (s : Samp) : ∀ (l : List Guard) (i : Nat) (c : Nat → Nat) (f : Option Nat) (k : Nat), (seeL ph s l i c f).1 k ≤ c k + 1
  | [], i, c, f, k => Nat.le_succ _
  | g :: r, i, c, f, k => by
    unfold seeL
    by_cases h : k = i
    · subst h
      rw [seeL_low ph s r (k + 1) _ _ k (by omega)]
      unfold seeS
      split
      · split
        · simp [setN]
        · simp [setN]
      · exact Nat.le_succ _
    · refine Nat.le_trans (seeL_le ph s r (i + 1) _ _ k) ?_
      rw [seeS_other _ _ _ _ _ _ _ h]
      exact Nat.le_refl _
theorem seeW_le (gs : List Guard) (ph : Nat) (cnt : Nat → Nat) (s : Samp) (k : Nat) : (seeW gs ph cnt s).2 k ≤ cnt k + 1 := by
  unfold seeW
  split
  · exact seeL_le ph s gs 0 cnt none k
  · exact Nat.zero_le _
theorem seeW_ph (gs : List Guard) (ph : Nat) (cnt : Nat → Nat) (s : Samp) (B : Nat) (h : ph < B) (hg : ∀ g ∈ gs, g.to < B) : (seeW gs ph cnt s).1 < B := by
  unfold seeW
  split
  · exact h
  · rename_i k _
    dsimp only
    cases hk : gs[k]? with
    | none => simp; omega
    | some g => exact hg g (List.mem_of_getElem? hk)
structure WSt where
  ph : Nat
  cnt : Nat → Nat
  m : Rat
def curveAt (d : Dev) (ph : Nat) : List Pt := (d.curves[ph]?).getD []
def momW (d : Dev) (w : WSt) (s : Samp) : Rat :=
  clampQ (clampQ (atQ (curveAt d (seeW d.guards w.ph w.cnt s).1) s.angle) (w.m - (ptAt d.limits (seeW d.guards w.ph w.cnt s).1).z) (w.m + (ptAt d.limits (seeW d.guards w.ph w.cnt s).1).z)) (-(ptAt d.limits (seeW d.guards w.ph w.cnt s).1).x) (ptAt d.limits (seeW d.guards w.ph w.cnt s).1).x
def stopW (d : Dev) (w : WSt) (s : Samp) : Bool := stopB (seeW d.guards w.ph w.cnt s).1 (momW d w s) s.speed
def stepW (d : Dev) (w : WSt) (s : Samp) : WSt := ⟨(seeW d.guards w.ph w.cnt s).1, (seeW d.guards w.ph w.cnt s).2, bif stopW d w s then 0 else momW d w s⟩
def rawM (d : Dev) (w : WSt) (s : Samp) : List AV := bif stopW d w s then [.bool false, .nils, .nils] else qC (momW d w s)
def rawA (d : Dev) (w : WSt) (s : Samp) : List AV := .int .u8 ((stepW d w s).ph : Int) :: rawM d w s
def raws (d : Dev) : WSt → List Samp → List (List AV)
  | _, [] => []
  | w, s :: r => rawA d w s :: raws d (stepW d w s) r
def acts (d : Dev) : WSt → List Samp → List (Nat × Rat)
  | _, [] => []
  | w, s :: r => ((stepW d w s).ph, (stepW d w s).m) :: acts d (stepW d w s) r
theorem rawM_mq (d : Dev) (w : WSt) (s : Samp) : MQ (stepW d w s).m (rawM d w s) := by
  unfold stepW rawM
  cases stopW d w s
  · exact .inl rfl
  · exact .inr ⟨rfl, rfl⟩
theorem MQ.cells {m : Rat} {mc : List AV} (h : MQ m mc) : ∃ a b c, mc = [a, b, c] := by
  rcases h with rfl | ⟨_, rfl⟩
  · exact ⟨_, _, _, rfl⟩
  · exact ⟨_, _, _, rfl⟩
structure OkDev (d : Dev) : Prop where
  sm : SmDev d
  c5 : d.curves.length = 5
  l5 : d.limits.length = 5
  to : ∀ g ∈ d.guards, g.to < 5
  cr : ∀ c ∈ d.curves, incC c = true ∧ 1 ≤ c.length
theorem rightD_ok {d : Dev} (h : SmDev d) (hr : rightD d = true) : OkDev d := by
  unfold rightD at hr
  simp only [Bool.and_eq_true, Bool.not_eq_true', Bool.or_eq_false_iff, decide_eq_false_iff_not, ne_eq, Decidable.not_not] at hr
  obtain ⟨⟨-, h1, h2, -⟩, h3, h4, -⟩ := hr
  refine ⟨h, h1, h2, fun g hg => ?_, fun c hc => ?_⟩
  · have hb := List.any_eq_false.1 h3 g hg
    unfold badG at hb
    simp only [Bool.or_eq_true, decide_eq_true_eq, not_or] at hb
    omega
  · have hb := List.any_eq_false.1 h4 c hc
    unfold badC rightC at hb
    simp only [Bool.not_eq_true', Bool.and_eq_false_iff, not_or, Bool.not_eq_false, decide_eq_true_eq] at hb
    exact ⟨hb.1, hb.2.1⟩
structure WIds (Own : Nat → Prop) (bd bw mid bm base : Nat) : Prop where
  d : bd < base
  w : bw < base
  i : mid < base
  m : bm < base
  dw : bd ≠ bw
  di : bd ≠ mid
  dm : bd ≠ bm
  wi : bw ≠ mid
  wm : bw ≠ bm
  im : mid ≠ bm
  od : ¬ Own bd
  ow : ¬ Own bw
  oi : ¬ Own mid
  om : ¬ Own bm
  o : ∀ id, Own id → id < base
theorem dev_cells (d : Dev) : ∃ a b c, qC d.step = [a, b, c] ∧ d.c = [.sl false (d.guards.map Guard.c), .sl false (d.curves.map fun s => [.sl false (s.map Pt.c)]), .sl false (d.limits.map Pt.c), a, b, c] := ⟨_, _, _, rfl, rfl⟩
def stepsW (d : Dev) : WSt → List Samp → List (WSt × Samp)
  | _, [] => []
  | w, s :: r => (w, s) :: stepsW d (stepW d w s) r
structure Taker (d : Dev) (n0 base lid Smax Lmax : Nat) (fz : Nat → Nat) (Own : Nat → Prop) (Acc : (Nat → Option AObj) → Nat → List (WSt × Samp) → Prop) : Prop where
  frame : ∀ ob ob' nx nx' out, Acc ob nx out → nx ≤ nx' → (∀ id, Own id ∨ (base ≤ id ∧ id < nx) → ob' id = ob id) → Acc ob' nx' out
  step : ∀ n, n0 ≤ n → ∀ (w : WSt) (s : Samp) (ob : Nat → Option AObj) (nx : Nat) (out : List (WSt × Samp)), Acc ob nx out → base ≤ nx → out.length < Lmax → SmSamp s → (stepW d w s).ph < 5 → SmQ Smax (stepW d w s).m →
    ∃ ob' nx', evF E (n + 1) (.rnd lid) [.agg s.c, .agg (rawA d w s)] ⟨ob, fz, nx⟩ = some (.one (.bool true), ⟨ob', fz, nx'⟩) ∧ nx ≤ nx' ∧ Acc ob' nx' (out ++ [(w, s)]) ∧ ∀ id, id < base → ¬ Own id → ob' id = ob id
set_option maxRecDepth 100000 in
theorem walk_loop (d : Dev) (hd : OkDev d) {bd bw mid bm lid base n0 Smax Lmax : Nat} {Own : Nat → Prop} {Acc : (Nat → Option AObj) → Nat → List (WSt × Samp) → Prop} (I : WIds Own bd bw mid bm base) (fz : Nat → Nat) (T : Taker d n0 base lid Smax Lmax fz Own Acc) (hSm : Smax ≤ 2 ^ 29) : ∀ (ss pre : List Samp) (w : WSt) (mc : List AV) (S : Nat), MQ w.m mc → SmQ S w.m → 2571 ≤ S → S + 257 * ss.length ≤ Smax → w.ph < 5 → (∀ k, w.cnt k + ss.length < 2 ^ 40) → (∀ s ∈ ss, SmSamp s) → (pre ++ ss).length < 2 ^ 20 → (pre ++ ss).length ≤ Lmax →
    ∃ N, ∀ n, N ≤ n → ∀ (ob : Nat → Option AObj) (nx : Nat) (es : List AEnt) (clk : Nat) (out : List (WSt × Samp)) (X : List (Nat × SV)), base ≤ nx → ob bd = some (.box d.c) → ob bw = some (.box (d.c ++ [.int .u8 (w.ph : Int), .mp mid])) → ob mid = some (.map es clk) → Rep es w.cnt → ob bm = some (.box mc) → Acc ob nx out → out.length = pre.length → ∀ M, ss.length < M →
      ∃ (ob' : Nat → Option AObj) (nx' : Nat) (X' : List (Nat × SV)), loopN (evC (evF E n) n Fn.wear_Device_walk_1_L0) M ⟨env ((0, .one (.yld lid)) :: (1, .one (.box bd 0)) :: (4, .one (.box bw 0)) :: (5, .one (.box bm 0)) :: (13, .one (.sl false ((pre ++ ss).map Samp.c))) :: (14, .one (.int .i64 ((pre ++ ss).length : Int))) :: (15, .one (.int .i64 (pre.length : Int))) :: X), ob, fz, nx⟩ =
        some (.ext 0, ⟨env X', ob', fz, nx'⟩) ∧ nx ≤ nx' ∧ Acc ob' nx' (out ++ stepsW d w ss)
  | [], pre, w, mc, S, hm, hS, hS1, hS2, hph, hcnt, hss, hlen, hLmx => by
    refine ⟨0, fun n hn ob nx es clk out X hb od ow oi hr om hx hout M hM => ?_⟩
    obtain ⟨M, rfl⟩ : ∃ k, M = k + 1 := ⟨M - 1, by simp at hM; omega⟩
    rw [List.append_nil]
    have hlt : (((pre.length : Nat) : Int) < ((pre.length : Nat) : Int)) = False := by simp
    refine ⟨ob, nx, [(0, .one (.yld lid)), (1, .one (.box bd 0)), (4, .one (.box bw 0)), (5, .one (.box bm 0)), (13, .one (.sl false (pre.map Samp.c))), (14, .one (.int .i64 (pre.length : Int))), (15, .one (.int .i64 (pre.length : Int))), (16, .one (.bool false))], round_ext ?_, Nat.le_refl _, by unfold stepsW; rw [List.append_nil]; exact hx⟩
    simp only [go_sem, Fn.wear_Device_walk_1_L0, hlt]
  | s :: r, pre, w, mc, S, hm, hS, hS1, hS2, hph, hcnt, hss, hlen, hLmx => by
    have hs := hss s (by simp)
    simp only [List.length_cons] at hS2 hcnt
    have hph' : (seeW d.guards w.ph w.cnt s).1 < 5 := seeW_ph _ _ _ _ 5 hph hd.to
    have gc : d.curves[(seeW d.guards w.ph w.cnt s).1]? = some (curveAt d (seeW d.guards w.ph w.cnt s).1) := by
      unfold curveAt; rw [List.getElem?_eq_getElem (by rw [hd.c5]; exact hph')]; rfl
    have gl : d.limits[(seeW d.guards w.ph w.cnt s).1]? = some (ptAt d.limits (seeW d.guards w.ph w.cnt s).1) := by
      unfold ptAt; rw [List.getElem?_eq_getElem (by rw [hd.l5]; exact hph')]; rfl
    have hcm := List.mem_of_getElem? gc
    have hlm := List.mem_of_getElem? gl
    have sP := hd.sm.ls _ hlm
    obtain ⟨i1, i2⟩ := hd.cr _ hcm
    have sat := (at_ends _ s.angle (hd.sm.cll _ hcm) i2 i1 (hd.sm.cs _ hcm) hs.angle).2
    have slo := SmQ.sub hS sP.z
    have shi := SmQ.add hS sP.z
    have sat' := SmQ.mono sat (show 2571 ≤ S + 256 + 1 by omega)
    have sr1 := SmQ.clamp sat' slo shi
    have snx := SmQ.mono (SmQ.neg sP.x) (show 256 ≤ S + 256 + 1 by omega)
    have spx := SmQ.mono sP.x (show 256 ≤ S + 256 + 1 by omega)
    have sr2 := SmQ.clamp sr1 snx spx
    obtain ⟨N1, k1⟩ := at_call _ s.angle (hd.sm.cll _ hcm) i2 i1 (hd.sm.cs _ hcm) hs.angle
    obtain ⟨N2, k2⟩ := (Ends.of (K (S + 256 + 1) + 4) fun hn => Sub_run w.m (ptAt d.limits (seeW d.guards w.ph w.cnt s).1).z hS sP.z (by omega) hn : Ends Id.exact_Q_Sub [.agg (qC w.m), .agg (qC _)] (.agg (qC _))).mq (canS_q _) hm
    obtain ⟨N3, k3⟩ := (Ends.of (K (S + 256 + 1) + 2) fun hn => Add_run w.m (ptAt d.limits (seeW d.guards w.ph w.cnt s).1).z hS sP.z (by omega) hn : Ends Id.exact_Q_Add [.agg (qC w.m), .agg (qC _)] (.agg (qC _))).mq (canS_q _) hm
    obtain ⟨N4, k4⟩ := clamp_call _ _ _ sat' slo shi (by omega)
    obtain ⟨N5, k5⟩ := Neg_call (ptAt d.limits (seeW d.guards w.ph w.cnt s).1).x
    obtain ⟨N6, k6⟩ := clamp_call _ _ _ sr1 snx spx (by omega)
    obtain ⟨N7, k7⟩ := Mul_call _ s.speed sr2 hs.speed (by omega)
    obtain ⟨N8, k8⟩ := Sign_call (momW d w s * s.speed)
    obtain ⟨N9, k9⟩ : ∃ N, ∀ n, N ≤ n → ∀ g ∈ d.guards, ∀ (ob : Nat → Option AObj) (fz : Nat → Nat), callV (evF E n) Id.wear_Box_has [.agg g.box.c, .agg s.c] ob fz = some (.fzd fz (.one (.bool (hasBx g.box s)))) := by
      have hg := fun g hg => (hd.sm.gs g hg).box
      revert hg
      generalize d.guards = l
      intro hg
      induction l with
      | nil => exact ⟨0, fun _ _ _ h => by simp at h⟩
      | cons c r ih =>
        obtain ⟨Na, ka⟩ := has_call c.box s (hg c (by simp)) hs
        obtain ⟨Nb, kb⟩ := ih (fun c hc => hg c (by simp [hc]))
        refine ⟨Na + Nb, fun n hn y hy => ?_⟩
        rcases List.mem_cons.1 hy with rfl | e
        · exact ka n (by omega)
        · exact kb n (by omega) y e
    have hS' : SmQ (S + 256 + 1) (stepW d w s).m := by
      unfold stepW
      cases stopW d w s
      · exact sr2
      · exact SmQ.mono SmQ.zero (by omega)
    obtain ⟨N10, k10⟩ := walk_loop d hd I fz T hSm r (pre ++ [s]) (stepW d w s) (rawM d w s) (S + 256 + 1) (rawM_mq d w s) hS' (by omega) (by omega) hph' (fun k => by
      have h1 := seeW_le d.guards w.ph w.cnt s k
      have h2 := hcnt k
      show (seeW d.guards w.ph w.cnt s).2 k + r.length < 2 ^ 40
      omega) (fun t ht => hss t (by simp [ht])) (by simpa using hlen) (by simpa using hLmx)
    refine ⟨N1 + N2 + N3 + N4 + N5 + N6 + N7 + N8 + N9 + N10 + n0 + d.guards.length + 3, fun n hn ob nx es clk out X hb od ow oi hr om hx hout M hM => ?_⟩
    obtain ⟨M, rfl⟩ : ∃ k, M = k + 1 := ⟨M - 1, by simp at hM; omega⟩
    have hM' : r.length < M := by simp only [List.length_cons] at hM; omega
    have k1 := k1 n (by omega)
    have k2 := k2 n (by omega)
    have k3 := k3 n (by omega)
    have k4 := k4 n (by omega)
    have k5 := k5 n (by omega)
    have k6 := k6 n (by omega)
    have k7 := k7 n (by omega)
    have k8 := k8 n (by omega)
    have k10 := k10 n (by omega)
    obtain ⟨n, rfl⟩ : ∃ m, n = m + 1 := ⟨n - 1, by omega⟩
    have k9 := k9 n (by omega)
    obtain ⟨m1, m2, m3, hmc⟩ := hm.cells
    rw [hmc] at k2 k3 om
    obtain ⟨t1, t2, t3, -, hdc⟩ := dev_cells d
    have gs : (pre ++ s :: r)[pre.length]? = some s := by simp
    have I' := I
    obtain ⟨jd, jw, ji, jm, jdw, jdi, jdm, jwi, jwm, jim, od', ow', oi', om', jo⟩ := I'
    have hlt : (((pre.length : Nat) : Int) < (((pre ++ s :: r).length : Nat) : Int)) = True := by simp; omega
    have hA : evC (evF E (n + 1)) (n + 1) wkA ⟨env ((0, .one (.yld lid)) :: (1, .one (.box bd 0)) :: (4, .one (.box bw 0)) :: (5, .one (.box bm 0)) :: (13, .one (.sl false ((pre ++ s :: r).map Samp.c))) :: (14, .one (.int .i64 ((pre ++ s :: r).length : Int))) :: (15, .one (.int .i64 (pre.length : Int))) :: X), ob, fz, nx⟩ = some (.nrm, ⟨env [(0, .one (.yld lid)), (1, .one (.box bd 0)), (4, .one (.box bw 0)), (5, .one (.box bm 0)), (13, .one (.sl false ((pre ++ s :: r).map Samp.c))), (14, .one (.int .i64 ((pre ++ s :: r).length : Int))), (15, .one (.int .i64 (pre.length : Int))), (16, .one (.bool true))], ob, fz, nx⟩) := by
      unfold wkA Fn.wear_Device_walk_1_L0
      simp only [go_sem, hlt]
    have hC : evC (evF E (n + 1)) (n + 1) wkC ⟨env [(0, .one (.yld lid)), (1, .one (.box bd 0)), (4, .one (.box bw 0)), (5, .one (.box bm 0)), (13, .one (.sl false ((pre ++ s :: r).map Samp.c))), (14, .one (.int .i64 ((pre ++ s :: r).length : Int))), (15, .one (.int .i64 (pre.length : Int))), (16, .one (.bool true))], ob, fz, nx⟩ = some (.nrm, ⟨env [(0, .one (.yld lid)), (1, .one (.box bd 0)), (4, .one (.box bw 0)), (5, .one (.box bm 0)), (13, .one (.sl false ((pre ++ s :: r).map Samp.c))), (14, .one (.int .i64 ((pre ++ s :: r).length : Int))), (15, .one (.int .i64 (pre.length : Int))), (16, .one (.bool true))], ob, fz, nx⟩) := by
      unfold wkC Fn.wear_Device_walk_1_L0
      simp only [go_sem]
    have h1 := piece1 (n := n + 1) (fz := fz) (ob := ob) (nx := nx) (i := pre.length) (.one (.yld lid)) (.one (.box bd 0)) (.one (.box bw 0)) (.one (.box bm 0)) (pre ++ s :: r) s gs [(16, .one (.bool true))]
    have f1 : ∀ id, id < nx → upd ob (nx + 2) (.box s.c) id = ob id := fun id h => upd_ne (by omega)
    rw [hdc, List.cons_append, List.cons_append, List.cons_append, List.cons_append, List.cons_append, List.cons_append, List.nil_append] at ow
    obtain ⟨ob2, nx2, es2, clk2, hsee, b1, b2, b3, b4, b5⟩ := see_ref (n := n) (fz := fz) (nx := nx + 4) (ob := upd ob (nx + 2) (.box s.c)) d.guards s hd.sm.gl (by omega) jwi k9 (by omega) (by omega) ((f1 bw (by omega)).trans ow) ((f1 mid (by omega)).trans oi) hr (fun k => by have := hcnt k; omega)
    have o7 : ob2 (nx + 2) = some (.box s.c) := (b5 (nx + 2) (by omega) (by omega) (by omega)).trans (upd_same _ _ _)
    have f2 : ∀ id, id < nx → id ≠ bw → id ≠ mid → ob2 id = ob id := fun id h h1 h2 => (b5 id (by omega) h1 h2).trans (f1 id h)
    have h2 := piece2 (n := n + 1) (fz := fz) (ob := upd ob (nx + 2) (.box s.c)) (nx := nx + 4) (bw := bw) (b7 := nx + 2) (.one (.yld lid)) (.one (.box bd 0)) (.one (.box bm 0)) (.one (.sl false ((pre ++ s :: r).map Samp.c))) (.one (.int .i64 ((pre ++ s :: r).length : Int))) (.one (.int .i64 (pre.length : Int))) s (upd_same _ _ _) ob2 nx2 hsee
    have od2 : ob2 bd = _ := (f2 bd (by omega) jdw jdi).trans (od.trans (by rw [hdc]))
    have h3 := piece3 (n := n + 1) (fz := fz) (ob := ob2) (nx := nx2) (bd := bd) (bw := bw) (b7 := nx + 2) (.one (.yld lid)) (.one (.box bm 0)) (.one (.sl false ((pre ++ s :: r).map Samp.c))) (.one (.int .i64 ((pre ++ s :: r).length : Int))) (.one (.int .i64 (pre.length : Int))) d.limits _ gl (by omega) (by omega) od2 b2
    have f3 : ∀ (y : AObj) id, id < nx2 → upd ob2 (nx2 + 8) y id = ob2 id := fun y id h => upd_ne (by omega)
    have om2 : ob2 bm = _ := (f2 bm (by omega) (Ne.symm jwm) (Ne.symm jim)).trans om
    have h4 := piece4 (n := n + 1) (fz := fz) (ob := upd ob2 (nx2 + 8) (.box (ptAt d.limits (seeW d.guards w.ph w.cnt s).1).c)) (nx := nx2 + 10) (bd := bd) (bw := bw) (bm := bm) (b7 := nx + 2) (b8 := nx2 + 8) (.one (.yld lid)) (.one (.sl false ((pre ++ s :: r).map Samp.c))) (.one (.int .i64 ((pre ++ s :: r).length : Int))) (.one (.int .i64 (pre.length : Int))) d.curves _ s _ _ _ _ _ gc (by omega) (by omega) (by omega) (by omega) (by omega) ((f3 _ bd (by omega)).trans od2) ((f3 _ bw (by omega)).trans b2) ((f3 _ bm (by omega)).trans om2) ((f3 _ (nx + 2) (by omega)).trans o7) (upd_same _ _ _) k1 k2 k3 k4
    have h5 := piece5 (n := n + 1) (fz := fz) (ob := upd (upd ob2 (nx2 + 8) (.box (ptAt d.limits (seeW d.guards w.ph w.cnt s).1).c)) bm (.box (qC _))) (nx := nx2 + 10) (bm := bm) (b8 := nx2 + 8) (.one (.yld lid)) (.one (.box bd 0)) (.one (.box bw 0)) (.one (.box (nx + 2) 0)) (.one (.sl false ((pre ++ s :: r).map Samp.c))) (.one (.int .i64 ((pre ++ s :: r).length : Int))) (.one (.int .i64 (pre.length : Int))) _ _ (momW d w s) (by omega) (by omega) (upd_same _ _ _) (by rw [upd_ne (by omega)]; exact upd_same _ _ _) k5 k6
    obtain ⟨ob5, hob5⟩ : ∃ o, o = upd (upd ob2 (nx2 + 8) (.box (ptAt d.limits (seeW d.guards w.ph w.cnt s).1).c)) bm (.box (qC (momW d w s))) := ⟨_, rfl⟩
    rw [upd_upd, ← hob5] at h5
    have f5 : ∀ id, id < nx2 → id ≠ bm → ob5 id = ob2 id := fun id h h1 => by rw [hob5, upd_ne h1]; exact f3 _ id h
    have om5 : ob5 bm = some (.box (qC (momW d w s))) := by rw [hob5]; exact upd_same _ _ _
    obtain ⟨X6, h6⟩ := piece6 (n := n + 1) (fz := fz) (ob := ob5) (nx := nx2 + 10) (bw := bw) (bm := bm) (b7 := nx + 2) (.one (.yld lid)) (.one (.box bd 0)) (.one (.sl false ((pre ++ s :: r).map Samp.c))) (.one (.int .i64 ((pre ++ s :: r).length : Int))) (.one (.int .i64 (pre.length : Int))) s (momW d w s) ((f5 bw (by omega) jwm).trans b2) om5 ((f5 (nx + 2) (by omega) (by omega)).trans o7) k7 k8
    obtain ⟨ob6, hob6⟩ : ∃ o, o = (bif stopB (seeW d.guards w.ph w.cnt s).1 (momW d w s) s.speed then upd ob5 bm (.box [.bool false, .nils, .nils]) else ob5) := ⟨_, rfl⟩
    rw [← hob6] at h6
    have f6 : ∀ id, id < nx2 → id ≠ bm → ob6 id = ob2 id := fun id h h1 => by
      rw [hob6]
      cases stopB (seeW d.guards w.ph w.cnt s).1 (momW d w s) s.speed
      · exact f5 id h h1
      · rw [cond_true, upd_ne h1]; exact f5 id h h1
    have om6 : ob6 bm = some (.box (rawM d w s)) := by
      rw [hob6]
      unfold rawM stopW
      cases stopB (seeW d.guards w.ph w.cnt s).1 (momW d w s) s.speed
      · exact om5
      · exact upd_same _ _ _
    obtain ⟨r1, r2, r3, hrm⟩ := (rawM_mq d w s).cells
    have f6' : ∀ id, id < nx → id ≠ bw → id ≠ mid → id ≠ bm → ob6 id = ob id := fun id h h1 h2 h3 => (f6 id (by omega) h3).trans (f2 id h h1 h2)
    have hx6 := T.frame ob ob6 nx (nx2 + 10) out hx (by omega) fun id hid => by
      rcases hid with h | ⟨h, h'⟩
      · have := jo id h
        exact f6' id (by omega) (fun e => ow' (e ▸ h)) (fun e => oi' (e ▸ h)) (fun e => om' (e ▸ h))
      · exact f6' id h' (by omega) (by omega) (by omega)
    obtain ⟨ob7, nx7, hrnd, c1, c2, c5⟩ := T.step n (by omega) w s ob6 (nx2 + 10) out hx6 (by omega) (by rw [hout]; simp at hLmx; omega) hs hph' (SmQ.mono hS' (by omega))
    have e : rawA d w s = [.int .u8 ((seeW d.guards w.ph w.cnt s).1 : Int), r1, r2, r3] := by unfold rawA; rw [hrm]; rfl
    rw [e] at hrnd
    rw [hrm] at om6
    obtain ⟨X7, h7⟩ := piece7 (n := n + 1) (fz := fz) (ob := ob6) (nx := nx2 + 10) (lid := lid) (bw := bw) (bm := bm) (b7 := nx + 2) (.one (.box bd 0)) (.one (.sl false ((pre ++ s :: r).map Samp.c))) (.one (.int .i64 ((pre ++ s :: r).length : Int))) (.one (.int .i64 (pre.length : Int))) s (by omega) (by omega) (by omega) ((f6 bw (by omega) jwm).trans b2) om6 ((f6 (nx + 2) (by omega) (by omega)).trans o7) ob7 nx7 hrnd X6
    have wk : IntKind.i64.wrap ((pre.length + 1 : Nat) : Int) = ((pre.length + 1 : Nat) : Int) := wi64 (by simp at hlen; omega)
    have hI : evC (evF E (n + 1)) (n + 1) wkI ⟨env ((0, .one (.yld lid)) :: (1, .one (.box bd 0)) :: (4, .one (.box bw 0)) :: (5, .one (.box bm 0)) :: (13, .one (.sl false ((pre ++ s :: r).map Samp.c))) :: (14, .one (.int .i64 ((pre ++ s :: r).length : Int))) :: (15, .one (.int .i64 (pre.length : Int))) :: X7), ob7, fz, nx7⟩ = some (.nrm, ⟨env [(0, .one (.yld lid)), (1, .one (.box bd 0)), (4, .one (.box bw 0)), (5, .one (.box bm 0)), (13, .one (.sl false ((pre ++ s :: r).map Samp.c))), (14, .one (.int .i64 ((pre ++ s :: r).length : Int))), (15, .one (.int .i64 ((pre.length + 1 : Nat) : Int)))], ob7, fz, nx7⟩) := by
      unfold wkI Fn.wear_Device_walk_1_L0
      simp only [go_sem, add1, wk]
    have hst : evC (evF E (n + 1)) (n + 1) Fn.wear_Device_walk_1_L0 ⟨env ((0, .one (.yld lid)) :: (1, .one (.box bd 0)) :: (4, .one (.box bw 0)) :: (5, .one (.box bm 0)) :: (13, .one (.sl false ((pre ++ s :: r).map Samp.c))) :: (14, .one (.int .i64 ((pre ++ s :: r).length : Int))) :: (15, .one (.int .i64 (pre.length : Int))) :: X), ob, fz, nx⟩ = some (.nrm, ⟨env [(0, .one (.yld lid)), (1, .one (.box bd 0)), (4, .one (.box bw 0)), (5, .one (.box bm 0)), (13, .one (.sl false ((pre ++ s :: r).map Samp.c))), (14, .one (.int .i64 ((pre ++ s :: r).length : Int))), (15, .one (.int .i64 ((pre.length + 1 : Nat) : Int)))], ob7, fz, nx7⟩) := by
      rw [wk_eq]
      simp only [x_seq, hA, thenC_nrm, hC, x_block, h1, h2, h3, h4, h5, h6, h7, blkC_nrm, hI]
    have hpl : (pre ++ [s]).length = pre.length + 1 := by simp
    have hpa : pre ++ [s] ++ r = pre ++ s :: r := by simp
    rw [hpa, hpl] at k10
    obtain ⟨ob8, nx8, X8, g1, g2, g5⟩ := k10 ob7 nx7 es2 clk2 (out ++ [(w, s)]) [] (by omega) (by
      rw [c5 bd jd od', f6' bd (by omega) jdw jdi jdm, od]) (by
      rw [c5 bw jw ow', f6 bw (by omega) jwm, b2, hdc]; rfl) (by
      rw [c5 mid ji oi', f6 mid (by omega) jim]; exact b3) b4 (by
      rw [c5 bm jm om', om6, hrm]) c2 (by simp [hout]) M hM'
    refine ⟨ob8, nx8, X8, by rw [round_nrm hst]; exact g1, by omega, ?_⟩
    unfold stepsW
    simpa using g5
end Go.Ev
namespace Go.Ev
open Go.Dig
theorem OutB.shut {base nx : Nat} {ob0 ob : Nat → Option AObj} {x : AV} {es : List (List AV)} (h : OutB base ob nx x es) : OutB base (shut ob0 ob) nx x es := by
  rcases h with h | ⟨id, ver, h1, h2, h3, h4⟩
  · exact .inl h
  · exact .inr ⟨id, ver, h1, shut_rowk h2, h3, h4⟩
theorem wbound {n : Nat} (h : n < 2 ^ 20) : 2571 + 257 * n ≤ 2 ^ 29 := by
  have : 257 * (2 ^ 20) + 2571 ≤ 2 ^ 29 := by decide
  omega
def w0 : WSt := ⟨0, fun _ => 0, 0⟩
set_option maxRecDepth 100000 in
theorem walk1_ref (d : Dev) (hd : OkDev d) (l : List Samp) (hl : l.length < 2 ^ 20) (hs : ∀ s ∈ l, SmSamp s) {n0 Smax Lmax : Nat} {Own : Nat → Prop} {Acc : (Nat → Option AObj) → Nat → List (WSt × Samp) → Prop} (lid bd bl nx : Nat) (fz : Nat → Nat) (T : Taker d n0 (nx + 6) lid Smax Lmax fz Own Acc) (hS1 : 2571 + 257 * l.length ≤ Smax) (hS2 : Smax ≤ 2 ^ 29) (hLm : l.length ≤ Lmax) (hO : ∀ id, Own id → id < nx) (hbd : ¬ Own bd) (h2 : bd < nx) (h3 : bl < nx) : ∃ N, ∀ n, N ≤ n → ∀ (ob : Nat → Option AObj), ob bd = some (.box d.c) → ob bl = some (.box [.sl false (l.map Samp.c)]) → Acc ob nx [] →
    ∃ (ob' : Nat → Option AObj) (nx' : Nat), evF E (n + 1) (.fn Id.wear_Device_walk_1) [.one (.yld lid), .one (.box bd 0), .one (.box bl 0)] ⟨ob, fz, nx⟩ = some (.tup [], ⟨Ev.shut ob ob', fz, nx'⟩) ∧ nx ≤ nx' ∧ Acc ob' nx' (stepsW d w0 l) := by
  have hn : ∀ k, ¬ Own (nx + k) := fun k h => by have := hO _ h; omega
  obtain ⟨N, h⟩ := walk_loop d hd (bd := bd) (bw := nx + 3) (mid := nx + 1) (bm := nx + 5) (base := nx + 6) ⟨by omega, by omega, by omega, by omega, by omega, by omega, by omega, by omega, by omega, by omega, hbd, hn 3, hn 1, hn 5, fun id h => by have := hO _ h; omega⟩ fz T hS2 l [] w0 [.bool false, .nils, .nils] 2571 (.inr ⟨rfl, rfl⟩) (SmQ.mono SmQ.zero (by omega)) (Nat.le_refl _) hS1 (by decide) (fun k => by
    show 0 + l.length < 2 ^ 40
    exact Nat.lt_trans (by omega) (show 2 ^ 20 < 2 ^ 40 by decide)) hs (by simpa using hl) (by simpa using hLm)
  refine ⟨N + l.length + 1, fun n hn ob od ol hA => ?_⟩
  obtain ⟨t1, t2, t3, -, hdc⟩ := dev_cells d
  have n2 : ∀ k, (bd = nx + k) = False := fun k => by simp only [eq_iff_iff, iff_false]; omega
  have n3 : ∀ k, (bl = nx + k) = False := fun k => by simp only [eq_iff_iff, iff_false]; omega
  obtain ⟨ob1, hob1⟩ : ∃ o, o = upd (upd (upd ob (nx + 1) (.map [] 0)) (nx + 3) (.box (d.c ++ [.int .u8 0, .mp (nx + 1)]))) (nx + 5) (.box [.bool false, .nils, .nils]) := ⟨_, rfl⟩
  have f1 : ∀ id, id < nx → ob1 id = ob id := fun id hi => by rw [hob1, upd_ne (by omega), upd_ne (by omega), upd_ne (by omega)]
  obtain ⟨ob', nx', X', g1, g2, g5⟩ := h n (by omega) ob1 (nx + 6) [] 0 [] [] (Nat.le_refl _) ((f1 bd h2).trans od) (by rw [hob1, upd_ne (by omega)]; exact upd_same _ _ _) (by rw [hob1, upd_ne (by omega), upd_ne (by omega)]; exact upd_same _ _ _) Rep.nil (by rw [hob1]; exact upd_same _ _ _) (T.frame ob ob1 nx (nx + 6) [] hA (by omega) fun id hid => by
      rcases hid with h | h
      · exact f1 id (hO id h)
      · omega) rfl n (by omega)
  refine ⟨ob', nx', ?_, by omega, g5⟩
  rw [hob1] at g1
  rw [List.nil_append] at g1
  have z0 : (([] : List Samp).length : Int) = 0 := rfl
  rw [z0] at g1
  rw [hdc] at od g1
  simp only [List.cons_append, List.nil_append] at g1
  rw [evF_succ E_wear_Device_walk_1]
  have hlm : (l.map Samp.c).length = l.length := List.length_map _
  simp only [go_sem, Fn.wear_Device_walk_1, od, ol, n2, n3, hlm, Nat.add_assoc, g1]
theorem raws_steps (d : Dev) : ∀ (l : List Samp) (w : WSt), raws d w l = (stepsW d w l).map fun p => rawA d p.1 p.2
  | [], w => rfl
  | s :: r, w => by unfold raws stepsW; rw [raws_steps d r, List.map_cons]
def ActAcc (d : Dev) (L : List (Nat × SV)) (lid bo base : Nat) (ob : Nat → Option AObj) (nx : Nat) (out : List (WSt × Samp)) : Prop :=
  ob lid = some (.loop (actLoop L)) ∧ ∃ x, ob bo = some (.box [x]) ∧ OutB base ob nx x (out.map fun p => rawA d p.1 p.2)
theorem act_taker (d : Dev) {L : List (Nat × SV)} (lid bo base : Nat) (fz : Nat → Nat) (hL : env L 7 = .one (.box bo 0)) (h1 : lid < base) (h2 : bo < base) (hne : lid ≠ bo) : Taker d 0 base lid (2 ^ 29) (2 ^ 20) fz (fun id => id = lid ∨ id = bo) (ActAcc d L lid bo base) := by
  refine ⟨fun ob ob' nx nx' out h hn hf => ?_, fun n _ w s ob nx out h hb ho hs hph hm => ?_⟩
  · obtain ⟨a, x, b, c⟩ := h
    exact ⟨(hf lid (.inl (.inl rfl))).trans a, x, (hf bo (.inl (.inr rfl))).trans b, c.frame hn fun id q1 q2 => hf id (.inr ⟨q1, q2⟩)⟩
  · obtain ⟨a, x, b, c⟩ := h
    obtain ⟨r1, r2, r3, hrm⟩ := (rawM_mq d w s).cells
    obtain ⟨ob', nx', x', g1, g2, g3, g4, g5, g6⟩ := rnd_ref (n := n) (lid := lid) (bo := bo) (base := base) (nx := nx) (ob := ob) (fz := fz) (x := x) (es := out.map fun p => rawA d p.1 p.2) (L := L) (c0 := .int .u8 ((stepW d w s).ph : Int)) (m1 := r1) (m2 := r2) (m3 := r3) (.agg s.c) hL a b c h1 h2 hb hne (by rw [List.length_map]; exact ho)
    have e : rawA d w s = [.int .u8 ((stepW d w s).ph : Int), r1, r2, r3] := by unfold rawA; rw [hrm]
    refine ⟨ob', nx', by rw [e]; exact g1, g2, ⟨g3, x', g4, ?_⟩, fun id q1 q2 => g6 id q1 (fun e => q2 (.inl e)) (fun e => q2 (.inr e))⟩
    rw [List.map_append, List.map_cons, List.map_nil, e]
    exact g5
theorem evC_rangeF {F : Caller} {fuel : Nat} {g : Opd} {ps : List Nat} {asg body : ACode} {st : St} {f : FuncId} {first caps : List AV} {r : SV} {s : Sto} {l : ALoop} (hg : g.ev st.sl = .one (.fn f first caps)) (hc : F (.fn f) (first.map .one ++ [.one (.yld (st.nx + 1))] ++ caps.map .one) ⟨upd (upd st.ob st.nx .dfr) (st.nx + 1) (.loop ⟨st.sl, ps, asg, body, .ready, none⟩), st.fz, st.nx + 2⟩ = some (r, s)) (hl : s.ob (st.nx + 1) = some (.loop l)) (hb : l.st = .ready) :
    evC F fuel (.rangeF g ps asg body) st = some (l.pend.getD .nrm, ⟨st.sl, upd s.ob (st.nx + 1) (.loop { l with st := .exhausted }), s.fz, s.nx⟩) := by
  simp only [evC, hg, hc, hl, hb]
theorem walk_ref {n : Nat} (d : Dev) (l : List Samp) (ob : Nat → Option AObj) (fz : Nat → Nat) (nx : Nat) : evF E (n + 1) (.fn Id.wear_Device_walk) [.agg d.c, .one (.sl false (l.map Samp.c))] ⟨ob, fz, nx⟩ = some (.one (.fn Id.wear_Device_walk_1 [] [.box nx 0, .box (nx + 1) 0]), ⟨shut ob (upd (upd ob nx (.box d.c)) (nx + 1) (.box [.sl false (l.map Samp.c)])), fz, nx + 3⟩) := by
  rw [evF_succ E_wear_Device_walk]
  obtain ⟨t1, t2, t3, -, hdc⟩ := dev_cells d
  rw [hdc]
  simp only [go_sem, Fn.wear_Device_walk, List.mapM_cons, List.mapM_nil, Option.bind_eq_bind, Option.bind_some, Option.pure_def, SV.av]
def actC (a : Nat × Rat) : List AV := .int .u8 (a.1 : Int) :: qC a.2
theorem frz_rawA (d : Dev) (w : WSt) (s : Samp) (ob : Nat → Option AObj) (k : Nat) (fz : Nat → Nat) : mapFz (Ev.frz ob (k + 1)) fz (rawA d w s) = some (fz, actC ((stepW d w s).ph, (stepW d w s).m)) := by
  unfold rawA actC rawM stepW
  cases stopW d w s
  · simp only [cond_false]
    exact mapFz_id _ fun x hx => Canon.frz (by
      rcases List.mem_cons.1 hx with rfl | h
      · exact .int _ _
      · exact CanL.q _ x h) ob k fz
  · simp only [cond_true, qC_zero]
    rfl
theorem frz_raws (d : Dev) (ob : Nat → Option AObj) (k : Nat) (fz : Nat → Nat) : ∀ (l : List Samp) (w : WSt), mapFz (mapFz (Ev.frz ob (k + 1))) fz (raws d w l) = some (fz, (acts d w l).map actC)
  | [], w => rfl
  | s :: r, w => by
    unfold raws acts
    simp only [mapFz, frz_rawA, frz_raws d ob k fz r, List.map_cons]
theorem OutB.frzR {base nx : Nat} {ob : Nat → Option AObj} {x : AV} {es fs : List (List AV)} (h : OutB base ob nx x es) (hf : ∀ fz, mapFz (mapFz (Ev.frz ob 7)) fz es = some (fz, fs)) (hl : es = [] → fs = []) : ∃ g : (Nat → Nat) → (Nat → Nat), ∀ fz, frzS ob fz (.one x) = some (g fz, .one (.sl false fs)) := by
  rcases h with ⟨h1, rfl⟩ | ⟨id, ver, rfl, hid, _⟩
  · exact ⟨fun fz => fz, fun fz => by rw [hl h1]; rfl⟩
  · refine ⟨fun fz => raise fz id (0 + es.length), fun fz => ?_⟩
    have hb : Nat.ble (0 + es.length) es.length = true := by simp
    have h1 : Ev.frz ob DEPTH fz (.rsl id ver 4 0 es.length false) = some (raise fz id (0 + es.length), .sl false fs) := by
      rw [show DEPTH = 7 + 1 from rfl, frz_rsl, rowAt_of hid]
      simp only [hb, cond_true, List.drop_zero, List.take_length, hf]
    simp only [frzS, h1]
theorem mayI_ok {d : Dev} {l : List Samp} (h : mayI d l = 0) : rightD d = true := by
  unfold mayI errD at h
  by_cases hr : rightD d = true
  · exact hr
  · rw [if_neg hr] at h; simp at h
set_option maxRecDepth 100000 in
theorem Act_ends (d : Dev) (h : SmDev d) (l : List Samp) (hl : l.length < 2 ^ 20) (hs : ∀ s ∈ l, SmSamp s) : Ends Id.wear_Act [.agg d.c, .one (.sl false (l.map Samp.c))] (.tup [.one (.sl false (if mayI d l = 0 then (acts d w0 l).map actC else [])), .one (.int .i64 (mayI d l))]) := by
  obtain ⟨N1, k1⟩ := may_call d h l
  by_cases he : mayI d l = 0
  · have hd := rightD_ok h (mayI_ok he)
    obtain ⟨N2, k2⟩ := walk1_ref d hd l hl hs 8 4 5 9 (fun _ => 0) (act_taker d (L := [(7, .one (.box 3 0)), (18, .one (.fn Id.wear_Device_walk_1 [] [.box 4 0, .box 5 0]))]) 8 3 15 (fun _ => 0) rfl (by decide) (by decide) (by decide)) (wbound hl) (Nat.le_refl _) (by omega) (fun id h => by rcases h with rfl | rfl <;> decide) (by decide) (by decide) (by decide)
    refine .of (N1 + N2 + 3) fun {n} hn => ?_
    have k1 := k1 n (by omega)
    rw [if_pos he]
    rw [he] at k1 ⊢
    obtain ⟨m, rfl⟩ : ∃ m, n = m + 1 := ⟨n - 1, by omega⟩
    have k2 := k2 m (by omega)
    have k3 := walk_ref (n := m) d l
    rw [evV_succ E_wear_Act]
    obtain ⟨obA, hobA⟩ : ∃ o, o = Ev.shut (upd (upd ob0 0 (.box d.c)) 3 (.box [.nils])) (upd (upd (upd (upd ob0 0 (.box d.c)) 3 (.box [.nils])) 4 (.box d.c)) 5 (.box [.sl false (l.map Samp.c)])) := ⟨_, rfl⟩
    obtain ⟨obL, hobL⟩ : ∃ o, o = upd (upd obA 7 .dfr) 8 (.loop (actLoop [(7, .one (.box 3 0)), (18, .one (.fn Id.wear_Device_walk_1 [] [.box 4 0, .box 5 0]))])) := ⟨_, rfl⟩
    have a4 : obA 4 = some (.box d.c) := by rw [hobA]; exact shut_box (by rw [upd_ne (by decide)]; exact upd_same _ _ _)
    have a5 : obA 5 = some (.box [.sl false (l.map Samp.c)]) := by rw [hobA]; exact shut_box (upd_same _ _ _)
    have a3 : obA 3 = some (.box [.nils]) := by rw [hobA]; exact shut_box (by rw [upd_ne (by decide), upd_ne (by decide)]; exact upd_same _ _ _)
    obtain ⟨ob1', nx', q1, q2, q3', x', q4', q5'⟩ := k2 obL (by rw [hobL, upd_ne (by decide), upd_ne (by decide)]; exact a4) (by rw [hobL, upd_ne (by decide), upd_ne (by decide)]; exact a5) ⟨by rw [hobL]; exact upd_same _ _ _, .nils, by rw [hobL, upd_ne (by decide), upd_ne (by decide)]; exact a3, .inl ⟨rfl, rfl⟩⟩
    rw [← raws_steps] at q5'
    obtain ⟨ob', hob'⟩ : ∃ o, o = Ev.shut obL ob1' := ⟨_, rfl⟩
    have q3 := shut_loopk (ob0 := obL) q3'
    rw [← hob'] at q3
    have q4 : ob' 3 = some (.box [x']) := by rw [hob']; exact shut_box q4'
    have q5 : OutB 15 ob' nx' x' (raws d w0 l) := by rw [hob']; exact q5'.shut
    rw [← hob'] at q1
    obtain ⟨lp, hlp⟩ : ∃ lp : ALoop, lp = { actLoop [(7, .one (.box 3 0)), (18, .one (.fn Id.wear_Device_walk_1 [] [.box 4 0, .box 5 0]))] with st := .exhausted } := ⟨_, rfl⟩
    have hR : evC (evF E (m + 1)) (m + 1) (.rangeF (.t 18) [19, 20] actAsg Fn.wear_Act_R0) ⟨env [(7, .one (.box 3 0)), (18, .one (.fn Id.wear_Device_walk_1 [] [.box 4 0, .box 5 0]))], obA, fz0, 7⟩ = some (.nrm, ⟨env [(7, .one (.box 3 0)), (18, .one (.fn Id.wear_Device_walk_1 [] [.box 4 0, .box 5 0]))], upd ob' 8 (.loop lp), fz0, nx'⟩) := by
      rw [hlp]
      exact evC_rangeF (F := evF E (m + 1)) (fuel := m + 1) (g := .t 18) (ps := [19, 20]) (asg := actAsg) (body := Fn.wear_Act_R0) (st := ⟨env [(7, .one (.box 3 0)), (18, .one (.fn Id.wear_Device_walk_1 [] [.box 4 0, .box 5 0]))], obA, fz0, 7⟩) (first := []) (caps := [.box 4 0, .box 5 0]) rfl (by
        show evF E (m + 1) _ _ ⟨upd (upd obA 7 .dfr) 8 _, fz0, 9⟩ = _
        have e := q1
        rw [hobL] at e
        exact e) q3 rfl
    have k3 := k3 (upd (upd ob0 0 (.box d.c)) 3 (.box [.nils])) fz0 4
    rw [← hobA] at k3
    have hq5 : OutB 15 (upd ob' 8 (.loop lp)) nx' x' (raws d w0 l) := q5.frame (Nat.le_refl _) fun id h1 h2 => upd_ne (by omega)
    obtain ⟨g, hg⟩ := hq5.frzR (fun fz => frz_raws d _ 6 fz l w0) (fun h => by cases l with | nil => rfl | cons s r => unfold raws at h; cases h)
    unfold actAsg at hR
    have e8 : upd ob' 8 (.loop lp) 3 = some (.box [x']) := by rw [upd_ne (by decide)]; exact q4
    generalize upd ob' 8 (.loop lp) = obE at hR hg e8
    obtain ⟨t1, t2, t3, -, hdc⟩ := dev_cells d
    have hz : IntKind.i64.wrap 0 = 0 := rfl
    rw [hdc] at k1 k3 ⊢
    simp only [go_sem, Fn.wear_Act, k1, k3, bne_self_eq_false, hR, e8, hg]
  · refine .of (N1 + 1) fun {n} hn => ?_
    have k1 := k1 n (by omega)
    rw [if_neg he, evV_succ E_wear_Act]
    obtain ⟨t1, t2, t3, -, hdc⟩ := dev_cells d
    rw [hdc] at k1 ⊢
    generalize mayI d l = e at *
    have e1 : (e != 0) = true := by simp [he]
    simp only [go_sem, Fn.wear_Act, k1, e1]
end Go.Ev
namespace Go.Ev
def CLe (F F' : Caller) : Prop := ∀ c args s r, F c args s = some r → F' c args s = some r
theorem callV_mono {F F' : Caller} (h : CLe F F') {f : FuncId} {args : List SV} {ob : Nat → Option AObj} {fz : Nat → Nat} {e : Eff} (he : callV F f args ob fz = some e) : callV F' f args ob fz = some e := by
  unfold callV at he ⊢
  cases h1 : mapFz (frzS ob) fz args with
  | none => rw [h1] at he; cases he
  | some p =>
    obtain ⟨fz', args'⟩ := p
    rw [h1] at he
    simp only at he ⊢
    cases h2 : F (.fn f) args' Sto.empty with
    | none => rw [h2] at he; cases he
    | some q =>
      rw [h _ _ _ _ h2]
      rw [h2] at he
      exact he
theorem evOp_mono {F F' : Caller} (h : CLe F F') {d : Bool} {rb id : Nat} {st : St} {o : AOp} {e : Eff} (he : evOp F d rb id st o = some e) : evOp F' d rb id st o = some e := by
  cases o with
  | call byref f args =>
    simp only [evOp] at he ⊢
    cases byref with
    | true =>
      simp only [cond_true] at he ⊢
      cases h2 : F (.fn f) (args.map (·.ev st.sl)) ⟨st.ob, st.fz, st.nx⟩ with
      | none => rw [h2] at he; cases he
      | some q => rw [h _ _ _ _ h2]; rw [h2] at he; exact he
    | false => exact callV_mono h he
  | callv x args =>
    simp only [evOp] at he ⊢
    split at he
    · exact callV_mono h he
    · rename_i f first caps hne hx
      cases h2 : F (.fn f) (first.map .one ++ args.map (·.ev st.sl) ++ caps.map .one) ⟨st.ob, st.fz, st.nx⟩ with
      | none => rw [h2] at he; cases he
      | some q => rw [h _ _ _ _ h2]; rw [h2] at he; exact he
    · rename_i l hx
      cases h2 : F (.rnd l) (args.map (·.ev st.sl)) ⟨st.ob, st.fz, st.nx⟩ with
      | none => rw [h2] at he; cases he
      | some q => rw [h _ _ _ _ h2]; rw [h2] at he; exact he
    · cases he
  | _ => exact he
theorem evO_mono {F F' : Caller} (h : CLe F F') {d : Bool} {rb i : Nat} {st st' : St} {o : AOper} (he : evO F d rb i o st = some st') : evO F' d rb i o st = some st' := by
  unfold evO at he ⊢
  split at he
  · cases hl : limOk st.sl o.op o.lim with
    | false => rw [hl] at he; cases he
    | true =>
      rw [hl] at he
      simp only [cond_true] at he ⊢
      cases h2 : evOp F d rb (rb + i) st o.op with
      | none => rw [h2] at he; cases he
      | some q => rw [evOp_mono h h2]; rw [h2] at he; exact he
  · exact he
  · cases he
theorem evOps_mono {F F' : Caller} (h : CLe F F') {d : Bool} {rb : Nat} : ∀ {ops : List AOper} {i : Nat} {st st' : St}, evOps F d rb i ops st = some st' → evOps F' d rb i ops st = some st'
  | [], i, st, st', he => he
  | o :: r, i, st, st', he => by
    unfold evOps at he ⊢
    cases h2 : evO F d rb i o st with
    | none => rw [h2] at he; cases he
    | some q => rw [evO_mono h h2]; rw [h2] at he; exact evOps_mono h he
theorem loopN_mono {b b' : St → Option (Ex × St)} (h : ∀ st r, b st = some r → b' st = some r) : ∀ {k k' : Nat} {st : St} {r : Ex × St}, k ≤ k' → loopN b k st = some r → loopN b' k' st = some r
  | 0, k', st, r, hk, he => by cases he
  | k + 1, 0, st, r, hk, he => by omega
  | k + 1, k' + 1, st, r, hk, he => by
    unfold loopN at he ⊢
    cases h2 : b st with
    | none => rw [h2] at he; cases he
    | some q =>
      rw [h _ _ h2]
      rw [h2] at he
      obtain ⟨e, st'⟩ := q
      cases e with
      | nrm => exact loopN_mono h (by omega) he
      | ext id => exact he
      | ret => exact he
theorem evC_mono {F F' : Caller} (h : CLe F F') {fuel fuel' : Nat} (hf : fuel ≤ fuel') : ∀ (a : ACode) {st : St} {r : Ex × St}, evC F fuel a st = some r → evC F' fuel' a st = some r
  | .skip, st, r, he => he
  | .reg d ops na ks, st, r, he => by
    unfold evC at he ⊢
    cases h2 : evOps F d st.nx 0 ops { st with nx := st.nx + na } with
    | none => rw [h2] at he; cases he
    | some q => rw [evOps_mono h h2]; rw [h2] at he; exact he
  | .seq a b, st, r, he => by
    unfold evC at he ⊢
    cases h2 : evC F fuel a st with
    | none => rw [h2] at he; cases he
    | some q =>
      rw [evC_mono h hf a h2]
      rw [h2] at he
      obtain ⟨e, st'⟩ := q
      cases e with
      | nrm => exact evC_mono h hf b he
      | ext id => exact he
      | ret => exact he
  | .cond c a b, st, r, he => by
    unfold evC at he ⊢
    cases h2 : isBool (c.ev st.sl) with
    | none => rw [h2] at he; cases he
    | some t =>
      rw [h2] at he
      cases t with
      | true => exact evC_mono h hf a he
      | false => exact evC_mono h hf b he
  | .block id a, st, r, he => by
    unfold evC at he ⊢
    cases h2 : evC F fuel a st with
    | none => rw [h2] at he; cases he
    | some q => rw [evC_mono h hf a h2]; rw [h2] at he; exact he
  | .loop a, st, r, he => by
    unfold evC at he ⊢
    exact loopN_mono (fun st r hr => evC_mono h hf a hr) hf he
  | .exit id, st, r, he => he
  | .ret, st, r, he => he
  | .rangeF g ps asg body, st, r, he => by
    unfold evC at he ⊢
    split at he
    · rename_i f first caps hg
      cases h2 : F (.fn f) (first.map .one ++ [.one (.yld (st.nx + 1))] ++ caps.map .one) ⟨upd (upd st.ob st.nx .dfr) (st.nx + 1) (.loop ⟨st.sl, ps, asg, body, .ready, none⟩), st.fz, st.nx + 2⟩ with
      | none => rw [h2] at he; cases he
      | some q => rw [h _ _ _ _ h2]; rw [h2] at he; exact he
    · cases he
theorem evF_step (E : Env) : ∀ n, CLe (evF E n) (evF E (n + 1))
  | 0 => fun c args s r h => by cases c <;> cases h
  | n + 1 => fun c args s r h => by
    have ih := evF_step E n
    have hC : ∀ (a : ACode) (st : St) (r : Ex × St), evC (evF E n) n a st = some r → evC (evF E (n + 1)) (n + 1) a st = some r := fun a st r hr => evC_mono ih (Nat.le_succ n) a hr
    cases c with
    | fn f =>
      rw [evF] at h ⊢
      cases hE : E f with
      | none => rw [hE] at h; cases h
      | some fn =>
        rw [hE] at h
        simp only at h ⊢
        cases h2 : evC (evF E n) n fn.code { sl := env (ofArgs 0 args), ob := s.ob, fz := s.fz, nx := s.nx } with
        | none => rw [h2] at h; cases h
        | some q => rw [hC _ _ _ h2]; rw [h2] at h; exact h
    | rnd l =>
      rw [evF] at h ⊢
      split at h
      · rename_i lr hl
        cases hb : (Nat.beq args.length lr.ps.length && naOk lr.asg && naOk lr.body) with
        | false => rw [hb] at h; cases h
        | true =>
          rw [hb] at h
          simp only [cond_true] at h ⊢
          cases h2 : evC (evF E n) n lr.asg { sl := setPs lr.ps args lr.sl, ob := s.ob, fz := s.fz, nx := s.nx } with
          | none => rw [h2] at h; cases h
          | some q =>
            rw [hC _ _ _ h2]
            rw [h2] at h
            obtain ⟨e, st⟩ := q
            cases e with
            | ext id => cases h
            | ret => cases h
            | nrm =>
              simp only at h ⊢
              split at h
              · rename_i r1 hr1
                split at h
                · rename_i hst
                  cases h3 : evC (evF E n) n lr.body { st with ob := upd st.ob l (.loop { r1 with st := .busy }) } with
                  | none => rw [h3] at h; cases h
                  | some q => rw [hC _ _ _ h3]; rw [h3] at h; exact h
                · cases h
              · cases h
      · cases h
theorem evF_mono (E : Env) {n m : Nat} (h : n ≤ m) : CLe (evF E n) (evF E m) := by
  induction h with
  | refl => exact fun c args s r h => h
  | step _ ih => exact fun c args s r h => evF_step E _ c args s r (ih c args s r h)
theorem evV_mono {E : Env} {n m : Nat} (h : n ≤ m) {f : FuncId} {args : List SV} {r : SV} (he : evV E n f args = some r) : evV E m f args = some r := by
  unfold evV at he ⊢
  cases h2 : evF E n (.fn f) args Sto.empty with
  | none => rw [h2] at he; cases he
  | some q => rw [evF_mono E h _ _ _ _ h2]; rw [h2] at he; exact he
end Go.Ev
namespace Go.Ev
open Go.Dig
theorem Act_call (d : Dev) (h : SmDev d) (l : List Samp) (hl : l.length < 2 ^ 20) (hs : ∀ s ∈ l, SmSamp s) : Calling Id.wear_Act [.agg d.c, .one (.sl false (l.map Samp.c))] (.tup [.one (.sl false (if mayI d l = 0 then (acts d w0 l).map actC else [])), .one (.int .i64 (mayI d l))]) :=
  (Act_ends d h l hl hs).call (can2 (CanL.dev d).agg (.one _ (.sl _)))
theorem Leg.sm (g : Leg) (h1 : g.gates.length < 2 ^ 20) (h2 : g.curves.length < 2 ^ 20) (h2' : ∀ c ∈ g.curves, c.length < 2 ^ 20) (h3 : g.limits.length < 2 ^ 20) (hg : ∀ x ∈ g.gates, x.from_ < 256 ∧ x.to < 256) : SmDev g.d := by
  refine ⟨fun x hx => ?_, fun c hc p hp => ?_, fun p hp => ?_, Num.qS _, by unfold Leg.d; simpa using h1, by unfold Leg.d; simpa using h2, fun c hc => ?_, by unfold Leg.d; simpa using h3⟩
  · obtain ⟨y, hy, rfl⟩ := List.mem_map.1 hx
    exact ⟨⟨Beat.sm _, Beat.sm _⟩, (hg y hy).1, (hg y hy).2⟩
  · obtain ⟨y, hy, rfl⟩ := List.mem_map.1 hc
    obtain ⟨z, hz, rfl⟩ := List.mem_map.1 hp
    exact ⟨Num.qS _, Num.qS _⟩
  · obtain ⟨z, hz, rfl⟩ := List.mem_map.1 hp
    exact ⟨Num.qS _, Num.qS _⟩
  · obtain ⟨y, hy, rfl⟩ := List.mem_map.1 hc
    simpa using h2' y hy
theorem stepW_sm {d : Dev} (hd : OkDev d) {w : WSt} {s : Samp} {S : Nat} (hS : SmQ S w.m) (hS1 : 2571 ≤ S) (hph : w.ph < 5) (hs : SmSamp s) : SmQ (S + 257) (stepW d w s).m := by
  have hph' : (seeW d.guards w.ph w.cnt s).1 < 5 := seeW_ph _ _ _ _ 5 hph hd.to
  have gc : d.curves[(seeW d.guards w.ph w.cnt s).1]? = some (curveAt d (seeW d.guards w.ph w.cnt s).1) := by
    unfold curveAt; rw [List.getElem?_eq_getElem (by rw [hd.c5]; exact hph')]; rfl
  have gl : d.limits[(seeW d.guards w.ph w.cnt s).1]? = some (ptAt d.limits (seeW d.guards w.ph w.cnt s).1) := by
    unfold ptAt; rw [List.getElem?_eq_getElem (by rw [hd.l5]; exact hph')]; rfl
  have hcm := List.mem_of_getElem? gc
  have sP := hd.sm.ls _ (List.mem_of_getElem? gl)
  obtain ⟨i1, i2⟩ := hd.cr _ hcm
  have sat := (at_ends _ s.angle (hd.sm.cll _ hcm) i2 i1 (hd.sm.cs _ hcm) hs.angle).2
  have sr1 := SmQ.clamp (SmQ.mono sat (show 2571 ≤ S + 256 + 1 by omega)) (SmQ.sub hS sP.z) (SmQ.add hS sP.z)
  have sr2 := SmQ.clamp sr1 (SmQ.mono (SmQ.neg sP.x) (show 256 ≤ S + 256 + 1 by omega)) (SmQ.mono sP.x (show 256 ≤ S + 256 + 1 by omega))
  unfold stepW
  cases stopW d w s
  · exact sr2
  · exact SmQ.mono SmQ.zero (by omega)
theorem stepW_ph {d : Dev} (hd : OkDev d) {w : WSt} {s : Samp} (hph : w.ph < 5) : (stepW d w s).ph < 5 := seeW_ph _ _ _ _ 5 hph hd.to
theorem acts_sm {d : Dev} (hd : OkDev d) : ∀ (l : List Samp) (w : WSt) (S : Nat), SmQ S w.m → 2571 ≤ S → w.ph < 5 → (∀ s ∈ l, SmSamp s) → ∀ a ∈ acts d w l, SmQ (S + 257 * l.length) a.2 ∧ a.1 < 5
  | [], w, S, hS, hS1, hph, hs, a, ha => by unfold acts at ha; cases ha
  | s :: r, w, S, hS, hS1, hph, hs, a, ha => by
    have h1 := stepW_sm hd hS hS1 hph (hs s (by simp))
    have h2 := stepW_ph hd (s := s) hph
    unfold acts at ha
    rcases List.mem_cons.1 ha with rfl | ha
    · exact ⟨SmQ.mono h1 (by rw [List.length_cons]; omega), h2⟩
    · have := acts_sm hd r (stepW d w s) (S + 257) h1 (by omega) h2 (fun t ht => hs t (by simp [ht])) a ha
      exact ⟨SmQ.mono this.1 (by rw [List.length_cons]; omega), this.2⟩
theorem acts_sm0 {d : Dev} (hd : OkDev d) (l : List Samp) (hs : ∀ s ∈ l, SmSamp s) : ∀ a ∈ acts d w0 l, SmQ (2571 + 257 * l.length) a.2 ∧ a.1 < 5 :=
  acts_sm hd l w0 2571 (SmQ.mono SmQ.zero (by omega)) (Nat.le_refl _) (by decide) hs
theorem leg_cells (g : Leg) : ∃ a b c, g.step.c = [a, b, c] ∧ g.c = [.sl false (g.gates.map Gate.c), .sl false (g.curves.map fun s => [.sl false (s.map Spot.c)]), .sl false (g.limits.map Spot.c), a, b, c] := ⟨_, _, _, rfl, rfl⟩
theorem devr_cells (d : Dev) : ∃ a b c e, d.r = [.sl false (d.guards.map Guard.r), .sl false (d.curves.map fun s => [.sl false (s.map Pt.r)]), .sl false (d.limits.map Pt.r), a, b, c, e] := ⟨_, _, _, _, rfl⟩
theorem mayI_eq {d : Dev} {l : List Samp} (h : errD d = 0) (hl : l.length ≤ 1024) : mayI d l = 0 := by
  unfold mayI; rw [if_pos h, if_pos hl]
end Go.Ev
namespace Go.Ev
theorem num_lt (q : Rat) : (q.num < 0) = (q < 0) := by
  rw [eq_iff_iff]
  have h := @Rat.num_nonneg q
  rw [← Rat.not_le, ← h]; omega
theorem num_zero (q : Rat) : (q.num = 0) = (q = 0) := by
  rw [eq_iff_iff]
  constructor
  · intro h; exact Rat.num_eq_zero.1 h
  · intro h; rw [h]; rfl
theorem signI_gt (q : Rat) : (signI q.num > 0) = (0 < q) := by
  have h1 := num_lt q
  have h2 := num_zero q
  rw [eq_iff_iff] at *
  have h3 : 0 < q ↔ ¬ q < 0 ∧ ¬ q = 0 := by grind
  rw [h3, ← h1, ← h2]
  unfold signI
  (repeat split) <;> omega
theorem signI_le (q : Rat) : (signI q.num ≤ 0) = (q ≤ 0) := by
  have h := signI_gt q
  rw [eq_iff_iff] at h ⊢
  rw [← Rat.not_lt, ← h]; omega
end Go.Ev
namespace Go.Ev
open Go.Dig
def FzS (x y : SV) : Prop := ∀ (ob : Nat → Option AObj) (fz : Nat → Nat), frzS ob fz x = some (fz, y)
theorem FzS.one {x y : SV} (h : FzS x y) : ∀ (ob : Nat → Option AObj) (fz : Nat → Nat), mapFz (frzS ob) fz [x] = some (fz, [y]) := fun ob fz => by simp only [mapFz, h ob fz]
theorem FzS.two {x y x' y' : SV} (h : FzS x y) (h' : FzS x' y') : ∀ (ob : Nat → Option AObj) (fz : Nat → Nat), mapFz (frzS ob) fz [x, x'] = some (fz, [y, y']) := fun ob fz => by simp only [mapFz, h ob fz, h' ob fz]
theorem FzS.three {x y x' y' x2 y2 : SV} (h : FzS x y) (h' : FzS x' y') (h2 : FzS x2 y2) : ∀ (ob : Nat → Option AObj) (fz : Nat → Nat), mapFz (frzS ob) fz [x, x', x2] = some (fz, [y, y', y2]) := fun ob fz => by simp only [mapFz, h ob fz, h' ob fz, h2 ob fz]
theorem CanS.fzs {x : SV} (h : CanS x) : FzS x x := fun ob fz => by
  cases h with
  | one v h =>
    have e : Ev.frz ob DEPTH fz v = some (fz, v) := h.frz ob 7 fz
    simp only [frzS, e]
  | agg cs h =>
    have e : mapFz (Ev.frz ob DEPTH) fz cs = some (fz, cs) := mapFz_id cs fun x hx => (h x hx).frz ob 7 fz
    simp only [frzS, e]
theorem MQ.fzs {m : Rat} {mc : List AV} (h : MQ m mc) : FzS (.agg mc) (.agg (qC m)) := by
  rcases h with rfl | ⟨rfl, rfl⟩
  · exact (canS_q _).fzs
  · intro ob fz; rw [qC_zero]; exact frzS_q0 _ _ _
end Go.Ev
namespace Go.Ev
open Go.Dig
structure Note where
  ph : Nat
  beat : Beat
  mom : Num
structure Rcd where
  ph : Nat
  s : Samp
  m : Rat
def Note.c (x : Note) : List AV := [.int .u8 (x.ph : Int)] ++ x.beat.c ++ x.mom.c
def Rcd.c (x : Rcd) : List AV := [.int .u8 (x.ph : Int)] ++ x.s.c ++ qC x.m
def Rcd.r (x : Rcd) : List AV := [.int .u8 (x.ph : Int)] ++ x.s.r ++ rC x.m
def Note.q (x : Note) : Rcd := ⟨x.ph, x.beat.s, x.mom.q⟩
section
variable {fz : Nat → Nat}
end
end Go.Ev
namespace Go.Ev
open Go.Dig
theorem samp_cells' (s : Samp) (a1 a2 a3 a4 a5 a6 a7 a8 a9 : AV) (h1 : qC s.load = [a1, a2, a3]) (h2 : qC s.angle = [a4, a5, a6]) (h3 : qC s.speed = [a7, a8, a9]) : s.c = [a1, a2, a3, a4, a5, a6, a7, a8, a9] := by
  unfold Samp.c
  rw [h1, h2, h3]
  rfl
end Go.Ev
namespace Go.Ev
open Go.Dig
end Go.Ev
namespace Go.Ev
open Go.Dig
end Go.Ev
namespace Go.Ev
open Go.Dig
theorem frzS_rowTo {ob : Nat → Option AObj} {id ver sz z : Nat} {full : Bool} {es fs : List (List AV)} (fz : Nat → Nat) (hr : ob id = some (.row z es ver)) (hf : ∀ fz, mapFz (mapFz (Ev.frz ob 7)) fz es = some (fz, fs)) (n : Nat) (hn : n = es.length) :
    frzS ob fz (.one (.rsl id ver sz 0 n full)) = some (raise fz id n, .one (.sl false fs)) := by
  subst hn
  have hb : Nat.ble (0 + es.length) es.length = true := by simp
  have h1 : Ev.frz ob DEPTH fz (.rsl id ver sz 0 es.length full) = some (raise fz id (0 + es.length), .sl false fs) := by
    rw [show DEPTH = 7 + 1 from rfl, frz_rsl, rowAt_of hr]
    simp only [hb, cond_true, List.drop_zero, List.take_length, hf]
  rw [Nat.zero_add] at h1
  simp only [frzS, h1]
end Go.Ev
namespace Go.Ev
open Go.Dig
def powW (d : Dev) (q : WSt × Samp) : Rat := (stepW d q.1 q.2).m * q.2.speed
def wsum (d : Dev) (p : Nat) : Rat → List (WSt × Samp) → Rat
  | a, [] => a
  | a, q :: r => wsum d p (if (stepW d q.1 q.2).ph = p then a + powW d q * d.step else a) r
theorem wsum_app (d : Dev) (p : Nat) (q : WSt × Samp) : ∀ (l : List (WSt × Samp)) (a : Rat), wsum d p a (l ++ [q]) = if (stepW d q.1 q.2).ph = p then wsum d p a l + powW d q * d.step else wsum d p a l
  | [], a => rfl
  | x :: r, a => by rw [List.cons_append, wsum, wsum]; exact wsum_app d p q r _
def wkAsg : ACode := match Fn.wear_Work.code with | .seq _ (.seq _ (.seq _ (.seq _ (.seq (.seq _ (.block _ (.rangeF _ _ a _))) _)))) => a | _ => .skip
def wkLoop (L : List (Nat × SV)) : ALoop := ⟨env L, [22, 23], wkAsg, Fn.wear_Work_R0, .ready, none⟩
@[irreducible] def WKB : Nat := 2 ^ 19 + 514
def WkRow (d : Dev) (out : List (WSt × Samp)) (es : List (List AV)) : Prop :=
  es.length = 5 ∧ ∀ p, p < 5 → ∃ mc, es[p]? = some mc ∧ MQ (wsum d p 0 out) mc ∧ SmQ ((out.length + 1) * WKB) (wsum d p 0 out)
def WkAcc (d : Dev) (L : List (Nat × SV)) (ob : Nat → Option AObj) (nx : Nat) (out : List (WSt × Samp)) : Prop :=
  ob 13 = some (.loop (wkLoop L)) ∧ ob 4 = some (.box [.rsl 3 0 3 0 5 false]) ∧ ob 0 = some (.box d.c) ∧ ob 7 = some (.box [.fn Id.wear_Work_1 [] [.box 4 0, .box 0 0]]) ∧ out.length ≤ 1024 ∧ ∃ es, ob 3 = some (.row 3 es 0) ∧ WkRow d out es
def WkOwn (id : Nat) : Prop := id = 13 ∨ id = 4 ∨ id = 0 ∨ id = 7 ∨ id = 3
theorem MQ.frz {m : Rat} {mc : List AV} (h : MQ m mc) (ob : Nat → Option AObj) (k : Nat) (fz : Nat → Nat) : mapFz (Ev.frz ob (k + 1)) fz mc = some (fz, qC m) := by
  rcases h with rfl | ⟨rfl, rfl⟩
  · exact mapFz_id _ fun x hx => (CanL.q m x hx).frz ob k fz
  · rw [qC_zero]; rfl
set_option maxRecDepth 100000 in
theorem work1_ref {n nx ph : Nat} {ob : Nat → Option AObj} (d : Dev) (hph : ph < 5) (pw r1 r2 : Rat) (es : List (List AV)) (hes : es.length = 5) (mc : List AV) (m : Rat) (hm : MQ m mc) (gm : es[ph]? = some mc) (hnx : 20 ≤ nx) (o4 : ob 4 = some (.box [.rsl 3 0 3 0 5 false])) (o0 : ob 0 = some (.box d.c)) (o3 : ob 3 = some (.row 3 es 0))
    (k1 : ∀ (ob : Nat → Option AObj) (fz : Nat → Nat), callV (evF E n) Id.exact_Q_Mul [.agg (qC pw), .agg (qC d.step)] ob fz = some (.fzd fz (.agg (qC r1))))
    (k2 : ∀ (ob : Nat → Option AObj) (fz : Nat → Nat), callV (evF E n) Id.exact_Q_Add [.agg mc, .agg (qC r1)] ob fz = some (.fzd fz (.agg (qC r2)))) :
    ∃ ob' nx', evF E (n + 1) (.fn Id.wear_Work_1) [.one (.int .u8 (ph : Int)), .agg (qC pw), .one (.box 4 0), .one (.box 0 0)] ⟨ob, fz0, nx⟩ = some (.tup [], ⟨ob', fz0, nx'⟩) ∧ nx ≤ nx' ∧ ob' 3 = some (.row 3 (es.set ph (qC r2)) 0) ∧ ∀ id, id < nx → id ≠ 3 → ob' id = ob id := by
  rw [evF_succ E_wear_Work_1]
  obtain ⟨m1, m2, m3, hmc⟩ := hm.cells
  obtain ⟨a1, a2, a3, ea, -, -, -⟩ := qC_cells pw
  obtain ⟨b1, b2, b3, hst, hdc⟩ := dev_cells d
  obtain ⟨c1, c2, c3, ec, -, -, -⟩ := qC_cells r1
  obtain ⟨e1, e2, e3, ee, -, -, -⟩ := qC_cells r2
  rw [ea, hst, ec] at k1
  rw [hmc, ec, ee] at k2
  rw [hmc] at gm
  rw [hdc] at o0
  rw [ea, ee]
  have n4 : (4 = nx) = False := by simp only [eq_iff_iff, iff_false]; omega
  have n0 : (0 = nx) = False := by simp only [eq_iff_iff, iff_false]; omega
  have n3 : (3 = nx) = False := by simp only [eq_iff_iff, iff_false]; omega
  have n0' : (nx = 0) = False := by simp only [eq_iff_iff, iff_false]; omega
  have l4 : ∀ k, (4 < nx + k) = True := fun k => by simp only [eq_iff_iff, iff_true]; omega
  have l0 : ∀ k, (0 < nx + k) = True := fun k => by simp only [eq_iff_iff, iff_true]; omega
  have l3 : ∀ k, (3 < nx + k) = True := fun k => by simp only [eq_iff_iff, iff_true]; omega
  have ln : (nx < nx + 1) = True := by simp
  have h5 : (ph < 5) = True := by simp [hph]
  have r3 : rowAt ob 3 0 = some (3, es) := rowAt_of o3
  have ra : ∀ y ob ver, rowAt (upd ob nx y) 3 ver = rowAt ob 3 ver := fun y ob ver => rowAt_ne (by omega)
  have fB : fz0 3 = 0 := rfl
  refine ⟨Ev.shut ob (upd (upd ob nx (.box [a1, a2, a3])) 3 (.row 3 (es.set ph [e1, e2, e3]) 0)), nx + 1, ?_, by omega, shut_rowk (upd_same _ _ _), fun id h1 h2 => shut_eq (by rw [upd_ne h2, upd_ne (by omega)])⟩
  simp only [go_sem, Fn.wear_Work_1, o4, o0, n4, n0, n3, n0', l4, l0, l3, ln, h5, r3, ra, gm, k1, k2, fB]
theorem Mul_all (S T : Nat) (hS : S + T < 2 ^ 36) : ∃ N, ∀ (a b : Rat), SmQ S a → SmQ T b → ∀ n, N ≤ n → evV E n Id.exact_Q_Mul [.agg (qC a), .agg (qC b)] = some (.agg (qC (a * b))) :=
  ⟨K (S + T) + 3, fun a b ha hb n hn => by obtain ⟨m, rfl⟩ : ∃ m, n = m + 1 := ⟨n - 1, by omega⟩; exact Mul_run a b ha hb hS (by omega)⟩
theorem Add_all (S T : Nat) (hS : S + T < 2 ^ 36) : ∃ N, ∀ (a b : Rat), SmQ S a → SmQ T b → ∀ n, N ≤ n → evV E n Id.exact_Q_Add [.agg (qC a), .agg (qC b)] = some (.agg (qC (a + b))) :=
  ⟨K (S + T + 1) + 3, fun a b ha hb n hn => by obtain ⟨m, rfl⟩ : ∃ m, n = m + 1 := ⟨n - 1, by omega⟩; exact Add_run a b ha hb hS (by omega)⟩
theorem callV_fz {n : Nat} {f : FuncId} {xs ys : List SV} {r : SV} (h : evV E n f ys = some r) (hx : ∀ (ob : Nat → Option AObj) (fz : Nat → Nat), mapFz (frzS ob) fz xs = some (fz, ys)) (ob : Nat → Option AObj) (fz : Nat → Nat) : callV (evF E n) f xs ob fz = some (.fzd fz r) := by
  rw [callV_ev, hx]
  simp only [h, Option.map_some]
set_option maxRecDepth 100000 in
theorem wrnd_ref {n nx : Nat} {ob : Nat → Option AObj} {L : List (Nat × SV)} (d : Dev) (w : WSt) (s : Samp) (out : List (WSt × Samp)) (hL8 : env L 8 = .one (.box 7 0)) (h : WkAcc d L ob nx out) (hnx : 20 ≤ nx) (hph : (stepW d w s).ph < 5) (r1 : Rat)
    (k0 : ∀ (ob : Nat → Option AObj) (fz : Nat → Nat), callV (evF E (n + 1)) Id.exact_Q_Mul [.agg (rawM d w s), .agg (qC s.speed)] ob fz = some (.fzd fz (.agg (qC (powW d (w, s))))))
    (k1 : ∀ (ob : Nat → Option AObj) (fz : Nat → Nat), callV (evF E n) Id.exact_Q_Mul [.agg (qC (powW d (w, s))), .agg (qC d.step)] ob fz = some (.fzd fz (.agg (qC r1))))
    (es : List (List AV)) (hes : es.length = 5) (o3 : ob 3 = some (.row 3 es 0)) (mc : List AV) (m r2 : Rat) (hm : MQ m mc) (gm : es[(stepW d w s).ph]? = some mc)
    (k2 : ∀ (ob : Nat → Option AObj) (fz : Nat → Nat), callV (evF E n) Id.exact_Q_Add [.agg mc, .agg (qC r1)] ob fz = some (.fzd fz (.agg (qC r2)))) :
    ∃ ob' nx', evF E (n + 1 + 1) (.rnd 13) [.agg s.c, .agg (rawA d w s)] ⟨ob, fz0, nx⟩ = some (.one (.bool true), ⟨ob', fz0, nx'⟩) ∧ nx ≤ nx' ∧ ob' 13 = some (.loop (wkLoop L)) ∧ ob' 3 = some (.row 3 (es.set (stepW d w s).ph (qC r2)) 0) ∧ ∀ id, id < nx → id ≠ 13 → id ≠ 3 → ob' id = ob id := by
  obtain ⟨o13, o4, o0, o7, -, -⟩ := h
  obtain ⟨q1, q2, q3, hq⟩ := (rawM_mq d w s).cells
  have e : rawA d w s = [.int .u8 ((stepW d w s).ph : Int), q1, q2, q3] := by unfold rawA; rw [hq]
  obtain ⟨s0, s1, s2, es2, -, -, -⟩ := qC_cells s.load
  obtain ⟨s3, s4, s5, es5, -, -, -⟩ := qC_cells s.angle
  obtain ⟨s6, s7, s8, es8, -, -, -⟩ := qC_cells s.speed
  have es' := samp_cells' s _ _ _ _ _ _ _ _ _ es2 es5 es8
  rw [e, es']
  rw [hq, es8] at k0
  generalize (stepW d w s).ph = ph at *
  have hL8' : ∀ (a b : SV), env ((23, a) :: (22, b) :: L) 8 = .one (.box 7 0) := fun a b => by rw [← hL8]; rfl
  have nxa : ∀ a b : Nat, nx + a + b = nx + (a + b) := fun a b => Nat.add_assoc nx a b
  have m7 : ∀ k, (7 = nx + k) = False := fun k => by simp only [eq_iff_iff, iff_false]; omega
  have m7' : (7 = nx) = False := by simp only [eq_iff_iff, iff_false]; omega
  have m13 : ∀ k, (nx + k = 13) = False := fun k => by simp only [eq_iff_iff, iff_false]; omega
  have m13' : (nx = 13) = False := by simp only [eq_iff_iff, iff_false]; omega
  have p7 : ∀ k, (7 < nx + k) = True := fun k => by simp only [eq_iff_iff, iff_true]; omega
  have a1 : evC (evF E (n + 1)) (n + 1) wkAsg ⟨env ((23, .agg [.int .u8 (ph : Int), q1, q2, q3]) :: (22, .agg [s0, s1, s2, s3, s4, s5, s6, s7, s8]) :: L), ob, fz0, nx⟩ = some (.nrm, ⟨env [(8, .one (.box 7 0)), (9, .one (.box nx 0)), (10, .one (.box (nx + 2) 0))], upd (upd ob nx (.box [s0, s1, s2, s3, s4, s5, s6, s7, s8])) (nx + 2) (.box [.int .u8 (ph : Int), q1, q2, q3]), fz0, nx + 4⟩) := by
    unfold wkAsg Fn.wear_Work
    simp only [go_sem, hL8, nxa]
  obtain ⟨obB, hobB⟩ : ∃ o, o = upd (upd (upd ob nx (.box [s0, s1, s2, s3, s4, s5, s6, s7, s8])) (nx + 2) (.box [.int .u8 (ph : Int), q1, q2, q3])) 13 (.loop { wkLoop L with st := .busy }) := ⟨_, rfl⟩
  have fB : ∀ id, id < nx → id ≠ 13 → obB id = ob id := fun id h1 h2 => by rw [hobB, upd_ne h2, upd_ne (by omega), upd_ne (by omega)]
  obtain ⟨ob1, nx1, g1, g2, g3, g4⟩ := work1_ref (n := n) (nx := nx + 4) (ob := obB) d hph (powW d (w, s)) r1 r2 es hes mc m hm gm (by omega) ((fB 4 (by omega) (by decide)).trans o4) ((fB 0 (by omega) (by decide)).trans o0) ((fB 3 (by omega) (by decide)).trans o3) k1 k2
  have b7 : obB 7 = some (.box [.fn Id.wear_Work_1 [] [.box 4 0, .box 0 0]]) := (fB 7 (by omega) (by decide)).trans o7
  have bn : obB nx = some (.box [s0, s1, s2, s3, s4, s5, s6, s7, s8]) := by rw [hobB, upd_ne (by omega), upd_ne (by omega)]; exact upd_same _ _ _
  have bn2 : obB (nx + 2) = some (.box [.int .u8 (ph : Int), q1, q2, q3]) := by rw [hobB, upd_ne (by omega)]; exact upd_same _ _ _
  have body : evC (evF E (n + 1)) (n + 1) Fn.wear_Work_R0 ⟨env [(8, .one (.box 7 0)), (9, .one (.box nx 0)), (10, .one (.box (nx + 2) 0))], obB, fz0, nx + 4⟩ = some (.nrm, ⟨env [], ob1, fz0, nx1⟩) := by
    have pn : ∀ k, (nx < nx + (k + 1)) = True := fun k => by simp only [eq_iff_iff, iff_true]; omega
    have pn4 : (nx < nx + 4) = True := pn 3
    simp only [go_sem, Fn.wear_Work_R0, b7, bn, bn2, p7, pn4, k0, g1, nxa]
  refine ⟨upd ob1 13 (.loop (wkLoop L)), nx1, ?_, by omega, upd_same _ _ _, by rw [upd_ne (by decide)]; exact g3, fun id h1 h2 h3 => by rw [upd_ne h2, g4 id (by omega) h3, fB id h1 h2]⟩
  have o13' : upd (upd ob nx (.box [s0, s1, s2, s3, s4, s5, s6, s7, s8])) (nx + 2) (.box [.int .u8 (ph : Int), q1, q2, q3]) 13 = some (.loop (wkLoop L)) := by rw [upd_ne (by omega), upd_ne (by omega)]; exact o13
  have b13 : ob1 13 = some (.loop { wkLoop L with st := .busy }) := by rw [g4 13 (by omega) (by decide), hobB]; exact upd_same _ _ _
  have hset : setPs (wkLoop L).ps [.agg [s0, s1, s2, s3, s4, s5, s6, s7, s8], .agg [.int .u8 (ph : Int), q1, q2, q3]] (wkLoop L).sl = env ((23, .agg [.int .u8 (ph : Int), q1, q2, q3]) :: (22, .agg [s0, s1, s2, s3, s4, s5, s6, s7, s8]) :: L) := setPs2 22 23 _ _ L
  rw [hobB] at body
  exact evF_rnd (r := wkLoop L) (r1 := wkLoop L) (r2 := { wkLoop L with st := .busy }) o13 rfl ((congrArg (fun sl => evC (evF E (n + 1)) (n + 1) wkAsg ⟨sl, ob, fz0, nx⟩) hset).trans a1) o13' rfl body b13
theorem wk_taker (d : Dev) (hst : SmQ 256 d.step) {L : List (Nat × SV)} (hL8 : env L 8 = .one (.box 7 0)) : ∃ n0, Taker d n0 20 13 (2 ^ 19) 1024 fz0 WkOwn (WkAcc d L) := by
  obtain ⟨N1, k1⟩ := Mul_all (2 ^ 19) 256 (by decide)
  obtain ⟨N2, k2⟩ := Mul_all (2 ^ 19 + 256) 256 (by decide)
  obtain ⟨N3, k3⟩ := Add_all (1024 * WKB) (2 ^ 19 + 512) (by unfold WKB; decide)
  refine ⟨N1 + N2 + N3 + 2, fun ob ob' nx nx' out h hn hf => ?_, fun n hn w s ob nx out h hb ho hs hph hm => ?_⟩
  · obtain ⟨o13, o4, o0, o7, hlen, es, o3, hr⟩ := h
    exact ⟨(hf 13 (.inl (.inl rfl))).trans o13, (hf 4 (.inl (.inr (.inl rfl)))).trans o4, (hf 0 (.inl (.inr (.inr (.inl rfl))))).trans o0, (hf 7 (.inl (.inr (.inr (.inr (.inl rfl)))))).trans o7, hlen, es, (hf 3 (.inl (.inr (.inr (.inr (.inr rfl)))))).trans o3, hr⟩
  · obtain ⟨n, rfl⟩ : ∃ m, n = m + 1 := ⟨n - 1, by omega⟩
    have h' := h
    obtain ⟨o13, o4, o0, o7, hlen, es, o3, h5, hr⟩ := h'
    obtain ⟨mc, gm, hmq, hsm⟩ := hr _ hph
    have sp : SmQ (2 ^ 19 + 256) (powW d (w, s)) := SmQ.mul hm hs.speed
    have sr : SmQ (2 ^ 19 + 256 + 256) (powW d (w, s) * d.step) := SmQ.mul sp hst
    have hWK : WKB = 2 ^ 19 + 514 := by unfold WKB; rfl
    have hle : (out.length + 1) * WKB ≤ 1024 * WKB := Nat.mul_le_mul_right _ (by omega)
    have k0' := callV_fz (k1 _ _ hm hs.speed (n + 1) (by omega)) ((rawM_mq d w s).fzs.two (canS_q s.speed).fzs)
    have k1' := callV_fz (k2 _ _ sp hst n (by omega)) ((canS_q (powW d (w, s))).fzs.two (canS_q d.step).fzs)
    have k2' := callV_fz (k3 _ _ (SmQ.mono hsm hle) sr n (by omega)) (hmq.fzs.two (canS_q (powW d (w, s) * d.step)).fzs)
    obtain ⟨ob', nx', g1, g2, g3, g4, g5⟩ := wrnd_ref (n := n) (nx := nx) (ob := ob) (L := L) d w s out hL8 h hb hph _ k0' k1' es h5 o3 mc _ _ hmq gm k2'
    refine ⟨ob', nx', g1, g2, ⟨g3, (g5 4 (by omega) (by decide) (by decide)).trans o4, (g5 0 (by omega) (by decide) (by decide)).trans o0, (g5 7 (by omega) (by decide) (by decide)).trans o7, by rw [List.length_append]; simp only [List.length_cons, List.length_nil]; omega, _, g4, by rw [List.length_set]; exact h5, fun p hp => ?_⟩, fun id h1 h2 => g5 id (by omega) (fun e => h2 (.inl e)) (fun e => h2 (.inr (.inr (.inr (.inr e)))))⟩
    have hl2 : (out ++ [(w, s)]).length + 1 = out.length + 1 + 1 := by rw [List.length_append]; rfl
    rw [hl2, wsum_app]
    by_cases hpp : (stepW d w s).ph = p
    · subst hpp
      refine ⟨qC (wsum d (stepW d w s).ph 0 out + powW d (w, s) * d.step), by rw [List.getElem?_set_self (by omega)], by rw [if_pos rfl]; exact .inl rfl, ?_⟩
      rw [if_pos rfl]
      refine SmQ.mono (SmQ.add hsm sr) ?_
      rw [Nat.succ_mul (out.length + 1), hWK]
      omega
    · obtain ⟨mc', gm', hmq', hsm'⟩ := hr p hp
      refine ⟨mc', by rw [List.getElem?_set_ne hpp]; exact gm', by rw [if_neg hpp]; exact hmq', ?_⟩
      rw [if_neg hpp]
      exact SmQ.mono hsm' (Nat.mul_le_mul_right _ (by omega))
def works (d : Dev) (l : List Samp) : List Rat := [wsum d 0 0 (stepsW d w0 l), wsum d 1 0 (stepsW d w0 l), wsum d 2 0 (stepsW d w0 l), wsum d 3 0 (stepsW d w0 l), wsum d 4 0 (stepsW d w0 l)]
theorem frz_works {d : Dev} {out : List (WSt × Samp)} {es : List (List AV)} (h : WkRow d out es) (ob : Nat → Option AObj) (k : Nat) (fz : Nat → Nat) : mapFz (mapFz (Ev.frz ob (k + 1))) fz es = some (fz, [qC (wsum d 0 0 out), qC (wsum d 1 0 out), qC (wsum d 2 0 out), qC (wsum d 3 0 out), qC (wsum d 4 0 out)]) := by
  obtain ⟨h5, h⟩ := h
  obtain ⟨a0, g0, m0, -⟩ := h 0 (by decide)
  obtain ⟨a1, g1, m1, -⟩ := h 1 (by decide)
  obtain ⟨a2, g2, m2, -⟩ := h 2 (by decide)
  obtain ⟨a3, g3, m3, -⟩ := h 3 (by decide)
  obtain ⟨a4, g4, m4, -⟩ := h 4 (by decide)
  obtain ⟨x0, x1, x2, x3, x4, rfl⟩ : ∃ x0 x1 x2 x3 x4, es = [x0, x1, x2, x3, x4] := by
    match es, h5 with
    | [x0, x1, x2, x3, x4], _ => exact ⟨x0, x1, x2, x3, x4, rfl⟩
  simp only [get_0, get_1, get_2, get_3, get_4, Option.some.injEq] at g0 g1 g2 g3 g4
  subst g0; subst g1; subst g2; subst g3; subst g4
  simp only [mapFz, m0.frz, m1.frz, m2.frz, m3.frz, m4.frz]
theorem steps_len (d : Dev) : ∀ (l : List Samp) (w : WSt), (stepsW d w l).length = l.length
  | [], w => rfl
  | s :: r, w => by unfold stepsW; rw [List.length_cons, List.length_cons, steps_len d r]
theorem mayI_len {d : Dev} {l : List Samp} (h : mayI d l = 0) : l.length ≤ 1024 := by
  unfold mayI at h
  by_cases he : errD d = 0
  · rw [if_pos he] at h
    by_cases hl : l.length ≤ 1024
    · exact hl
    · rw [if_neg hl] at h; simp at h
  · rw [if_neg he] at h; exact absurd h he
set_option maxRecDepth 100000 in
theorem Work_ends (d : Dev) (h : SmDev d) (l : List Samp) (hl : l.length < 2 ^ 20) (hs : ∀ s ∈ l, SmSamp s) : Ends Id.wear_Work [.agg d.c, .one (.sl false (l.map Samp.c))] (.tup [.one (.sl false (if mayI d l = 0 then (works d l).map qC else [])), .one (.int .i64 (mayI d l))]) := by
  obtain ⟨N1, k1⟩ := may_call d h l
  by_cases he : mayI d l = 0
  · have hd := rightD_ok h (mayI_ok he)
    have hl1 := mayI_len he
    obtain ⟨n0, T⟩ := wk_taker d h.st (L := [(7, .one (.box 4 0)), (8, .one (.box 7 0)), (21, .one (.fn Id.wear_Device_walk_1 [] [.box 9 0, .box 10 0]))]) rfl
    obtain ⟨N2, k2⟩ := walk1_ref d hd l hl hs 13 9 10 14 fz0 T (by have : 2571 + 257 * 1024 ≤ 2 ^ 19 := by decide
                                                                   omega) (by decide) hl1 (fun id h => by rcases h with rfl | rfl | rfl | rfl | rfl <;> decide) (fun h => by rcases h with h | h | h | h | h <;> exact absurd h (by decide)) (by decide) (by decide)
    refine .of (N1 + N2 + 3) fun {n} hn => ?_
    have k1 := k1 n (by omega)
    rw [if_pos he]
    rw [he] at k1 ⊢
    obtain ⟨m, rfl⟩ : ∃ m, n = m + 1 := ⟨n - 1, by omega⟩
    have k2 := k2 m (by omega)
    have k3 := walk_ref (n := m) d l
    rw [evV_succ E_wear_Work]
    obtain ⟨obB, hobB⟩ : ∃ o, o = upd (upd (upd (upd (upd (upd ob0 0 (.box d.c)) 3 (.row 3 [[.bool false, .nils, .nils], [.bool false, .nils, .nils], [.bool false, .nils, .nils], [.bool false, .nils, .nils], [.bool false, .nils, .nils]] 0)) 4 (.box [.nils])) 4 (.box [.rsl 3 0 3 0 5 false])) 7 (.box [.nilf])) 7 (.box [.fn Id.wear_Work_1 [] [.box 4 0, .box 0 0]]) := ⟨_, rfl⟩
    obtain ⟨obA, hobA⟩ : ∃ o, o = Ev.shut obB (upd (upd obB 9 (.box d.c)) 10 (.box [.sl false (l.map Samp.c)])) := ⟨_, rfl⟩
    obtain ⟨obL, hobL⟩ : ∃ o, o = upd (upd obA 12 .dfr) 13 (.loop (wkLoop [(7, .one (.box 4 0)), (8, .one (.box 7 0)), (21, .one (.fn Id.wear_Device_walk_1 [] [.box 9 0, .box 10 0]))])) := ⟨_, rfl⟩
    have a9 : obA 9 = some (.box d.c) := by rw [hobA]; exact shut_box (by rw [upd_ne (by decide)]; exact upd_same _ _ _)
    have a10 : obA 10 = some (.box [.sl false (l.map Samp.c)]) := by rw [hobA]; exact shut_box (upd_same _ _ _)
    have a4 : obA 4 = some (.box [.rsl 3 0 3 0 5 false]) := by rw [hobA]; exact shut_box (by rw [upd_ne (by decide), upd_ne (by decide), hobB, upd_ne (by decide), upd_ne (by decide)]; exact upd_same _ _ _)
    have a0 : obA 0 = some (.box d.c) := by rw [hobA]; exact shut_box (by rw [upd_ne (by decide), upd_ne (by decide), hobB, upd_ne (by decide), upd_ne (by decide), upd_ne (by decide), upd_ne (by decide), upd_ne (by decide)]; exact upd_same _ _ _)
    have a7 : obA 7 = some (.box [.fn Id.wear_Work_1 [] [.box 4 0, .box 0 0]]) := by rw [hobA]; exact shut_box (by rw [upd_ne (by decide), upd_ne (by decide), hobB]; exact upd_same _ _ _)
    have a3 : obA 3 = some (.row 3 [[.bool false, .nils, .nils], [.bool false, .nils, .nils], [.bool false, .nils, .nils], [.bool false, .nils, .nils], [.bool false, .nils, .nils]] 0) := by rw [hobA]; exact shut_rowk (by rw [upd_ne (by decide), upd_ne (by decide), hobB, upd_ne (by decide), upd_ne (by decide), upd_ne (by decide), upd_ne (by decide)]; exact upd_same _ _ _)
    have fL : ∀ id, id ≠ 12 → id ≠ 13 → obL id = obA id := fun id h1 h2 => by rw [hobL, upd_ne h2, upd_ne h1]
    obtain ⟨ob1', nx', q1, q2, q13, q4, q0, q7, -, es, q3, hrow⟩ := k2 obL ((fL 9 (by decide) (by decide)).trans a9) ((fL 10 (by decide) (by decide)).trans a10) ⟨by rw [hobL]; exact upd_same _ _ _, (fL 4 (by decide) (by decide)).trans a4, (fL 0 (by decide) (by decide)).trans a0, (fL 7 (by decide) (by decide)).trans a7, Nat.zero_le _, _, (fL 3 (by decide) (by decide)).trans a3, rfl, fun p hp => ⟨[.bool false, .nils, .nils], by match p, hp with | 0, _ => rfl | 1, _ => rfl | 2, _ => rfl | 3, _ => rfl | 4, _ => rfl, .inr ⟨rfl, rfl⟩, SmQ.mono SmQ.zero (by unfold WKB; decide)⟩⟩
    obtain ⟨ob', hob'⟩ : ∃ o, o = Ev.shut obL ob1' := ⟨_, rfl⟩
    have q13 := shut_loopk (ob0 := obL) q13
    have q4 := shut_box (ob0 := obL) q4
    have q3 := shut_rowk (ob0 := obL) q3
    rw [← hob'] at q1 q13 q4 q3
    obtain ⟨lp, hlp⟩ : ∃ lp : ALoop, lp = { wkLoop [(7, .one (.box 4 0)), (8, .one (.box 7 0)), (21, .one (.fn Id.wear_Device_walk_1 [] [.box 9 0, .box 10 0]))] with st := .exhausted } := ⟨_, rfl⟩
    have hR : evC (evF E (m + 1)) (m + 1) (.rangeF (.t 21) [22, 23] wkAsg Fn.wear_Work_R0) ⟨env [(7, .one (.box 4 0)), (8, .one (.box 7 0)), (21, .one (.fn Id.wear_Device_walk_1 [] [.box 9 0, .box 10 0]))], obA, fz0, 12⟩ = some (.nrm, ⟨env [(7, .one (.box 4 0)), (8, .one (.box 7 0)), (21, .one (.fn Id.wear_Device_walk_1 [] [.box 9 0, .box 10 0]))], upd ob' 13 (.loop lp), fz0, nx'⟩) := by
      rw [hlp]
      exact evC_rangeF (F := evF E (m + 1)) (fuel := m + 1) (g := .t 21) (ps := [22, 23]) (asg := wkAsg) (body := Fn.wear_Work_R0) (st := ⟨env [(7, .one (.box 4 0)), (8, .one (.box 7 0)), (21, .one (.fn Id.wear_Device_walk_1 [] [.box 9 0, .box 10 0]))], obA, fz0, 12⟩) (first := []) (caps := [.box 9 0, .box 10 0]) rfl (by
        show evF E (m + 1) _ _ ⟨upd (upd obA 12 .dfr) 13 _, fz0, 14⟩ = _
        have e := q1
        rw [hobL] at e
        exact e) q13 rfl
    have k3 := k3 obB fz0 9
    rw [← hobA] at k3
    have e4 : upd ob' 13 (.loop lp) 4 = some (.box [.rsl 3 0 3 0 5 false]) := by rw [upd_ne (by decide)]; exact q4
    have e3 : upd ob' 13 (.loop lp) 3 = some (.row 3 es 0) := by rw [upd_ne (by decide)]; exact q3
    have hg := fun fz => frzS_rowTo (sz := 3) (full := false) fz e3 (fun fz => frz_works hrow _ 6 fz) 5 hrow.1.symm
    unfold wkAsg Fn.wear_Work at hR
    dsimp only at hR
    generalize upd ob' 13 (.loop lp) = obE at hR hg e4
    obtain ⟨t1, t2, t3, -, hdc⟩ := dev_cells d
    rw [hobB] at k3
    rw [hdc] at k1 k3 ⊢
    have hw : (works d l).map qC = [qC (wsum d 0 0 (stepsW d w0 l)), qC (wsum d 1 0 (stepsW d w0 l)), qC (wsum d 2 0 (stepsW d w0 l)), qC (wsum d 3 0 (stepsW d w0 l)), qC (wsum d 4 0 (stepsW d w0 l))] := rfl
    rw [hw]
    simp only [upd_upd] at k3
    simp only [go_sem, Fn.wear_Work, k1, k3, bne_self_eq_false, natOf, hR, e4, hg, List.mapM_cons, List.mapM_nil, Option.bind_eq_bind, Option.bind_some, Option.pure_def, SV.av]
  · refine .of (N1 + 1) fun {n} hn => ?_
    have k1 := k1 n (by omega)
    rw [if_neg he, evV_succ E_wear_Work]
    obtain ⟨t1, t2, t3, -, hdc⟩ := dev_cells d
    rw [hdc] at k1 ⊢
    generalize mayI d l = e at *
    have e1 : (e != 0) = true := by simp [he]
    simp only [go_sem, Fn.wear_Work, k1, e1]
theorem Work_call (d : Dev) (h : SmDev d) (l : List Samp) (hl : l.length < 2 ^ 20) (hs : ∀ s ∈ l, SmSamp s) : Calling Id.wear_Work [.agg d.c, .one (.sl false (l.map Samp.c))] (.tup [.one (.sl false (if mayI d l = 0 then (works d l).map qC else [])), .one (.int .i64 (mayI d l))]) :=
  (Work_ends d h l hl hs).call (can2 (CanL.dev d).agg (.one _ (.sl _)))
end Go.Ev
namespace Go.Ev
open Go.Dig
theorem fzs_q (q : Rat) : FzS (.agg (qC q)) (.agg (qC q)) := (canS_q q).fzs
def sumQ : Rat → List Rat → Rat
  | a, [] => a
  | a, q :: r => sumQ (a + q) r
theorem sum_loop {S : Nat} : ∀ (r pre : List Rat) (a : Rat) (mc : List AV), MQ a mc → SmQ (pre.length * (S + 1) + 1) a → (∀ q ∈ r, SmQ S q) → (pre ++ r).length < 2 ^ 20 → (pre ++ r).length * (S + 1) + S < 2 ^ 36 →
    ∃ N, ∀ n, N ≤ n → ∀ (ob : Nat → Option AObj) (nx : Nat) (X : List (Nat × SV)), 2 ≤ nx → ob 1 = some (.box mc) → ∀ M, r.length < M →
      ∃ ob' nx' X' mc', loopN (evC (evF E n) n Fn.exact_Sum_L0) M ⟨env ((2, .one (.box 0 0)) :: (3, .one (.box 1 0)) :: (6, .one (.sl false ((pre ++ r).map qC))) :: (7, .one (.int .i64 ((pre ++ r).length : Int))) :: (8, .one (.int .i64 (pre.length : Int))) :: X), ob, fz0, nx⟩ =
        some (.ext 0, ⟨env ((2, .one (.box 0 0)) :: (3, .one (.box 1 0)) :: X'), ob', fz0, nx'⟩) ∧ ob' 1 = some (.box mc') ∧ MQ (sumQ a r) mc' ∧ ob' 0 = ob 0
  | [], pre, a, mc, hm, hS, hr, hlen, hb => by
    refine ⟨0, fun n hn ob nx X h2 o1 M hM => ?_⟩
    obtain ⟨M, rfl⟩ : ∃ k, M = k + 1 := ⟨M - 1, by simp at hM; omega⟩
    rw [List.append_nil]
    have hlt : (((pre.length : Nat) : Int) < ((pre.length : Nat) : Int)) = False := by simp
    refine ⟨ob, nx, [(6, .one (.sl false (pre.map qC))), (7, .one (.int .i64 (pre.length : Int))), (8, .one (.int .i64 (pre.length : Int))), (9, .one (.bool false))], mc, round_ext ?_, o1, hm, rfl⟩
    simp only [go_sem, Fn.exact_Sum_L0, hlt]
  | q :: r, pre, a, mc, hm, hS, hr, hlen, hb => by
    have sq := hr q (by simp)
    have hL : (pre ++ q :: r).length = pre.length + r.length + 1 := by simp; omega
    have hle : (pre.length + 1) * (S + 1) ≤ (pre ++ q :: r).length * (S + 1) := Nat.mul_le_mul_right _ (by omega)
    have hsm : pre.length * (S + 1) + 1 + S + 1 = (pre.length + 1) * (S + 1) + 1 := by rw [Nat.succ_mul]; omega
    obtain ⟨N1, k1⟩ := Add_all (pre.length * (S + 1) + 1) S (by rw [Nat.succ_mul] at hle; omega)
    have hnew : SmQ ((pre ++ [q]).length * (S + 1) + 1) (a + q) := by
      have h := SmQ.add hS sq
      rw [hsm] at h
      simpa using h
    obtain ⟨N2, k2⟩ := sum_loop (S := S) r (pre ++ [q]) (a + q) (qC (a + q)) (.inl rfl) hnew (fun x hx => hr x (by simp [hx])) (by simpa using hlen) (by simpa using hb)
    refine ⟨N1 + N2, fun n hn ob nx X h2 o1 M hM => ?_⟩
    obtain ⟨M, rfl⟩ : ∃ k, M = k + 1 := ⟨M - 1, by simp at hM; omega⟩
    have k1 := callV_fz (k1 a q hS sq n (by omega)) (hm.fzs.two (fzs_q q))
    have ge : ((pre ++ q :: r).map qC)[pre.length]? = some (qC q) := by rw [List.getElem?_map]; simp
    have okz : okSz 3 ((pre ++ q :: r).map qC) = true := okSz_map (f := qC) (k := 3) (fun _ => rfl) _
    have h1 : (((pre.length : Nat) : Int) < (((pre ++ q :: r).length : Nat) : Int)) = True := by simp; omega
    have wk : IntKind.i64.wrap ((pre.length + 1 : Nat) : Int) = ((pre.length + 1 : Nat) : Int) := wi64 (by omega)
    obtain ⟨m1, m2, m3, hmc⟩ := hm.cells
    obtain ⟨b1, b2, b3, eb, -, -, -⟩ := qC_cells q
    obtain ⟨c1, c2, c3, ec, -, -, -⟩ := qC_cells (a + q)
    rw [hmc] at o1 k1
    rw [eb] at ge k1
    rw [ec] at k1 k2
    have n1 : ∀ k, (1 = nx + k) = False := fun k => by simp only [eq_iff_iff, iff_false]; omega
    have n1' : ∀ k, (nx + k = 1) = False := fun k => by simp only [eq_iff_iff, iff_false]; omega
    have hst : evC (evF E n) n Fn.exact_Sum_L0 ⟨env ((2, .one (.box 0 0)) :: (3, .one (.box 1 0)) :: (6, .one (.sl false ((pre ++ q :: r).map qC))) :: (7, .one (.int .i64 ((pre ++ q :: r).length : Int))) :: (8, .one (.int .i64 (pre.length : Int))) :: X), ob, fz0, nx⟩ = some (.nrm, ⟨env [(2, .one (.box 0 0)), (3, .one (.box 1 0)), (6, .one (.sl false ((pre ++ q :: r).map qC))), (7, .one (.int .i64 ((pre ++ q :: r).length : Int))), (8, .one (.int .i64 ((pre.length + 1 : Nat) : Int)))], upd (upd ob (nx + 2) (.box [b1, b2, b3])) 1 (.box [c1, c2, c3]), fz0, nx + 4⟩) := by
      simp only [go_sem, Fn.exact_Sum_L0, h1, ge, okz, n1, n1', o1, k1, add1, wk]
    obtain ⟨ob', nx', X', mc', g1, g2, g3, g4⟩ := k2 n (by omega) (upd (upd ob (nx + 2) (.box [b1, b2, b3])) 1 (.box [c1, c2, c3])) (nx + 4) [] (by omega) (upd_same _ _ _) M (by simp only [List.length_cons] at hM; omega)
    rw [show pre ++ [q] ++ r = pre ++ q :: r by simp, show (pre ++ [q]).length = pre.length + 1 by simp] at g1
    exact ⟨ob', nx', X', mc', by rw [round_nrm hst]; exact g1, g2, g3, by rw [g4, upd_ne (by decide), upd_ne (by omega)]⟩
theorem Sum_ends {S : Nat} (l : List Rat) (hs : ∀ q ∈ l, SmQ S q) (hl : l.length < 2 ^ 20) (hb : l.length * (S + 1) + S < 2 ^ 36) : Ends Id.exact_Sum [.one (.sl false (l.map qC))] (.agg (qC (sumQ 0 l))) := by
  obtain ⟨N, h⟩ := sum_loop (S := S) l [] 0 [.bool false, .nils, .nils] (.inr ⟨rfl, rfl⟩) (SmQ.mono SmQ.zero (by simp)) hs (by simpa using hl) (by simpa using hb)
  refine .of (N + l.length + 1) fun {n} hn => ?_
  obtain ⟨ob', nx', X', mc', g1, g2, g3, g4⟩ := h n (by omega) (upd (upd ob0 0 (.box [.bool false, .nils, .nils])) 1 (.box [.bool false, .nils, .nils])) 2 [] (by decide) (upd_same _ _ _) n (by omega)
  rw [List.nil_append, show (([] : List Rat).length : Int) = 0 from rfl] at g1
  obtain ⟨c1, c2, c3, hmc⟩ := g3.cells
  have hf := g3.fzs
  rw [hmc] at g2 hf
  have g4' : ob' 0 = some (.box [.bool false, .nils, .nils]) := by rw [g4, upd_ne (by decide)]; exact upd_same _ _ _
  rw [evV_succ E_exact_Sum]
  unfold FzS at hf
  simp only [go_sem, Fn.exact_Sum, List.length_map, g1, g2, g4', hf]
theorem Sum_call {S : Nat} (l : List Rat) (hs : ∀ q ∈ l, SmQ S q) (hl : l.length < 2 ^ 20) (hb : l.length * (S + 1) + S < 2 ^ 36) : Calling Id.exact_Sum [.one (.sl false (l.map qC))] (.agg (qC (sumQ 0 l))) := (Sum_ends l hs hl hb).call (can1 (.one _ (.sl _)))
end Go.Ev
namespace Go.Ev
set_option maxRecDepth 100000 in
theorem awake_run : evV E 200 Id.amblelaw11_awake [] = some (.one (.bool true)) := by kernel_rfl
theorem awake_ends : Ends Id.amblelaw11_awake [] (.one (.bool true)) := ⟨200, fun n hn => evV_mono hn awake_run⟩
theorem awake_call : Calling Id.amblelaw11_awake [] (.one (.bool true)) := awake_ends.call fun x h => by cases h
end Go.Ev
namespace Go.Ev
open Go.Dig
theorem acts_steps (d : Dev) : ∀ (l : List Samp) (w : WSt), acts d w l = (stepsW d w l).map fun q => ((stepW d q.1 q.2).ph, (stepW d q.1 q.2).m)
  | [], w => rfl
  | s :: r, w => by unfold acts stepsW; rw [List.map_cons, acts_steps d r]
theorem steps_snd (d : Dev) : ∀ (l : List Samp) (w : WSt), (stepsW d w l).map (·.2) = l
  | [], w => rfl
  | s :: r, w => by unfold stepsW; rw [List.map_cons, steps_snd d r]
theorem step_stop (d : Dev) (w : WSt) (s : Samp) (h : (stepW d w s).ph = 4) : powW d (w, s) ≤ 0 := by
  unfold powW
  have h4 : (seeW d.guards w.ph w.cnt s).1 = 4 := h
  simp only [stepW]
  cases hs : stopW d w s with
  | true => rw [cond_true, Rat.zero_mul]; exact Rat.le_refl
  | false =>
    rw [cond_false]
    unfold stopW stopB at hs
    rw [decide_eq_true h4, Bool.true_and, decide_eq_false_iff_not] at hs
    have h1 := signI_gt (momW d w s * s.speed)
    rw [h1] at hs
    exact Rat.not_lt.1 hs
theorem wsum_stop (d : Dev) (hst : 0 < d.step) : ∀ (l : List (WSt × Samp)) (a : Rat), a ≤ 0 → (∀ q ∈ l, (stepW d q.1 q.2).ph = 4 → powW d q ≤ 0) → wsum d 4 a l ≤ 0
  | [], a, ha, h => ha
  | q :: r, a, ha, h => by
    unfold wsum
    refine wsum_stop d hst r _ ?_ fun x hx => h x (by simp [hx])
    split
    · rename_i hp
      have h1 := h q (by simp) hp
      have h2 : 0 ≤ (-powW d q) * d.step := Rat.mul_nonneg (by grind) (by grind)
      grind
    · exact ha
def wtot (d : Dev) : Rat → List (WSt × Samp) → Rat
  | a, [] => a
  | a, q :: r => wtot d (a + powW d q * d.step) r
theorem wtot_sum (d : Dev) : ∀ (l : List (WSt × Samp)) (a0 a1 a2 a3 a4 : Rat), (∀ q ∈ l, (stepW d q.1 q.2).ph < 5) → wsum d 0 a0 l + wsum d 1 a1 l + wsum d 2 a2 l + wsum d 3 a3 l + wsum d 4 a4 l = wtot d (a0 + a1 + a2 + a3 + a4) l
  | [], a0, a1, a2, a3, a4, h => rfl
  | q :: r, a0, a1, a2, a3, a4, h => by
    unfold wsum wtot
    have hq := h q (by simp)
    have ih := wtot_sum d r
    generalize (stepW d q.1 q.2).ph = p at *
    generalize powW d q * d.step = x at *
    match p, hq with
    | 0, _ => simp only [if_true, Nat.reduceEqDiff, if_false]; rw [ih _ _ _ _ _ fun x hx => h x (by simp [hx])]; congr 1; grind
    | 1, _ => simp only [if_true, Nat.reduceEqDiff, if_false]; rw [ih _ _ _ _ _ fun x hx => h x (by simp [hx])]; congr 1; grind
    | 2, _ => simp only [if_true, Nat.reduceEqDiff, if_false]; rw [ih _ _ _ _ _ fun x hx => h x (by simp [hx])]; congr 1; grind
    | 3, _ => simp only [if_true, Nat.reduceEqDiff, if_false]; rw [ih _ _ _ _ _ fun x hx => h x (by simp [hx])]; congr 1; grind
    | 4, _ => simp only [if_true, Nat.reduceEqDiff, if_false]; rw [ih _ _ _ _ _ fun x hx => h x (by simp [hx])]; congr 1; grind
theorem sum_works (d : Dev) (l : List Samp) (h : ∀ q ∈ stepsW d w0 l, (stepW d q.1 q.2).ph < 5) : sumQ 0 (works d l) = wtot d 0 (stepsW d w0 l) := by
  have h1 := wtot_sum d (stepsW d w0 l) 0 0 0 0 0 h
  unfold works sumQ
  simp only [sumQ]
  rw [show (0 : Rat) + 0 + 0 + 0 + 0 = 0 by grind] at h1
  rw [← h1]
  grind
theorem steps_ph {d : Dev} (hd : OkDev d) : ∀ (l : List Samp) (w : WSt), w.ph < 5 → ∀ q ∈ stepsW d w l, (stepW d q.1 q.2).ph < 5
  | [], w, h, q, hq => by cases hq
  | s :: r, w, h, q, hq => by
    unfold stepsW at hq
    rcases List.mem_cons.1 hq with rfl | hq
    · exact stepW_ph hd h
    · exact steps_ph hd r _ (stepW_ph hd h) q hq
def actQ (d : Dev) (q : WSt × Samp) : Nat × Rat := ((stepW d q.1 q.2).ph, (stepW d q.1 q.2).m)
set_option maxRecDepth 100000 in
theorem stops_loop (d : Dev) (hst : SmQ 256 d.step) {b5 b13 : Nat} (hne : b5 ≠ b13) (y11 : SV) : ∀ (r pre : List (WSt × Samp)) (a : Rat) (mc : List AV), MQ a mc → SmQ ((pre.length + 1) * WKB) a → (∀ q ∈ r, SmQ (2 ^ 19) (stepW d q.1 q.2).m ∧ SmSamp q.2 ∧ ((stepW d q.1 q.2).ph = 4 → powW d q ≤ 0)) → (pre ++ r).length < 1024 →
    ∃ N, ∀ n, N ≤ n → ∀ (ob : Nat → Option AObj) (nx : Nat) (X : List (Nat × SV)), b5 < nx → b13 < nx → ob b5 = some (.box d.c) → ob b13 = some (.box mc) → ∀ M, r.length < M →
      ∃ ob' nx' X' mc', loopN (evC (evF E n) n Fn.amblelaw11_WearStops_L0) M ⟨env ((5, .one (.box b5 0)) :: (7, .one (.sl false ((pre ++ r).map fun q => q.2.c))) :: (9, .one (.sl false ((pre ++ r).map fun q => actC (actQ d q)))) :: (11, y11) :: (13, .one (.box b13 0)) :: (14, .one (.int .i64 (pre.length : Int))) :: X), ob, fz0, nx⟩ =
        some (.ext 0, ⟨env ((5, .one (.box b5 0)) :: (7, .one (.sl false ((pre ++ r).map fun q => q.2.c))) :: (9, .one (.sl false ((pre ++ r).map fun q => actC (actQ d q)))) :: (11, y11) :: (13, .one (.box b13 0)) :: X'), ob', fz0, nx'⟩) ∧ nx ≤ nx' ∧ ob' b13 = some (.box mc') ∧ MQ (wtot d a r) mc' ∧ SmQ (((pre ++ r).length + 1) * WKB) (wtot d a r)
  | [], pre, a, mc, hm, hS, hr, hlen => by
    refine ⟨0, fun n hn ob nx X h1 h2 o5 o13 M hM => ?_⟩
    obtain ⟨M, rfl⟩ : ∃ k, M = k + 1 := ⟨M - 1, by simp at hM; omega⟩
    rw [List.append_nil]
    have hlt : (((pre.length : Nat) : Int) < ((pre.length : Nat) : Int)) = False := by simp
    refine ⟨ob, nx, [(14, .one (.int .i64 (pre.length : Int))), (73, .one (.bool false))], mc, round_ext ?_, Nat.le_refl _, o13, hm, hS⟩
    simp only [go_sem, Fn.amblelaw11_WearStops_L0, List.length_map, hlt]
  | q :: r, pre, a, mc, hm, hS, hr, hlen => by
    obtain ⟨sm, ss, hstop⟩ := hr q (by simp)
    have hWK : WKB = 2 ^ 19 + 514 := by unfold WKB; rfl
    have hpl : pre.length + 1 ≤ 1024 := by simp at hlen; omega
    have hle : (pre.length + 1) * WKB ≤ 1024 * WKB := Nat.mul_le_mul_right _ hpl
    have sp : SmQ (2 ^ 19 + 256) (powW d q) := SmQ.mul sm ss.speed
    have sr : SmQ (2 ^ 19 + 256 + 256) (powW d q * d.step) := SmQ.mul sp hst
    have snew : SmQ (((pre ++ [q]).length + 1) * WKB) (a + powW d q * d.step) := by
      refine SmQ.mono (SmQ.add hS sr) ?_
      rw [List.length_append, show [q].length = 1 from rfl, Nat.succ_mul (pre.length + 1), hWK]
      omega
    obtain ⟨N1, k1⟩ := Mul_all (2 ^ 19) 256 (by decide)
    obtain ⟨N2, k2⟩ := Mul_all (2 ^ 19 + 256) 256 (by decide)
    obtain ⟨N3, k3⟩ := Add_all (1024 * WKB) (2 ^ 19 + 512) (by unfold WKB; decide)
    obtain ⟨N4, k4⟩ := Sign_call (powW d q)
    obtain ⟨N5, k5⟩ := stops_loop d hst hne y11 r (pre ++ [q]) _ (qC (a + powW d q * d.step)) (.inl rfl) snew (fun x hx => hr x (by simp [hx])) (by simpa using hlen)
    refine ⟨N1 + N2 + N3 + N4 + N5, fun n hn ob nx X h1 h2 o5 o13 M hM => ?_⟩
    obtain ⟨M, rfl⟩ : ∃ k, M = k + 1 := ⟨M - 1, by simp at hM; omega⟩
    have k1 := callV_fz (k1 _ _ sm ss.speed n (by omega)) ((fzs_q _).two (fzs_q _))
    have k2 := callV_fz (k2 _ _ sp hst n (by omega)) ((fzs_q _).two (fzs_q _))
    have k3 := callV_fz (k3 _ _ (SmQ.mono hS hle) sr n (by omega)) (hm.fzs.two (fzs_q _))
    have k4 := k4 n (by omega)
    have e1 : (stepW d q.1 q.2).m * q.2.speed = powW d q := rfl
    rw [e1] at k1
    have gA : ((pre ++ q :: r).map fun q => actC (actQ d q))[pre.length]? = some (actC (actQ d q)) := by rw [List.getElem?_map]; simp
    have gS : ((pre ++ q :: r).map fun q => q.2.c)[pre.length]? = some q.2.c := by rw [List.getElem?_map]; simp
    have oA : okSz 4 ((pre ++ q :: r).map fun q => actC (actQ d q)) = true := okSz_map (f := fun q => actC (actQ d q)) (k := 4) (fun _ => rfl) _
    have oS : okSz 9 ((pre ++ q :: r).map fun q => q.2.c) = true := okSz_map (f := fun q : WSt × Samp => q.2.c) (k := 9) (fun _ => rfl) _
    have hlt : (((pre.length : Nat) : Int) < (((pre ++ q :: r).length : Nat) : Int)) = True := by simp; omega
    have wk : IntKind.i64.wrap ((pre.length + 1 : Nat) : Int) = ((pre.length + 1 : Nat) : Int) := wi64 (by omega)
    obtain ⟨m1, m2, m3, hmc⟩ := hm.cells
    obtain ⟨s0, s1, s2, es2, -, -, -⟩ := qC_cells q.2.load
    obtain ⟨s3, s4, s5, es5, -, -, -⟩ := qC_cells q.2.angle
    obtain ⟨s6, s7, s8, es8, -, -, -⟩ := qC_cells q.2.speed
    have es' := samp_cells' q.2 _ _ _ _ _ _ _ _ _ es2 es5 es8
    obtain ⟨a1, a2, a3, ea, -, -, -⟩ := qC_cells (stepW d q.1 q.2).m
    obtain ⟨b1, b2, b3, eb, -, -, -⟩ := qC_cells (powW d q)
    obtain ⟨c1, c2, c3, ec, -, -, -⟩ := qC_cells (powW d q * d.step)
    obtain ⟨f1, f2, f3, ef, -, -, -⟩ := qC_cells (a + powW d q * d.step)
    obtain ⟨t1, t2, t3, ht, hdc⟩ := dev_cells d
    have eac : actC (actQ d q) = [.int .u8 ((stepW d q.1 q.2).ph : Int), a1, a2, a3] := by unfold actC actQ; rw [ea]
    rw [eac] at gA
    rw [es'] at gS
    rw [ea, es8, eb] at k1
    rw [eb, ht, ec] at k2
    rw [hmc, ec, ef] at k3
    rw [eb] at k4
    rw [hmc] at o13
    rw [hdc] at o5
    rw [ef] at k5
    have l5 : ∀ k, (b5 < nx + k) = True := fun k => by simp only [eq_iff_iff, iff_true]; omega
    have l13 : ∀ k, (b13 < nx + k) = True := fun k => by simp only [eq_iff_iff, iff_true]; omega
    have n5 : ∀ k, (b5 = nx + k) = False := fun k => by simp only [eq_iff_iff, iff_false]; omega
    have n13 : ∀ k, (b13 = nx + k) = False := fun k => by simp only [eq_iff_iff, iff_false]; omega
    have n13' : ∀ k, (nx + k = b13) = False := fun k => by simp only [eq_iff_iff, iff_false]; omega
    have n5' : ∀ k, (nx + k = b5) = False := fun k => by simp only [eq_iff_iff, iff_false]; omega
    have q4 : ((((stepW d q.1 q.2).ph : Nat) : Int) == 4) = decide ((stepW d q.1 q.2).ph = 4) := by rw [Bool.eq_iff_iff]; simp; omega
    have hst : evC (evF E n) n Fn.amblelaw11_WearStops_L0 ⟨env ((5, .one (.box b5 0)) :: (7, .one (.sl false ((pre ++ q :: r).map fun q => q.2.c))) :: (9, .one (.sl false ((pre ++ q :: r).map fun q => actC (actQ d q)))) :: (11, y11) :: (13, .one (.box b13 0)) :: (14, .one (.int .i64 (pre.length : Int))) :: X), ob, fz0, nx⟩ = some (.nrm, ⟨env [(5, .one (.box b5 0)), (7, .one (.sl false ((pre ++ q :: r).map fun q => q.2.c))), (9, .one (.sl false ((pre ++ q :: r).map fun q => actC (actQ d q)))), (11, y11), (13, .one (.box b13 0)), (14, .one (.int .i64 ((pre.length + 1 : Nat) : Int)))], upd (upd ob (nx + 11) (.box [b1, b2, b3])) b13 (.box [f1, f2, f3]), fz0, nx + 13⟩) := by
      cases hp : decide ((stepW d q.1 q.2).ph = 4) with
      | true =>
        rw [hp] at q4
        have hs0 := hstop (of_decide_eq_true hp)
        have g0 : (signI (powW d q).num > 0) = False := by rw [signI_gt]; simp only [eq_iff_iff, iff_false]; exact Rat.not_lt.2 hs0
        simp only [go_sem, Fn.amblelaw11_WearStops_L0, List.length_map, hlt, gA, gS, oA, oS, o5, o13, l5, l13, n5, n13, n13', n5', k1, k2, k3, k4, q4, g0, add1, wk]
      | false =>
        rw [hp] at q4
        simp only [go_sem, Fn.amblelaw11_WearStops_L0, List.length_map, hlt, gA, gS, oA, oS, o5, o13, l5, l13, n5, n13, n13', n5', k1, k2, k3, k4, q4, add1, wk]
    obtain ⟨ob', nx', X', mc', g1, g2, g3, g4, g5⟩ := k5 n (by omega) (upd (upd ob (nx + 11) (.box [b1, b2, b3])) b13 (.box [f1, f2, f3])) (nx + 13) [] (by omega) (by omega) (by rw [upd_ne hne, upd_ne (by omega), o5, hdc]) (upd_same _ _ _) M (by simp only [List.length_cons] at hM; omega)
    rw [show pre ++ [q] ++ r = pre ++ q :: r by simp, show (pre ++ [q]).length = pre.length + 1 by simp] at g1
    rw [show pre ++ [q] ++ r = pre ++ q :: r by simp] at g5
    exact ⟨ob', nx', X', mc', by rw [round_nrm hst]; exact g1, by omega, g3, g4, g5⟩
theorem rightD_step {d : Dev} (hr : rightD d = true) : 0 < d.step := by
  unfold rightD at hr
  simp only [Bool.and_eq_true, Bool.not_eq_true', Bool.or_eq_false_iff, decide_eq_false_iff_not] at hr
  have h := hr.1.2.2.2
  rw [signI_le] at h
  exact Rat.not_le.1 h
theorem wsum_sm (d : Dev) (hst : SmQ 256 d.step) (p : Nat) : ∀ (l : List (WSt × Samp)) (a : Rat) (k : Nat), SmQ (k * WKB) a → (∀ q ∈ l, SmQ (2 ^ 19) (stepW d q.1 q.2).m ∧ SmSamp q.2) → SmQ ((k + l.length) * WKB) (wsum d p a l)
  | [], a, k, ha, h => ha
  | q :: r, a, k, ha, h => by
    obtain ⟨h1, h2⟩ := h q (by simp)
    unfold wsum
    have hWK : WKB = 2 ^ 19 + 514 := by unfold WKB; rfl
    have sr : SmQ (2 ^ 19 + 256 + 256) (powW d q * d.step) := SmQ.mul (SmQ.mul h1 h2.speed) hst
    have e : k + (q :: r).length = (k + 1) + r.length := by simp only [List.length_cons]; omega
    rw [e]
    refine wsum_sm d hst p r _ (k + 1) ?_ fun x hx => h x (by simp [hx])
    split
    · refine SmQ.mono (SmQ.add ha sr) ?_
      rw [Nat.succ_mul, hWK]; omega
    · exact SmQ.mono ha (Nat.mul_le_mul_right _ (by omega))
theorem Cmp_all (S : Nat) (hS : S ≤ 2 ^ 30) : ∃ N, ∀ (a b : Rat), SmQ S a → SmQ S b → ∀ n, N ≤ n → evV E n Id.exact_Q_Cmp [.agg (qC a), .agg (qC b)] = some (.one (.int .i64 (cmpQ a b))) :=
  ⟨4 * (S + S) + 101, fun a b ha hb n hn => by obtain ⟨m, rfl⟩ : ∃ m, n = m + 1 := ⟨n - 1, by omega⟩; exact Cmp_run a b ha hb (by omega) (by omega)⟩
set_option maxRecDepth 100000 in
theorem Stops_ends (g : Leg) (h1 : g.gates.length < 2 ^ 20) (h2 : g.curves.length < 2 ^ 20) (h2' : ∀ c ∈ g.curves, c.length < 2 ^ 20) (h3 : g.limits.length < 2 ^ 20) (hg : ∀ x ∈ g.gates, x.from_ < 256 ∧ x.to < 256) (l : List Beat) (hl : l.length < 2 ^ 20) :
    Ends Id.amblelaw11_WearStops [.agg g.c, .one (.sl false (l.map Beat.c))] (.one (.bool true)) := by
  have hd := Leg.sm g h1 h2 h2' h3 hg
  obtain ⟨N1, k1⟩ := Leg_call g h1 h2 h2' h3
  obtain ⟨N2, k2⟩ := small_call g h2
  obtain ⟨N3, k3⟩ := Check_call g.d hd
  obtain ⟨N4, k4⟩ := awake_call
  obtain ⟨N5, k5⟩ := beats_call l hl
  have hs : ∀ s ∈ l.map Beat.s, SmSamp s := fun s hs => by obtain ⟨b, _, rfl⟩ := List.mem_map.1 hs; exact Beat.sm b
  have hlm : (l.map Beat.s).length < 2 ^ 20 := by simpa using hl
  obtain ⟨N6, k6⟩ := Act_call g.d hd (l.map Beat.s) hlm hs
  obtain ⟨N7, k7⟩ := Work_call g.d hd (l.map Beat.s) hlm hs
  obtain ⟨a1, a2, a3, -, eg⟩ := leg_cells g
  obtain ⟨d1, d2, d3, -, ed⟩ := dev_cells g.d
  obtain ⟨r1, r2, r3, r4, er⟩ := devr_cells g.d
  rw [eg] at k1 k2 ⊢
  rw [ed] at k1 k3 k6 k7
  rw [er] at k1
  by_cases p1 : smallB g = true
  case neg =>
    rw [Bool.not_eq_true] at p1
    rw [p1] at k2
    refine .of (N1 + N2 + N3 + N4) fun {n} hn => ?_
    have k1 := k1 n (by omega)
    have k2 := k2 n (by omega)
    have k4 := k4 n (by omega)
    rw [evV_succ E_amblelaw11_WearStops]
    simp only [go_sem, Fn.amblelaw11_WearStops, k1, k2, k4]
  rw [p1] at k2
  have q60 : (((l.length : Nat) : Int) > 60) = (60 < l.length) := by rw [eq_iff_iff]; omega
  by_cases p2 : 60 < l.length
  · refine .of (N1 + N2 + N3 + N4) fun {n} hn => ?_
    have k1 := k1 n (by omega)
    have k2 := k2 n (by omega)
    have k4 := k4 n (by omega)
    rw [evV_succ E_amblelaw11_WearStops]
    simp only [go_sem, Fn.amblelaw11_WearStops, k1, k2, k4, List.length_map, q60, p2]
  by_cases p3 : errD g.d = 0
  case neg =>
    have e1 : (errD g.d != 0) = true := by simp [p3]
    refine .of (N1 + N2 + N3 + N4) fun {n} hn => ?_
    have k1 := k1 n (by omega)
    have k2 := k2 n (by omega)
    have k3 := k3 n (by omega)
    have k4 := k4 n (by omega)
    rw [evV_succ E_amblelaw11_WearStops]
    simp only [go_sem, Fn.amblelaw11_WearStops, k1, k2, k3, e1, k4, List.length_map, q60, p2]
  have m6 : mayI g.d (l.map Beat.s) = 0 := mayI_eq p3 (by simp; omega)
  have hok := rightD_ok hd (mayI_ok m6)
  have hstep := rightD_step (mayI_ok m6)
  rw [if_pos m6, m6] at k6 k7
  rw [p3] at k3
  have hsm := acts_sm0 hok (l.map Beat.s) hs
  have hph := steps_ph hok (l.map Beat.s) w0 (by decide)
  rw [acts_steps] at k6 hsm
  have hsn := steps_snd g.d (l.map Beat.s) w0
  have hlen := steps_len g.d (l.map Beat.s) w0
  have hsw := sum_works g.d (l.map Beat.s) hph
  have hstop : ∀ q ∈ stepsW g.d w0 (l.map Beat.s), (stepW g.d q.1 q.2).ph = 4 → powW g.d q ≤ 0 := fun q _ h => step_stop g.d q.1 q.2 h
  have hw4 := wsum_stop g.d hstep (stepsW g.d w0 (l.map Beat.s)) 0 Rat.le_refl hstop
  have hwk : works g.d (l.map Beat.s) = [wsum g.d 0 0 (stepsW g.d w0 (l.map Beat.s)), wsum g.d 1 0 (stepsW g.d w0 (l.map Beat.s)), wsum g.d 2 0 (stepsW g.d w0 (l.map Beat.s)), wsum g.d 3 0 (stepsW g.d w0 (l.map Beat.s)), wsum g.d 4 0 (stepsW g.d w0 (l.map Beat.s))] := rfl
  rw [hwk] at k7 hsw
  rw [List.length_map] at hlen hsm
  generalize stepsW g.d w0 (l.map Beat.s) = Q at *
  have hb60 : 2571 + 257 * l.length ≤ 2 ^ 19 := by
    have : 2571 + 257 * 60 ≤ 2 ^ 19 := by decide
    omega
  have hQ : ∀ q ∈ Q, SmQ (2 ^ 19) (stepW g.d q.1 q.2).m ∧ SmSamp q.2 := fun q hq => ⟨SmQ.mono (hsm _ (List.mem_map.2 ⟨q, hq, rfl⟩)).1 hb60, hs _ (by rw [← hsn]; exact List.mem_map.2 ⟨q, hq, rfl⟩)⟩
  have hWK : WKB = 2 ^ 19 + 514 := by unfold WKB; rfl
  have e19 : (2 : Nat) ^ 19 = 524288 := by decide
  have e20 : (2 : Nat) ^ 20 = 1048576 := by decide
  have e30 : (2 : Nat) ^ 30 = 1073741824 := by decide
  have e36 : (2 : Nat) ^ 36 = 68719476736 := by decide
  have hsum : ∀ p, SmQ (100 * WKB) (wsum g.d p 0 Q) := fun p => SmQ.mono (wsum_sm g.d hd.st p Q 0 1 (SmQ.mono SmQ.zero (by rw [hWK]; omega)) hQ) (Nat.mul_le_mul_right _ (by omega))
  obtain ⟨N8, k8⟩ := Sum_call (S := 100 * WKB) [wsum g.d 0 0 Q, wsum g.d 1 0 Q, wsum g.d 2 0 Q, wsum g.d 3 0 Q, wsum g.d 4 0 Q] (fun q hq => by
    simp only [List.mem_cons, List.not_mem_nil, or_false] at hq
    rcases hq with rfl | rfl | rfl | rfl | rfl <;> exact hsum _) (by simp only [List.length_cons, List.length_nil]; omega) (by simp only [List.length_cons, List.length_nil]; rw [hWK]; omega)
  obtain ⟨N9, k9⟩ := stops_loop g.d hd.st (b5 := 7) (b13 := 11) (by decide) (.one (.sl false ([wsum g.d 0 0 Q, wsum g.d 1 0 Q, wsum g.d 2 0 Q, wsum g.d 3 0 Q, wsum g.d 4 0 Q].map qC))) Q [] 0 [.bool false, .nils, .nils] (.inr ⟨rfl, rfl⟩) (SmQ.mono SmQ.zero (by unfold WKB; decide)) (fun q hq => ⟨(hQ q hq).1, (hQ q hq).2, hstop q hq⟩) (by rw [List.nil_append, hlen]; omega)
  obtain ⟨N10, k10⟩ := Sign_call (wsum g.d 4 0 Q)
  have g4 : (signI (wsum g.d 4 0 Q).num > 0) = False := by rw [signI_gt]; simp only [eq_iff_iff, iff_false]; exact Rat.not_lt.2 hw4
  obtain ⟨N11, k11⟩ := Cmp_all (100 * WKB) (by rw [hWK]; omega)
  refine .of (N1 + N2 + N3 + N4 + N5 + N6 + N7 + N8 + N9 + N10 + N11 + l.length + 1) fun {n} hn => ?_
  have k1 := k1 n (by omega)
  have k2 := k2 n (by omega)
  have k3 := k3 n (by omega)
  have k4 := k4 n (by omega)
  have k5 := k5 n (by omega)
  have k6 := k6 n (by omega)
  have k7 := k7 n (by omega)
  have k8 := k8 n (by omega)
  have k9 := k9 n (by omega)
  have k10 := k10 n (by omega)
  have mm : (l.map fun s => s.s.c) = (l.map Beat.s).map Samp.c := by rw [List.map_map]; rfl
  have z0 : (([] : List (WSt × Samp)).length : Int) = 0 := rfl
  rw [List.nil_append, z0] at k9
  rw [mm] at k5
  have mA : (Q.map fun q => actC (actQ g.d q)) = (Q.map fun q => ((stepW g.d q.1 q.2).ph, (stepW g.d q.1 q.2).m)).map actC := by rw [List.map_map]; rfl
  have mS : (Q.map fun q => q.2.c) = (l.map Beat.s).map Samp.c := by rw [← hsn, List.map_map]; rfl
  rw [mA, mS] at k9
  have w5 : ((([wsum g.d 0 0 Q, wsum g.d 1 0 Q, wsum g.d 2 0 Q, wsum g.d 3 0 Q, wsum g.d 4 0 Q].map qC).length : Nat) : Int) = 5 := rfl
  have e55 : ((5 : Int) != 5) = false := rfl
  have n4 : Ev.natOf 4 = some 4 := rfl
  have gW : ([wsum g.d 0 0 Q, wsum g.d 1 0 Q, wsum g.d 2 0 Q, wsum g.d 3 0 Q, wsum g.d 4 0 Q].map qC)[4]? = some (qC (wsum g.d 4 0 Q)) := rfl
  have lW : (qC (wsum g.d 4 0 Q)).length = 3 := rfl
  generalize hws : [wsum g.d 0 0 Q, wsum g.d 1 0 Q, wsum g.d 2 0 Q, wsum g.d 3 0 Q, wsum g.d 4 0 Q].map qC = WS at *
  obtain ⟨x1, x2, x3, ex, -, -, -⟩ := qC_cells (wsum g.d 4 0 Q)
  rw [ex] at gW k10
  have oW : okSz 3 WS = true := by rw [← hws]; rfl
  rw [evV_succ E_amblelaw11_WearStops]
  simp only [go_sem, Fn.amblelaw11_WearStops, k1, k2, k3, k4, k5, k6, k7, List.length_map, q60, p2, w5, e55, n4, gW, oW, k10, g4, bne_self_eq_false]
  generalize hob : upd (upd (upd (upd _ _ _) _ _) _ _) 11 _ = obx
  have o7 : obx 7 = some (.box g.d.c) := by
    rw [← hob, upd_ne (by decide), upd_ne (by decide), ed]; exact upd_same _ _ _
  have o11 : obx 11 = some (.box [.bool false, .nils, .nils]) := by rw [← hob]; exact upd_same _ _ _
  obtain ⟨ob', nx', X', mc', hf, hn2, o11', hmq, hsz⟩ := k9 obx 12 [] (by decide) (by decide) o7 o11 n (by omega)
  rw [hf]
  rw [hsw] at k8
  have hsz' : SmQ (100 * WKB) (wtot g.d 0 Q) := SmQ.mono hsz (Nat.mul_le_mul_right _ (by omega))
  have k11 := callV_fz (k11 _ _ hsz' hsz' n (by omega)) ((fzs_q (wtot g.d 0 Q)).two hmq.fzs)
  rw [cmpQ_self] at k11
  obtain ⟨u1, u2, u3, hmc⟩ := hmq.cells
  obtain ⟨v1, v2, v3, ev, -, -, -⟩ := qC_cells (wtot g.d 0 Q)
  rw [ev] at k8
  rw [ev, hmc] at k11
  rw [hmc] at o11'
  have l11 : (11 < nx') = True := by simp only [eq_iff_iff, iff_true]; omega
  have l11' : ∀ k, (11 < nx' + k) = True := fun k => by simp only [eq_iff_iff, iff_true]; omega
  have t00 : ((0 : Int) == 0) = true := rfl
  simp only [go_sem, k8, o11', k11, k4, l11, l11', t00]
end Go.Ev
