import Derived.Test.YthghhnhojdmcpaaGreatP4
import Derived.Test.YthghhnhojdmcpaaGreatP1
set_option linter.all false
namespace Go.Ev
theorem rlt_trans {a b c : Rat} (h : a < b) (k : b < c) : a < c := by grind
theorem rlt_le {a b c : Rat} (h : a < b) (k : b ≤ c) : a < c := by grind
theorem incC_step : ∀ (l : List Pt) (k : Nat), k + 1 < l.length → incC l = true → (ptAt l k).x < (ptAt l (k + 1)).x := by
  intro l k h hi
  have h1 := incC_get l k h hi
  unfold ptAt
  rw [List.getElem?_eq_getElem (by omega), List.getElem?_eq_getElem h]
  rw [cmpQ_lt] at h1
  exact h1
theorem incC_lt {l : List Pt} (hi : incC l = true) : ∀ (m i : Nat), i + 1 + m < l.length → (ptAt l i).x < (ptAt l (i + 1 + m)).x
  | 0, i, h => incC_step l i h hi
  | m + 1, i, h => rlt_trans (incC_lt hi m i (by omega)) (incC_step l (i + 1 + m) h hi)
theorem incC_lt' {l : List Pt} (hi : incC l = true) {i j : Nat} (h : i < j) (hj : j < l.length) : (ptAt l i).x < (ptAt l j).x := by
  have := incC_lt hi (j - i - 1) i (by omega)
  rw [show i + 1 + (j - i - 1) = j by omega] at this
  exact this
theorem bs_spec {l : List Pt} (hi : incC l = true) (q : Rat) : ∀ (m lo hh : Nat), hh ≤ lo + m → lo ≤ hh → hh ≤ l.length → (∀ i, i < lo → (ptAt l i).x < q) → (∀ i, hh ≤ i → i < l.length → q ≤ (ptAt l i).x) →
    (∀ i, i < bs l q m lo hh → (ptAt l i).x < q) ∧ ∀ i, bs l q m lo hh ≤ i → i < l.length → q ≤ (ptAt l i).x
  | 0, lo, hh, hm, h1, h2, h3, h4 => by
    have : lo = hh := by omega
    subst this
    exact ⟨h3, h4⟩
  | m + 1, lo, hh, hm, h1, h2, h3, h4 => by
    unfold bs
    by_cases hlt : lo < hh
    · rw [if_pos hlt]
      have hp : ((l[(lo + hh) / 2]?).getD ⟨0, 0⟩).x = (ptAt l ((lo + hh) / 2)).x := rfl
      rw [hp]
      have hcq := cmpQ_lt (ptAt l ((lo + hh) / 2)).x q
      by_cases hc : cmpQ (ptAt l ((lo + hh) / 2)).x q < 0
      · rw [if_pos hc]
        rw [hcq] at hc
        refine bs_spec hi q m _ hh (by omega) (by omega) h2 (fun i hi' => ?_) h4
        rcases Nat.lt_or_ge i ((lo + hh) / 2) with h | h
        · exact rlt_trans (incC_lt' hi h (by omega)) hc
        · have : i = (lo + hh) / 2 := by omega
          subst this; exact hc
      · rw [if_neg hc]
        rw [hcq] at hc
        refine bs_spec hi q m lo _ (by omega) (by omega) (by omega) h3 (fun i hi' hl => ?_)
        have hc' := Rat.not_lt.1 hc
        rcases Nat.lt_or_ge ((lo + hh) / 2) i with h | h
        · exact Rat.le_of_lt (by have := incC_lt' hi h hl; grind)
        · have : i = (lo + hh) / 2 := by omega
          subst this; exact hc'
    · rw [if_neg hlt]
      have : lo = hh := by omega
      subst this
      exact ⟨h3, h4⟩
theorem place_spec {l : List Pt} (hi : incC l = true) (q : Rat) : (∀ i, i < place l q → (ptAt l i).x < q) ∧ ∀ i, place l q ≤ i → i < l.length → q ≤ (ptAt l i).x :=
  bs_spec hi q l.length 0 l.length (by omega) (Nat.zero_le _) (Nat.le_refl _) (fun i h => by omega) (fun i h h' => by omega)
def AtS (l : List Pt) (q v : Rat) : Prop :=
  (q ≤ (ptAt l 0).x ∧ v = (ptAt l 0).z) ∨ ((ptAt l (l.length - 1)).x ≤ q ∧ v = (ptAt l (l.length - 1)).z) ∨
  ∃ i, i + 1 < l.length ∧ (ptAt l i).x ≤ q ∧ q ≤ (ptAt l (i + 1)).x ∧ (v - (ptAt l i).z) * ((ptAt l (i + 1)).x - (ptAt l i).x) = (q - (ptAt l i).x) * ((ptAt l (i + 1)).z - (ptAt l i).z)
theorem atQ_cases (l : List Pt) (q : Rat) : atQ l q = if place l q = l.length then (ptAt l (l.length - 1)).z else if place l q = 0 then (ptAt l 0).z else if (ptAt l (place l q)).x = q then (ptAt l (place l q)).z else
    (ptAt l (place l q - 1)).z * (1 - shareQ l q (place l q)) + (ptAt l (place l q)).z * shareQ l q (place l q) := by
  have e1 : Rat.ofInt 1 = 1 := rfl
  unfold atQ partsL
  rw [e1]
  have hcq := cmpQ_eq (ptAt l (place l q)).x q
  by_cases h1 : place l q = l.length
  · rw [if_pos h1, if_pos h1, h1]; simp only [List.foldl_cons, List.foldl_nil]; grind
  · rw [if_neg h1, if_neg h1]
    by_cases h2 : place l q = 0
    · rw [if_pos h2, if_pos h2, h2]; simp only [List.foldl_cons, List.foldl_nil]; grind
    · rw [if_neg h2, if_neg h2]
      by_cases h3 : cmpQ (ptAt l (place l q)).x q = 0
      · rw [if_pos h3, if_pos (by rw [← hcq]; exact h3)]; simp only [List.foldl_cons, List.foldl_nil]; grind
      · rw [if_neg h3, if_neg (by rw [← hcq]; exact h3)]; simp only [List.foldl_cons, List.foldl_nil]; grind
theorem at_eq {l : List Pt} (hi : incC l = true) (h1 : 1 ≤ l.length) {q v : Rat} (h : AtS l q v) : v = atQ l q := by
  obtain ⟨g1, g2⟩ := place_spec hi q
  have hle := place_le l q
  rw [atQ_cases]
  generalize place l q = k at *
  rcases h with ⟨h2, rfl⟩ | ⟨h2, rfl⟩ | ⟨i, h2, h3, h4, h5⟩
  · have hk : k = 0 := by
      rcases Nat.eq_zero_or_pos k with h | h
      · exact h
      · exact absurd (g1 0 h) (Rat.not_lt.2 h2)
    subst hk
    rw [if_neg (by omega), if_pos rfl]
  · by_cases hk : k = l.length
    · rw [if_pos hk]
    · have h3 := g2 k (Nat.le_refl _) (by omega)
      have hk' : k = l.length - 1 := by
        rcases Nat.lt_or_ge k (l.length - 1) with h | h
        · have := incC_lt' hi h (by omega)
          exact absurd (rlt_le this h2) (Rat.not_lt.2 h3)
        · omega
      rw [if_neg hk, ← hk']
      have hx : (ptAt l k).x = q := Rat.le_antisymm (by rw [hk']; exact h2) h3
      by_cases h0 : k = 0
      · rw [if_pos h0, h0]
      · rw [if_neg h0, if_pos hx]
  · have hx := incC_step l i h2 hi
    have a1 : k ≤ i + 1 := by
      rcases Nat.lt_or_ge (i + 1) k with h | h
      · exact absurd (g1 (i + 1) h) (Rat.not_lt.2 h4)
      · exact h
    have a2 : i ≤ k := by
      rcases Nat.lt_or_ge k i with h | h
      · have h6 := incC_lt' hi h (by omega)
        have h7 := g2 k (Nat.le_refl _) (by omega)
        exact absurd (rlt_le h6 h3) (Rat.not_lt.2 h7)
      · exact h
    rw [if_neg (by omega)]
    have cancel : ∀ a b c : Rat, c ≠ 0 → a * c = b * c → a = b := fun a b c hc h => by
      have : (a - b) * c = 0 := by grind
      rcases Rat.mul_eq_zero.1 this with h | h
      · grind
      · exact absurd h hc
    have hd : (ptAt l (i + 1)).x - (ptAt l i).x ≠ 0 := by grind
    rcases Nat.lt_or_ge i k with h | h
    · have hk : k = i + 1 := by omega
      subst hk
      rw [if_neg (by omega)]
      have h6 := g1 i (by omega)
      by_cases hq : (ptAt l (i + 1)).x = q
      · rw [if_pos hq]
        refine cancel _ _ _ hd ?_
        grind
      · rw [if_neg hq]
        unfold shareQ
        rw [Nat.add_sub_cancel]
        refine cancel _ _ _ hd ?_
        have hs : (q - (ptAt l i).x) / ((ptAt l (i + 1)).x - (ptAt l i).x) * ((ptAt l (i + 1)).x - (ptAt l i).x) = q - (ptAt l i).x := Rat.div_mul_cancel hd
        generalize (q - (ptAt l i).x) / ((ptAt l (i + 1)).x - (ptAt l i).x) = s at *
        grind
    · have hk : k = i := by omega
      subst hk
      have h6 := g2 k (Nat.le_refl _) (by omega)
      have hq : (ptAt l k).x = q := Rat.le_antisymm h3 h6
      have hv : v = (ptAt l k).z := by
        refine cancel _ _ _ hd ?_
        grind
      by_cases h0 : k = 0
      · rw [if_pos h0, hv, h0]
      · rw [if_neg h0, if_pos hq, hv]
theorem at_sat {l : List Pt} (hi : incC l = true) (h1 : 1 ≤ l.length) (q : Rat) : AtS l q (atQ l q) := by
  obtain ⟨g1, g2⟩ := place_spec hi q
  have hle := place_le l q
  rw [atQ_cases]
  generalize place l q = k at *
  by_cases c1 : k = l.length
  · rw [if_pos c1]
    exact .inr (.inl ⟨Rat.le_of_lt (g1 _ (by omega)), rfl⟩)
  · rw [if_neg c1]
    by_cases c2 : k = 0
    · rw [if_pos c2]
      exact .inl ⟨g2 0 (by omega) (by omega), rfl⟩
    · rw [if_neg c2]
      have h3 := g1 (k - 1) (by omega)
      have h4 := g2 k (Nat.le_refl _) (by omega)
      have hx := incC_step l (k - 1) (by omega) hi
      have e : k - 1 + 1 = k := by omega
      rw [e] at hx
      have hd : (ptAt l k).x - (ptAt l (k - 1)).x ≠ 0 := by grind
      refine .inr (.inr ⟨k - 1, by omega, Rat.le_of_lt h3, by rw [e]; exact h4, ?_⟩)
      rw [e]
      by_cases c3 : (ptAt l k).x = q
      · rw [if_pos c3]; grind
      · rw [if_neg c3]
        unfold shareQ
        have hs : (q - (ptAt l (k - 1)).x) / ((ptAt l k).x - (ptAt l (k - 1)).x) * ((ptAt l k).x - (ptAt l (k - 1)).x) = q - (ptAt l (k - 1)).x := Rat.div_mul_cancel hd
        generalize (q - (ptAt l (k - 1)).x) / ((ptAt l k).x - (ptAt l (k - 1)).x) = s at *
        grind
def mirC (l : List Pt) : List Pt := (l.map fun p => ⟨-p.x, -p.z⟩).reverse
theorem mirC_len (l : List Pt) : (mirC l).length = l.length := by unfold mirC; simp
theorem mirC_at (l : List Pt) (k : Nat) (h : k < l.length) : ptAt (mirC l) k = ⟨-(ptAt l (l.length - 1 - k)).x, -(ptAt l (l.length - 1 - k)).z⟩ := by
  unfold ptAt mirC
  rw [List.getElem?_reverse (by simpa using h), List.getElem?_map, List.length_map, List.getElem?_eq_getElem (by omega)]
  rfl
theorem incC_of : ∀ (l : List Pt), (∀ k, k + 1 < l.length → (ptAt l k).x < (ptAt l (k + 1)).x) → incC l = true
  | [], h => rfl
  | [a], h => rfl
  | a :: b :: r, h => by
    unfold incC
    have h0 := h 0 (by simp)
    have e : cmpQ a.x b.x < 0 := by rw [cmpQ_lt]; exact h0
    rw [decide_eq_true e, Bool.true_and]
    exact incC_of (b :: r) fun k hk => by
      have := h (k + 1) (by simpa using hk)
      exact this
theorem mirC_inc {l : List Pt} (hi : incC l = true) : incC (mirC l) = true := by
  refine incC_of _ fun k hk => ?_
  rw [mirC_len] at hk
  rw [mirC_at l k (by omega), mirC_at l (k + 1) hk]
  have := incC_step l (l.length - 1 - (k + 1)) (by omega) hi
  rw [show l.length - 1 - (k + 1) + 1 = l.length - 1 - k by omega] at this
  show -(ptAt l (l.length - 1 - k)).x < -(ptAt l (l.length - 1 - (k + 1))).x
  grind
theorem at_mirror {l : List Pt} (h1 : 1 ≤ l.length) {q v : Rat} (h : AtS l q v) : AtS (mirC l) (-q) (-v) := by
  have hl := mirC_len l
  rcases h with ⟨h2, rfl⟩ | ⟨h2, rfl⟩ | ⟨i, h2, h3, h4, h5⟩
  · refine .inr (.inl ?_)
    rw [hl, mirC_at l _ (by omega), show l.length - 1 - (l.length - 1) = 0 by omega]
    exact ⟨by show -(ptAt l 0).x ≤ -q; grind, rfl⟩
  · refine .inl ?_
    rw [mirC_at l 0 (by omega), Nat.sub_zero]
    exact ⟨by show -q ≤ -(ptAt l (l.length - 1)).x; grind, rfl⟩
  · refine .inr (.inr ⟨l.length - 1 - (i + 1), by omega, ?_⟩)
    rw [mirC_at l _ (by omega), mirC_at l _ (by omega), show l.length - 1 - (l.length - 1 - (i + 1)) = i + 1 by omega, show l.length - 1 - (l.length - 1 - (i + 1) + 1) = i by omega]
    refine ⟨?_, ?_, ?_⟩
    · show -(ptAt l (i + 1)).x ≤ -q; grind
    · show -q ≤ -(ptAt l i).x; grind
    · show (-v - -(ptAt l (i + 1)).z) * (-(ptAt l i).x - -(ptAt l (i + 1)).x) = (-q - -(ptAt l (i + 1)).x) * (-(ptAt l i).z - -(ptAt l (i + 1)).z)
      grind
theorem atQ_mirror {l : List Pt} (hi : incC l = true) (h1 : 1 ≤ l.length) (q : Rat) : atQ (mirC l) (-q) = -atQ l q :=
  (at_eq (mirC_inc hi) (by rw [mirC_len]; exact h1) (at_mirror h1 (at_sat hi h1 q))).symm
end Go.Ev
namespace Go.Ev
open Go.Dig
def IntKeys (es : List AEnt) : Prop := ∀ e ∈ es, ∃ z : Int, e.key = .int .i64 z
theorem keyEq_int (a b : Int) : keyEq (.int .i64 a) (.int .i64 b) = some (a == b) := rfl
theorem findE_put (z : Int) (v : SV) : ∀ (es : List AEnt), IntKeys es → ∀ i,
    (findE (.int .i64 z) es i = some none ∧ ∀ b y, findE (.int .i64 y) (es ++ [⟨.int .i64 z, v, b⟩]) i = if y = z then some (some (i + es.length, ⟨.int .i64 z, v, b⟩)) else findE (.int .i64 y) es i) ∨
    (∃ j e, findE (.int .i64 z) es i = some (some (i + j, e)) ∧ ∀ b y, findE (.int .i64 y) (es.set j ⟨.int .i64 z, v, b⟩) i = if y = z then some (some (i + j, ⟨.int .i64 z, v, b⟩)) else findE (.int .i64 y) es i)
  | [], _, i => by
    left
    refine ⟨rfl, fun b y => ?_⟩
    simp only [List.nil_append, findE, keyEq_int]
    by_cases h : y = z
    · subst h; simp
    · have h' : (y == z) = false := by simp [h]
      simp only [h', if_neg h]
  | e0 :: r, hk, i => by
    obtain ⟨a, ha⟩ := hk e0 (by simp)
    have hr : IntKeys r := fun e he => hk e (by simp [he])
    by_cases hza : z = a
    · right
      refine ⟨0, e0, ?_, fun b y => ?_⟩
      · simp only [findE, ha, keyEq_int, hza, beq_self_eq_true, Nat.add_zero]
      · simp only [List.set_cons_zero, findE, keyEq_int, ha, Nat.add_zero]
        by_cases h : y = z
        · subst h; simp
        · have h' : (y == z) = false := by simp [h]
          have h'' : (y == a) = false := by rw [← hza]; exact h'
          simp only [h', h'', if_neg h]
    · have hza' : (z == a) = false := by simp [hza]
      rcases findE_put z v r hr (i + 1) with ⟨h1, h2⟩ | ⟨j, e, h1, h2⟩
      · left
        refine ⟨by simp only [findE, ha, keyEq_int, hza', h1], fun b y => ?_⟩
        simp only [List.cons_append, findE, ha, keyEq_int, List.length_cons]
        rw [h2 b y]
        by_cases hya : y = a
        · have : (y == a) = true := by simp [hya]
          have hyz : ¬ y = z := fun e => hza (by rw [← e, hya])
          simp only [this, if_neg hyz]
        · have : (y == a) = false := by simp [hya]
          simp only [this]
          split
          · rw [show i + 1 + r.length = i + (r.length + 1) by omega]
          · rfl
      · right
        refine ⟨j + 1, e, by simp only [findE, ha, keyEq_int, hza', h1, show i + 1 + j = i + (j + 1) by omega], fun b y => ?_⟩
        simp only [List.set_cons_succ, findE, ha, keyEq_int]
        rw [h2 b y]
        by_cases hya : y = a
        · have : (y == a) = true := by simp [hya]
          have hyz : ¬ y = z := fun e => hza (by rw [← e, hya])
          simp only [this, if_neg hyz]
        · have : (y == a) = false := by simp [hya]
          simp only [this, show i + 1 + j = i + (j + 1) by omega]
theorem intKeys_app {es : List AEnt} (h : IntKeys es) (z : Int) (v : SV) (b : Nat) : IntKeys (es ++ [⟨.int .i64 z, v, b⟩]) := fun e he => by
  rcases List.mem_append.1 he with h1 | h1
  · exact h e h1
  · simp only [List.mem_cons, List.not_mem_nil, or_false] at h1
    subst h1
    exact ⟨z, rfl⟩
theorem intKeys_set {es : List AEnt} (h : IntKeys es) (j : Nat) (z : Int) (v : SV) (b : Nat) : IntKeys (es.set j ⟨.int .i64 z, v, b⟩) := fun e he => by
  rcases List.mem_or_eq_of_mem_set he with h1 | h1
  · exact h e h1
  · subst h1
    exact ⟨z, rfl⟩
def Rep (es : List AEnt) (cnt : Nat → Nat) : Prop := IntKeys es ∧ ∀ i : Nat, (findE (.int .i64 (i : Int)) es 0 = some none ∧ cnt i = 0) ∨ ∃ j e, findE (.int .i64 (i : Int)) es 0 = some (some (j, e)) ∧ e.val = .one (.int .i64 (cnt i : Int))
theorem Rep.nil : Rep [] fun _ => 0 := ⟨fun _ h => by simp at h, fun i => .inl ⟨rfl, rfl⟩⟩
def setN (c : Nat → Nat) (i v : Nat) : Nat → Nat := fun k => if k = i then v else c k
theorem put_cases {es : List AEnt} {cnt : Nat → Nat} (h : Rep es cnt) (i v : Nat) :
    (findE (.int .i64 (i : Int)) es 0 = some none ∧ cnt i = 0 ∧ ∀ b, (∃ j, findE (.int .i64 (i : Int)) (es ++ [⟨.int .i64 (i : Int), .one (.int .i64 (v : Int)), b⟩]) 0 = some (some (j, ⟨.int .i64 (i : Int), .one (.int .i64 (v : Int)), b⟩))) ∧ Rep (es ++ [⟨.int .i64 (i : Int), .one (.int .i64 (v : Int)), b⟩]) (setN cnt i v)) ∨
    (∃ j k b0, findE (.int .i64 (i : Int)) es 0 = some (some (j, ⟨k, .one (.int .i64 (cnt i : Int)), b0⟩)) ∧ ∀ b, (findE (.int .i64 (i : Int)) (es.set j ⟨.int .i64 (i : Int), .one (.int .i64 (v : Int)), b⟩) 0 = some (some (j, ⟨.int .i64 (i : Int), .one (.int .i64 (v : Int)), b⟩))) ∧ Rep (es.set j ⟨.int .i64 (i : Int), .one (.int .i64 (v : Int)), b⟩) (setN cnt i v)) := by
  rcases findE_put (i : Int) (.one (.int .i64 (v : Int))) es h.1 0 with ⟨h1, h2⟩ | ⟨j, e, h1, h2⟩
  · left
    refine ⟨h1, ?_, fun b => ⟨⟨_, by rw [h2 b (i : Int), if_pos rfl]⟩, intKeys_app h.1 _ _ _, fun k => ?_⟩⟩
    · rcases h.2 i with ⟨_, h⟩ | ⟨j, e, h, _⟩
      · exact h
      · rw [h1] at h; simp at h
    · rw [h2 b (k : Int)]
      unfold setN
      by_cases hk : k = i
      · subst hk
        rw [if_pos rfl, if_pos rfl]
        exact .inr ⟨_, _, rfl, rfl⟩
      · rw [if_neg hk, if_neg (by omega)]
        exact h.2 k
  · right
    rw [Nat.zero_add] at h1
    rcases h.2 i with ⟨h3, _⟩ | ⟨j', e', h3, h4⟩
    · rw [h1] at h3; simp at h3
    rw [h1] at h3
    simp only [Option.some.injEq, Prod.mk.injEq] at h3
    obtain ⟨rfl, rfl⟩ := h3
    obtain ⟨k0, v0, b0⟩ := e
    dsimp only at h4
    subst h4
    refine ⟨j, k0, b0, h1, fun b => ⟨by rw [h2 b (i : Int), if_pos rfl, Nat.zero_add], intKeys_set h.1 _ _ _ _, fun k => ?_⟩⟩
    rw [h2 b (k : Int)]
    unfold setN
    by_cases hk : k = i
    · subst hk
      rw [if_pos rfl, if_pos rfl]
      exact .inr ⟨_, _, rfl, rfl⟩
    · rw [if_neg hk, if_neg (by omega)]
      exact h.2 k
def seeS (ph : Nat) (s : Samp) (g : Guard) (i : Nat) (c : Nat → Nat) (f : Option Nat) : (Nat → Nat) × Option Nat :=
  if g.from_ = ph then (if hasBx g.box s = true then (setN c i (c i + 1), if g.hold ≤ ((c i + 1 : Nat) : Int) ∧ f = none then some i else f) else (setN c i 0, f)) else (c, f)
def seeL (ph : Nat) (s : Samp) : List Guard → Nat → (Nat → Nat) → Option Nat → (Nat → Nat) × Option Nat
  | [], _, c, f => (c, f)
  | g :: r, i, c, f => seeL ph s r (i + 1) (seeS ph s g i c f).1 (seeS ph s g i c f).2
def firedI : Option Nat → Int
  | none => -1
  | some k => (k : Int)
theorem fired_lt (f : Option Nat) : (firedI f < 0) = (f = none) := by
  cases f with
  | none => simp [firedI]
  | some k => simp [firedI]
section
variable {n : Nat} {fz : Nat → Nat}
theorem see_round {bw mid b3 nx i : Nat} {ob : Nat → Option AObj} {es : List AEnt} {clk ph : Nat} {cnt : Nat → Nat} {w1 w2 w3 w4 w5 w6 : AV} (l : List Guard) (g : Guard) (s : Samp) (gd : l[i]? = some g) (hil : i < l.length) (hl : l.length < 2 ^ 20) (hb : bw < nx) (hm : mid < nx) (h3 : b3 < nx) (hne : bw ≠ mid ∧ bw ≠ b3 ∧ mid ≠ b3) (ow : ob bw = some (.box [w1, w2, w3, w4, w5, w6, .int .u8 (ph : Int), .mp mid])) (om : ob mid = some (.map es clk)) (o3 : ob b3 = some (.box s.c)) (hr : Rep es cnt) (hcnt : cnt i < 2 ^ 40) (f : Option Nat)
    (hc : ∀ (ob : Nat → Option AObj) (fz : Nat → Nat), callV (evF E n) Id.wear_Box_has [.agg g.box.c, .agg s.c] ob fz = some (.fzd fz (.one (.bool (hasBx g.box s))))) (X : List (Nat × SV)) :
    ∃ (ob' : Nat → Option AObj) (es' : List AEnt) (clk' : Nat), evC (evF E n) n Fn.wear_watcher_see_L0 ⟨env ((0, .one (.box bw 0)) :: (3, .one (.box b3 0)) :: (4, .one (.int .i64 (firedI f))) :: (11, .one (.sl false (l.map Guard.c))) :: (12, .one (.int .i64 (l.length : Int))) :: (13, .one (.int .i64 (i : Int))) :: X), ob, fz, nx⟩ =
      some (.nrm, ⟨env [(0, .one (.box bw 0)), (3, .one (.box b3 0)), (4, .one (.int .i64 (firedI (seeS ph s g i cnt f).2))), (11, .one (.sl false (l.map Guard.c))), (12, .one (.int .i64 (l.length : Int))), (13, .one (.int .i64 ((i + 1 : Nat) : Int)))], ob', fz, nx + 6⟩) ∧ ob' mid = some (.map es' clk') ∧ Rep es' (seeS ph s g i cnt f).1 ∧ ∀ id, id < nx → id ≠ mid → ob' id = ob id := by
  have h1 : (((i : Nat) : Int) < ((l.length : Nat) : Int)) = True := by simp; omega
  have wk : IntKind.i64.wrap ((i + 1 : Nat) : Int) = ((i + 1 : Nat) : Int) := wi64 (by omega)
  have wc : IntKind.i64.wrap ((cnt i + 1 : Nat) : Int) = ((cnt i + 1 : Nat) : Int) := wi64 (by omega)
  have okz : okSz 21 (l.map Guard.c) = true := okSz_map (f := Guard.c) (k := 21) (fun _ => rfl) l
  have ge : (l.map Guard.c)[i]? = some g.c := by rw [List.getElem?_map, gd]; rfl
  obtain ⟨c0, c1, c2, c3, c4, c5, c6, c7, c8, c9, c10, c11, c12, c13, c14, c15, c16, c17, eb, ec⟩ := guard_cells g
  obtain ⟨s0, s1, s2, s3, s4, s5, s6, s7, s8, es', -, -, -, -, -, -, -, -, -⟩ := samp_cells s
  rw [eb, es'] at hc
  rw [ec] at ge
  rw [es'] at o3
  obtain ⟨hn1, hn2, hn3⟩ := hne
  have n1 : ∀ k, (bw = nx + k) = False := fun k => by simp only [eq_iff_iff, iff_false]; omega
  have n2 : ∀ k, (mid = nx + k) = False := fun k => by simp only [eq_iff_iff, iff_false]; omega
  have n3 : ∀ k, (b3 = nx + k) = False := fun k => by simp only [eq_iff_iff, iff_false]; omega
  have n1' : ∀ k, (nx + k = bw) = False := fun k => by simp only [eq_iff_iff, iff_false]; omega
  have n2' : ∀ k, (nx + k = mid) = False := fun k => by simp only [eq_iff_iff, iff_false]; omega
  have n3' : ∀ k, (nx + k = b3) = False := fun k => by simp only [eq_iff_iff, iff_false]; omega
  have t1 : ∀ k, (bw < nx + k) = True := fun k => by simp only [eq_iff_iff, iff_true]; omega
  have t2 : ∀ k, (mid < nx + k) = True := fun k => by simp only [eq_iff_iff, iff_true]; omega
  have t3 : ∀ k, (b3 < nx + k) = True := fun k => by simp only [eq_iff_iff, iff_true]; omega
  have e1 : (bw = mid) = False := by simp [hn1]
  have e2 : (b3 = mid) = False := by simp [Ne.symm hn3]
  have kI : ∀ z : Int, keyIs (.int .i64) (.int .i64 z) = true := fun z => rfl
  have frame : ∀ (y : AObj) (ob1 : Nat → Option AObj), (∀ id, id < nx → ob1 id = ob id) → ∀ id, id < nx → id ≠ mid → upd ob1 mid y id = ob id := fun y ob1 h id q1 q2 => by rw [upd_ne q2]; exact h id q1
  have fresh : ∀ (y z : AObj) id, id < nx → upd (upd ob (nx + 3) y) (nx + 3) z id = ob id := fun y z id q => by rw [upd_ne (by omega), upd_ne (by omega)]
  obtain ⟨r, hr0⟩ : ∃ r, evC (evF E n) n Fn.wear_watcher_see_L0 ⟨env ((0, .one (.box bw 0)) :: (3, .one (.box b3 0)) :: (4, .one (.int .i64 (firedI f))) :: (11, .one (.sl false (l.map Guard.c))) :: (12, .one (.int .i64 (l.length : Int))) :: (13, .one (.int .i64 (i : Int))) :: X), ob, fz, nx⟩ = r := ⟨_, rfl⟩
  have hr1 := hr0
  unfold seeS
  by_cases p1 : g.from_ = ph
  · have q1 : ((g.from_ : Int) != (ph : Int)) = false := by simp [p1]
    rw [if_pos p1]
    cases hh : hasBx g.box s with
    | false =>
      rw [hh] at hc
      rw [if_neg (by simp)]
      have z0 : ((0 : Nat) : Int) = 0 := rfl
      rcases put_cases hr i 0 with ⟨f1, f2, f3⟩ | ⟨j, k0, b0, f1, f3⟩
      · obtain ⟨-, hrep⟩ := f3 clk
        rw [z0] at hrep
        simp only [go_sem, Fn.wear_watcher_see_L0, h1, ge, okz, ow, om, o3, q1, hc, n1, n2, n3, n1', n2', n3', t1, t2, t3, e1, e2, kI, f1, add1, wk] at hr1
        rw [hr0, ← hr1]
        exact ⟨_, _, _, rfl, upd_same _ _ _, hrep, fun id q1 q2 => by rw [upd_ne q2, upd_ne (by omega)]⟩
      · obtain ⟨-, hrep⟩ := f3 b0
        rw [z0] at hrep
        simp only [go_sem, Fn.wear_watcher_see_L0, h1, ge, okz, ow, om, o3, q1, hc, n1, n2, n3, n1', n2', n3', t1, t2, t3, e1, e2, kI, f1, add1, wk] at hr1
        rw [hr0, ← hr1]
        exact ⟨_, _, _, rfl, upd_same _ _ _, hrep, fun id q1 q2 => by rw [upd_ne q2, upd_ne (by omega)]⟩
    | true =>
      rw [hh] at hc
      rw [if_pos rfl]
      have q3 := fired_lt f
      have q2 : (((cnt i + 1 : Nat) : Int) ≥ g.hold) = (g.hold ≤ ((cnt i + 1 : Nat) : Int)) := rfl
      generalize hcn : cnt i + 1 = cn at *
      rcases put_cases hr i cn with ⟨f1, f2, f3⟩ | ⟨j, k0, b0, f1, f3⟩
      · obtain ⟨⟨j, f4⟩, hrep⟩ := f3 clk
        have a0 : ((0 : Int) + 1) = (cn : Int) := by omega
        by_cases g1 : g.hold ≤ (cn : Int)
        · by_cases g2 : f = none
          · subst g2
            rw [if_pos ⟨g1, rfl⟩]
            simp only [go_sem, Fn.wear_watcher_see_L0, h1, ge, okz, ow, om, o3, q1, hc, n1, n2, n3, n1', n2', n3', t1, t2, t3, e1, e2, kI, f1, f4, a0, wc, q2, g1, q3, add1, wk] at hr1
            rw [hr0, ← hr1]
            exact ⟨_, _, _, rfl, upd_same _ _ _, hrep, fun id q1 q2 => by rw [upd_ne q2, upd_ne (by omega)]⟩
          · rw [if_neg (fun h => g2 h.2)]
            have g2' : (f = none) = False := by simp [g2]
            rw [g2'] at q3
            simp only [go_sem, Fn.wear_watcher_see_L0, h1, ge, okz, ow, om, o3, q1, hc, n1, n2, n3, n1', n2', n3', t1, t2, t3, e1, e2, kI, f1, f4, a0, wc, q2, g1, q3, add1, wk] at hr1
            rw [hr0, ← hr1]
            exact ⟨_, _, _, rfl, upd_same _ _ _, hrep, fun id q1 q2 => by rw [upd_ne q2, upd_ne (by omega)]⟩
        · rw [if_neg (fun h => g1 h.1)]
          simp only [go_sem, Fn.wear_watcher_see_L0, h1, ge, okz, ow, om, o3, q1, hc, n1, n2, n3, n1', n2', n3', t1, t2, t3, e1, e2, kI, f1, f4, a0, wc, q2, g1, q3, add1, wk] at hr1
          rw [hr0, ← hr1]
          exact ⟨_, _, _, rfl, upd_same _ _ _, hrep, fun id q1 q2 => by rw [upd_ne q2, upd_ne (by omega)]⟩
      · obtain ⟨f4, hrep⟩ := f3 b0
        have a0 : ((cnt i : Int) + 1) = (cn : Int) := by omega
        by_cases g1 : g.hold ≤ (cn : Int)
        · by_cases g2 : f = none
          · subst g2
            rw [if_pos ⟨g1, rfl⟩]
            simp only [go_sem, Fn.wear_watcher_see_L0, h1, ge, okz, ow, om, o3, q1, hc, n1, n2, n3, n1', n2', n3', t1, t2, t3, e1, e2, kI, f1, f4, a0, wc, q2, g1, q3, add1, wk] at hr1
            rw [hr0, ← hr1]
            exact ⟨_, _, _, rfl, upd_same _ _ _, hrep, fun id q1 q2 => by rw [upd_ne q2, upd_ne (by omega)]⟩
          · rw [if_neg (fun h => g2 h.2)]
            have g2' : (f = none) = False := by simp [g2]
            rw [g2'] at q3
            simp only [go_sem, Fn.wear_watcher_see_L0, h1, ge, okz, ow, om, o3, q1, hc, n1, n2, n3, n1', n2', n3', t1, t2, t3, e1, e2, kI, f1, f4, a0, wc, q2, g1, q3, add1, wk] at hr1
            rw [hr0, ← hr1]
            exact ⟨_, _, _, rfl, upd_same _ _ _, hrep, fun id q1 q2 => by rw [upd_ne q2, upd_ne (by omega)]⟩
        · rw [if_neg (fun h => g1 h.1)]
          simp only [go_sem, Fn.wear_watcher_see_L0, h1, ge, okz, ow, om, o3, q1, hc, n1, n2, n3, n1', n2', n3', t1, t2, t3, e1, e2, kI, f1, f4, a0, wc, q2, g1, q3, add1, wk] at hr1
          rw [hr0, ← hr1]
          exact ⟨_, _, _, rfl, upd_same _ _ _, hrep, fun id q1 q2 => by rw [upd_ne q2, upd_ne (by omega)]⟩
  · have q1 : ((g.from_ : Int) != (ph : Int)) = true := by simp only [bne_iff_ne, ne_eq]; omega
    rw [if_neg p1]
    simp only [go_sem, Fn.wear_watcher_see_L0, h1, ge, okz, ow, om, o3, q1, n1, n2, n3, n1', n2', n3', t1, t2, t3, add1, wk] at hr1
    rw [hr0, ← hr1]
    refine ⟨_, es, clk, rfl, ?_, hr, fun id q1 q2 => ?_⟩
    · rw [upd_ne (by omega)]; exact om
    · rw [upd_ne (by omega)]
end
end Go.Ev
namespace Go.Ev
open Go.Dig
theorem seeS_other (ph : Nat) (s : Samp) (g : Guard) (i : Nat) (c : Nat → Nat) (f : Option Nat) (k : Nat) (h : k ≠ i) : (seeS ph s g i c f).1 k = c k := by
  unfold seeS
  split
  · split
    · simp [setN, h]
    · simp [setN, h]
  · rfl
theorem seeS_fired (ph : Nat) (s : Samp) (g : Guard) (i : Nat) (c : Nat → Nat) (f : Option Nat) (k : Nat) (h : (seeS ph s g i c f).2 = some k) : f = some k ∨ k = i := by
  unfold seeS at h
  split at h
  · split at h
    · dsimp only at h
      split at h
      · right; simpa using h.symm
      · exact .inl h
    · exact .inl h
  · exact .inl h
theorem seeL_fired (ph : Nat) (s : Samp) : ∀ (l : List Guard) (i : Nat) (c : Nat → Nat) (f : Option Nat) (k : Nat), (seeL ph s l i c f).2 = some k → f = some k ∨ (i ≤ k ∧ k < i + l.length)
  | [], i, c, f, k, h => .inl h
  | g :: r, i, c, f, k, h => by
    unfold seeL at h
    rcases seeL_fired ph s r (i + 1) _ _ k h with h | h
    · rcases seeS_fired ph s g i c f k h with h | h
      · exact .inl h
      · right; simp only [List.length_cons]; omega
    · right; simp only [List.length_cons]; omega
def seeW (gs : List Guard) (ph : Nat) (cnt : Nat → Nat) (s : Samp) : Nat × (Nat → Nat) :=
  match (seeL ph s gs 0 cnt none).2 with
  | none => (ph, (seeL ph s gs 0 cnt none).1)
  | some k => (((gs[k]?).map Guard.to).getD 0, fun _ => 0)
section
variable {n : Nat} {fz : Nat → Nat}
theorem see_loop {bw mid b3 ph : Nat} {w1 w2 w3 w4 w5 w6 : AV} (l : List Guard) (s : Samp) (hl : l.length < 2 ^ 20) (hne : bw ≠ mid ∧ bw ≠ b3 ∧ mid ≠ b3) (hc : ∀ g ∈ l, ∀ (ob : Nat → Option AObj) (fz : Nat → Nat), callV (evF E n) Id.wear_Box_has [.agg g.box.c, .agg s.c] ob fz = some (.fzd fz (.one (.bool (hasBx g.box s))))) : ∀ (m i : Nat), i + m = l.length → ∀ (ob : Nat → Option AObj) (nx : Nat) (es : List AEnt) (clk : Nat) (cnt : Nat → Nat) (f : Option Nat) (X : List (Nat × SV)), bw < nx → mid < nx → b3 < nx → ob bw = some (.box [w1, w2, w3, w4, w5, w6, .int .u8 (ph : Int), .mp mid]) → ob mid = some (.map es clk) → ob b3 = some (.box s.c) → Rep es cnt → (∀ k, i ≤ k → cnt k < 2 ^ 40) → ∀ N, m < N →
    ∃ (ob' : Nat → Option AObj) (nx' : Nat) (es' : List AEnt) (clk' : Nat) (X' : List (Nat × SV)), loopN (evC (evF E n) n Fn.wear_watcher_see_L0) N ⟨env ((0, .one (.box bw 0)) :: (3, .one (.box b3 0)) :: (4, .one (.int .i64 (firedI f))) :: (11, .one (.sl false (l.map Guard.c))) :: (12, .one (.int .i64 (l.length : Int))) :: (13, .one (.int .i64 (i : Int))) :: X), ob, fz, nx⟩ =
      some (.ext 0, ⟨env ((0, .one (.box bw 0)) :: (3, .one (.box b3 0)) :: (4, .one (.int .i64 (firedI (seeL ph s (l.drop i) i cnt f).2))) :: X'), ob', fz, nx'⟩) ∧ nx ≤ nx' ∧ ob' mid = some (.map es' clk') ∧ Rep es' (seeL ph s (l.drop i) i cnt f).1 ∧ ∀ id, id < nx → id ≠ mid → ob' id = ob id
  | 0, i, hi, ob, nx, es, clk, cnt, f, X, h1, h2, h3, ow, om, o3, hr, hcnt, N + 1, hN => by
    have hi' : i = l.length := by omega
    subst hi'
    rw [List.drop_length]
    have hlt : (((l.length : Nat) : Int) < ((l.length : Nat) : Int)) = False := by simp
    refine ⟨ob, nx, es, clk, [(11, .one (.sl false (l.map Guard.c))), (12, .one (.int .i64 (l.length : Int))), (13, .one (.int .i64 (l.length : Int))), (14, .one (.bool false))], round_ext ?_, Nat.le_refl _, om, hr, fun _ _ _ => rfl⟩
    unfold seeL
    simp only [go_sem, Fn.wear_watcher_see_L0, hlt]
  | m + 1, i, hi, ob, nx, es, clk, cnt, f, X, h1, h2, h3, ow, om, o3, hr, hcnt, N + 1, hN => by
    have hil : i < l.length := by omega
    obtain ⟨ob1, es1, clk1, hst, p1, p2, p3⟩ := see_round (fz := fz) (ph := ph) l l[i] s (by simp) hil hl h1 h2 h3 hne ow om o3 hr (hcnt i (Nat.le_refl _)) f (hc _ (by simp)) X
    rw [List.drop_eq_getElem_cons hil]
    unfold seeL
    obtain ⟨ob', nx', es', clk', X', q1, q2, q3, q4, q5⟩ := see_loop l s hl hne hc m (i + 1) (by omega) ob1 (nx + 6) es1 clk1 _ _ [] (by omega) (by omega) (by omega) ((p3 bw h1 hne.1).trans ow) p1 ((p3 b3 h3 (Ne.symm hne.2.2)).trans o3) p2 (fun k hk => by rw [seeS_other _ _ _ _ _ _ _ (by omega)]; exact hcnt k (by omega)) N (by omega)
    exact ⟨ob', nx', es', clk', X', by rw [round_nrm hst]; exact q1, by omega, q3, q4, fun id i1 i2 => by rw [q5 id (by omega) i2, p3 id i1 i2]⟩
end
theorem shut_eq {ob0 ob : Nat → Option AObj} {k : Nat} (h : ob k = ob0 k) : shut ob0 ob k = ob0 k := by
  unfold shut
  rw [h]
  cases ob0 k with
  | none => rfl
  | some o => cases o <;> rfl
theorem shut_box {ob0 ob : Nat → Option AObj} {k : Nat} {cs : List AV} (h : ob k = some (.box cs)) : shut ob0 ob k = some (.box cs) := by
  unfold shut; rw [h]
theorem shut_map {ob0 ob : Nat → Option AObj} {k c : Nat} {es : List AEnt} (h : ob k = some (.map es c)) : shut ob0 ob k = some (.map es c) := by
  unfold shut; rw [h]
theorem shut_rowk {ob0 ob : Nat → Option AObj} {k sz v : Nat} {es : List (List AV)} (h : ob k = some (.row sz es v)) : shut ob0 ob k = some (.row sz es v) := by
  unfold shut; rw [h]
theorem shut_loopk {ob0 ob : Nat → Option AObj} {k : Nat} {l : ALoop} (h : ob k = some (.loop l)) : shut ob0 ob k = some (.loop l) := by
  unfold shut; rw [h]
def seeT : ACode := match Fn.wear_watcher_see.code with | .seq _ (.seq _ (.seq _ t)) => t | _ => .skip
theorem see_ref {n : Nat} {bw mid ph nx : Nat} {ob : Nat → Option AObj} {fz : Nat → Nat} {es : List AEnt} {clk : Nat} {cnt : Nat → Nat} {w2 w3 w4 w5 w6 : AV} (l : List Guard) (s : Samp) (hl : l.length < 2 ^ 20) (hn : l.length + 1 ≤ n) (hne : bw ≠ mid) (hc : ∀ g ∈ l, ∀ (ob : Nat → Option AObj) (fz : Nat → Nat), callV (evF E n) Id.wear_Box_has [.agg g.box.c, .agg s.c] ob fz = some (.fzd fz (.one (.bool (hasBx g.box s))))) (h1 : bw < nx) (h2 : mid < nx) (ow : ob bw = some (.box [.sl false (l.map Guard.c), w2, w3, w4, w5, w6, .int .u8 (ph : Int), .mp mid])) (om : ob mid = some (.map es clk)) (hr : Rep es cnt) (hcnt : ∀ k, cnt k < 2 ^ 40) :
    ∃ (ob' : Nat → Option AObj) (nx' : Nat) (es' : List AEnt) (clk' : Nat), evF E (n + 1) (.fn Id.wear_watcher_see) [.one (.box bw 0), .agg s.c] ⟨ob, fz, nx⟩ = some (.tup [], ⟨ob', fz, nx'⟩) ∧ nx ≤ nx' ∧ ob' bw = some (.box [.sl false (l.map Guard.c), w2, w3, w4, w5, w6, .int .u8 ((seeW l ph cnt s).1 : Int), .mp mid]) ∧ ob' mid = some (.map es' clk') ∧ Rep es' (seeW l ph cnt s).2 ∧ ∀ id, id < nx → id ≠ bw → id ≠ mid → ob' id = ob id := by
  rw [evF_succ E_wear_watcher_see]
  have fresh : ∀ id, id < nx → upd ob nx (.box s.c) id = ob id := fun id h => upd_ne (by omega)
  obtain ⟨obL, nxL, esL, clkL, XL, hlo, q2, q3, q4, q5⟩ := see_loop (n := n) (fz := fz) (bw := bw) (mid := mid) (b3 := nx) (ph := ph) l s hl ⟨hne, by omega, by omega⟩ hc l.length 0 (by omega) (upd ob nx (.box s.c)) (nx + 1) es clk cnt none [] (by omega) (by omega) (by omega) ((fresh bw h1).trans ow) ((fresh mid h2).trans om) (upd_same _ _ _) hr (fun k _ => hcnt k) n (by omega)
  rw [List.drop_zero] at q4 hlo
  have hf := seeL_fired ph s l 0 cnt none
  unfold seeW
  have owL : obL bw = _ := (q5 bw (by omega) hne).trans ((fresh bw h1).trans ow)
  have z0 : ((0 : Nat) : Int) = 0 := rfl
  rw [z0] at hlo
  rw [show firedI none = -1 from rfl] at hlo
  have okz : okSz 21 (l.map Guard.c) = true := okSz_map (f := Guard.c) (k := 21) (fun _ => rfl) l
  have e1 : ∀ k, (bw = nx + k) = False := fun k => by simp only [eq_iff_iff, iff_false]; omega
  have e2 : (bw = nx) = False := by simp only [eq_iff_iff, iff_false]; omega
  have e3 : (mid = bw) = False := by simp [Ne.symm hne]
  have key : ∀ (obx : Nat → Option AObj), obx = upd ob nx (.box s.c) → ∃ (ob' : Nat → Option AObj) (nx' : Nat) (es' : List AEnt) (clk' : Nat), finF Fn.wear_watcher_see.res ob (thenC (evF E n) n seeT (blkC 0 (loopN (evC (evF E n) n Fn.wear_watcher_see_L0) n ⟨env [(0, .one (.box bw 0)), (3, .one (.box nx 0)), (4, .one (.int .i64 (-1))), (11, .one (.sl false (l.map Guard.c))), (12, .one (.int .i64 (l.length : Int))), (13, .one (.int .i64 0))], obx, fz, nx + 1⟩))) = some (.tup [], ⟨ob', fz, nx'⟩) ∧ nx ≤ nx' ∧ ob' bw = some (.box [.sl false (l.map Guard.c), w2, w3, w4, w5, w6, .int .u8 ((match (seeL ph s l 0 cnt none).2 with | none => (ph, (seeL ph s l 0 cnt none).1) | some k => (((l[k]?).map Guard.to).getD 0, fun _ => 0)).1 : Int), .mp mid]) ∧ ob' mid = some (.map es' clk') ∧ Rep es' (match (seeL ph s l 0 cnt none).2 with | none => (ph, (seeL ph s l 0 cnt none).1) | some k => (((l[k]?).map Guard.to).getD 0, fun _ => 0)).2 ∧ ∀ id, id < nx → id ≠ bw → id ≠ mid → ob' id = ob id := by
    intro obx hx
    subst hx
    rw [hlo]
    unfold seeT Fn.wear_watcher_see
    generalize (seeL ph s l 0 cnt none).1 = cn at *
    generalize (seeL ph s l 0 cnt none).2 = fo at *
    cases fo with
    | none =>
      have g1 : ((-1 : Int) ≥ 0) = False := by simp
      refine ⟨shut ob obL, nxL, esL, clkL, ?_, by omega, shut_box owL, shut_map q3, q4, fun id i1 i2 i3 => shut_eq ((q5 id (by omega) i3).trans (fresh id i1))⟩
      rw [show firedI none = -1 from rfl]
      simp only [go_sem, g1]
    | some k =>
      have hk : k < l.length := by
        rcases hf k rfl with h | h
        · simp at h
        · omega
      have g1 : (((k : Nat) : Int) ≥ 0) = True := by simp
      have ge : (l.map Guard.c)[k]? = some l[k].c := by rw [List.getElem?_map, List.getElem?_eq_getElem hk]; rfl
      have gk : l[k]? = some l[k] := by simp
      dsimp only
      rw [gk, Option.map_some, Option.getD_some]
      generalize l[k] = g at *
      obtain ⟨c0, c1, c2, c3, c4, c5, c6, c7, c8, c9, c10, c11, c12, c13, c14, c15, c16, c17, -, ec⟩ := guard_cells g
      rw [ec] at ge
      rw [show firedI (some k) = (k : Int) from rfl]
      refine ⟨shut ob (upd (upd obL bw (.box [.sl false (l.map Guard.c), w2, w3, w4, w5, w6, .int .u8 (g.to : Int), .mp mid])) mid (.map [] clkL)), nxL, [], clkL, ?_, by omega, shut_box (by rw [upd_ne hne]; exact upd_same _ _ _), shut_map (upd_same _ _ _), Rep.nil, fun id i1 i2 i3 => shut_eq (by rw [upd_ne i3, upd_ne i2]; exact (q5 id (by omega) i3).trans (fresh id i1))⟩
      simp only [go_sem, g1, owL, ge, okz, q3, e3]
  unfold Fn.wear_watcher_see at key ⊢
  have ow' : upd ob nx (.box s.c) bw = _ := (fresh bw h1).trans ow
  obtain ⟨s0, s1, s2, s3, s4, s5, s6, s7, s8, es', -, -, -, -, -, -, -, -, -⟩ := samp_cells s
  rw [es'] at ow' key ⊢
  simp only [go_sem, ow', ow, e1, e2, List.length_map]
  exact key _ rfl
end Go.Ev
namespace Go.Ev
open Go.Dig
theorem evF_rnd {n l : Nat} {args : List SV} {ob : Nat → Option AObj} {fz : Nat → Nat} {nx : Nat} {r r1 r2 : ALoop} {st1 st2 : St} (ho : ob l = some (.loop r)) (hok : (Nat.beq args.length r.ps.length && naOk r.asg && naOk r.body) = true) (h1 : evC (evF E n) n r.asg ⟨setPs r.ps args r.sl, ob, fz, nx⟩ = some (.nrm, st1)) (ho1 : st1.ob l = some (.loop r1)) (hr : r1.st = .ready)
    (h2 : evC (evF E n) n r.body { st1 with ob := upd st1.ob l (.loop { r1 with st := .busy }) } = some (.nrm, st2)) (ho2 : st2.ob l = some (.loop r2)) :
    evF E (n + 1) (.rnd l) args ⟨ob, fz, nx⟩ = some (.one (.bool true), ⟨upd st2.ob l (.loop { r2 with st := .ready, pend := none }), st2.fz, st2.nx⟩) := by
  simp only [evF, ho, hok, cond_true, h1, ho1, hr, h2, ho2, Ex.pend]
theorem putS_env' (k : Nat) (v : SV) (L : List (Nat × SV)) : putS (env L) (some k) v = env ((k, v) :: L) := by
  funext i
  rfl
theorem setPs2 (p q : Nat) (v w : SV) (L : List (Nat × SV)) : setPs [p, q] [v, w] (env L) = env ((q, w) :: (p, v) :: L) := by
  simp only [setPs, putS_env']
def OutB (base : Nat) (ob : Nat → Option AObj) (nx : Nat) (x : AV) (es : List (List AV)) : Prop :=
  (es = [] ∧ x = .nils) ∨ ∃ id ver, x = .rsl id ver 4 0 es.length false ∧ ob id = some (.row 4 es ver) ∧ id < nx ∧ base ≤ id
theorem OutB.frame {base nx nx' : Nat} {ob ob' : Nat → Option AObj} {x : AV} {es : List (List AV)} (h : OutB base ob nx x es) (hnx : nx ≤ nx') (hf : ∀ id, base ≤ id → id < nx → ob' id = ob id) : OutB base ob' nx' x es := by
  rcases h with h | ⟨id, ver, h1, h2, h3, h4⟩
  · exact .inl h
  · exact .inr ⟨id, ver, h1, by rw [hf id h4 h3]; exact h2, by omega, h4⟩
def actAsg : ACode := .reg false [⟨some 9, .alloc [(.int .u8 0), (.bool false), .nils, .nils], none, .no⟩, ⟨none, .store 4 (.t 9) (.t 20), none, .no⟩] 2 [7, 9]
def actLoop (L : List (Nat × SV)) : ALoop := ⟨env L, [19, 20], actAsg, Fn.wear_Act_R0, .ready, none⟩
theorem rnd_ref {n lid bo base nx : Nat} {ob : Nat → Option AObj} {fz : Nat → Nat} {x : AV} {es : List (List AV)} {L : List (Nat × SV)} {c0 m1 m2 m3 : AV} (v19 : SV) (hL : env L 7 = .one (.box bo 0)) (ho : ob lid = some (.loop (actLoop L))) (hb : ob bo = some (.box [x])) (hx : OutB base ob nx x es) (h1 : lid < base) (h2 : bo < base) (h3 : base ≤ nx) (hne : lid ≠ bo) (hes : es.length < 2 ^ 20) :
    ∃ (ob' : Nat → Option AObj) (nx' : Nat) (x' : AV), evF E (n + 1) (.rnd lid) [v19, .agg [c0, m1, m2, m3]] ⟨ob, fz, nx⟩ = some (.one (.bool true), ⟨ob', fz, nx'⟩) ∧ nx ≤ nx' ∧ ob' lid = some (.loop (actLoop L)) ∧ ob' bo = some (.box [x']) ∧ OutB base ob' nx' x' (es ++ [[c0, m1, m2, m3]]) ∧ ∀ id, id < base → id ≠ lid → id ≠ bo → ob' id = ob id := by
  have n1 : ∀ k, (lid = nx + k) = False := fun k => by simp only [eq_iff_iff, iff_false]; omega
  have n2 : ∀ k, (bo = nx + k) = False := fun k => by simp only [eq_iff_iff, iff_false]; omega
  have n3 : (bo = lid) = False := by simp [Ne.symm hne]
  have n1n : (lid = nx) = False := by simp only [eq_iff_iff, iff_false]; omega
  have n2n : (bo = nx) = False := by simp only [eq_iff_iff, iff_false]; omega
  have n1' : ∀ k, (nx + k = lid) = False := fun k => by simp only [eq_iff_iff, iff_false]; omega
  have n2' : ∀ k, (nx + k = bo) = False := fun k => by simp only [eq_iff_iff, iff_false]; omega
  have n1n' : (nx = lid) = False := by simp only [eq_iff_iff, iff_false]; omega
  have n2n' : (nx = bo) = False := by simp only [eq_iff_iff, iff_false]; omega
  have nxa : ∀ a b : Nat, nx + a + b = nx + (a + b) := fun a b => Nat.add_assoc nx a b
  have hL' : ∀ (a b : SV), env ((20, a) :: (19, b) :: L) 7 = .one (.box bo 0) := fun a b => by rw [← hL]; rfl
  have a1 : evC (evF E n) n actAsg ⟨env ((20, .agg [c0, m1, m2, m3]) :: (19, v19) :: L), ob, fz, nx⟩ = some (.nrm, ⟨env [(7, .one (.box bo 0)), (9, .one (.box nx 0))], upd ob nx (.box [c0, m1, m2, m3]), fz, nx + 2⟩) := by
    unfold actAsg
    simp only [go_sem, hL]
  have o1 : upd ob nx (.box [c0, m1, m2, m3]) lid = some (.loop (actLoop L)) := by rw [upd_ne (by omega)]; exact ho
  have body : ∃ (ob2 : Nat → Option AObj) (x' : AV), evC (evF E n) n Fn.wear_Act_R0 ⟨env [(7, .one (.box bo 0)), (9, .one (.box nx 0))], upd (upd ob nx (.box [c0, m1, m2, m3])) lid (.loop { actLoop L with st := .busy }), fz, nx + 2⟩ = some (.nrm, ⟨env [], ob2, fz, nx + 7⟩) ∧ ob2 lid = some (.loop { actLoop L with st := .busy }) ∧ ob2 bo = some (.box [x']) ∧ OutB base ob2 (nx + 7) x' (es ++ [[c0, m1, m2, m3]]) ∧ ∀ id, id < base → id ≠ lid → id ≠ bo → ob2 id = ob id := by
    generalize { actLoop L with st := .busy } = lp
    obtain ⟨r, hr0⟩ : ∃ r, evC (evF E n) n Fn.wear_Act_R0 ⟨env [(7, .one (.box bo 0)), (9, .one (.box nx 0))], upd (upd ob nx (.box [c0, m1, m2, m3])) lid (.loop lp), fz, nx + 2⟩ = r := ⟨_, rfl⟩
    have hr := hr0
    rcases hx with ⟨rfl, rfl⟩ | ⟨a, va, rfl, h4, h5, h6⟩
    · simp only [go_sem, Fn.wear_Act_R0, n1, n2, n3, n1', n2', n1n, n2n, n1n', n2n', nxa, hb, okSz, ROOM] at hr
      rw [hr0, ← hr]
      refine ⟨_, _, rfl, ?_, upd_same _ _ _, .inr ⟨nx + 5, 0, rfl, ?_, by omega, by omega⟩, fun id q1 q2 q3 => ?_⟩
      · rw [upd_ne hne, upd_ne (by omega), upd_ne (by omega)]; exact upd_same _ _ _
      · rw [upd_ne (by omega)]; exact upd_same _ _ _
      · rw [upd_ne q3, upd_ne (by omega), upd_ne (by omega), upd_ne q2, upd_ne (by omega)]
    · have w1 : (es.length + 1) * 64 ≤ 140737488355328 := by omega
      have b1 : (es.length == es.length) = true := by simp
      have k1 : ∀ k ob y ver, rowAt (upd ob (nx + k) y) a ver = rowAt ob a ver := fun k ob y ver => rowAt_ne (by omega)
      have k2 : ∀ ob y ver, rowAt (upd ob nx y) a ver = rowAt ob a ver := fun ob y ver => rowAt_ne (by omega)
      have k3 : ∀ ob y ver, rowAt (upd ob lid y) a ver = rowAt ob a ver := fun ob y ver => rowAt_ne (by omega)
      have hra : rowAt ob a va = some (4, es) := rowAt_of h4
      have k4 : (bo = a) = False := by simp only [eq_iff_iff, iff_false]; omega
      simp only [go_sem, Fn.wear_Act_R0, n1, n2, n3, n1', n2', n1n, n2n, n1n', n2n', nxa, hb, okSz, ROOM, w1, b1, k1, k2, k3, k4, hra] at hr
      rw [hr0, ← hr]
      refine ⟨_, _, rfl, ?_, upd_same _ _ _, .inr ⟨a, va + 1, ?_, ?_, by omega, h6⟩, fun id q1 q2 q3 => ?_⟩
      · rw [upd_ne hne, upd_ne (by omega), upd_ne (by omega)]; exact upd_same _ _ _
      · rw [List.length_append]; rfl
      · rw [upd_ne (by omega)]; exact upd_same _ _ _
      · rw [upd_ne q3, upd_ne (by omega), upd_ne (by omega), upd_ne q2, upd_ne (by omega)]
  obtain ⟨ob2, x', b1, b2, b3, b4, b5⟩ := body
  refine ⟨upd ob2 lid (.loop (actLoop L)), nx + 7, x', ?_, by omega, upd_same _ _ _, by rw [upd_ne (Ne.symm hne)]; exact b3, b4.frame (Nat.le_refl _) (fun id q1 q2 => upd_ne (by omega)), fun id q1 q2 q3 => by rw [upd_ne q2]; exact b5 id q1 q2 q3⟩
  exact evF_rnd (r := actLoop L) (r1 := actLoop L) (r2 := { actLoop L with st := .busy }) ho rfl ((congrArg (fun sl => evC (evF E n) n actAsg ⟨sl, ob, fz, nx⟩) (setPs2 19 20 v19 (.agg [c0, m1, m2, m3]) L)).trans a1) o1 rfl b1 b2
end Go.Ev
namespace Go.Ev
open Go.Dig
def wkB : ACode := match Fn.wear_Device_walk_1_L0 with | .seq _ (.seq _ (.seq (.block _ b) _)) => b | _ => .skip
def wkA : ACode := match Fn.wear_Device_walk_1_L0 with | .seq a _ => a | _ => .skip
def wkC : ACode := match Fn.wear_Device_walk_1_L0 with | .seq _ (.seq c _) => c | _ => .skip
def wkI : ACode := match Fn.wear_Device_walk_1_L0 with | .seq _ (.seq _ (.seq _ i)) => i | _ => .skip
def wk1 : ACode := match wkB with | .seq a _ => a | _ => .skip
def wk2 : ACode := match wkB with | .seq _ (.seq a _) => a | _ => .skip
def wk3 : ACode := match wkB with | .seq _ (.seq _ (.seq a _)) => a | _ => .skip
def wk4 : ACode := match wkB with | .seq _ (.seq _ (.seq _ (.seq a _))) => a | _ => .skip
def wk5 : ACode := match wkB with | .seq _ (.seq _ (.seq _ (.seq _ (.seq a _)))) => a | _ => .skip
def wk6 : ACode := match wkB with | .seq _ (.seq _ (.seq _ (.seq _ (.seq _ (.seq a _))))) => a | _ => .skip
def wk7 : ACode := match wkB with | .seq _ (.seq _ (.seq _ (.seq _ (.seq _ (.seq _ a))))) => a | _ => .skip
theorem wk_eq : Fn.wear_Device_walk_1_L0 = .seq wkA (.seq wkC (.seq (.block 1 (.seq wk1 (.seq wk2 (.seq wk3 (.seq wk4 (.seq wk5 (.seq wk6 wk7))))))) wkI)) := rfl
def MQ (m : Rat) (mc : List AV) : Prop := mc = qC m ∨ (m = 0 ∧ mc = [.bool false, .nils, .nils])
theorem Ends.mq {f : FuncId} {m : Rat} {mc : List AV} {y r : SV} (h : Ends f [.agg (qC m), y] r) (hy : CanS y) (hm : MQ m mc) : Calling f [.agg mc, y] r := by
  rcases hm with rfl | ⟨rfl, rfl⟩
  · exact h.call (can2 (canS_q _) hy)
  · obtain ⟨N, h⟩ := h
    exact ⟨N, fun n hn => callV_nils (h n hn) hy⟩
section
variable {n : Nat} {fz : Nat → Nat} {ob : Nat → Option AObj} {nx : Nat}
theorem piece1 {i : Nat} (x0 x1 x4 x5 : SV) (l : List Samp) (s : Samp) (gs : l[i]? = some s) (X : List (Nat × SV)) :
    evC (evF E n) n wk1 ⟨env ((0, x0) :: (1, x1) :: (4, x4) :: (5, x5) :: (13, .one (.sl false (l.map Samp.c))) :: (14, .one (.int .i64 (l.length : Int))) :: (15, .one (.int .i64 (i : Int))) :: X), ob, fz, nx⟩ =
      some (.nrm, ⟨env [(0, x0), (1, x1), (4, x4), (5, x5), (7, .one (.box (nx + 2) 0)), (13, .one (.sl false (l.map Samp.c))), (14, .one (.int .i64 (l.length : Int))), (15, .one (.int .i64 (i : Int)))], upd ob (nx + 2) (.box s.c), fz, nx + 4⟩) := by
  have ge : (l.map Samp.c)[i]? = some s.c := by rw [List.getElem?_map, gs]; rfl
  have okz : okSz 9 (l.map Samp.c) = true := okSz_map (f := Samp.c) (k := 9) (fun _ => rfl) l
  obtain ⟨s0, s1, s2, s3, s4, s5, s6, s7, s8, es', -, -, -, -, -, -, -, -, -⟩ := samp_cells s
  rw [es'] at ge ⊢
  unfold wk1 wkB Fn.wear_Device_walk_1_L0
  simp only [go_sem, ge, okz]
theorem piece2 {bw b7 : Nat} (x0 x1 x5 x13 x14 x15 : SV) (s : Samp) (o7 : ob b7 = some (.box s.c)) (ob' : Nat → Option AObj) (nx' : Nat) (h : evF E n (.fn Id.wear_watcher_see) [.one (.box bw 0), .agg s.c] ⟨ob, fz, nx⟩ = some (.tup [], ⟨ob', fz, nx'⟩)) :
    evC (evF E n) n wk2 ⟨env [(0, x0), (1, x1), (4, .one (.box bw 0)), (5, x5), (7, .one (.box b7 0)), (13, x13), (14, x14), (15, x15)], ob, fz, nx⟩ =
      some (.nrm, ⟨env [(0, x0), (1, x1), (4, .one (.box bw 0)), (5, x5), (7, .one (.box b7 0)), (13, x13), (14, x14), (15, x15)], ob', fz, nx'⟩) := by
  obtain ⟨s0, s1, s2, s3, s4, s5, s6, s7, s8, es', -, -, -, -, -, -, -, -, -⟩ := samp_cells s
  rw [es'] at o7 h
  unfold wk2 wkB Fn.wear_Device_walk_1_L0
  simp only [go_sem, o7, Nat.add_zero, h]
theorem piece3 {bd bw b7 ph : Nat} (x0 x5 x13 x14 x15 : SV) {w1 w2 c1 c2 c3 w6 y1 y2 y3 y4 y5 y6 : AV} (ls : List Pt) (P : Pt) (gp : ls[ph]? = some P) (hd : bd < nx) (hw : bw < nx) (od : ob bd = some (.box [w1, w2, .sl false (ls.map Pt.c), c1, c2, c3])) (ow : ob bw = some (.box [y1, y2, y3, y4, y5, y6, .int .u8 (ph : Int), w6])) :
    evC (evF E n) n wk3 ⟨env [(0, x0), (1, .one (.box bd 0)), (4, .one (.box bw 0)), (5, x5), (7, .one (.box b7 0)), (13, x13), (14, x14), (15, x15)], ob, fz, nx⟩ =
      some (.nrm, ⟨env [(0, x0), (1, .one (.box bd 0)), (4, .one (.box bw 0)), (5, x5), (7, .one (.box b7 0)), (8, .one (.box (nx + 8) 0)), (13, x13), (14, x14), (15, x15)], upd ob (nx + 8) (.box P.c), fz, nx + 10⟩) := by
  have ge : (ls.map Pt.c)[ph]? = some P.c := by rw [List.getElem?_map, gp]; rfl
  have okz : okSz 6 (ls.map Pt.c) = true := okSz_map pt_len ls
  have hd' : (bd < nx) = True := by simp [hd]
  have hw' : (bw < nx) = True := by simp [hw]
  obtain ⟨p1, p2, p3, p4, p5, p6, -, -, ep⟩ := pt_cells P
  rw [ep] at ge ⊢
  unfold wk3 wkB Fn.wear_Device_walk_1_L0
  simp only [go_sem, od, ow, hd', hw', ge, okz]
theorem piece4 {bd bw bm b7 b8 ph : Nat} (x0 x13 x14 x15 : SV) {w1 w2 c1 c2 c3 w6 y1 y2 y3 y4 y5 y6 m1 m2 m3 : AV} (cs : List (List Pt)) (c : List Pt) (s : Samp) (P : Pt) (a lo hi r : Rat) (gc : cs[ph]? = some c) (hd : bd < nx) (hw : bw < nx) (hm : bm < nx) (h7 : b7 < nx) (h8 : b8 < nx) (od : ob bd = some (.box [w1, .sl false (cs.map fun s => [.sl false (s.map Pt.c)]), w2, c1, c2, c3])) (ow : ob bw = some (.box [y1, y2, y3, y4, y5, y6, .int .u8 (ph : Int), w6])) (om : ob bm = some (.box [m1, m2, m3])) (o7 : ob b7 = some (.box s.c)) (o8 : ob b8 = some (.box P.c))
    (k1 : ∀ (ob : Nat → Option AObj) (fz : Nat → Nat), callV (evF E n) Id.wear_Curve_at [.one (.sl false (c.map Pt.c)), .agg (qC s.angle)] ob fz = some (.fzd fz (.agg (qC a)))) (k2 : ∀ (ob : Nat → Option AObj) (fz : Nat → Nat), callV (evF E n) Id.exact_Q_Sub [.agg [m1, m2, m3], .agg (qC P.z)] ob fz = some (.fzd fz (.agg (qC lo)))) (k3 : ∀ (ob : Nat → Option AObj) (fz : Nat → Nat), callV (evF E n) Id.exact_Q_Add [.agg [m1, m2, m3], .agg (qC P.z)] ob fz = some (.fzd fz (.agg (qC hi)))) (k4 : ∀ (ob : Nat → Option AObj) (fz : Nat → Nat), callV (evF E n) Id.wear_clamp [.agg (qC a), .agg (qC lo), .agg (qC hi)] ob fz = some (.fzd fz (.agg (qC r)))) :
    evC (evF E n) n wk4 ⟨env [(0, x0), (1, .one (.box bd 0)), (4, .one (.box bw 0)), (5, .one (.box bm 0)), (7, .one (.box b7 0)), (8, .one (.box b8 0)), (13, x13), (14, x14), (15, x15)], ob, fz, nx⟩ =
      some (.nrm, ⟨env [(0, x0), (1, .one (.box bd 0)), (4, .one (.box bw 0)), (5, .one (.box bm 0)), (7, .one (.box b7 0)), (8, .one (.box b8 0)), (13, x13), (14, x14), (15, x15)], upd ob bm (.box (qC r)), fz, nx⟩) := by
  have ge : (cs.map fun s => [AV.sl false (s.map Pt.c)])[ph]? = some [.sl false (c.map Pt.c)] := by rw [List.getElem?_map, gc]; rfl
  have okz : okSz 1 (cs.map fun s => [AV.sl false (s.map Pt.c)]) = true := okSz_map (f := fun s : List Pt => [AV.sl false (s.map Pt.c)]) (k := 1) (fun _ => rfl) cs
  have hd' : (bd < nx) = True := by simp [hd]
  have hw' : (bw < nx) = True := by simp [hw]
  have hm' : (bm < nx) = True := by simp [hm]
  have h7' : (b7 < nx) = True := by simp [h7]
  have h8' : (b8 < nx) = True := by simp [h8]
  unfold Samp.c at o7
  obtain ⟨p1, p2, p3, p4, p5, p6, -, ez, ep⟩ := pt_cells P
  obtain ⟨s1, s2, s3, es1, -, -, -⟩ := qC_cells s.load
  obtain ⟨s4, s5, s6, es2, -, -, -⟩ := qC_cells s.angle
  obtain ⟨s7, s8, s9, es3, -, -, -⟩ := qC_cells s.speed
  obtain ⟨a1, a2, a3, ea, -, -, -⟩ := qC_cells a
  obtain ⟨l1, l2, l3, el, -, -, -⟩ := qC_cells lo
  obtain ⟨h1, h2, h3, eh, -, -, -⟩ := qC_cells hi
  obtain ⟨r1, r2, r3, er, -, -, -⟩ := qC_cells r
  simp only [es1, es2, es3, List.cons_append, List.nil_append] at o7 k1
  rw [ea] at k1 k4
  rw [ez, el] at k2
  rw [ez, eh] at k3
  rw [el, eh, er] at k4
  rw [ep] at o8
  rw [er]
  unfold wk4 wkB Fn.wear_Device_walk_1_L0
  simp only [go_sem, od, ow, om, o7, o8, hd', hw', hm', h7', h8', ge, okz, k1, k2, k3, k4]
theorem piece5 {bm b8 : Nat} (x0 x1 x4 x7 x13 x14 x15 : SV) (P : Pt) (m r : Rat) (hm : bm < nx) (h8 : b8 < nx) (om : ob bm = some (.box (qC m))) (o8 : ob b8 = some (.box P.c))
    (k1 : ∀ (ob : Nat → Option AObj) (fz : Nat → Nat), callV (evF E n) Id.exact_Q_Neg [.agg (qC P.x)] ob fz = some (.fzd fz (.agg (qC (-P.x))))) (k2 : ∀ (ob : Nat → Option AObj) (fz : Nat → Nat), callV (evF E n) Id.wear_clamp [.agg (qC m), .agg (qC (-P.x)), .agg (qC P.x)] ob fz = some (.fzd fz (.agg (qC r)))) :
    evC (evF E n) n wk5 ⟨env [(0, x0), (1, x1), (4, x4), (5, .one (.box bm 0)), (7, x7), (8, .one (.box b8 0)), (13, x13), (14, x14), (15, x15)], ob, fz, nx⟩ =
      some (.nrm, ⟨env [(0, x0), (1, x1), (4, x4), (5, .one (.box bm 0)), (7, x7), (13, x13), (14, x14), (15, x15)], upd ob bm (.box (qC r)), fz, nx⟩) := by
  have hm' : (bm < nx) = True := by simp [hm]
  have h8' : (b8 < nx) = True := by simp [h8]
  obtain ⟨p1, p2, p3, p4, p5, p6, ex, -, ep⟩ := pt_cells P
  obtain ⟨a1, a2, a3, ea, -, -, -⟩ := qC_cells m
  obtain ⟨l1, l2, l3, el, -, -, -⟩ := qC_cells (-P.x)
  obtain ⟨r1, r2, r3, er, -, -, -⟩ := qC_cells r
  rw [ex, el] at k1
  rw [ea, ex, el, er] at k2
  rw [ep] at o8
  rw [ea] at om
  rw [er]
  unfold wk5 wkB Fn.wear_Device_walk_1_L0
  simp only [go_sem, om, o8, hm', h8', k1, k2]
def stopB (ph : Nat) (m v : Rat) : Bool := decide (ph = 4) && decide (signI (m * v).num > 0)
theorem piece6 {bw bm b7 ph : Nat} (x0 x1 x13 x14 x15 : SV) {w6 y1 y2 y3 y4 y5 y6 : AV} (s : Samp) (m : Rat) (ow : ob bw = some (.box [y1, y2, y3, y4, y5, y6, .int .u8 (ph : Int), w6])) (om : ob bm = some (.box (qC m))) (o7 : ob b7 = some (.box s.c))
    (k1 : ∀ (ob : Nat → Option AObj) (fz : Nat → Nat), callV (evF E n) Id.exact_Q_Mul [.agg (qC m), .agg (qC s.speed)] ob fz = some (.fzd fz (.agg (qC (m * s.speed))))) (k2 : ∀ (ob : Nat → Option AObj) (fz : Nat → Nat), callV (evF E n) Id.exact_Q_Sign [.agg (qC (m * s.speed))] ob fz = some (.fzd fz (.one (.int .i64 (signI (m * s.speed).num))))) :
    ∃ X', evC (evF E n) n wk6 ⟨env [(0, x0), (1, x1), (4, .one (.box bw 0)), (5, .one (.box bm 0)), (7, .one (.box b7 0)), (13, x13), (14, x14), (15, x15)], ob, fz, nx⟩ =
      some (.nrm, ⟨env ((0, x0) :: (1, x1) :: (4, .one (.box bw 0)) :: (5, .one (.box bm 0)) :: (7, .one (.box b7 0)) :: (13, x13) :: (14, x14) :: (15, x15) :: X'), bif stopB ph m s.speed then upd ob bm (.box [.bool false, .nils, .nils]) else ob, fz, nx⟩) := by
  unfold Samp.c at o7
  obtain ⟨s1, s2, s3, es1, -, -, -⟩ := qC_cells s.load
  obtain ⟨s4, s5, s6, es2, -, -, -⟩ := qC_cells s.angle
  obtain ⟨s7, s8, s9, es3, -, -, -⟩ := qC_cells s.speed
  obtain ⟨a1, a2, a3, ea, -, -, -⟩ := qC_cells m
  obtain ⟨r1, r2, r3, er, -, -, -⟩ := qC_cells (m * s.speed)
  simp only [es1, es2, es3, List.cons_append, List.nil_append] at o7
  rw [ea, es3, er] at k1
  rw [er] at k2
  rw [ea] at om
  unfold stopB
  generalize signI (m * s.speed).num = sg at *
  unfold wk6 wkB Fn.wear_Device_walk_1_L0
  by_cases h4 : ph = 4
  · have q1 : ((ph : Int) == 4) = true := by simp [h4]
    by_cases hs : sg > 0
    · have e : (decide (ph = 4) && decide (sg > 0)) = true := by rw [decide_eq_true h4, decide_eq_true hs]; rfl
      rw [e]
      refine ⟨[], ?_⟩
      simp only [go_sem, ow, om, o7, q1, k1, k2, hs]
    · have e : (decide (ph = 4) && decide (sg > 0)) = false := by rw [decide_eq_true h4, decide_eq_false hs]; rfl
      rw [e]
      refine ⟨[(69, .one (.bool false))], ?_⟩
      simp only [go_sem, ow, om, o7, q1, k1, k2, hs]
  · have q1 : ((ph : Int) == 4) = false := by simp only [beq_eq_false_iff_ne, ne_eq]; omega
    have e : (decide (ph = 4) && decide (sg > 0)) = false := by rw [decide_eq_false h4]; rfl
    rw [e]
    refine ⟨[(69, .one (.bool false))], ?_⟩
    simp only [go_sem, ow, om, o7, q1]
theorem piece7 {lid bw bm b7 ph : Nat} (x1 x13 x14 x15 : SV) {w6 y1 y2 y3 y4 y5 y6 m1 m2 m3 : AV} (s : Samp) (hw : bw < nx) (hm : bm < nx) (h7 : b7 < nx) (ow : ob bw = some (.box [y1, y2, y3, y4, y5, y6, .int .u8 (ph : Int), w6])) (om : ob bm = some (.box [m1, m2, m3])) (o7 : ob b7 = some (.box s.c)) (ob' : Nat → Option AObj) (nx' : Nat)
    (k : evF E n (.rnd lid) [.agg s.c, .agg [.int .u8 (ph : Int), m1, m2, m3]] ⟨ob, fz, nx⟩ = some (.one (.bool true), ⟨ob', fz, nx'⟩)) (X : List (Nat × SV)) :
    ∃ X', evC (evF E n) n wk7 ⟨env ((0, .one (.yld lid)) :: (1, x1) :: (4, .one (.box bw 0)) :: (5, .one (.box bm 0)) :: (7, .one (.box b7 0)) :: (13, x13) :: (14, x14) :: (15, x15) :: X), ob, fz, nx⟩ =
      some (.nrm, ⟨env ((0, .one (.yld lid)) :: (1, x1) :: (4, .one (.box bw 0)) :: (5, .one (.box bm 0)) :: (13, x13) :: (14, x14) :: (15, x15) :: X'), ob', fz, nx'⟩) := by
  have hw' : (bw < nx) = True := by simp [hw]
  have hm' : (bm < nx) = True := by simp [hm]
  have h7' : (b7 < nx) = True := by simp [h7]
  obtain ⟨s0, s1, s2, s3, s4, s5, s6, s7, s8, es', -, -, -, -, -, -, -, -, -⟩ := samp_cells s
  rw [es'] at o7 k
  unfold wk7 wkB Fn.wear_Device_walk_1_L0
  refine ⟨[(80, .one (.bool false))], ?_⟩
  simp only [go_sem, ow, om, o7, hw', hm', h7', Nat.add_zero, k]
end
end Go.Ev
namespace Go.Ev
open Go.Dig
theorem seeL_low (ph : Nat) (s : Samp) : ∀ (l : List Guard) (i : Nat) (c : Nat → Nat) (f : Option Nat) (k : Nat), k < i → (seeL ph s l i c f).1 k = c k
  | [], i, c, f, k, h => rfl
  | g :: r, i, c, f, k, h => by
    unfold seeL
    rw [seeL_low ph s r (i + 1) _ _ k (by omega), seeS_other _ _ _ _ _ _ _ (by omega)]
theorem seeL_le (ph : Nat) (s : Samp) : ∀ (l : List Guard) (i : Nat) (c : Nat → Nat) (f : Option Nat) (k : Nat), (seeL ph s l i c f).1 k ≤ c k + 1
  | [], i, c, f, k => Nat.le_succ _
  | g :: r, i, c, f, k => by
    unfold seeL
    by_cases h : k = i
    · subst h
      rw [seeL_low ph s r (k + 1) _ _ k (by omega)]
      unfold seeS
      split
      · split
        · simp [setN]
        · simp [setN]
      · exact Nat.le_succ _
    · refine Nat.le_trans (seeL_le ph s r (i + 1) _ _ k) ?_
      rw [seeS_other _ _ _ _ _ _ _ h]
      exact Nat.le_refl _
theorem seeW_le (gs : List Guard) (ph : Nat) (cnt : Nat → Nat) (s : Samp) (k : Nat) : (seeW gs ph cnt s).2 k ≤ cnt k + 1 := by
  unfold seeW
  split
  · exact seeL_le ph s gs 0 cnt none k
  · exact Nat.zero_le _
theorem seeW_ph (gs : List Guard) (ph : Nat) (cnt : Nat → Nat) (s : Samp) (B : Nat) (h : ph < B) (hg : ∀ g ∈ gs, g.to < B) : (seeW gs ph cnt s).1 < B := by
  unfold seeW
  split
  · exact h
  · rename_i k _
    dsimp only
    cases hk : gs[k]? with
    | none => simp; omega
    | some g => exact hg g (List.mem_of_getElem? hk)
structure WSt where
  ph : Nat
  cnt : Nat → Nat
  m : Rat
def curveAt (d : Dev) (ph : Nat) : List Pt := (d.curves[ph]?).getD []
def momW (d : Dev) (w : WSt) (s : Samp) : Rat :=
  clampQ (clampQ (atQ (curveAt d (seeW d.guards w.ph w.cnt s).1) s.angle) (w.m - (ptAt d.limits (seeW d.guards w.ph w.cnt s).1).z) (w.m + (ptAt d.limits (seeW d.guards w.ph w.cnt s).1).z)) (-(ptAt d.limits (seeW d.guards w.ph w.cnt s).1).x) (ptAt d.limits (seeW d.guards w.ph w.cnt s).1).x
def stopW (d : Dev) (w : WSt) (s : Samp) : Bool := stopB (seeW d.guards w.ph w.cnt s).1 (momW d w s) s.speed
def stepW (d : Dev) (w : WSt) (s : Samp) : WSt := ⟨(seeW d.guards w.ph w.cnt s).1, (seeW d.guards w.ph w.cnt s).2, bif stopW d w s then 0 else momW d w s⟩
def rawM (d : Dev) (w : WSt) (s : Samp) : List AV := bif stopW d w s then [.bool false, .nils, .nils] else qC (momW d w s)
def rawA (d : Dev) (w : WSt) (s : Samp) : List AV := .int .u8 ((stepW d w s).ph : Int) :: rawM d w s
def raws (d : Dev) : WSt → List Samp → List (List AV)
  | _, [] => []
  | w, s :: r => rawA d w s :: raws d (stepW d w s) r
def acts (d : Dev) : WSt → List Samp → List (Nat × Rat)
  | _, [] => []
  | w, s :: r => ((stepW d w s).ph, (stepW d w s).m) :: acts d (stepW d w s) r
theorem rawM_mq (d : Dev) (w : WSt) (s : Samp) : MQ (stepW d w s).m (rawM d w s) := by
  unfold stepW rawM
  cases stopW d w s
  · exact .inl rfl
  · exact .inr ⟨rfl, rfl⟩
theorem MQ.cells {m : Rat} {mc : List AV} (h : MQ m mc) : ∃ a b c, mc = [a, b, c] := by
  rcases h with rfl | ⟨_, rfl⟩
  · exact ⟨_, _, _, rfl⟩
  · exact ⟨_, _, _, rfl⟩
structure OkDev (d : Dev) : Prop where
  sm : SmDev d
  c5 : d.curves.length = 5
  l5 : d.limits.length = 5
  to : ∀ g ∈ d.guards, g.to < 5
  cr : ∀ c ∈ d.curves, incC c = true ∧ 1 ≤ c.length
theorem rightD_ok {d : Dev} (h : SmDev d) (hr : rightD d = true) : OkDev d := by
  unfold rightD at hr
  simp only [Bool.and_eq_true, Bool.not_eq_true', Bool.or_eq_false_iff, decide_eq_false_iff_not, ne_eq, Decidable.not_not] at hr
  obtain ⟨⟨-, h1, h2, -⟩, h3, h4, -⟩ := hr
  refine ⟨h, h1, h2, fun g hg => ?_, fun c hc => ?_⟩
  · have hb := List.any_eq_false.1 h3 g hg
    unfold badG at hb
    simp only [Bool.or_eq_true, decide_eq_true_eq, not_or] at hb
    omega
  · have hb := List.any_eq_false.1 h4 c hc
    unfold badC rightC at hb
    simp only [Bool.not_eq_true', Bool.and_eq_false_iff, not_or, Bool.not_eq_false, decide_eq_true_eq] at hb
    exact ⟨hb.1, hb.2.1⟩
structure WIds (Own : Nat → Prop) (bd bw mid bm base : Nat) : Prop where
  d : bd < base
  w : bw < base
  i : mid < base
  m : bm < base
  dw : bd ≠ bw
  di : bd ≠ mid
  dm : bd ≠ bm
  wi : bw ≠ mid
  wm : bw ≠ bm
  im : mid ≠ bm
  od : ¬ Own bd
  ow : ¬ Own bw
  oi : ¬ Own mid
  om : ¬ Own bm
  o : ∀ id, Own id → id < base
theorem dev_cells (d : Dev) : ∃ a b c, qC d.step = [a, b, c] ∧ d.c = [.sl false (d.guards.map Guard.c), .sl false (d.curves.map fun s => [.sl false (s.map Pt.c)]), .sl false (d.limits.map Pt.c), a, b, c] := ⟨_, _, _, rfl, rfl⟩
def stepsW (d : Dev) : WSt → List Samp → List (WSt × Samp)
  | _, [] => []
  | w, s :: r => (w, s) :: stepsW d (stepW d w s) r
structure Taker (d : Dev) (n0 base lid Smax Lmax : Nat) (fz : Nat → Nat) (Own : Nat → Prop) (Acc : (Nat → Option AObj) → Nat → List (WSt × Samp) → Prop) : Prop where
  frame : ∀ ob ob' nx nx' out, Acc ob nx out → nx ≤ nx' → (∀ id, Own id ∨ (base ≤ id ∧ id < nx) → ob' id = ob id) → Acc ob' nx' out
  step : ∀ n, n0 ≤ n → ∀ (w : WSt) (s : Samp) (ob : Nat → Option AObj) (nx : Nat) (out : List (WSt × Samp)), Acc ob nx out → base ≤ nx → out.length < Lmax → SmSamp s → (stepW d w s).ph < 5 → SmQ Smax (stepW d w s).m →
    ∃ ob' nx', evF E (n + 1) (.rnd lid) [.agg s.c, .agg (rawA d w s)] ⟨ob, fz, nx⟩ = some (.one (.bool true), ⟨ob', fz, nx'⟩) ∧ nx ≤ nx' ∧ Acc ob' nx' (out ++ [(w, s)]) ∧ ∀ id, id < base → ¬ Own id → ob' id = ob id
set_option maxRecDepth 100000 in
theorem walk_loop (d : Dev) (hd : OkDev d) {bd bw mid bm lid base n0 Smax Lmax : Nat} {Own : Nat → Prop} {Acc : (Nat → Option AObj) → Nat → List (WSt × Samp) → Prop} (I : WIds Own bd bw mid bm base) (fz : Nat → Nat) (T : Taker d n0 base lid Smax Lmax fz Own Acc) (hSm : Smax ≤ 2 ^ 29) : ∀ (ss pre : List Samp) (w : WSt) (mc : List AV) (S : Nat), MQ w.m mc → SmQ S w.m → 2571 ≤ S → S + 257 * ss.length ≤ Smax → w.ph < 5 → (∀ k, w.cnt k + ss.length < 2 ^ 40) → (∀ s ∈ ss, SmSamp s) → (pre ++ ss).length < 2 ^ 20 → (pre ++ ss).length ≤ Lmax →
    ∃ N, ∀ n, N ≤ n → ∀ (ob : Nat → Option AObj) (nx : Nat) (es : List AEnt) (clk : Nat) (out : List (WSt × Samp)) (X : List (Nat × SV)), base ≤ nx → ob bd = some (.box d.c) → ob bw = some (.box (d.c ++ [.int .u8 (w.ph : Int), .mp mid])) → ob mid = some (.map es clk) → Rep es w.cnt → ob bm = some (.box mc) → Acc ob nx out → out.length = pre.length → ∀ M, ss.length < M →
      ∃ (ob' : Nat → Option AObj) (nx' : Nat) (X' : List (Nat × SV)), loopN (evC (evF E n) n Fn.wear_Device_walk_1_L0) M ⟨env ((0, .one (.yld lid)) :: (1, .one (.box bd 0)) :: (4, .one (.box bw 0)) :: (5, .one (.box bm 0)) :: (13, .one (.sl false ((pre ++ ss).map Samp.c))) :: (14, .one (.int .i64 ((pre ++ ss).length : Int))) :: (15, .one (.int .i64 (pre.length : Int))) :: X), ob, fz, nx⟩ =
        some (.ext 0, ⟨env X', ob', fz, nx'⟩) ∧ nx ≤ nx' ∧ Acc ob' nx' (out ++ stepsW d w ss)
  | [], pre, w, mc, S, hm, hS, hS1, hS2, hph, hcnt, hss, hlen, hLmx => by
    refine ⟨0, fun n hn ob nx es clk out X hb od ow oi hr om hx hout M hM => ?_⟩
    obtain ⟨M, rfl⟩ : ∃ k, M = k + 1 := ⟨M - 1, by simp at hM; omega⟩
    rw [List.append_nil]
    have hlt : (((pre.length : Nat) : Int) < ((pre.length : Nat) : Int)) = False := by simp
    refine ⟨ob, nx, [(0, .one (.yld lid)), (1, .one (.box bd 0)), (4, .one (.box bw 0)), (5, .one (.box bm 0)), (13, .one (.sl false (pre.map Samp.c))), (14, .one (.int .i64 (pre.length : Int))), (15, .one (.int .i64 (pre.length : Int))), (16, .one (.bool false))], round_ext ?_, Nat.le_refl _, by unfold stepsW; rw [List.append_nil]; exact hx⟩
    simp only [go_sem, Fn.wear_Device_walk_1_L0, hlt]
  | s :: r, pre, w, mc, S, hm, hS, hS1, hS2, hph, hcnt, hss, hlen, hLmx => by
    have hs := hss s (by simp)
    simp only [List.length_cons] at hS2 hcnt
    have hph' : (seeW d.guards w.ph w.cnt s).1 < 5 := seeW_ph _ _ _ _ 5 hph hd.to
    have gc : d.curves[(seeW d.guards w.ph w.cnt s).1]? = some (curveAt d (seeW d.guards w.ph w.cnt s).1) := by
      unfold curveAt; rw [List.getElem?_eq_getElem (by rw [hd.c5]; exact hph')]; rfl
    have gl : d.limits[(seeW d.guards w.ph w.cnt s).1]? = some (ptAt d.limits (seeW d.guards w.ph w.cnt s).1) := by
      unfold ptAt; rw [List.getElem?_eq_getElem (by rw [hd.l5]; exact hph')]; rfl
    have hcm := List.mem_of_getElem? gc
    have hlm := List.mem_of_getElem? gl
    have sP := hd.sm.ls _ hlm
    obtain ⟨i1, i2⟩ := hd.cr _ hcm
    have sat := (at_ends _ s.angle (hd.sm.cll _ hcm) i2 i1 (hd.sm.cs _ hcm) hs.angle).2
    have slo := SmQ.sub hS sP.z
    have shi := SmQ.add hS sP.z
    have sat' := SmQ.mono sat (show 2571 ≤ S + 256 + 1 by omega)
    have sr1 := SmQ.clamp sat' slo shi
    have snx := SmQ.mono (SmQ.neg sP.x) (show 256 ≤ S + 256 + 1 by omega)
    have spx := SmQ.mono sP.x (show 256 ≤ S + 256 + 1 by omega)
    have sr2 := SmQ.clamp sr1 snx spx
    obtain ⟨N1, k1⟩ := at_call _ s.angle (hd.sm.cll _ hcm) i2 i1 (hd.sm.cs _ hcm) hs.angle
    obtain ⟨N2, k2⟩ := (Ends.of (K (S + 256 + 1) + 4) fun hn => Sub_run w.m (ptAt d.limits (seeW d.guards w.ph w.cnt s).1).z hS sP.z (by omega) hn : Ends Id.exact_Q_Sub [.agg (qC w.m), .agg (qC _)] (.agg (qC _))).mq (canS_q _) hm
    obtain ⟨N3, k3⟩ := (Ends.of (K (S + 256 + 1) + 2) fun hn => Add_run w.m (ptAt d.limits (seeW d.guards w.ph w.cnt s).1).z hS sP.z (by omega) hn : Ends Id.exact_Q_Add [.agg (qC w.m), .agg (qC _)] (.agg (qC _))).mq (canS_q _) hm
    obtain ⟨N4, k4⟩ := clamp_call _ _ _ sat' slo shi (by omega)
    obtain ⟨N5, k5⟩ := Neg_call (ptAt d.limits (seeW d.guards w.ph w.cnt s).1).x
    obtain ⟨N6, k6⟩ := clamp_call _ _ _ sr1 snx spx (by omega)
    obtain ⟨N7, k7⟩ := Mul_call _ s.speed sr2 hs.speed (by omega)
    obtain ⟨N8, k8⟩ := Sign_call (momW d w s * s.speed)
    obtain ⟨N9, k9⟩ : ∃ N, ∀ n, N ≤ n → ∀ g ∈ d.guards, ∀ (ob : Nat → Option AObj) (fz : Nat → Nat), callV (evF E n) Id.wear_Box_has [.agg g.box.c, .agg s.c] ob fz = some (.fzd fz (.one (.bool (hasBx g.box s)))) := by
      have hg := fun g hg => (hd.sm.gs g hg).box
      revert hg
      generalize d.guards = l
      intro hg
      induction l with
      | nil => exact ⟨0, fun _ _ _ h => by simp at h⟩
      | cons c r ih =>
        obtain ⟨Na, ka⟩ := has_call c.box s (hg c (by simp)) hs
        obtain ⟨Nb, kb⟩ := ih (fun c hc => hg c (by simp [hc]))
        refine ⟨Na + Nb, fun n hn y hy => ?_⟩
        rcases List.mem_cons.1 hy with rfl | e
        · exact ka n (by omega)
        · exact kb n (by omega) y e
    have hS' : SmQ (S + 256 + 1) (stepW d w s).m := by
      unfold stepW
      cases stopW d w s
      · exact sr2
      · exact SmQ.mono SmQ.zero (by omega)
    obtain ⟨N10, k10⟩ := walk_loop d hd I fz T hSm r (pre ++ [s]) (stepW d w s) (rawM d w s) (S + 256 + 1) (rawM_mq d w s) hS' (by omega) (by omega) hph' (fun k => by
      have h1 := seeW_le d.guards w.ph w.cnt s k
      have h2 := hcnt k
      show (seeW d.guards w.ph w.cnt s).2 k + r.length < 2 ^ 40
      omega) (fun t ht => hss t (by simp [ht])) (by simpa using hlen) (by simpa using hLmx)
    refine ⟨N1 + N2 + N3 + N4 + N5 + N6 + N7 + N8 + N9 + N10 + n0 + d.guards.length + 3, fun n hn ob nx es clk out X hb od ow oi hr om hx hout M hM => ?_⟩
    obtain ⟨M, rfl⟩ : ∃ k, M = k + 1 := ⟨M - 1, by simp at hM; omega⟩
    have hM' : r.length < M := by simp only [List.length_cons] at hM; omega
    have k1 := k1 n (by omega)
    have k2 := k2 n (by omega)
    have k3 := k3 n (by omega)
    have k4 := k4 n (by omega)
    have k5 := k5 n (by omega)
    have k6 := k6 n (by omega)
    have k7 := k7 n (by omega)
    have k8 := k8 n (by omega)
    have k10 := k10 n (by omega)
    obtain ⟨n, rfl⟩ : ∃ m, n = m + 1 := ⟨n - 1, by omega⟩
    have k9 := k9 n (by omega)
    obtain ⟨m1, m2, m3, hmc⟩ := hm.cells
    rw [hmc] at k2 k3 om
    obtain ⟨t1, t2, t3, -, hdc⟩ := dev_cells d
    have gs : (pre ++ s :: r)[pre.length]? = some s := by simp
    have I' := I
    obtain ⟨jd, jw, ji, jm, jdw, jdi, jdm, jwi, jwm, jim, od', ow', oi', om', jo⟩ := I'
    have hlt : (((pre.length : Nat) : Int) < (((pre ++ s :: r).length : Nat) : Int)) = True := by simp; omega
    have hA : evC (evF E (n + 1)) (n + 1) wkA ⟨env ((0, .one (.yld lid)) :: (1, .one (.box bd 0)) :: (4, .one (.box bw 0)) :: (5, .one (.box bm 0)) :: (13, .one (.sl false ((pre ++ s :: r).map Samp.c))) :: (14, .one (.int .i64 ((pre ++ s :: r).length : Int))) :: (15, .one (.int .i64 (pre.length : Int))) :: X), ob, fz, nx⟩ = some (.nrm, ⟨env [(0, .one (.yld lid)), (1, .one (.box bd 0)), (4, .one (.box bw 0)), (5, .one (.box bm 0)), (13, .one (.sl false ((pre ++ s :: r).map Samp.c))), (14, .one (.int .i64 ((pre ++ s :: r).length : Int))), (15, .one (.int .i64 (pre.length : Int))), (16, .one (.bool true))], ob, fz, nx⟩) := by
      unfold wkA Fn.wear_Device_walk_1_L0
      simp only [go_sem, hlt]
    have hC : evC (evF E (n + 1)) (n + 1) wkC ⟨env [(0, .one (.yld lid)), (1, .one (.box bd 0)), (4, .one (.box bw 0)), (5, .one (.box bm 0)), (13, .one (.sl false ((pre ++ s :: r).map Samp.c))), (14, .one (.int .i64 ((pre ++ s :: r).length : Int))), (15, .one (.int .i64 (pre.length : Int))), (16, .one (.bool true))], ob, fz, nx⟩ = some (.nrm, ⟨env [(0, .one (.yld lid)), (1, .one (.box bd 0)), (4, .one (.box bw 0)), (5, .one (.box bm 0)), (13, .one (.sl false ((pre ++ s :: r).map Samp.c))), (14, .one (.int .i64 ((pre ++ s :: r).length : Int))), (15, .one (.int .i64 (pre.length : Int))), (16, .one (.bool true))], ob, fz, nx⟩) := by
      unfold wkC Fn.wear_Device_walk_1_L0
      simp only [go_sem]
    have h1 := piece1 (n := n + 1) (fz := fz) (ob := ob) (nx := nx) (i := pre.length) (.one (.yld lid)) (.one (.box bd 0)) (.one (.box bw 0)) (.one (.box bm 0)) (pre ++ s :: r) s gs [(16, .one (.bool true))]
    have f1 : ∀ id, id < nx → upd ob (nx + 2) (.box s.c) id = ob id := fun id h => upd_ne (by omega)
    rw [hdc, List.cons_append, List.cons_append, List.cons_append, List.cons_append, List.cons_append, List.cons_append, List.nil_append] at ow
    obtain ⟨ob2, nx2, es2, clk2, hsee, b1, b2, b3, b4, b5⟩ := see_ref (n := n) (fz := fz) (nx := nx + 4) (ob := upd ob (nx + 2) (.box s.c)) d.guards s hd.sm.gl (by omega) jwi k9 (by omega) (by omega) ((f1 bw (by omega)).trans ow) ((f1 mid (by omega)).trans oi) hr (fun k => by have := hcnt k; omega)
    have o7 : ob2 (nx + 2) = some (.box s.c) := (b5 (nx + 2) (by omega) (by omega) (by omega)).trans (upd_same _ _ _)
    have f2 : ∀ id, id < nx → id ≠ bw → id ≠ mid → ob2 id = ob id := fun id h h1 h2 => (b5 id (by omega) h1 h2).trans (f1 id h)
    have h2 := piece2 (n := n + 1) (fz := fz) (ob := upd ob (nx + 2) (.box s.c)) (nx := nx + 4) (bw := bw) (b7 := nx + 2) (.one (.yld lid)) (.one (.box bd 0)) (.one (.box bm 0)) (.one (.sl false ((pre ++ s :: r).map Samp.c))) (.one (.int .i64 ((pre ++ s :: r).length : Int))) (.one (.int .i64 (pre.length : Int))) s (upd_same _ _ _) ob2 nx2 hsee
    have od2 : ob2 bd = _ := (f2 bd (by omega) jdw jdi).trans (od.trans (by rw [hdc]))
    have h3 := piece3 (n := n + 1) (fz := fz) (ob := ob2) (nx := nx2) (bd := bd) (bw := bw) (b7 := nx + 2) (.one (.yld lid)) (.one (.box bm 0)) (.one (.sl false ((pre ++ s :: r).map Samp.c))) (.one (.int .i64 ((pre ++ s :: r).length : Int))) (.one (.int .i64 (pre.length : Int))) d.limits _ gl (by omega) (by omega) od2 b2
    have f3 : ∀ (y : AObj) id, id < nx2 → upd ob2 (nx2 + 8) y id = ob2 id := fun y id h => upd_ne (by omega)
    have om2 : ob2 bm = _ := (f2 bm (by omega) (Ne.symm jwm) (Ne.symm jim)).trans om
    have h4 := piece4 (n := n + 1) (fz := fz) (ob := upd ob2 (nx2 + 8) (.box (ptAt d.limits (seeW d.guards w.ph w.cnt s).1).c)) (nx := nx2 + 10) (bd := bd) (bw := bw) (bm := bm) (b7 := nx + 2) (b8 := nx2 + 8) (.one (.yld lid)) (.one (.sl false ((pre ++ s :: r).map Samp.c))) (.one (.int .i64 ((pre ++ s :: r).length : Int))) (.one (.int .i64 (pre.length : Int))) d.curves _ s _ _ _ _ _ gc (by omega) (by omega) (by omega) (by omega) (by omega) ((f3 _ bd (by omega)).trans od2) ((f3 _ bw (by omega)).trans b2) ((f3 _ bm (by omega)).trans om2) ((f3 _ (nx + 2) (by omega)).trans o7) (upd_same _ _ _) k1 k2 k3 k4
    have h5 := piece5 (n := n + 1) (fz := fz) (ob := upd (upd ob2 (nx2 + 8) (.box (ptAt d.limits (seeW d.guards w.ph w.cnt s).1).c)) bm (.box (qC _))) (nx := nx2 + 10) (bm := bm) (b8 := nx2 + 8) (.one (.yld lid)) (.one (.box bd 0)) (.one (.box bw 0)) (.one (.box (nx + 2) 0)) (.one (.sl false ((pre ++ s :: r).map Samp.c))) (.one (.int .i64 ((pre ++ s :: r).length : Int))) (.one (.int .i64 (pre.length : Int))) _ _ (momW d w s) (by omega) (by omega) (upd_same _ _ _) (by rw [upd_ne (by omega)]; exact upd_same _ _ _) k5 k6
    obtain ⟨ob5, hob5⟩ : ∃ o, o = upd (upd ob2 (nx2 + 8) (.box (ptAt d.limits (seeW d.guards w.ph w.cnt s).1).c)) bm (.box (qC (momW d w s))) := ⟨_, rfl⟩
    rw [upd_upd, ← hob5] at h5
    have f5 : ∀ id, id < nx2 → id ≠ bm → ob5 id = ob2 id := fun id h h1 => by rw [hob5, upd_ne h1]; exact f3 _ id h
    have om5 : ob5 bm = some (.box (qC (momW d w s))) := by rw [hob5]; exact upd_same _ _ _
    obtain ⟨X6, h6⟩ := piece6 (n := n + 1) (fz := fz) (ob := ob5) (nx := nx2 + 10) (bw := bw) (bm := bm) (b7 := nx + 2) (.one (.yld lid)) (.one (.box bd 0)) (.one (.sl false ((pre ++ s :: r).map Samp.c))) (.one (.int .i64 ((pre ++ s :: r).length : Int))) (.one (.int .i64 (pre.length : Int))) s (momW d w s) ((f5 bw (by omega) jwm).trans b2) om5 ((f5 (nx + 2) (by omega) (by omega)).trans o7) k7 k8
    obtain ⟨ob6, hob6⟩ : ∃ o, o = (bif stopB (seeW d.guards w.ph w.cnt s).1 (momW d w s) s.speed then upd ob5 bm (.box [.bool false, .nils, .nils]) else ob5) := ⟨_, rfl⟩
    rw [← hob6] at h6
    have f6 : ∀ id, id < nx2 → id ≠ bm → ob6 id = ob2 id := fun id h h1 => by
      rw [hob6]
      cases stopB (seeW d.guards w.ph w.cnt s).1 (momW d w s) s.speed
      · exact f5 id h h1
      · rw [cond_true, upd_ne h1]; exact f5 id h h1
    have om6 : ob6 bm = some (.box (rawM d w s)) := by
      rw [hob6]
      unfold rawM stopW
      cases stopB (seeW d.guards w.ph w.cnt s).1 (momW d w s) s.speed
      · exact om5
      · exact upd_same _ _ _
    obtain ⟨r1, r2, r3, hrm⟩ := (rawM_mq d w s).cells
    have f6' : ∀ id, id < nx → id ≠ bw → id ≠ mid → id ≠ bm → ob6 id = ob id := fun id h h1 h2 h3 => (f6 id (by omega) h3).trans (f2 id h h1 h2)
    have hx6 := T.frame ob ob6 nx (nx2 + 10) out hx (by omega) fun id hid => by
      rcases hid with h | ⟨h, h'⟩
      · have := jo id h
        exact f6' id (by omega) (fun e => ow' (e ▸ h)) (fun e => oi' (e ▸ h)) (fun e => om' (e ▸ h))
      · exact f6' id h' (by omega) (by omega) (by omega)
    obtain ⟨ob7, nx7, hrnd, c1, c2, c5⟩ := T.step n (by omega) w s ob6 (nx2 + 10) out hx6 (by omega) (by rw [hout]; simp at hLmx; omega) hs hph' (SmQ.mono hS' (by omega))
    have e : rawA d w s = [.int .u8 ((seeW d.guards w.ph w.cnt s).1 : Int), r1, r2, r3] := by unfold rawA; rw [hrm]; rfl
    rw [e] at hrnd
    rw [hrm] at om6
    obtain ⟨X7, h7⟩ := piece7 (n := n + 1) (fz := fz) (ob := ob6) (nx := nx2 + 10) (lid := lid) (bw := bw) (bm := bm) (b7 := nx + 2) (.one (.box bd 0)) (.one (.sl false ((pre ++ s :: r).map Samp.c))) (.one (.int .i64 ((pre ++ s :: r).length : Int))) (.one (.int .i64 (pre.length : Int))) s (by omega) (by omega) (by omega) ((f6 bw (by omega) jwm).trans b2) om6 ((f6 (nx + 2) (by omega) (by omega)).trans o7) ob7 nx7 hrnd X6
    have wk : IntKind.i64.wrap ((pre.length + 1 : Nat) : Int) = ((pre.length + 1 : Nat) : Int) := wi64 (by simp at hlen; omega)
    have hI : evC (evF E (n + 1)) (n + 1) wkI ⟨env ((0, .one (.yld lid)) :: (1, .one (.box bd 0)) :: (4, .one (.box bw 0)) :: (5, .one (.box bm 0)) :: (13, .one (.sl false ((pre ++ s :: r).map Samp.c))) :: (14, .one (.int .i64 ((pre ++ s :: r).length : Int))) :: (15, .one (.int .i64 (pre.length : Int))) :: X7), ob7, fz, nx7⟩ = some (.nrm, ⟨env [(0, .one (.yld lid)), (1, .one (.box bd 0)), (4, .one (.box bw 0)), (5, .one (.box bm 0)), (13, .one (.sl false ((pre ++ s :: r).map Samp.c))), (14, .one (.int .i64 ((pre ++ s :: r).length : Int))), (15, .one (.int .i64 ((pre.length + 1 : Nat) : Int)))], ob7, fz, nx7⟩) := by
      unfold wkI Fn.wear_Device_walk_1_L0
      simp only [go_sem, add1, wk]
    have hst : evC (evF E (n + 1)) (n + 1) Fn.wear_Device_walk_1_L0 ⟨env ((0, .one (.yld lid)) :: (1, .one (.box bd 0)) :: (4, .one (.box bw 0)) :: (5, .one (.box bm 0)) :: (13, .one (.sl false ((pre ++ s :: r).map Samp.c))) :: (14, .one (.int .i64 ((pre ++ s :: r).length : Int))) :: (15, .one (.int .i64 (pre.length : Int))) :: X), ob, fz, nx⟩ = some (.nrm, ⟨env [(0, .one (.yld lid)), (1, .one (.box bd 0)), (4, .one (.box bw 0)), (5, .one (.box bm 0)), (13, .one (.sl false ((pre ++ s :: r).map Samp.c))), (14, .one (.int .i64 ((pre ++ s :: r).length : Int))), (15, .one (.int .i64 ((pre.length + 1 : Nat) : Int)))], ob7, fz, nx7⟩) := by
      rw [wk_eq]
      simp only [x_seq, hA, thenC_nrm, hC, x_block, h1, h2, h3, h4, h5, h6, h7, blkC_nrm, hI]
    have hpl : (pre ++ [s]).length = pre.length + 1 := by simp
    have hpa : pre ++ [s] ++ r = pre ++ s :: r := by simp
    rw [hpa, hpl] at k10
    obtain ⟨ob8, nx8, X8, g1, g2, g5⟩ := k10 ob7 nx7 es2 clk2 (out ++ [(w, s)]) [] (by omega) (by
      rw [c5 bd jd od', f6' bd (by omega) jdw jdi jdm, od]) (by
      rw [c5 bw jw ow', f6 bw (by omega) jwm, b2, hdc]; rfl) (by
      rw [c5 mid ji oi', f6 mid (by omega) jim]; exact b3) b4 (by
      rw [c5 bm jm om', om6, hrm]) c2 (by simp [hout]) M hM'
    refine ⟨ob8, nx8, X8, by rw [round_nrm hst]; exact g1, by omega, ?_⟩
    unfold stepsW
    simpa using g5
end Go.Ev
namespace Go.Ev
open Go.Dig
theorem OutB.shut {base nx : Nat} {ob0 ob : Nat → Option AObj} {x : AV} {es : List (List AV)} (h : OutB base ob nx x es) : OutB base (shut ob0 ob) nx x es := by
  rcases h with h | ⟨id, ver, h1, h2, h3, h4⟩
  · exact .inl h
  · exact .inr ⟨id, ver, h1, shut_rowk h2, h3, h4⟩
theorem wbound {n : Nat} (h : n < 2 ^ 20) : 2571 + 257 * n ≤ 2 ^ 29 := by
  have : 257 * (2 ^ 20) + 2571 ≤ 2 ^ 29 := by decide
  omega
def w0 : WSt := ⟨0, fun _ => 0, 0⟩
set_option maxRecDepth 100000 in
theorem walk1_ref (d : Dev) (hd : OkDev d) (l : List Samp) (hl : l.length < 2 ^ 20) (hs : ∀ s ∈ l, SmSamp s) {n0 Smax Lmax : Nat} {Own : Nat → Prop} {Acc : (Nat → Option AObj) → Nat → List (WSt × Samp) → Prop} (lid bd bl nx : Nat) (fz : Nat → Nat) (T : Taker d n0 (nx + 6) lid Smax Lmax fz Own Acc) (hS1 : 2571 + 257 * l.length ≤ Smax) (hS2 : Smax ≤ 2 ^ 29) (hLm : l.length ≤ Lmax) (hO : ∀ id, Own id → id < nx) (hbd : ¬ Own bd) (h2 : bd < nx) (h3 : bl < nx) : ∃ N, ∀ n, N ≤ n → ∀ (ob : Nat → Option AObj), ob bd = some (.box d.c) → ob bl = some (.box [.sl false (l.map Samp.c)]) → Acc ob nx [] →
    ∃ (ob' : Nat → Option AObj) (nx' : Nat), evF E (n + 1) (.fn Id.wear_Device_walk_1) [.one (.yld lid), .one (.box bd 0), .one (.box bl 0)] ⟨ob, fz, nx⟩ = some (.tup [], ⟨Ev.shut ob ob', fz, nx'⟩) ∧ nx ≤ nx' ∧ Acc ob' nx' (stepsW d w0 l) := by
  have hn : ∀ k, ¬ Own (nx + k) := fun k h => by have := hO _ h; omega
  obtain ⟨N, h⟩ := walk_loop d hd (bd := bd) (bw := nx + 3) (mid := nx + 1) (bm := nx + 5) (base := nx + 6) ⟨by omega, by omega, by omega, by omega, by omega, by omega, by omega, by omega, by omega, by omega, hbd, hn 3, hn 1, hn 5, fun id h => by have := hO _ h; omega⟩ fz T hS2 l [] w0 [.bool false, .nils, .nils] 2571 (.inr ⟨rfl, rfl⟩) (SmQ.mono SmQ.zero (by omega)) (Nat.le_refl _) hS1 (by decide) (fun k => by
    show 0 + l.length < 2 ^ 40
    exact Nat.lt_trans (by omega) (show 2 ^ 20 < 2 ^ 40 by decide)) hs (by simpa using hl) (by simpa using hLm)
  refine ⟨N + l.length + 1, fun n hn ob od ol hA => ?_⟩
  obtain ⟨t1, t2, t3, -, hdc⟩ := dev_cells d
  have n2 : ∀ k, (bd = nx + k) = False := fun k => by simp only [eq_iff_iff, iff_false]; omega
  have n3 : ∀ k, (bl = nx + k) = False := fun k => by simp only [eq_iff_iff, iff_false]; omega
  obtain ⟨ob1, hob1⟩ : ∃ o, o = upd (upd (upd ob (nx + 1) (.map [] 0)) (nx + 3) (.box (d.c ++ [.int .u8 0, .mp (nx + 1)]))) (nx + 5) (.box [.bool false, .nils, .nils]) := ⟨_, rfl⟩
  have f1 : ∀ id, id < nx → ob1 id = ob id := fun id hi => by rw [hob1, upd_ne (by omega), upd_ne (by omega), upd_ne (by omega)]
  obtain ⟨ob', nx', X', g1, g2, g5⟩ := h n (by omega) ob1 (nx + 6) [] 0 [] [] (Nat.le_refl _) ((f1 bd h2).trans od) (by rw [hob1, upd_ne (by omega)]; exact upd_same _ _ _) (by rw [hob1, upd_ne (by omega), upd_ne (by omega)]; exact upd_same _ _ _) Rep.nil (by rw [hob1]; exact upd_same _ _ _) (T.frame ob ob1 nx (nx + 6) [] hA (by omega) fun id hid => by
      rcases hid with h | h
      · exact f1 id (hO id h)
      · omega) rfl n (by omega)
  refine ⟨ob', nx', ?_, by omega, g5⟩
  rw [hob1] at g1
  rw [List.nil_append] at g1
  have z0 : (([] : List Samp).length : Int) = 0 := rfl
  rw [z0] at g1
  rw [hdc] at od g1
  simp only [List.cons_append, List.nil_append] at g1
  rw [evF_succ E_wear_Device_walk_1]
  have hlm : (l.map Samp.c).length = l.length := List.length_map _
  simp only [go_sem, Fn.wear_Device_walk_1, od, ol, n2, n3, hlm, Nat.add_assoc, g1]
theorem raws_steps (d : Dev) : ∀ (l : List Samp) (w : WSt), raws d w l = (stepsW d w l).map fun p => rawA d p.1 p.2
  | [], w => rfl
  | s :: r, w => by unfold raws stepsW; rw [raws_steps d r, List.map_cons]
def ActAcc (d : Dev) (L : List (Nat × SV)) (lid bo base : Nat) (ob : Nat → Option AObj) (nx : Nat) (out : List (WSt × Samp)) : Prop :=
  ob lid = some (.loop (actLoop L)) ∧ ∃ x, ob bo = some (.box [x]) ∧ OutB base ob nx x (out.map fun p => rawA d p.1 p.2)
theorem act_taker (d : Dev) {L : List (Nat × SV)} (lid bo base : Nat) (fz : Nat → Nat) (hL : env L 7 = .one (.box bo 0)) (h1 : lid < base) (h2 : bo < base) (hne : lid ≠ bo) : Taker d 0 base lid (2 ^ 29) (2 ^ 20) fz (fun id => id = lid ∨ id = bo) (ActAcc d L lid bo base) := by
  refine ⟨fun ob ob' nx nx' out h hn hf => ?_, fun n _ w s ob nx out h hb ho hs hph hm => ?_⟩
  · obtain ⟨a, x, b, c⟩ := h
    exact ⟨(hf lid (.inl (.inl rfl))).trans a, x, (hf bo (.inl (.inr rfl))).trans b, c.frame hn fun id q1 q2 => hf id (.inr ⟨q1, q2⟩)⟩
  · obtain ⟨a, x, b, c⟩ := h
    obtain ⟨r1, r2, r3, hrm⟩ := (rawM_mq d w s).cells
    obtain ⟨ob', nx', x', g1, g2, g3, g4, g5, g6⟩ := rnd_ref (n := n) (lid := lid) (bo := bo) (base := base) (nx := nx) (ob := ob) (fz := fz) (x := x) (es := out.map fun p => rawA d p.1 p.2) (L := L) (c0 := .int .u8 ((stepW d w s).ph : Int)) (m1 := r1) (m2 := r2) (m3 := r3) (.agg s.c) hL a b c h1 h2 hb hne (by rw [List.length_map]; exact ho)
    have e : rawA d w s = [.int .u8 ((stepW d w s).ph : Int), r1, r2, r3] := by unfold rawA; rw [hrm]
    refine ⟨ob', nx', by rw [e]; exact g1, g2, ⟨g3, x', g4, ?_⟩, fun id q1 q2 => g6 id q1 (fun e => q2 (.inl e)) (fun e => q2 (.inr e))⟩
    rw [List.map_append, List.map_cons, List.map_nil, e]
    exact g5
theorem evC_rangeF {F : Caller} {fuel : Nat} {g : Opd} {ps : List Nat} {asg body : ACode} {st : St} {f : FuncId} {first caps : List AV} {r : SV} {s : Sto} {l : ALoop} (hg : g.ev st.sl = .one (.fn f first caps)) (hc : F (.fn f) (first.map .one ++ [.one (.yld (st.nx + 1))] ++ caps.map .one) ⟨upd (upd st.ob st.nx .dfr) (st.nx + 1) (.loop ⟨st.sl, ps, asg, body, .ready, none⟩), st.fz, st.nx + 2⟩ = some (r, s)) (hl : s.ob (st.nx + 1) = some (.loop l)) (hb : l.st = .ready) :
    evC F fuel (.rangeF g ps asg body) st = some (l.pend.getD .nrm, ⟨st.sl, upd s.ob (st.nx + 1) (.loop { l with st := .exhausted }), s.fz, s.nx⟩) := by
  simp only [evC, hg, hc, hl, hb]
theorem walk_ref {n : Nat} (d : Dev) (l : List Samp) (ob : Nat → Option AObj) (fz : Nat → Nat) (nx : Nat) : evF E (n + 1) (.fn Id.wear_Device_walk) [.agg d.c, .one (.sl false (l.map Samp.c))] ⟨ob, fz, nx⟩ = some (.one (.fn Id.wear_Device_walk_1 [] [.box nx 0, .box (nx + 1) 0]), ⟨shut ob (upd (upd ob nx (.box d.c)) (nx + 1) (.box [.sl false (l.map Samp.c)])), fz, nx + 3⟩) := by
  rw [evF_succ E_wear_Device_walk]
  obtain ⟨t1, t2, t3, -, hdc⟩ := dev_cells d
  rw [hdc]
  simp only [go_sem, Fn.wear_Device_walk, List.mapM_cons, List.mapM_nil, Option.bind_eq_bind, Option.bind_some, Option.pure_def, SV.av]
def actC (a : Nat × Rat) : List AV := .int .u8 (a.1 : Int) :: qC a.2
theorem frz_rawA (d : Dev) (w : WSt) (s : Samp) (ob : Nat → Option AObj) (k : Nat) (fz : Nat → Nat) : mapFz (Ev.frz ob (k + 1)) fz (rawA d w s) = some (fz, actC ((stepW d w s).ph, (stepW d w s).m)) := by
  unfold rawA actC rawM stepW
  cases stopW d w s
  · simp only [cond_false]
    exact mapFz_id _ fun x hx => Canon.frz (by
      rcases List.mem_cons.1 hx with rfl | h
      · exact .int _ _
      · exact CanL.q _ x h) ob k fz
  · simp only [cond_true, qC_zero]
    rfl
theorem frz_raws (d : Dev) (ob : Nat → Option AObj) (k : Nat) (fz : Nat → Nat) : ∀ (l : List Samp) (w : WSt), mapFz (mapFz (Ev.frz ob (k + 1))) fz (raws d w l) = some (fz, (acts d w l).map actC)
  | [], w => rfl
  | s :: r, w => by
    unfold raws acts
    simp only [mapFz, frz_rawA, frz_raws d ob k fz r, List.map_cons]
theorem OutB.frzR {base nx : Nat} {ob : Nat → Option AObj} {x : AV} {es fs : List (List AV)} (h : OutB base ob nx x es) (hf : ∀ fz, mapFz (mapFz (Ev.frz ob 7)) fz es = some (fz, fs)) (hl : es = [] → fs = []) : ∃ g : (Nat → Nat) → (Nat → Nat), ∀ fz, frzS ob fz (.one x) = some (g fz, .one (.sl false fs)) := by
  rcases h with ⟨h1, rfl⟩ | ⟨id, ver, rfl, hid, _⟩
  · exact ⟨fun fz => fz, fun fz => by rw [hl h1]; rfl⟩
  · refine ⟨fun fz => raise fz id (0 + es.length), fun fz => ?_⟩
    have hb : Nat.ble (0 + es.length) es.length = true := by simp
    have h1 : Ev.frz ob DEPTH fz (.rsl id ver 4 0 es.length false) = some (raise fz id (0 + es.length), .sl false fs) := by
      rw [show DEPTH = 7 + 1 from rfl, frz_rsl, rowAt_of hid]
      simp only [hb, cond_true, List.drop_zero, List.take_length, hf]
    simp only [frzS, h1]
theorem mayI_ok {d : Dev} {l : List Samp} (h : mayI d l = 0) : rightD d = true := by
  unfold mayI errD at h
  by_cases hr : rightD d = true
  · exact hr
  · rw [if_neg hr] at h; simp at h
set_option maxRecDepth 100000 in
theorem Act_ends (d : Dev) (h : SmDev d) (l : List Samp) (hl : l.length < 2 ^ 20) (hs : ∀ s ∈ l, SmSamp s) : Ends Id.wear_Act [.agg d.c, .one (.sl false (l.map Samp.c))] (.tup [.one (.sl false (if mayI d l = 0 then (acts d w0 l).map actC else [])), .one (.int .i64 (mayI d l))]) := by
  obtain ⟨N1, k1⟩ := may_call d h l
  by_cases he : mayI d l = 0
  · have hd := rightD_ok h (mayI_ok he)
    obtain ⟨N2, k2⟩ := walk1_ref d hd l hl hs 8 4 5 9 (fun _ => 0) (act_taker d (L := [(7, .one (.box 3 0)), (18, .one (.fn Id.wear_Device_walk_1 [] [.box 4 0, .box 5 0]))]) 8 3 15 (fun _ => 0) rfl (by decide) (by decide) (by decide)) (wbound hl) (Nat.le_refl _) (by omega) (fun id h => by rcases h with rfl | rfl <;> decide) (by decide) (by decide) (by decide)
    refine .of (N1 + N2 + 3) fun {n} hn => ?_
    have k1 := k1 n (by omega)
    rw [if_pos he]
    rw [he] at k1 ⊢
    obtain ⟨m, rfl⟩ : ∃ m, n = m + 1 := ⟨n - 1, by omega⟩
    have k2 := k2 m (by omega)
    have k3 := walk_ref (n := m) d l
    rw [evV_succ E_wear_Act]
    obtain ⟨obA, hobA⟩ : ∃ o, o = Ev.shut (upd (upd ob0 0 (.box d.c)) 3 (.box [.nils])) (upd (upd (upd (upd ob0 0 (.box d.c)) 3 (.box [.nils])) 4 (.box d.c)) 5 (.box [.sl false (l.map Samp.c)])) := ⟨_, rfl⟩
    obtain ⟨obL, hobL⟩ : ∃ o, o = upd (upd obA 7 .dfr) 8 (.loop (actLoop [(7, .one (.box 3 0)), (18, .one (.fn Id.wear_Device_walk_1 [] [.box 4 0, .box 5 0]))])) := ⟨_, rfl⟩
    have a4 : obA 4 = some (.box d.c) := by rw [hobA]; exact shut_box (by rw [upd_ne (by decide)]; exact upd_same _ _ _)
    have a5 : obA 5 = some (.box [.sl false (l.map Samp.c)]) := by rw [hobA]; exact shut_box (upd_same _ _ _)
    have a3 : obA 3 = some (.box [.nils]) := by rw [hobA]; exact shut_box (by rw [upd_ne (by decide), upd_ne (by decide)]; exact upd_same _ _ _)
    obtain ⟨ob1', nx', q1, q2, q3', x', q4', q5'⟩ := k2 obL (by rw [hobL, upd_ne (by decide), upd_ne (by decide)]; exact a4) (by rw [hobL, upd_ne (by decide), upd_ne (by decide)]; exact a5) ⟨by rw [hobL]; exact upd_same _ _ _, .nils, by rw [hobL, upd_ne (by decide), upd_ne (by decide)]; exact a3, .inl ⟨rfl, rfl⟩⟩
    rw [← raws_steps] at q5'
    obtain ⟨ob', hob'⟩ : ∃ o, o = Ev.shut obL ob1' := ⟨_, rfl⟩
    have q3 := shut_loopk (ob0 := obL) q3'
    rw [← hob'] at q3
    have q4 : ob' 3 = some (.box [x']) := by rw [hob']; exact shut_box q4'
    have q5 : OutB 15 ob' nx' x' (raws d w0 l) := by rw [hob']; exact q5'.shut
    rw [← hob'] at q1
    obtain ⟨lp, hlp⟩ : ∃ lp : ALoop, lp = { actLoop [(7, .one (.box 3 0)), (18, .one (.fn Id.wear_Device_walk_1 [] [.box 4 0, .box 5 0]))] with st := .exhausted } := ⟨_, rfl⟩
    have hR : evC (evF E (m + 1)) (m + 1) (.rangeF (.t 18) [19, 20] actAsg Fn.wear_Act_R0) ⟨env [(7, .one (.box 3 0)), (18, .one (.fn Id.wear_Device_walk_1 [] [.box 4 0, .box 5 0]))], obA, fz0, 7⟩ = some (.nrm, ⟨env [(7, .one (.box 3 0)), (18, .one (.fn Id.wear_Device_walk_1 [] [.box 4 0, .box 5 0]))], upd ob' 8 (.loop lp), fz0, nx'⟩) := by
      rw [hlp]
      exact evC_rangeF (F := evF E (m + 1)) (fuel := m + 1) (g := .t 18) (ps := [19, 20]) (asg := actAsg) (body := Fn.wear_Act_R0) (st := ⟨env [(7, .one (.box 3 0)), (18, .one (.fn Id.wear_Device_walk_1 [] [.box 4 0, .box 5 0]))], obA, fz0, 7⟩) (first := []) (caps := [.box 4 0, .box 5 0]) rfl (by
        show evF E (m + 1) _ _ ⟨upd (upd obA 7 .dfr) 8 _, fz0, 9⟩ = _
        have e := q1
        rw [hobL] at e
        exact e) q3 rfl
    have k3 := k3 (upd (upd ob0 0 (.box d.c)) 3 (.box [.nils])) fz0 4
    rw [← hobA] at k3
    have hq5 : OutB 15 (upd ob' 8 (.loop lp)) nx' x' (raws d w0 l) := q5.frame (Nat.le_refl _) fun id h1 h2 => upd_ne (by omega)
    obtain ⟨g, hg⟩ := hq5.frzR (fun fz => frz_raws d _ 6 fz l w0) (fun h => by cases l with | nil => rfl | cons s r => unfold raws at h; cases h)
    unfold actAsg at hR
    have e8 : upd ob' 8 (.loop lp) 3 = some (.box [x']) := by rw [upd_ne (by decide)]; exact q4
    generalize upd ob' 8 (.loop lp) = obE at hR hg e8
    obtain ⟨t1, t2, t3, -, hdc⟩ := dev_cells d
    have hz : IntKind.i64.wrap 0 = 0 := rfl
    rw [hdc] at k1 k3 ⊢
    simp only [go_sem, Fn.wear_Act, k1, k3, bne_self_eq_false, hR, e8, hg]
  · refine .of (N1 + 1) fun {n} hn => ?_
    have k1 := k1 n (by omega)
    rw [if_neg he, evV_succ E_wear_Act]
    obtain ⟨t1, t2, t3, -, hdc⟩ := dev_cells d
    rw [hdc] at k1 ⊢
    generalize mayI d l = e at *
    have e1 : (e != 0) = true := by simp [he]
    simp only [go_sem, Fn.wear_Act, k1, e1]
end Go.Ev
namespace Go.Ev
def CLe (F F' : Caller) : Prop := ∀ c args s r, F c args s = some r → F' c args s = some r
theorem callV_mono {F F' : Caller} (h : CLe F F') {f : FuncId} {args : List SV} {ob : Nat → Option AObj} {fz : Nat → Nat} {e : Eff} (he : callV F f args ob fz = some e) : callV F' f args ob fz = some e := by
  unfold callV at he ⊢
  cases h1 : mapFz (frzS ob) fz args with
  | none => rw [h1] at he; cases he
  | some p =>
    obtain ⟨fz', args'⟩ := p
    rw [h1] at he
    simp only at he ⊢
    cases h2 : F (.fn f) args' Sto.empty with
    | none => rw [h2] at he; cases he
    | some q =>
      rw [h _ _ _ _ h2]
      rw [h2] at he
      exact he
theorem evOp_mono {F F' : Caller} (h : CLe F F') {d : Bool} {rb id : Nat} {st : St} {o : AOp} {e : Eff} (he : evOp F d rb id st o = some e) : evOp F' d rb id st o = some e := by
  cases o with
  | call byref f args =>
    simp only [evOp] at he ⊢
    cases byref with
    | true =>
      simp only [cond_true] at he ⊢
      cases h2 : F (.fn f) (args.map (·.ev st.sl)) ⟨st.ob, st.fz, st.nx⟩ with
      | none => rw [h2] at he; cases he
      | some q => rw [h _ _ _ _ h2]; rw [h2] at he; exact he
    | false => exact callV_mono h he
  | callv x args =>
    simp only [evOp] at he ⊢
    split at he
    · exact callV_mono h he
    · rename_i f first caps hne hx
      cases h2 : F (.fn f) (first.map .one ++ args.map (·.ev st.sl) ++ caps.map .one) ⟨st.ob, st.fz, st.nx⟩ with
      | none => rw [h2] at he; cases he
      | some q => rw [h _ _ _ _ h2]; rw [h2] at he; exact he
    · rename_i l hx
      cases h2 : F (.rnd l) (args.map (·.ev st.sl)) ⟨st.ob, st.fz, st.nx⟩ with
      | none => rw [h2] at he; cases he
      | some q => rw [h _ _ _ _ h2]; rw [h2] at he; exact he
    · cases he
  | _ => exact he
theorem evO_mono {F F' : Caller} (h : CLe F F') {d : Bool} {rb i : Nat} {st st' : St} {o : AOper} (he : evO F d rb i o st = some st') : evO F' d rb i o st = some st' := by
  unfold evO at he ⊢
  split at he
  · cases hl : limOk st.sl o.op o.lim with
    | false => rw [hl] at he; cases he
    | true =>
      rw [hl] at he
      simp only [cond_true] at he ⊢
      cases h2 : evOp F d rb (rb + i) st o.op with
      | none => rw [h2] at he; cases he
      | some q => rw [evOp_mono h h2]; rw [h2] at he; exact he
  · exact he
  · cases he
theorem evOps_mono {F F' : Caller} (h : CLe F F') {d : Bool} {rb : Nat} : ∀ {ops : List AOper} {i : Nat} {st st' : St}, evOps F d rb i ops st = some st' → evOps F' d rb i ops st = some st'
  | [], i, st, st', he => he
  | o :: r, i, st, st', he => by
    unfold evOps at he ⊢
    cases h2 : evO F d rb i o st with
    | none => rw [h2] at he; cases he
    | some q => rw [evO_mono h h2]; rw [h2] at he; exact evOps_mono h he
theorem loopN_mono {b b' : St → Option (Ex × St)} (h : ∀ st r, b st = some r → b' st = some r) : ∀ {k k' : Nat} {st : St} {r : Ex × St}, k ≤ k' → loopN b k st = some r → loopN b' k' st = some r
  | 0, k', st, r, hk, he => by cases he
  | k + 1, 0, st, r, hk, he => by omega
  | k + 1, k' + 1, st, r, hk, he => by
    unfold loopN at he ⊢
    cases h2 : b st with
    | none => rw [h2] at he; cases he
    | some q =>
      rw [h _ _ h2]
      rw [h2] at he
      obtain ⟨e, st'⟩ := q
      cases e with
      | nrm => exact loopN_mono h (by omega) he
      | ext id => exact he
      | ret => exact he
theorem evC_mono {F F' : Caller} (h : CLe F F') {fuel fuel' : Nat} (hf : fuel ≤ fuel') : ∀ (a : ACode) {st : St} {r : Ex × St}, evC F fuel a st = some r → evC F' fuel' a st = some r
  | .skip, st, r, he => he
  | .reg d ops na ks, st, r, he => by
    unfold evC at he ⊢
    cases h2 : evOps F d st.nx 0 ops { st with nx := st.nx + na } with
    | none => rw [h2] at he; cases he
    | some q => rw [evOps_mono h h2]; rw [h2] at he; exact he
  | .seq a b, st, r, he => by
    unfold evC at he ⊢
    cases h2 : evC F fuel a st with
    | none => rw [h2] at he; cases he
    | some q =>
      rw [evC_mono h hf a h2]
      rw [h2] at he
      obtain ⟨e, st'⟩ := q
      cases e with
      | nrm => exact evC_mono h hf b he
      | ext id => exact he
      | ret => exact he
  | .cond c a b, st, r, he => by
    unfold evC at he ⊢
    cases h2 : isBool (c.ev st.sl) with
    | none => rw [h2] at he; cases he
    | some t =>
      rw [h2] at he
      cases t with
      | true => exact evC_mono h hf a he
      | false => exact evC_mono h hf b he
  | .block id a, st, r, he => by
    unfold evC at he ⊢
    cases h2 : evC F fuel a st with
    | none => rw [h2] at he; cases he
    | some q => rw [evC_mono h hf a h2]; rw [h2] at he; exact he
  | .loop a, st, r, he => by
    unfold evC at he ⊢
    exact loopN_mono (fun st r hr => evC_mono h hf a hr) hf he
  | .exit id, st, r, he => he
  | .ret, st, r, he => he
  | .rangeF g ps asg body, st, r, he => by
    unfold evC at he ⊢
    split at he
    · rename_i f first caps hg
      cases h2 : F (.fn f) (first.map .one ++ [.one (.yld (st.nx + 1))] ++ caps.map .one) ⟨upd (upd st.ob st.nx .dfr) (st.nx + 1) (.loop ⟨st.sl, ps, asg, body, .ready, none⟩), st.fz, st.nx + 2⟩ with
      | none => rw [h2] at he; cases he
      | some q => rw [h _ _ _ _ h2]; rw [h2] at he; exact he
    · cases he
theorem evF_step (E : Env) : ∀ n, CLe (evF E n) (evF E (n + 1))
  | 0 => fun c args s r h => by cases c <;> cases h
  | n + 1 => fun c args s r h => by
    have ih := evF_step E n
    have hC : ∀ (a : ACode) (st : St) (r : Ex × St), evC (evF E n) n a st = some r → evC (evF E (n + 1)) (n + 1) a st = some r := fun a st r hr => evC_mono ih (Nat.le_succ n) a hr
    cases c with
    | fn f =>
      rw [evF] at h ⊢
      cases hE : E f with
      | none => rw [hE] at h; cases h
      | some fn =>
        rw [hE] at h
        simp only at h ⊢
        cases h2 : evC (evF E n) n fn.code { sl := env (ofArgs 0 args), ob := s.ob, fz := s.fz, nx := s.nx } with
        | none => rw [h2] at h; cases h
        | some q => rw [hC _ _ _ h2]; rw [h2] at h; exact h
    | rnd l =>
      rw [evF] at h ⊢
      split at h
      · rename_i lr hl
        cases hb : (Nat.beq args.length lr.ps.length && naOk lr.asg && naOk lr.body) with
        | false => rw [hb] at h; cases h
        | true =>
          rw [hb] at h
          simp only [cond_true] at h ⊢
          cases h2 : evC (evF E n) n lr.asg { sl := setPs lr.ps args lr.sl, ob := s.ob, fz := s.fz, nx := s.nx } with
          | none => rw [h2] at h; cases h
          | some q =>
            rw [hC _ _ _ h2]
            rw [h2] at h
            obtain ⟨e, st⟩ := q
            cases e with
            | ext id => cases h
            | ret => cases h
            | nrm =>
              simp only at h ⊢
              split at h
              · rename_i r1 hr1
                split at h
                · rename_i hst
                  cases h3 : evC (evF E n) n lr.body { st with ob := upd st.ob l (.loop { r1 with st := .busy }) } with
                  | none => rw [h3] at h; cases h
                  | some q => rw [hC _ _ _ h3]; rw [h3] at h; exact h
                · cases h
              · cases h
      · cases h
theorem evF_mono (E : Env) {n m : Nat} (h : n ≤ m) : CLe (evF E n) (evF E m) := by
  induction h with
  | refl => exact fun c args s r h => h
  | step _ ih => exact fun c args s r h => evF_step E _ c args s r (ih c args s r h)
theorem evV_mono {E : Env} {n m : Nat} (h : n ≤ m) {f : FuncId} {args : List SV} {r : SV} (he : evV E n f args = some r) : evV E m f args = some r := by
  unfold evV at he ⊢
  cases h2 : evF E n (.fn f) args Sto.empty with
  | none => rw [h2] at he; cases he
  | some q => rw [evF_mono E h _ _ _ _ h2]; rw [h2] at he; exact he
end Go.Ev
namespace Go.Ev
open Go.Dig
theorem Act_call (d : Dev) (h : SmDev d) (l : List Samp) (hl : l.length < 2 ^ 20) (hs : ∀ s ∈ l, SmSamp s) : Calling Id.wear_Act [.agg d.c, .one (.sl false (l.map Samp.c))] (.tup [.one (.sl false (if mayI d l = 0 then (acts d w0 l).map actC else [])), .one (.int .i64 (mayI d l))]) :=
  (Act_ends d h l hl hs).call (can2 (CanL.dev d).agg (.one _ (.sl _)))
theorem Leg.sm (g : Leg) (h1 : g.gates.length < 2 ^ 20) (h2 : g.curves.length < 2 ^ 20) (h2' : ∀ c ∈ g.curves, c.length < 2 ^ 20) (h3 : g.limits.length < 2 ^ 20) (hg : ∀ x ∈ g.gates, x.from_ < 256 ∧ x.to < 256) : SmDev g.d := by
  refine ⟨fun x hx => ?_, fun c hc p hp => ?_, fun p hp => ?_, Num.qS _, by unfold Leg.d; simpa using h1, by unfold Leg.d; simpa using h2, fun c hc => ?_, by unfold Leg.d; simpa using h3⟩
  · obtain ⟨y, hy, rfl⟩ := List.mem_map.1 hx
    exact ⟨⟨Beat.sm _, Beat.sm _⟩, (hg y hy).1, (hg y hy).2⟩
  · obtain ⟨y, hy, rfl⟩ := List.mem_map.1 hc
    obtain ⟨z, hz, rfl⟩ := List.mem_map.1 hp
    exact ⟨Num.qS _, Num.qS _⟩
  · obtain ⟨z, hz, rfl⟩ := List.mem_map.1 hp
    exact ⟨Num.qS _, Num.qS _⟩
  · obtain ⟨y, hy, rfl⟩ := List.mem_map.1 hc
    simpa using h2' y hy
theorem stepW_sm {d : Dev} (hd : OkDev d) {w : WSt} {s : Samp} {S : Nat} (hS : SmQ S w.m) (hS1 : 2571 ≤ S) (hph : w.ph < 5) (hs : SmSamp s) : SmQ (S + 257) (stepW d w s).m := by
  have hph' : (seeW d.guards w.ph w.cnt s).1 < 5 := seeW_ph _ _ _ _ 5 hph hd.to
  have gc : d.curves[(seeW d.guards w.ph w.cnt s).1]? = some (curveAt d (seeW d.guards w.ph w.cnt s).1) := by
    unfold curveAt; rw [List.getElem?_eq_getElem (by rw [hd.c5]; exact hph')]; rfl
  have gl : d.limits[(seeW d.guards w.ph w.cnt s).1]? = some (ptAt d.limits (seeW d.guards w.ph w.cnt s).1) := by
    unfold ptAt; rw [List.getElem?_eq_getElem (by rw [hd.l5]; exact hph')]; rfl
  have hcm := List.mem_of_getElem? gc
  have sP := hd.sm.ls _ (List.mem_of_getElem? gl)
  obtain ⟨i1, i2⟩ := hd.cr _ hcm
  have sat := (at_ends _ s.angle (hd.sm.cll _ hcm) i2 i1 (hd.sm.cs _ hcm) hs.angle).2
  have sr1 := SmQ.clamp (SmQ.mono sat (show 2571 ≤ S + 256 + 1 by omega)) (SmQ.sub hS sP.z) (SmQ.add hS sP.z)
  have sr2 := SmQ.clamp sr1 (SmQ.mono (SmQ.neg sP.x) (show 256 ≤ S + 256 + 1 by omega)) (SmQ.mono sP.x (show 256 ≤ S + 256 + 1 by omega))
  unfold stepW
  cases stopW d w s
  · exact sr2
  · exact SmQ.mono SmQ.zero (by omega)
theorem stepW_ph {d : Dev} (hd : OkDev d) {w : WSt} {s : Samp} (hph : w.ph < 5) : (stepW d w s).ph < 5 := seeW_ph _ _ _ _ 5 hph hd.to
theorem acts_sm {d : Dev} (hd : OkDev d) : ∀ (l : List Samp) (w : WSt) (S : Nat), SmQ S w.m → 2571 ≤ S → w.ph < 5 → (∀ s ∈ l, SmSamp s) → ∀ a ∈ acts d w l, SmQ (S + 257 * l.length) a.2 ∧ a.1 < 5
  | [], w, S, hS, hS1, hph, hs, a, ha => by unfold acts at ha; cases ha
  | s :: r, w, S, hS, hS1, hph, hs, a, ha => by
    have h1 := stepW_sm hd hS hS1 hph (hs s (by simp))
    have h2 := stepW_ph hd (s := s) hph
    unfold acts at ha
    rcases List.mem_cons.1 ha with rfl | ha
    · exact ⟨SmQ.mono h1 (by rw [List.length_cons]; omega), h2⟩
    · have := acts_sm hd r (stepW d w s) (S + 257) h1 (by omega) h2 (fun t ht => hs t (by simp [ht])) a ha
      exact ⟨SmQ.mono this.1 (by rw [List.length_cons]; omega), this.2⟩
theorem acts_sm0 {d : Dev} (hd : OkDev d) (l : List Samp) (hs : ∀ s ∈ l, SmSamp s) : ∀ a ∈ acts d w0 l, SmQ (2571 + 257 * l.length) a.2 ∧ a.1 < 5 :=
  acts_sm hd l w0 2571 (SmQ.mono SmQ.zero (by omega)) (Nat.le_refl _) (by decide) hs
theorem leg_cells (g : Leg) : ∃ a b c, g.step.c = [a, b, c] ∧ g.c = [.sl false (g.gates.map Gate.c), .sl false (g.curves.map fun s => [.sl false (s.map Spot.c)]), .sl false (g.limits.map Spot.c), a, b, c] := ⟨_, _, _, rfl, rfl⟩
theorem devr_cells (d : Dev) : ∃ a b c e, d.r = [.sl false (d.guards.map Guard.r), .sl false (d.curves.map fun s => [.sl false (s.map Pt.r)]), .sl false (d.limits.map Pt.r), a, b, c, e] := ⟨_, _, _, _, rfl⟩
theorem acts_len (d : Dev) : ∀ (l : List Samp) (w : WSt), (acts d w l).length = l.length
  | [], w => rfl
  | s :: r, w => by unfold acts; rw [List.length_cons, List.length_cons, acts_len d r]
theorem mayI_eq {d : Dev} {l : List Samp} (h : errD d = 0) (hl : l.length ≤ 1024) : mayI d l = 0 := by
  unfold mayI; rw [if_pos h, if_pos hl]
end Go.Ev
namespace Go.Ev
open Go.Dig
def FzS (x y : SV) : Prop := ∀ (ob : Nat → Option AObj) (fz : Nat → Nat), frzS ob fz x = some (fz, y)
theorem FzS.one {x y : SV} (h : FzS x y) : ∀ (ob : Nat → Option AObj) (fz : Nat → Nat), mapFz (frzS ob) fz [x] = some (fz, [y]) := fun ob fz => by simp only [mapFz, h ob fz]
theorem FzS.two {x y x' y' : SV} (h : FzS x y) (h' : FzS x' y') : ∀ (ob : Nat → Option AObj) (fz : Nat → Nat), mapFz (frzS ob) fz [x, x'] = some (fz, [y, y']) := fun ob fz => by simp only [mapFz, h ob fz, h' ob fz]
theorem FzS.three {x y x' y' x2 y2 : SV} (h : FzS x y) (h' : FzS x' y') (h2 : FzS x2 y2) : ∀ (ob : Nat → Option AObj) (fz : Nat → Nat), mapFz (frzS ob) fz [x, x', x2] = some (fz, [y, y', y2]) := fun ob fz => by simp only [mapFz, h ob fz, h' ob fz, h2 ob fz]
theorem CanS.fzs {x : SV} (h : CanS x) : FzS x x := fun ob fz => by
  cases h with
  | one v h =>
    have e : Ev.frz ob DEPTH fz v = some (fz, v) := h.frz ob 7 fz
    simp only [frzS, e]
  | agg cs h =>
    have e : mapFz (Ev.frz ob DEPTH) fz cs = some (fz, cs) := mapFz_id cs fun x hx => (h x hx).frz ob 7 fz
    simp only [frzS, e]
theorem MQ.fzs {m : Rat} {mc : List AV} (h : MQ m mc) : FzS (.agg mc) (.agg (qC m)) := by
  rcases h with rfl | ⟨rfl, rfl⟩
  · exact (canS_q _).fzs
  · intro ob fz; rw [qC_zero]; exact frzS_q0 _ _ _
theorem rightD_lim {d : Dev} (hr : rightD d = true) : ∀ p ∈ d.limits, 0 ≤ p.x ∧ 0 ≤ p.z := by
  intro p hp
  unfold rightD at hr
  simp only [Bool.and_eq_true, Bool.not_eq_true'] at hr
  obtain ⟨-, -, -, h5⟩ := hr
  have hb := List.any_eq_false.1 h5 p hp
  unfold badL at hb
  simp only [Bool.or_eq_true, decide_eq_true_eq, not_or, Int.not_lt] at hb
  have h1 := signI_ge p.x
  have h2 := signI_ge p.z
  exact ⟨by rw [← h1]; exact hb.1, by rw [← h2]; exact hb.2⟩
end Go.Ev
namespace Go.Ev
open Go.Dig
def mirS (s : Samp) : Samp := ⟨s.load, -s.angle, -s.speed⟩
def mirB (b : Bx) : Bx := ⟨⟨b.low.load, -b.high.angle, -b.high.speed⟩, ⟨b.high.load, -b.low.angle, -b.low.speed⟩⟩
def mirG (g : Guard) : Guard := ⟨g.from_, g.to, mirB g.box, g.hold⟩
def mirD (d : Dev) : Dev := ⟨d.guards.map mirG, d.curves.map mirC, d.limits, d.step⟩
theorem amongB_iff' (q lo hi : Rat) : (amongB q lo hi = true) ↔ (lo ≤ q ∧ q ≤ hi) := by
  unfold amongB
  simp only [Bool.and_eq_true, decide_eq_true_eq, cmpQ_ge, cmpQ_le]
theorem amongB_neg (q lo hi : Rat) : amongB (-q) (-hi) (-lo) = amongB q lo hi := by
  rw [Bool.eq_iff_iff, amongB_iff', amongB_iff']
  constructor <;> (intro h; constructor <;> grind)
theorem has_mir (b : Bx) (s : Samp) : hasBx (mirB b) (mirS s) = hasBx b s := by
  unfold hasBx mirB mirS
  simp only [amongB_neg]
theorem cmp_neg (a b : Rat) : (cmpQ (-b) (-a) ≤ 0) = (cmpQ a b ≤ 0) := by
  rw [cmpQ_le, cmpQ_le, eq_iff_iff]; constructor <;> (intro h; grind)
theorem right_mir (b : Bx) : rightBx (mirB b) = rightBx b := by
  unfold rightBx mirB
  simp only [cmp_neg]
theorem seeL_mir (ph : Nat) (s : Samp) : ∀ (l : List Guard) (i : Nat) (c : Nat → Nat) (f : Option Nat), seeL ph (mirS s) (l.map mirG) i c f = seeL ph s l i c f
  | [], i, c, f => rfl
  | g :: r, i, c, f => by
    rw [List.map_cons, seeL, seeL]
    have e : seeS ph (mirS s) (mirG g) i c f = seeS ph s g i c f := by
      have h := has_mir g.box s
      unfold seeS mirG
      simp only [h]
    rw [e]
    exact seeL_mir ph s r _ _ _
theorem seeW_mir (gs : List Guard) (ph : Nat) (c : Nat → Nat) (s : Samp) : seeW (gs.map mirG) ph c (mirS s) = seeW gs ph c s := by
  unfold seeW
  rw [seeL_mir]
  cases (seeL ph s gs 0 c none).2 with
  | none => rfl
  | some k =>
    simp only [List.getElem?_map]
    cases gs[k]? <;> rfl
theorem clamp_neg (q lo hi : Rat) (h : lo ≤ hi) : clampQ (-q) (-hi) (-lo) = -clampQ q lo hi := by
  have h1 := clampQ_mem q lo hi h
  have h2 := clampQ_mem (-q) (-hi) (-lo) (by grind)
  generalize clampQ q lo hi = a at *
  generalize clampQ (-q) (-hi) (-lo) = b at *
  grind
def mirW (w : WSt) : WSt := ⟨w.ph, w.cnt, -w.m⟩
theorem curveAt_mir (d : Dev) (ph : Nat) : curveAt (mirD d) ph = mirC (curveAt d ph) := by
  unfold curveAt mirD
  simp only [List.getElem?_map]
  cases d.curves[ph]? <;> rfl
theorem stepW_mir {d : Dev} (hd : OkDev d) (hl : ∀ p ∈ d.limits, 0 ≤ p.x ∧ 0 ≤ p.z) (w : WSt) (s : Samp) (hph : w.ph < 5) : stepW (mirD d) (mirW w) (mirS s) = mirW (stepW d w s) := by
  have hph' : (seeW d.guards w.ph w.cnt s).1 < 5 := seeW_ph _ _ _ _ 5 hph hd.to
  have gl : d.limits[(seeW d.guards w.ph w.cnt s).1]? = some (ptAt d.limits (seeW d.guards w.ph w.cnt s).1) := by
    unfold ptAt; rw [List.getElem?_eq_getElem (by rw [hd.l5]; exact hph')]; rfl
  have gc : d.curves[(seeW d.guards w.ph w.cnt s).1]? = some (curveAt d (seeW d.guards w.ph w.cnt s).1) := by
    unfold curveAt; rw [List.getElem?_eq_getElem (by rw [hd.c5]; exact hph')]; rfl
  obtain ⟨hx, hz⟩ := hl _ (List.mem_of_getElem? gl)
  obtain ⟨i1, i2⟩ := hd.cr _ (List.mem_of_getElem? gc)
  have hs : seeW (mirD d).guards (mirW w).ph (mirW w).cnt (mirS s) = seeW d.guards w.ph w.cnt s := seeW_mir _ _ _ _
  have hm : momW (mirD d) (mirW w) (mirS s) = -momW d w s := by
    unfold momW
    rw [hs, curveAt_mir]
    have e1 : (mirS s).angle = -s.angle := rfl
    have e2 : (mirD d).limits = d.limits := rfl
    have e3 : (mirW w).m = -w.m := rfl
    rw [e1, e2, e3, atQ_mirror i1 i2]
    generalize (seeW d.guards w.ph w.cnt s).1 = ph at *
    generalize ptAt d.limits ph = P at *
    generalize atQ (curveAt d ph) s.angle = a
    have c1 : clampQ (-a) (-w.m - P.z) (-w.m + P.z) = -clampQ a (w.m - P.z) (w.m + P.z) := by
      rw [← clamp_neg _ _ _ (by grind)]
      congr 1 <;> grind
    rw [c1]
    generalize clampQ a (w.m - P.z) (w.m + P.z) = b
    have c2 := clamp_neg b (-P.x) P.x (by grind)
    rw [show -(-P.x) = P.x by grind] at c2
    exact c2
  have hst : stopW (mirD d) (mirW w) (mirS s) = stopW d w s := by
    unfold stopW stopB
    rw [hs, hm]
    have e1 : (mirS s).speed = -s.speed := rfl
    rw [e1, show -momW d w s * -s.speed = momW d w s * s.speed by grind]
  unfold stepW
  rw [hs, hst, hm]
  unfold mirW
  cases stopW d w s
  · rfl
  · simp only [cond_true]; congr 1
theorem acts_mir {d : Dev} (hd : OkDev d) (hl : ∀ p ∈ d.limits, 0 ≤ p.x ∧ 0 ≤ p.z) : ∀ (l : List Samp) (w : WSt), w.ph < 5 → acts (mirD d) (mirW w) (l.map mirS) = (acts d w l).map fun a => (a.1, -a.2)
  | [], w, h => rfl
  | s :: r, w, h => by
    rw [List.map_cons, acts, acts, List.map_cons, stepW_mir hd hl w s h, acts_mir hd hl r _ (stepW_ph hd h)]
    rfl
theorem acts_mir0 {d : Dev} (hd : OkDev d) (hl : ∀ p ∈ d.limits, 0 ≤ p.x ∧ 0 ≤ p.z) (l : List Samp) : acts (mirD d) w0 (l.map mirS) = (acts d w0 l).map fun a => (a.1, -a.2) := by
  have e : mirW w0 = w0 := rfl
  rw [← acts_mir hd hl l w0 (by decide), e]
theorem mirC_mirC (l : List Pt) : mirC (mirC l) = l := by
  unfold mirC
  rw [List.map_reverse, List.reverse_reverse, List.map_map]
  have : ((fun p : Pt => (⟨-p.x, -p.z⟩ : Pt)) ∘ fun p : Pt => (⟨-p.x, -p.z⟩ : Pt)) = id := by
    funext p; simp
  rw [this, List.map_id]
theorem mirB_mirB (b : Bx) : mirB (mirB b) = b := by unfold mirB; simp
theorem mirD_mirD (d : Dev) : mirD (mirD d) = d := by
  unfold mirD
  have e1 : (mirG ∘ mirG) = id := by funext g; unfold mirG; simp [mirB_mirB]
  have e2 : (mirC ∘ mirC) = id := by funext g; simp [mirC_mirC]
  simp only [List.map_map, e1, e2, List.map_id]
theorem rightD_mir {d : Dev} (h : rightD d = true) : rightD (mirD d) = true := by
  have eg : ∀ g, badG (mirG g) = badG g := fun g => by
    unfold badG mirG
    simp only [right_mir]
  have ec : ∀ c : List Pt, badC c = false → badC (mirC c) = false := fun c hc => by
    unfold badC rightC at *
    simp only [Bool.not_eq_false', Bool.and_eq_true] at *
    exact ⟨mirC_inc hc.1, by rw [mirC_len]; exact hc.2.1, by rw [mirC_len]; exact hc.2.2⟩
  unfold rightD at *
  simp only [Bool.and_eq_true, Bool.not_eq_true'] at *
  obtain ⟨h1, h2, h3, h4⟩ := h
  refine ⟨by unfold mirD; simpa using h1, ?_, ?_, h4⟩
  · rw [List.any_eq_false] at *
    intro g hg
    obtain ⟨g', hg', rfl⟩ := List.mem_map.1 hg
    rw [eg]; exact h2 g' hg'
  · rw [List.any_eq_false] at *
    intro c hc
    obtain ⟨c', hc', rfl⟩ := List.mem_map.1 hc
    have := h3 c' hc'
    rw [Bool.not_eq_true] at *
    exact ec c' this
theorem SmSamp.mir {s : Samp} (h : SmSamp s) : SmSamp (mirS s) := ⟨h.load, SmQ.neg h.angle, SmQ.neg h.speed⟩
theorem mirD_sm {d : Dev} (h : SmDev d) : SmDev (mirD d) := by
  refine ⟨fun g hg => ?_, fun c hc p hp => ?_, h.ls, h.st, by unfold mirD; simpa using h.gl, by unfold mirD; simpa using h.cl, fun c hc => ?_, h.ll⟩
  · obtain ⟨g', hg', rfl⟩ := List.mem_map.1 hg
    have k := h.gs g' hg'
    exact ⟨⟨⟨k.box.low.load, SmQ.neg k.box.high.angle, SmQ.neg k.box.high.speed⟩, ⟨k.box.high.load, SmQ.neg k.box.low.angle, SmQ.neg k.box.low.speed⟩⟩, k.f, k.t⟩
  · obtain ⟨c', hc', rfl⟩ := List.mem_map.1 hc
    unfold mirC at hp
    rw [List.mem_reverse] at hp
    obtain ⟨p', hp', rfl⟩ := List.mem_map.1 hp
    have k := h.cs c' hc' p' hp'
    exact ⟨SmQ.neg k.x, SmQ.neg k.z⟩
  · obtain ⟨c', hc', rfl⟩ := List.mem_map.1 hc
    rw [mirC_len]; exact h.cll c' hc'
end Go.Ev
namespace Go.Ev
open Go.Dig
structure Note where
  ph : Nat
  beat : Beat
  mom : Num
structure Rcd where
  ph : Nat
  s : Samp
  m : Rat
def Note.c (x : Note) : List AV := [.int .u8 (x.ph : Int)] ++ x.beat.c ++ x.mom.c
def Rcd.c (x : Rcd) : List AV := [.int .u8 (x.ph : Int)] ++ x.s.c ++ qC x.m
def Rcd.r (x : Rcd) : List AV := [.int .u8 (x.ph : Int)] ++ x.s.r ++ rC x.m
def Note.q (x : Note) : Rcd := ⟨x.ph, x.beat.s, x.mom.q⟩
section
variable {fz : Nat → Nat}
end
end Go.Ev
namespace Go.Ev
open Go.Dig
theorem bx_cells (b : Bx) (a1 a2 a3 a4 a5 a6 a7 a8 a9 b1 b2 b3 b4 b5 b6 b7 b8 b9 : AV) (h1 : qC b.low.load = [a1, a2, a3]) (h2 : qC b.low.angle = [a4, a5, a6]) (h3 : qC b.low.speed = [a7, a8, a9]) (h4 : qC b.high.load = [b1, b2, b3]) (h5 : qC b.high.angle = [b4, b5, b6]) (h6 : qC b.high.speed = [b7, b8, b9]) :
    b.c = [a1, a2, a3, a4, a5, a6, a7, a8, a9, b1, b2, b3, b4, b5, b6, b7, b8, b9] := by
  unfold Bx.c Samp.c
  rw [h1, h2, h3, h4, h5, h6]
  rfl
theorem samp_cells' (s : Samp) (a1 a2 a3 a4 a5 a6 a7 a8 a9 : AV) (h1 : qC s.load = [a1, a2, a3]) (h2 : qC s.angle = [a4, a5, a6]) (h3 : qC s.speed = [a7, a8, a9]) : s.c = [a1, a2, a3, a4, a5, a6, a7, a8, a9] := by
  unfold Samp.c
  rw [h1, h2, h3]
  rfl
end Go.Ev
namespace Go.Ev
open Go.Dig
theorem turned_ends (s : Samp) : Ends Id.wear_Sample_turned [.agg s.c] (.agg (mirS s).c) := by
  obtain ⟨N1, k1⟩ := Neg_call s.angle
  obtain ⟨N2, k2⟩ := Neg_call s.speed
  refine .of (N1 + N2) fun {n} hn => ?_
  have k1 := k1 n (by omega)
  have k2 := k2 n (by omega)
  obtain ⟨s0, s1, s2, e1, f0, f1, f2⟩ := qC_cells s.load
  obtain ⟨s3, s4, s5, e2, -, -, -⟩ := qC_cells s.angle
  obtain ⟨s6, s7, s8, e3, -, -, -⟩ := qC_cells s.speed
  obtain ⟨t3, t4, t5, e5, f3, f4, f5⟩ := qC_cells (-s.angle)
  obtain ⟨t6, t7, t8, e6, f6, f7, f8⟩ := qC_cells (-s.speed)
  have es := samp_cells' s _ _ _ _ _ _ _ _ _ e1 e2 e3
  have em := samp_cells' (mirS s) _ _ _ _ _ _ _ _ _ e1 e5 e6
  rw [e2, e5] at k1
  rw [e3, e6] at k2
  rw [es, em, evV_succ E_wear_Sample_turned]
  unfold Fz at *
  simp only [go_sem, Fn.wear_Sample_turned, k1, k2, frzS, f0, f1, f2, f3, f4, f5, f6, f7, f8]
theorem turned_call (s : Samp) : Calling Id.wear_Sample_turned [.agg s.c] (.agg (mirS s).c) := (turned_ends s).call (can1' (.samp s))
theorem cloneL_ends (l : List Pt) (h0 : l ≠ []) (hl : l.length < 2 ^ 20) : Ends Id.slices_Clone_wear_Limit_wear_Limit [.one (.sl false (l.map Pt.c))] (.one (.sl false (l.map Pt.c))) := by
  refine .of 0 fun {n} hn => ?_
  rw [evV_succ E_slices_Clone_wear_Limit_wear_Limit]
  obtain ⟨p, r, rfl⟩ : ∃ p r, l = p :: r := by
    cases l with
    | nil => exact absurd rfl h0
    | cons p r => exact ⟨p, r, rfl⟩
  have okz : okSz 6 ((p :: r).map Pt.c) = true := okSz_map pt_len _
  have hlen : ((p :: r).map Pt.c).length = r.length + 1 := by simp
  have hc : CanonEs ((p :: r).map Pt.c) := canonEs_map CanL.pt _
  have w1 : (r.length + 1) * 112 ≤ 140737488355328 := by simp only [List.length_cons] at hl; omega
  rw [List.map_cons] at okz hlen hc ⊢
  have hf := fun fz => frzS_row (ob := upd ob0 0 (.row 6 (Pt.c p :: r.map Pt.c) 1)) (id := 0) (ver := 1) (sz := 6) (z := 6) (lo := 0) (len := r.length + 1) (full := false) (es := Pt.c p :: r.map Pt.c) fz rowAt_upd (by rw [hlen]; omega) hc
  simp only [List.drop_zero, Nat.zero_add] at hf
  have tk : (Pt.c p :: r.map Pt.c).take (r.length + 1) = Pt.c p :: r.map Pt.c := by rw [← hlen, List.take_length]
  rw [tk] at hf
  simp only [go_sem, Fn.slices_Clone_wear_Limit_wear_Limit, okz, ROOM, List.length_map, w1, hf]
theorem cloneL_call (l : List Pt) (h0 : l ≠ []) (hl : l.length < 2 ^ 20) : Calling Id.slices_Clone_wear_Limit_wear_Limit [.one (.sl false (l.map Pt.c))] (.one (.sl false (l.map Pt.c))) := (cloneL_ends l h0 hl).call (can1 (.one _ (.sl _)))
theorem mirG_cells (g : Guard) (a b : AV) (l0 l1 l2 l3 l4 l5 l6 l7 l8 h0 h1 h2 h3 h4 h5 h6 h7 h8 : AV) (e1 : qC (mirG g).box.low.load = [l0, l1, l2]) (e2 : qC (mirG g).box.low.angle = [l3, l4, l5]) (e3 : qC (mirG g).box.low.speed = [l6, l7, l8]) (e4 : qC (mirG g).box.high.load = [h0, h1, h2]) (e5 : qC (mirG g).box.high.angle = [h3, h4, h5]) (e6 : qC (mirG g).box.high.speed = [h6, h7, h8]) :
    (mirG g).c = [.int .u8 (g.from_ : Int), .int .u8 (g.to : Int), l0, l1, l2, l3, l4, l5, l6, l7, l8, h0, h1, h2, h3, h4, h5, h6, h7, h8, .int .i64 g.hold] := by
  have := bx_cells (mirG g).box _ _ _ _ _ _ _ _ _ _ _ _ _ _ _ _ _ _ e1 e2 e3 e4 e5 e6
  unfold Guard.c
  rw [this]
  rfl
section
variable {fz : Nat → Nat}
set_option maxRecDepth 100000 in
theorem mir_round0 {n nx i b5 : Nat} {ob : Nat → Option AObj} (l : List Guard) (g : Guard) (gd : l[i]? = some g) (hil : i < l.length) (hl : l.length < 2 ^ 20) (h5 : b5 < nx) (v c1 c2 c3 c4 c5 : AV) (o5 : ob b5 = some (.box [v, c1, c2, c3, c4, c5])) (es : List (List AV)) (hv : OutE 21 ob nx v es) (hes : es.length < 2 ^ 20) (y1 y2 : SV)
    (k1 : ∀ (ob : Nat → Option AObj) (fz : Nat → Nat), callV (evF E n) Id.wear_Sample_turned [.agg g.box.low.c] ob fz = some (.fzd fz (.agg (mirS g.box.low).c)))
    (k2 : ∀ (ob : Nat → Option AObj) (fz : Nat → Nat), callV (evF E n) Id.wear_Sample_turned [.agg g.box.high.c] ob fz = some (.fzd fz (.agg (mirS g.box.high).c))) (X : List (Nat × SV)) :
    ∃ ob' nx' v', evC (evF E n) n Fn.wear_Mirror_L0 ⟨env ((1, y1) :: (2, y2) :: (5, .one (.box b5 0)) :: (28, .one (.sl false (l.map Guard.c))) :: (29, .one (.int .i64 (l.length : Int))) :: (30, .one (.int .i64 (i : Int))) :: X), ob, fz, nx⟩ =
      some (.nrm, ⟨env [(1, y1), (2, y2), (5, .one (.box b5 0)), (28, .one (.sl false (l.map Guard.c))), (29, .one (.int .i64 (l.length : Int))), (30, .one (.int .i64 ((i + 1 : Nat) : Int)))], ob', fz, nx'⟩) ∧ nx ≤ nx' ∧ ob' b5 = some (.box [v', c1, c2, c3, c4, c5]) ∧ OutE 21 ob' nx' v' (es ++ [(mirG g).c]) ∧ ∀ id cs, id < nx → id ≠ b5 → ob id = some (.box cs) → ob' id = some (.box cs) := by
  have h1 : (((i : Nat) : Int) < ((l.length : Nat) : Int)) = True := by simp; omega
  have wk : IntKind.i64.wrap ((i + 1 : Nat) : Int) = ((i + 1 : Nat) : Int) := wi64 (by omega)
  have okz : okSz 21 (l.map Guard.c) = true := okSz_map (f := Guard.c) (k := 21) (fun _ => rfl) l
  have ge : (l.map Guard.c)[i]? = some g.c := by rw [List.getElem?_map, gd]; rfl
  obtain ⟨l0, l1, l2, e1, -, -, -⟩ := qC_cells g.box.low.load
  obtain ⟨l3, l4, l5, e2, -, -, -⟩ := qC_cells g.box.low.angle
  obtain ⟨l6, l7, l8, e3, -, -, -⟩ := qC_cells g.box.low.speed
  obtain ⟨u0, u1, u2, e4, -, -, -⟩ := qC_cells g.box.high.load
  obtain ⟨u3, u4, u5, e5, -, -, -⟩ := qC_cells g.box.high.angle
  obtain ⟨u6, u7, u8, e6, -, -, -⟩ := qC_cells g.box.high.speed
  obtain ⟨m3, m4, m5, e7, -, -, -⟩ := qC_cells (-g.box.low.angle)
  obtain ⟨m6, m7, m8, e8, -, -, -⟩ := qC_cells (-g.box.low.speed)
  obtain ⟨n3, n4, n5, e9, -, -, -⟩ := qC_cells (-g.box.high.angle)
  obtain ⟨n6, n7, n8, e10, -, -, -⟩ := qC_cells (-g.box.high.speed)
  have s1 := samp_cells' g.box.low _ _ _ _ _ _ _ _ _ e1 e2 e3
  have s2 := samp_cells' g.box.high _ _ _ _ _ _ _ _ _ e4 e5 e6
  have s3 := samp_cells' (mirS g.box.low) _ _ _ _ _ _ _ _ _ e1 e7 e8
  have s4 := samp_cells' (mirS g.box.high) _ _ _ _ _ _ _ _ _ e4 e9 e10
  have eg : g.c = [.int .u8 (g.from_ : Int), .int .u8 (g.to : Int), l0, l1, l2, l3, l4, l5, l6, l7, l8, u0, u1, u2, u3, u4, u5, u6, u7, u8, .int .i64 g.hold] := by
    have := bx_cells g.box _ _ _ _ _ _ _ _ _ _ _ _ _ _ _ _ _ _ e1 e2 e3 e4 e5 e6
    unfold Guard.c
    rw [this]; rfl
  have em := mirG_cells g .nils .nils l0 l1 l2 n3 n4 n5 n6 n7 n8 u0 u1 u2 m3 m4 m5 m6 m7 m8 e1 e9 e10 e4 e7 e8
  rw [s1, s3] at k1
  rw [s2, s4] at k2
  rw [eg] at ge
  rw [em]
  have nxa : ∀ a b : Nat, nx + a + b = nx + (a + b) := fun a b => Nat.add_assoc nx a b
  have p5 : ∀ k, (b5 = nx + k) = False := fun k => by simp only [eq_iff_iff, iff_false]; omega
  have p5' : ∀ k, (nx + k = b5) = False := fun k => by simp only [eq_iff_iff, iff_false]; omega
  obtain ⟨r, hr0⟩ : ∃ r, evC (evF E n) n Fn.wear_Mirror_L0 ⟨env ((1, y1) :: (2, y2) :: (5, .one (.box b5 0)) :: (28, .one (.sl false (l.map Guard.c))) :: (29, .one (.int .i64 (l.length : Int))) :: (30, .one (.int .i64 (i : Int))) :: X), ob, fz, nx⟩ = r := ⟨_, rfl⟩
  have hr := hr0
  rcases hv with ⟨rfl, rfl⟩ | ⟨a, va, rfl, h2, h3⟩
  · simp only [go_sem, Fn.wear_Mirror_L0, h1, ge, okz, o5, p5, p5', k1, k2, nxa, okSz, ROOM, add1, wk] at hr
    rw [hr0, ← hr]
    refine ⟨_, _, _, rfl, by omega, upd_same _ _ _, .inr ⟨nx + 20, 0, rfl, ?_, by omega⟩, fun id cs q1 q2 h => ?_⟩
    · rw [upd_ne (by omega)]; exact upd_same _ _ _
    · rw [upd_ne q2]
      repeat rw [upd_ne (by omega)]
      exact h
  · have a5 : a ≠ b5 := fun e => by rw [e, o5] at h2; simp at h2
    have k3 : ∀ k ob y ver, rowAt (upd ob (nx + k) y) a ver = rowAt ob a ver := fun k ob y ver => rowAt_ne (by omega)
    have hra : rowAt ob a va = some (21, es) := rowAt_of h2
    have b1' : (es.length == es.length) = true := by simp
    have w1 : (es.length + 1) * 352 ≤ 140737488355328 := by omega
    have k4 : (b5 = a) = False := by simp only [eq_iff_iff, iff_false]; omega
    simp only [go_sem, Fn.wear_Mirror_L0, h1, ge, okz, o5, p5, p5', k1, k2, nxa, okSz, ROOM, k3, k4, hra, b1', w1, add1, wk] at hr
    rw [hr0, ← hr]
    refine ⟨_, _, _, rfl, by omega, upd_same _ _ _, .inr ⟨a, va + 1, ?_, ?_, by omega⟩, fun id cs q1 q2 h => ?_⟩
    · rw [List.length_append]; rfl
    · rw [upd_ne a5]; exact upd_same _ _ _
    · have : id ≠ a := fun e => by rw [e, h2] at h; simp at h
      rw [upd_ne q2, upd_ne this]
      repeat rw [upd_ne (by omega)]
      exact h
theorem mir_loop0 {b5 : Nat} (l : List Guard) (hl : l.length < 2 ^ 20) (c1 c2 c3 c4 c5 : AV) (y1 y2 : SV) {n : Nat} (hc : ∀ g ∈ l, (∀ (ob : Nat → Option AObj) (fz : Nat → Nat), callV (evF E n) Id.wear_Sample_turned [.agg g.box.low.c] ob fz = some (.fzd fz (.agg (mirS g.box.low).c))) ∧ ∀ (ob : Nat → Option AObj) (fz : Nat → Nat), callV (evF E n) Id.wear_Sample_turned [.agg g.box.high.c] ob fz = some (.fzd fz (.agg (mirS g.box.high).c))) : ∀ (m i : Nat), i + m = l.length → ∀ (ob : Nat → Option AObj) (nx : Nat) (v : AV) (X : List (Nat × SV)), b5 < nx → ob b5 = some (.box [v, c1, c2, c3, c4, c5]) → OutE 21 ob nx v ((l.take i).map fun g => (mirG g).c) → ∀ N, m < N →
    ∃ ob' nx' v' X', loopN (evC (evF E n) n Fn.wear_Mirror_L0) N ⟨env ((1, y1) :: (2, y2) :: (5, .one (.box b5 0)) :: (28, .one (.sl false (l.map Guard.c))) :: (29, .one (.int .i64 (l.length : Int))) :: (30, .one (.int .i64 (i : Int))) :: X), ob, fz, nx⟩ =
      some (.ext 0, ⟨env ((1, y1) :: (2, y2) :: (5, .one (.box b5 0)) :: X'), ob', fz, nx'⟩) ∧ nx ≤ nx' ∧ ob' b5 = some (.box [v', c1, c2, c3, c4, c5]) ∧ OutE 21 ob' nx' v' (l.map fun g => (mirG g).c) ∧ ∀ id cs, id < nx → id ≠ b5 → ob id = some (.box cs) → ob' id = some (.box cs)
  | 0, i, hi, ob, nx, v, X, h5, o5, hv, N + 1, hN => by
    have hi' : i = l.length := by omega
    subst hi'
    rw [List.take_length] at hv
    have hlt : (((l.length : Nat) : Int) < ((l.length : Nat) : Int)) = False := by simp
    refine ⟨ob, nx, v, [(28, .one (.sl false (l.map Guard.c))), (29, .one (.int .i64 (l.length : Int))), (30, .one (.int .i64 (l.length : Int))), (31, .one (.bool false))], round_ext ?_, Nat.le_refl _, o5, hv, fun id cs _ _ h => h⟩
    simp only [go_sem, Fn.wear_Mirror_L0, hlt]
  | m + 1, i, hi, ob, nx, v, X, h5, o5, hv, N + 1, hN => by
    have hil : i < l.length := by omega
    have gd : l[i]? = some l[i] := by simp
    obtain ⟨hc1, hc2⟩ := hc l[i] (by simp)
    obtain ⟨ob1, nx1, v1, hst, g1, g2, g3, g4⟩ := mir_round0 (fz := fz) (n := n) (nx := nx) (ob := ob) l l[i] gd hil hl h5 v c1 c2 c3 c4 c5 o5 _ hv (by rw [List.length_map, List.length_take]; omega) y1 y2 hc1 hc2 X
    have td : l.take (i + 1) = l.take i ++ [l[i]] := by rw [List.take_add_one, gd]; rfl
    obtain ⟨ob', nx', v', X', q1, q2, q3, q4, q5⟩ := mir_loop0 l hl c1 c2 c3 c4 c5 y1 y2 hc m (i + 1) (by omega) ob1 nx1 v1 [] (by omega) g2 (by rw [td, List.map_append]; exact g3) N (by omega)
    exact ⟨ob', nx', v', X', by rw [round_nrm hst]; exact q1, by omega, q3, q4, fun id cs i1 i2 h => q5 id cs (by omega) i2 (g4 id cs i1 i2 h)⟩
end
end Go.Ev
namespace Go.Ev
open Go.Dig
def OutS (sz base : Nat) (ob : Nat → Option AObj) (nx : Nat) (x : AV) (es : List (List AV)) : Prop :=
  (es = [] ∧ x = .nils) ∨ ∃ id ver, x = .rsl id ver sz 0 es.length false ∧ ob id = some (.row sz es ver) ∧ id < nx ∧ base ≤ id
theorem OutS.frame {sz base nx nx' : Nat} {ob ob' : Nat → Option AObj} {x : AV} {es : List (List AV)} (h : OutS sz base ob nx x es) (hnx : nx ≤ nx') (hf : ∀ id, base ≤ id → id < nx → ob' id = ob id) : OutS sz base ob' nx' x es := by
  rcases h with h | ⟨id, ver, h1, h2, h3, h4⟩
  · exact .inl h
  · exact .inr ⟨id, ver, h1, by rw [hf id h4 h3]; exact h2, by omega, h4⟩
theorem OutS.shut {sz base nx : Nat} {ob0 ob : Nat → Option AObj} {x : AV} {es : List (List AV)} (h : OutS sz base ob nx x es) : OutS sz base (Ev.shut ob0 ob) nx x es := by
  rcases h with h | ⟨id, ver, h1, h2, h3, h4⟩
  · exact .inl h
  · exact .inr ⟨id, ver, h1, shut_rowk h2, h3, h4⟩
theorem OutS.frzR {sz base nx : Nat} {ob : Nat → Option AObj} {x : AV} {es fs : List (List AV)} (h : OutS sz base ob nx x es) (hf : ∀ fz, mapFz (mapFz (Ev.frz ob 7)) fz es = some (fz, fs)) (hl : es = [] → fs = []) : ∃ g : (Nat → Nat) → (Nat → Nat), ∀ fz, frzS ob fz (.one x) = some (g fz, .one (.sl false fs)) := by
  rcases h with ⟨h1, rfl⟩ | ⟨id, ver, rfl, hid, _⟩
  · exact ⟨fun fz => fz, fun fz => by rw [hl h1]; rfl⟩
  · refine ⟨fun fz => raise fz id (0 + es.length), fun fz => ?_⟩
    have hb : Nat.ble (0 + es.length) es.length = true := by simp
    have h1 : Ev.frz ob DEPTH fz (.rsl id ver sz 0 es.length false) = some (raise fz id (0 + es.length), .sl false fs) := by
      rw [show DEPTH = 7 + 1 from rfl, frz_rsl, rowAt_of hid]
      simp only [hb, cond_true, List.drop_zero, List.take_length, hf]
    simp only [frzS, h1]
end Go.Ev
namespace Go.Ev
open Go.Dig
def negP (p : Pt) : Pt := ⟨-p.x, -p.z⟩
theorem Neg_all (a : Rat) (n : Nat) (hn : 2 ≤ n) (ob : Nat → Option AObj) (fz : Nat → Nat) : callV (evF E n) Id.exact_Q_Neg [.agg (qC a)] ob fz = some (.fzd fz (.agg (qC (-a)))) := by
  obtain ⟨m, rfl⟩ : ∃ m, n = m + 2 := ⟨n - 2, by omega⟩
  exact callV_can (Neg_run a m) (can1 (canS_q _)) ob fz
def mrAsg : ACode := .reg false [⟨some 14, .alloc [.bool false, .nils, .nils, .bool false, .nils, .nils], none, .no⟩, ⟨none, .store 6 (.t 14) (.t 75), none, .no⟩] 2 [12, 14]
def mrLoop (L : List (Nat × SV)) : ALoop := ⟨env L, [74, 75], mrAsg, Fn.wear_Mirror_R1, .ready, none⟩
set_option maxRecDepth 100000 in
theorem mrnd_ref {n lid b12 base nx : Nat} {ob : Nat → Option AObj} {fz : Nat → Nat} {x : AV} {es : List (List AV)} {L : List (Nat × SV)} (p : Pt) (v74 : SV) (hL : env L 12 = .one (.box b12 0)) (hn : 2 ≤ n) (ho : ob lid = some (.loop (mrLoop L))) (hb : ob b12 = some (.box [x])) (hx : OutS 6 base ob nx x es) (h1 : lid < base) (h2 : b12 < base) (h3 : base ≤ nx) (hne : lid ≠ b12) (hes : es.length < 2 ^ 20) :
    ∃ ob' nx' x', evF E (n + 1) (.rnd lid) [v74, .agg p.c] ⟨ob, fz, nx⟩ = some (.one (.bool true), ⟨ob', fz, nx'⟩) ∧ nx ≤ nx' ∧ ob' lid = some (.loop (mrLoop L)) ∧ ob' b12 = some (.box [x']) ∧ OutS 6 base ob' nx' x' (es ++ [(negP p).c]) ∧ ∀ id, id < base → id ≠ lid → id ≠ b12 → ob' id = ob id := by
  obtain ⟨p1, p2, p3, p4, p5, p6, ex, ez, ep⟩ := pt_cells p
  obtain ⟨q1, q2, q3, q4, q5, q6, fx, fz', fp⟩ := pt_cells (negP p)
  have k1 := Neg_all p.x n hn
  have k2 := Neg_all p.z n hn
  have e1 : (negP p).x = -p.x := rfl
  have e2 : (negP p).z = -p.z := rfl
  rw [e1] at fx
  rw [e2] at fz'
  rw [ex, fx] at k1
  rw [ez, fz'] at k2
  rw [ep, fp]
  have n1 : ∀ k, (lid = nx + k) = False := fun k => by simp only [eq_iff_iff, iff_false]; omega
  have n2 : ∀ k, (b12 = nx + k) = False := fun k => by simp only [eq_iff_iff, iff_false]; omega
  have n3 : (b12 = lid) = False := by simp [Ne.symm hne]
  have n1n : (lid = nx) = False := by simp only [eq_iff_iff, iff_false]; omega
  have n2n : (b12 = nx) = False := by simp only [eq_iff_iff, iff_false]; omega
  have n1' : ∀ k, (nx + k = lid) = False := fun k => by simp only [eq_iff_iff, iff_false]; omega
  have n2' : ∀ k, (nx + k = b12) = False := fun k => by simp only [eq_iff_iff, iff_false]; omega
  have n1n' : (nx = lid) = False := by simp only [eq_iff_iff, iff_false]; omega
  have n2n' : (nx = b12) = False := by simp only [eq_iff_iff, iff_false]; omega
  have nxa : ∀ a b : Nat, nx + a + b = nx + (a + b) := fun a b => Nat.add_assoc nx a b
  have l12 : ∀ k, (b12 < nx + k) = True := fun k => by simp only [eq_iff_iff, iff_true]; omega
  have ln : ∀ k, (nx < nx + (k + 1)) = True := fun k => by simp only [eq_iff_iff, iff_true]; omega
  have ln2 : (nx < nx + 2) = True := ln 1
  have a1 : evC (evF E n) n mrAsg ⟨env ((75, .agg [p1, p2, p3, p4, p5, p6]) :: (74, v74) :: L), ob, fz, nx⟩ = some (.nrm, ⟨env [(12, .one (.box b12 0)), (14, .one (.box nx 0))], upd ob nx (.box [p1, p2, p3, p4, p5, p6]), fz, nx + 2⟩) := by
    unfold mrAsg
    simp only [go_sem, hL]
  have o1 : upd ob nx (.box [p1, p2, p3, p4, p5, p6]) lid = some (.loop (mrLoop L)) := by rw [upd_ne (by omega)]; exact ho
  have body : ∃ ob2 x', evC (evF E n) n Fn.wear_Mirror_R1 ⟨env [(12, .one (.box b12 0)), (14, .one (.box nx 0))], upd (upd ob nx (.box [p1, p2, p3, p4, p5, p6])) lid (.loop { mrLoop L with st := .busy }), fz, nx + 2⟩ = some (.nrm, ⟨env [], ob2, fz, nx + 13⟩) ∧ ob2 lid = some (.loop { mrLoop L with st := .busy }) ∧ ob2 b12 = some (.box [x']) ∧ OutS 6 base ob2 (nx + 13) x' (es ++ [[q1, q2, q3, q4, q5, q6]]) ∧ ∀ id, id < base → id ≠ lid → id ≠ b12 → ob2 id = ob id := by
    generalize { mrLoop L with st := .busy } = lp
    obtain ⟨r, hr0⟩ : ∃ r, evC (evF E n) n Fn.wear_Mirror_R1 ⟨env [(12, .one (.box b12 0)), (14, .one (.box nx 0))], upd (upd ob nx (.box [p1, p2, p3, p4, p5, p6])) lid (.loop lp), fz, nx + 2⟩ = r := ⟨_, rfl⟩
    have hr := hr0
    rcases hx with ⟨rfl, rfl⟩ | ⟨a, va, rfl, h4, h5, h6⟩
    · simp only [go_sem, Fn.wear_Mirror_R1, n1, n2, n3, n1', n2', n1n, n2n, n1n', n2n', nxa, l12, ln2, hb, k1, k2, okSz, ROOM] at hr
      rw [hr0, ← hr]
      refine ⟨_, _, rfl, ?_, upd_same _ _ _, .inr ⟨nx + 11, 0, rfl, ?_, by omega, by omega⟩, fun id q1 q2 q3 => ?_⟩
      · rw [upd_ne hne, upd_ne (by omega), upd_ne (by omega)]; exact upd_same _ _ _
      · rw [upd_ne (by omega)]; exact upd_same _ _ _
      · rw [upd_ne q3, upd_ne (by omega), upd_ne (by omega), upd_ne q2, upd_ne (by omega)]
    · have w1 : (es.length + 1) * 112 ≤ 140737488355328 := by omega
      have b1 : (es.length == es.length) = true := by simp
      have k1' : ∀ k ob y ver, rowAt (upd ob (nx + k) y) a ver = rowAt ob a ver := fun k ob y ver => rowAt_ne (by omega)
      have k2' : ∀ ob y ver, rowAt (upd ob nx y) a ver = rowAt ob a ver := fun ob y ver => rowAt_ne (by omega)
      have k3' : ∀ ob y ver, rowAt (upd ob lid y) a ver = rowAt ob a ver := fun ob y ver => rowAt_ne (by omega)
      have hra : rowAt ob a va = some (6, es) := rowAt_of h4
      have k4 : (b12 = a) = False := by simp only [eq_iff_iff, iff_false]; omega
      simp only [go_sem, Fn.wear_Mirror_R1, n1, n2, n3, n1', n2', n1n, n2n, n1n', n2n', nxa, l12, ln2, hb, k1, k2, okSz, ROOM, w1, b1, k1', k2', k3', k4, hra] at hr
      rw [hr0, ← hr]
      refine ⟨_, _, rfl, ?_, upd_same _ _ _, .inr ⟨a, va + 1, ?_, ?_, by omega, h6⟩, fun id q1 q2 q3 => ?_⟩
      · rw [upd_ne hne, upd_ne (by omega), upd_ne (by omega)]; exact upd_same _ _ _
      · rw [List.length_append]; rfl
      · rw [upd_ne (by omega)]; exact upd_same _ _ _
      · rw [upd_ne q3, upd_ne (by omega), upd_ne (by omega), upd_ne q2, upd_ne (by omega)]
  obtain ⟨ob2, x', b1, b2, b3, b4, b5⟩ := body
  refine ⟨upd ob2 lid (.loop (mrLoop L)), nx + 13, x', ?_, by omega, upd_same _ _ _, by rw [upd_ne (Ne.symm hne)]; exact b3, b4.frame (Nat.le_refl _) (fun id q1 q2 => upd_ne (by omega)), fun id q1 q2 q3 => by rw [upd_ne q2]; exact b5 id q1 q2 q3⟩
  exact evF_rnd (r := mrLoop L) (r1 := mrLoop L) (r2 := { mrLoop L with st := .busy }) ho rfl ((congrArg (fun sl => evC (evF E n) n mrAsg ⟨sl, ob, fz, nx⟩) (setPs2 74 75 v74 (.agg [p1, p2, p3, p4, p5, p6]) L)).trans a1) o1 rfl b1 b2
set_option maxRecDepth 100000 in
theorem back_loop {n lid b12 bb base : Nat} {fz : Nat → Nat} {L : List (Nat × SV)} (c : List Pt) (hcl : c.length < 2 ^ 20) (hL : env L 12 = .one (.box b12 0)) (hn : 2 ≤ n) (h1 : lid < base) (h2 : b12 < base) (hbb : bb < base) (hne : lid ≠ b12) (hb1 : bb ≠ lid) (hb2 : bb ≠ b12) : ∀ (m : Nat), m ≤ c.length → ∀ (ob : Nat → Option AObj) (nx : Nat) (x : AV) (X : List (Nat × SV)), base ≤ nx → ob lid = some (.loop (mrLoop L)) → ob b12 = some (.box [x]) → ob bb = some (.box [.sl false (c.map Pt.c)]) → OutS 6 base ob nx x (((c.drop m).reverse).map fun p => (negP p).c) → ∀ N, m < N →
    ∃ ob' nx' x' X', loopN (evC (evF E (n + 1)) (n + 1) Fn.slices_Backward_wear_Curve_exact_Point_1_L0) N ⟨env ((0, .one (.yld lid)) :: (1, .one (.box bb 0)) :: (3, .one (.int .i64 ((m : Int) - 1))) :: X), ob, fz, nx⟩ =
      some (.ext 0, ⟨env X', ob', fz, nx'⟩) ∧ nx ≤ nx' ∧ ob' lid = some (.loop (mrLoop L)) ∧ ob' b12 = some (.box [x']) ∧ OutS 6 base ob' nx' x' ((mirC c).map Pt.c) ∧ ∀ id, id < base → id ≠ lid → id ≠ b12 → ob' id = ob id
  | 0, hm, ob, nx, x, X, hnx, ho, hb, hbx, hx, N + 1, hN => by
    have hge : ((((0 : Nat) : Int) - 1) ≥ 0) = False := by simp
    refine ⟨ob, nx, x, [(0, .one (.yld lid)), (1, .one (.box bb 0)), (3, .one (.int .i64 (((0 : Nat) : Int) - 1))), (8, .one (.bool false))], round_ext ?_, Nat.le_refl _, ho, hb, ?_, fun _ _ _ _ => rfl⟩
    · simp only [go_sem, Fn.slices_Backward_wear_Curve_exact_Point_1_L0, hge]
    · rw [List.drop_zero] at hx
      have e : (mirC c).map Pt.c = (c.reverse).map fun p => (negP p).c := by unfold mirC; rw [← List.map_reverse, List.map_map]; rfl
      rw [e]; exact hx
  | m + 1, hm, ob, nx, x, X, hnx, ho, hb, hbx, hx, N + 1, hN => by
    have hcm : m < c.length := hm
    have e0 : (((m + 1 : Nat) : Int) - 1) = (m : Int) := by omega
    rw [e0]
    have hge : (((m : Nat) : Int) ≥ 0) = True := by simp
    have gp : c[m]? = some c[m] := List.getElem?_eq_getElem hcm
    have gc : (c.map Pt.c)[m]? = some (Pt.c c[m]) := by rw [List.getElem?_map, gp]; rfl
    have okz : okSz 6 (c.map Pt.c) = true := okSz_map pt_len c
    have wk : IntKind.i64.wrap ((m : Int) - 1) = (m : Int) - 1 := wrap_i64 (by omega)
    have hd : c.drop m = c[m] :: c.drop (m + 1) := List.drop_eq_getElem_cons hcm
    obtain ⟨ob1, nx1, x1, g1, g2, g3, g4, g5, g6⟩ := mrnd_ref (n := n) (lid := lid) (b12 := b12) (base := base) (nx := nx) (ob := ob) (fz := fz) (x := x) (L := L) c[m] (.one (.int .i64 (m : Int))) hL hn ho hb hx h1 h2 hnx hne (by rw [List.length_map, List.length_reverse, List.length_drop]; omega)
    have hx1 : OutS 6 base ob1 nx1 x1 (((c.drop m).reverse).map fun p => (negP p).c) := by
      rw [hd, List.reverse_cons, List.map_append]; exact g5
    obtain ⟨ob', nx', x', X', q1, q2, q3, q4, q5, q6⟩ := back_loop (fz := fz) c hcl hL hn h1 h2 hbb hne hb1 hb2 m (by omega) ob1 nx1 x1 [] (by omega) g3 g4 ((g6 bb hbb hb1 hb2).trans hbx) hx1 N (by omega)
    refine ⟨ob', nx', x', X', ?_, by omega, q3, q4, q5, fun id i1 i2 i3 => (q6 id i1 i2 i3).trans (g6 id i1 i2 i3)⟩
    generalize c[m] = p at *
    obtain ⟨p1, p2, p3, p4, p5, p6, -, -, ep⟩ := pt_cells p
    rw [ep] at gc g1
    rw [round_nrm (st' := ⟨env [(0, .one (.yld lid)), (1, .one (.box bb 0)), (3, .one (.int .i64 ((m : Int) - 1)))], ob1, fz, nx1⟩)]
    · exact q1
    · simp only [go_sem, Fn.slices_Backward_wear_Curve_exact_Point_1_L0, hge, hbx, gc, okz, g1, wk]
theorem back1_ref {n lid b12 bb base : Nat} {fz : Nat → Nat} {L : List (Nat × SV)} (c : List Pt) (hcl : c.length < 2 ^ 20) (hL : env L 12 = .one (.box b12 0)) (hn : c.length + 2 ≤ n) (h1 : lid < base) (h2 : b12 < base) (hbb : bb < base) (hne : lid ≠ b12) (hb1 : bb ≠ lid) (hb2 : bb ≠ b12) (ob : Nat → Option AObj) (ho : ob lid = some (.loop (mrLoop L))) (hb : ob b12 = some (.box [.nils])) (hbx : ob bb = some (.box [.sl false (c.map Pt.c)])) :
    ∃ ob' nx' x', evF E (n + 2) (.fn Id.slices_Backward_wear_Curve_exact_Point_1) [.one (.yld lid), .one (.box bb 0)] ⟨ob, fz, base⟩ = some (.tup [], ⟨Ev.shut ob ob', fz, nx'⟩) ∧ base ≤ nx' ∧ ob' lid = some (.loop (mrLoop L)) ∧ ob' b12 = some (.box [x']) ∧ OutS 6 base ob' nx' x' ((mirC c).map Pt.c) ∧ ∀ id, id < base → id ≠ lid → id ≠ b12 → ob' id = ob id := by
  obtain ⟨ob', nx', x', X', g1, g2, g3, g4, g5, g6⟩ := back_loop (n := n) (lid := lid) (b12 := b12) (bb := bb) (base := base) (fz := fz) (L := L) c hcl hL (by omega) h1 h2 hbb hne hb1 hb2 c.length (Nat.le_refl _) ob base .nils [] (Nat.le_refl _) ho hb hbx (by rw [List.drop_length]; exact .inl ⟨rfl, rfl⟩) (n + 1) (by omega)
  refine ⟨ob', nx', x', ?_, g2, g3, g4, g5, g6⟩
  rw [evF_succ E_slices_Backward_wear_Curve_exact_Point_1]
  have wl : IntKind.i64.wrap (((c.length : Nat) : Int) - 1) = ((c.length : Nat) : Int) - 1 := wrap_i64 (by omega)
  simp only [go_sem, Fn.slices_Backward_wear_Curve_exact_Point_1, hbx, List.length_map, wl, g1]
theorem back_ref {n : Nat} (c : List Pt) (ob : Nat → Option AObj) (fz : Nat → Nat) (nx : Nat) : evF E (n + 1) (.fn Id.slices_Backward_wear_Curve_exact_Point) [.one (.sl false (c.map Pt.c))] ⟨ob, fz, nx⟩ = some (.one (.fn Id.slices_Backward_wear_Curve_exact_Point_1 [] [.box nx 0]), ⟨shut ob (upd ob nx (.box [.sl false (c.map Pt.c)])), fz, nx + 2⟩) := by
  rw [evF_succ E_slices_Backward_wear_Curve_exact_Point]
  simp only [go_sem, Fn.slices_Backward_wear_Curve_exact_Point, List.mapM_cons, List.mapM_nil, Option.bind_eq_bind, Option.bind_some, Option.pure_def, SV.av]
end Go.Ev
namespace Go.Ev
open Go.Dig
set_option maxRecDepth 100000 in
set_option maxHeartbeats 1000000 in
theorem mir_round2 {n N0 i b5 : Nat} {ob : Nat → Option AObj} (l : List (List Pt)) (c : List Pt) (gd : l[i]? = some c) (hil : i < l.length) (hl : l.length < 2 ^ 20) (hc0 : c ≠ []) (hcl : c.length < 2 ^ 20) (h5 : b5 < N0) (g c2 c3 c4 c5 v : AV) (o5 : ob b5 = some (.box [g, v, c2, c3, c4, c5])) (es : List (List AV)) (hv : OutE 1 ob N0 v es) (hes : es.length < 2 ^ 20) (hn : c.length + 4 ≤ n) (y2 : SV) (X : List (Nat × SV)) :
    ∃ ob' nx' v' e, evC (evF E n) n Fn.wear_Mirror_L2 ⟨env ((2, y2) :: (5, .one (.box b5 0)) :: (66, .one (.sl false (l.map fun s => [.sl false (s.map Pt.c)]))) :: (67, .one (.int .i64 (l.length : Int))) :: (68, .one (.int .i64 (i : Int))) :: X), ob, fz0, N0⟩ =
      some (.nrm, ⟨env [(2, y2), (5, .one (.box b5 0)), (66, .one (.sl false (l.map fun s => [.sl false (s.map Pt.c)]))), (67, .one (.int .i64 (l.length : Int))), (68, .one (.int .i64 ((i + 1 : Nat) : Int)))], ob', fz0, nx'⟩) ∧ N0 ≤ nx' ∧ ob' b5 = some (.box [g, v', c2, c3, c4, c5]) ∧ OutE 1 ob' nx' v' (es ++ [[e]]) ∧ (∃ id ver, e = .rsl id ver 6 0 (mirC c).length false ∧ ob' id = some (.row 6 ((mirC c).map Pt.c) ver) ∧ N0 ≤ id ∧ id < nx') ∧ ∀ id o, id < N0 → id ≠ b5 → ob id = some o → (∀ es v, o ≠ .row 1 es v) → ob' id = some o := by
  obtain ⟨k, rfl⟩ : ∃ k, n = k + 2 := ⟨n - 2, by omega⟩
  have h1 : (((i : Nat) : Int) < ((l.length : Nat) : Int)) = True := by simp; omega
  have wk : IntKind.i64.wrap ((i + 1 : Nat) : Int) = ((i + 1 : Nat) : Int) := wi64 (by omega)
  have okz : okSz 1 (l.map fun s => [AV.sl false (s.map Pt.c)]) = true := okSz_map (f := fun s : List Pt => [AV.sl false (s.map Pt.c)]) (k := 1) (fun _ => rfl) l
  have ge : (l.map fun s => [AV.sl false (s.map Pt.c)])[i]? = some [.sl false (c.map Pt.c)] := by rw [List.getElem?_map, gd]; rfl
  obtain ⟨L, hLd⟩ : ∃ L : List (Nat × SV), L = [(2, y2), (5, .one (.box b5 0)), (12, .one (.box N0 0)), (66, .one (.sl false (l.map fun s => [.sl false (s.map Pt.c)]))), (67, .one (.int .i64 (l.length : Int))), (68, .one (.int .i64 (i : Int))), (73, .one (.fn Id.slices_Backward_wear_Curve_exact_Point_1 [] [.box (N0 + 1) 0]))] := ⟨_, rfl⟩
  have hL : env L 12 = .one (.box N0 0) := by rw [hLd]; rfl
  obtain ⟨obA, hobA⟩ : ∃ o, o = Ev.shut (upd ob N0 (.box [.nils])) (upd (upd ob N0 (.box [.nils])) (N0 + 1) (.box [.sl false (c.map Pt.c)])) := ⟨_, rfl⟩
  have k3 := back_ref (n := k + 1) c (upd ob N0 (.box [.nils])) fz0 (N0 + 1)
  rw [← hobA] at k3
  obtain ⟨obL, hobL⟩ : ∃ o, o = upd (upd obA (N0 + 3) .dfr) (N0 + 4) (.loop (mrLoop L)) := ⟨_, rfl⟩
  have aN : obA N0 = some (.box [.nils]) := by rw [hobA]; exact shut_box (by rw [upd_ne (by omega)]; exact upd_same _ _ _)
  have aN1 : obA (N0 + 1) = some (.box [.sl false (c.map Pt.c)]) := by rw [hobA]; exact shut_box (upd_same _ _ _)
  have aold : ∀ id o, id < N0 → ob id = some o → obA id = some o := fun id o h h' => by
    rw [hobA]
    have e1 : upd ob N0 (.box [.nils]) id = some o := by rw [upd_ne (by omega)]; exact h'
    rw [shut_eq (by rw [upd_ne (show id ≠ N0 + 1 by omega)]), e1]
  have lold : ∀ id, id < N0 + 3 → obL id = obA id := fun id h => by rw [hobL, upd_ne (by omega), upd_ne (by omega)]
  obtain ⟨ob1', nx', x', q1, q2, q3, q4, q5, q6⟩ := back1_ref (n := k) (lid := N0 + 4) (b12 := N0) (bb := N0 + 1) (base := N0 + 5) (fz := fz0) (L := L) c hcl hL (by omega) (by omega) (by omega) (by omega) (by omega) (by omega) (by omega) obL (by rw [hobL]; exact upd_same _ _ _) ((lold N0 (by omega)).trans aN) ((lold (N0 + 1) (by omega)).trans aN1)
  obtain ⟨obS, hobS⟩ : ∃ o, o = Ev.shut obL ob1' := ⟨_, rfl⟩
  rw [← hobS] at q1
  have q3' := shut_loopk (ob0 := obL) q3
  rw [← hobS] at q3'
  obtain ⟨lp, hlp⟩ : ∃ lp : ALoop, lp = { mrLoop L with st := .exhausted } := ⟨_, rfl⟩
  have hR : evC (evF E (k + 2)) (k + 2) (.rangeF (.t 73) [74, 75] mrAsg Fn.wear_Mirror_R1) ⟨env L, obA, fz0, N0 + 3⟩ = some (.nrm, ⟨env L, upd obS (N0 + 4) (.loop lp), fz0, nx'⟩) := by
    rw [hlp]
    exact evC_rangeF (F := evF E (k + 2)) (fuel := k + 2) (g := .t 73) (ps := [74, 75]) (asg := mrAsg) (body := Fn.wear_Mirror_R1) (st := ⟨env L, obA, fz0, N0 + 3⟩) (f := Id.slices_Backward_wear_Curve_exact_Point_1) (first := []) (caps := [.box (N0 + 1) 0]) (by rw [hLd]; rfl) (by
      show evF E (k + 2) _ _ ⟨upd (upd obA (N0 + 3) .dfr) (N0 + 4) _, fz0, N0 + 5⟩ = _
      have e := q1
      rw [hobL] at e
      exact e) q3' rfl
  obtain ⟨obE, hobE⟩ : ∃ o, o = upd obS (N0 + 4) (.loop lp) := ⟨_, rfl⟩
  rw [← hobE] at hR
  have eold : ∀ id o, id < N0 → ob id = some o → obE id = some o := fun id o h h' => by
    have e1 : obL id = some o := (lold id (by omega)).trans (aold id o h h')
    have e2 : ob1' id = some o := (q6 id (by omega) (by omega) (by omega)).trans e1
    rw [hobE, upd_ne (by omega), hobS, shut_eq (by rw [e2, e1]), e1]
  have eN : obE N0 = some (.box [x']) := by rw [hobE, upd_ne (by omega), hobS]; exact shut_box q4
  have hne : (mirC c).map Pt.c ≠ [] := by
    intro h
    have := congrArg List.length h
    rw [List.length_map, mirC_len] at this
    exact hc0 (List.eq_nil_of_length_eq_zero this)
  rcases q5 with ⟨h, -⟩ | ⟨rid, rver, rfl, hrow, hr1, hr2⟩
  · exact absurd h hne
  rw [List.length_map] at eN
  have erow : obE rid = some (.row 6 ((mirC c).map Pt.c) rver) := by rw [hobE, upd_ne (by omega), hobS]; exact shut_rowk hrow
  have e5 := eold b5 _ h5 o5
  unfold mrAsg at hR
  rw [hLd] at hR
  have p5 : ∀ k, (b5 = nx' + k) = False := fun k => by simp only [eq_iff_iff, iff_false]; omega
  have pN : ∀ k, (N0 = nx' + k) = False := fun k => by simp only [eq_iff_iff, iff_false]; omega
  have p5N : (b5 = N0) = False := by simp only [eq_iff_iff, iff_false]; omega
  obtain ⟨r, hr0⟩ : ∃ r, evC (evF E (k + 2)) (k + 2) Fn.wear_Mirror_L2 ⟨env ((2, y2) :: (5, .one (.box b5 0)) :: (66, .one (.sl false (l.map fun s => [.sl false (s.map Pt.c)]))) :: (67, .one (.int .i64 (l.length : Int))) :: (68, .one (.int .i64 (i : Int))) :: X), ob, fz0, N0⟩ = r := ⟨_, rfl⟩
  have hr := hr0
  rcases hv with ⟨rfl, rfl⟩ | ⟨a, va, rfl, h2, h3⟩
  · simp only [go_sem, Fn.wear_Mirror_L2, h1, ge, okz, k3, hR, e5, eN, p5, pN, okSz, ROOM, add1, wk] at hr
    rw [hr0, ← hr]
    refine ⟨_, _, _, _, rfl, by omega, upd_same _ _ _, .inr ⟨nx' + 4, 0, rfl, ?_, by omega⟩, ⟨rid, rver, rfl, ?_, by omega, by omega⟩, fun id o i1 i2 i3 _ => ?_⟩
    · rw [upd_ne (by omega)]; exact upd_same _ _ _
    · rw [upd_ne (by omega)]
      repeat rw [upd_ne (by omega)]
      exact erow
    · rw [upd_ne i2]
      repeat rw [upd_ne (by omega)]
      exact eold id o i1 i3
  · have a5 : a ≠ b5 := fun e => by rw [e, o5] at h2; simp at h2
    have ea : obE a = some (.row 1 es va) := eold a _ h3 h2
    have k4 : ∀ k ob y ver, rowAt (upd ob (nx' + k) y) a ver = rowAt ob a ver := fun k ob y ver => rowAt_ne (by omega)
    have hra : rowAt obE a va = some (1, es) := rowAt_of ea
    have b1' : (es.length == es.length) = true := by simp
    have w1 : (es.length + 1) * 24 ≤ 140737488355328 := by omega
    have k5 : (b5 = a) = False := by simp only [eq_iff_iff, iff_false]; omega
    simp only [go_sem, Fn.wear_Mirror_L2, h1, ge, okz, k3, hR, e5, eN, p5, pN, okSz, ROOM, k4, k5, hra, b1', w1, add1, wk] at hr
    rw [hr0, ← hr]
    refine ⟨_, _, _, _, rfl, by omega, upd_same _ _ _, .inr ⟨a, va + 1, ?_, ?_, by omega⟩, ⟨rid, rver, rfl, ?_, by omega, by omega⟩, fun id o i1 i2 i3 i4 => ?_⟩
    · rw [List.length_append]; rfl
    · rw [upd_ne a5]; exact upd_same _ _ _
    · rw [upd_ne (by omega), upd_ne (by omega)]
      repeat rw [upd_ne (by omega)]
      exact erow
    · have : id ≠ a := fun e => by
        rw [e, h2] at i3
        cases i3
        exact i4 _ _ rfl
      rw [upd_ne i2, upd_ne this]
      repeat rw [upd_ne (by omega)]
      exact eold id o i1 i3
def CvS (ob : Nat → Option AObj) (nx : Nat) (es : List (List AV)) (cs : List (List Pt)) : Prop :=
  es.length = cs.length ∧ ∀ (j : Nat) c, cs[j]? = some c → ∃ id ver, es[j]? = some [.rsl id ver 6 0 (mirC c).length false] ∧ ob id = some (.row 6 ((mirC c).map Pt.c) ver) ∧ id < nx
theorem mir_loop2 {n b5 : Nat} (l : List (List Pt)) (hl : l.length < 2 ^ 20) (hc : ∀ c ∈ l, c ≠ [] ∧ c.length < 2 ^ 20 ∧ c.length + 4 ≤ n) (g c2 c3 c4 c5 : AV) (y2 : SV) : ∀ (m i : Nat), i + m = l.length → ∀ (ob : Nat → Option AObj) (nx : Nat) (v : AV) (es : List (List AV)) (X : List (Nat × SV)), b5 < nx → ob b5 = some (.box [g, v, c2, c3, c4, c5]) → OutE 1 ob nx v es → CvS ob nx es (l.take i) → ∀ N, m < N →
    ∃ ob' nx' v' es' X', loopN (evC (evF E n) n Fn.wear_Mirror_L2) N ⟨env ((2, y2) :: (5, .one (.box b5 0)) :: (66, .one (.sl false (l.map fun s => [.sl false (s.map Pt.c)]))) :: (67, .one (.int .i64 (l.length : Int))) :: (68, .one (.int .i64 (i : Int))) :: X), ob, fz0, nx⟩ =
      some (.ext 2, ⟨env ((2, y2) :: (5, .one (.box b5 0)) :: X'), ob', fz0, nx'⟩) ∧ nx ≤ nx' ∧ ob' b5 = some (.box [g, v', c2, c3, c4, c5]) ∧ OutE 1 ob' nx' v' es' ∧ CvS ob' nx' es' l ∧ ∀ id o, id < nx → id ≠ b5 → ob id = some o → (∀ es v, o ≠ .row 1 es v) → ob' id = some o
  | 0, i, hi, ob, nx, v, es, X, h5, o5, hv, hC, N + 1, hN => by
    have hi' : i = l.length := by omega
    subst hi'
    rw [List.take_length] at hC
    have hlt : (((l.length : Nat) : Int) < ((l.length : Nat) : Int)) = False := by simp
    refine ⟨ob, nx, v, es, [(66, .one (.sl false (l.map fun s => [.sl false (s.map Pt.c)]))), (67, .one (.int .i64 (l.length : Int))), (68, .one (.int .i64 (l.length : Int))), (69, .one (.bool false))], round_ext ?_, Nat.le_refl _, o5, hv, hC, fun id o _ _ h _ => h⟩
    simp only [go_sem, Fn.wear_Mirror_L2, hlt]
  | m + 1, i, hi, ob, nx, v, es, X, h5, o5, hv, hC, N + 1, hN => by
    have hil : i < l.length := by omega
    have gd : l[i]? = some l[i] := by simp
    obtain ⟨h1, h2, h3⟩ := hc l[i] (by simp)
    have hel : es.length = i := by rw [hC.1, List.length_take]; omega
    obtain ⟨ob1, nx1, v1, e, hst, g1, g2, g3, ⟨rid, rver, g4, g5, g6, g7⟩, g8⟩ := mir_round2 (n := n) (N0 := nx) (b5 := b5) (ob := ob) l l[i] gd hil hl h1 h2 h5 g c2 c3 c4 c5 v o5 es hv (by omega) h3 y2 X
    have td : l.take (i + 1) = l.take i ++ [l[i]] := by rw [List.take_add_one, gd]; rfl
    have hC1 : CvS ob1 nx1 (es ++ [[e]]) (l.take (i + 1)) := by
      rw [td]
      refine ⟨by rw [List.length_append, List.length_append, hC.1]; rfl, fun j c hj => ?_⟩
      by_cases hjl : j < (l.take i).length
      · rw [List.getElem?_append_left hjl] at hj
        obtain ⟨id, ver, q1, q2, q3⟩ := hC.2 j c hj
        refine ⟨id, ver, by rw [List.getElem?_append_left (by rw [hC.1]; exact hjl)]; exact q1, g8 id _ q3 (fun e => ?_) q2 (fun es v h => by cases h), by omega⟩
        rw [e, o5] at q2; cases q2
      · rw [List.getElem?_append_right (by omega)] at hj
        obtain ⟨k, hk⟩ : ∃ k, j - (l.take i).length = k := ⟨_, rfl⟩
        rw [hk] at hj
        cases k with
        | zero =>
          simp only [List.getElem?_cons_zero, Option.some.injEq] at hj
          subst hj
          refine ⟨rid, rver, ?_, g5, g7⟩
          rw [List.getElem?_append_right (by rw [hC.1]; omega), hC.1, hk, g4]
          rfl
        | succ k => simp at hj
    obtain ⟨ob', nx', v', es', X', q1, q2, q3, q4, q5, q6⟩ := mir_loop2 l hl hc g c2 c3 c4 c5 y2 m (i + 1) (by omega) ob1 nx1 v1 _ [] (by omega) g2 g3 hC1 N (by omega)
    exact ⟨ob', nx', v', es', X', by rw [round_nrm hst]; exact q1, by omega, q3, q4, q5, fun id o i1 i2 i3 i4 => q6 id o (by omega) i2 (g8 id o i1 i2 i3 i4) i4⟩
theorem frz_cv {ob : Nat → Option AObj} : ∀ (cs : List (List Pt)) (es : List (List AV)), es.length = cs.length → (∀ (j : Nat) c, cs[j]? = some c → ∃ id ver, es[j]? = some [.rsl id ver 6 0 (mirC c).length false] ∧ ob id = some (.row 6 ((mirC c).map Pt.c) ver)) → ∃ g : (Nat → Nat) → (Nat → Nat), ∀ fz, mapFz (mapFz (Ev.frz ob 7)) fz es = some (g fz, cs.map fun c => [.sl false ((mirC c).map Pt.c)])
  | [], es, hl, h => by
    have : es = [] := List.eq_nil_of_length_eq_zero hl
    subst this
    exact ⟨fun fz => fz, fun fz => rfl⟩
  | c :: cs, es, hl, h => by
    cases es with
    | nil => simp at hl
    | cons e es =>
      obtain ⟨id, ver, q1, q2⟩ := h 0 c (by simp)
      simp only [List.getElem?_cons_zero, Option.some.injEq] at q1
      subst q1
      obtain ⟨g, hg⟩ := frz_cv cs es (by simpa using hl) fun j c hj => by
        obtain ⟨id, ver, h1, h2⟩ := h (j + 1) c (by simpa using hj)
        exact ⟨id, ver, by simpa using h1, h2⟩
      refine ⟨fun fz => g (raise fz id (0 + (mirC c).length)), fun fz => ?_⟩
      have hb : Nat.ble (0 + (mirC c).length) ((mirC c).map Pt.c).length = true := by rw [List.length_map]; simp
      have hlm : (mirC c).length = ((mirC c).map Pt.c).length := (List.length_map _).symm
      have h1 : Ev.frz ob 7 fz (.rsl id ver 6 0 (mirC c).length false) = some (raise fz id (0 + (mirC c).length), .sl false ((mirC c).map Pt.c)) := by
        rw [show (7 : Nat) = 6 + 1 from rfl, frz_rsl, rowAt_of q2]
        have ht : ((mirC c).map Pt.c).take (mirC c).length = (mirC c).map Pt.c := by rw [hlm, List.take_length]
        simp only [hb, cond_true, List.drop_zero, ht, (canonEs_map CanL.pt (mirC c)).frz ob 5]
      simp only [mapFz, h1, hg, List.map_cons]
theorem OutE.frzG {sz : Nat} {ob : Nat → Option AObj} {nx : Nat} {x : AV} {es fs : List (List AV)} (h : OutE sz ob nx x es) (hf : ∃ g : (Nat → Nat) → (Nat → Nat), ∀ fz, mapFz (mapFz (Ev.frz ob 7)) fz es = some (g fz, fs)) (hl : es = [] → fs = []) : ∃ g : (Nat → Nat) → (Nat → Nat), ∀ fz, Ev.frz ob DEPTH fz x = some (g fz, .sl false fs) := by
  obtain ⟨g0, hf⟩ := hf
  rcases h with ⟨h1, rfl⟩ | ⟨id, ver, rfl, hid, _⟩
  · exact ⟨fun fz => fz, fun fz => by rw [hl h1]; rfl⟩
  · refine ⟨fun fz => g0 (raise fz id (0 + es.length)), fun fz => ?_⟩
    have hb : Nat.ble (0 + es.length) es.length = true := by simp
    rw [show DEPTH = 7 + 1 from rfl, frz_rsl, rowAt_of hid]
    simp only [hb, cond_true, List.drop_zero, List.take_length, hf]
theorem calling_turned (l : List Guard) : ∃ N, ∀ n, N ≤ n → ∀ g ∈ l, (∀ (ob : Nat → Option AObj) (fz : Nat → Nat), callV (evF E n) Id.wear_Sample_turned [.agg g.box.low.c] ob fz = some (.fzd fz (.agg (mirS g.box.low).c))) ∧ ∀ (ob : Nat → Option AObj) (fz : Nat → Nat), callV (evF E n) Id.wear_Sample_turned [.agg g.box.high.c] ob fz = some (.fzd fz (.agg (mirS g.box.high).c)) := by
  obtain ⟨N1, h1⟩ := calling_all (fun g : Guard => turned_call g.box.low) l
  obtain ⟨N2, h2⟩ := calling_all (fun g : Guard => turned_call g.box.high) l
  exact ⟨N1 + N2, fun n hn g hg => ⟨h1 n (by omega) g hg, h2 n (by omega) g hg⟩⟩
set_option maxRecDepth 100000 in
set_option maxHeartbeats 1000000 in
theorem Mirror_ends (d : Dev) (h : SmDev d) (hr : rightD d = true) : Ends Id.wear_Mirror [.agg d.c] (.tup [.agg (mirD d).c, .one (.int .i64 0)]) := by
  have hd := rightD_ok h hr
  have herr : errD d = 0 := by unfold errD; rw [if_pos hr]
  obtain ⟨N1, k1⟩ := Check_call d h
  rw [herr] at k1
  have hl0 : d.limits ≠ [] := fun e => by have := hd.l5; rw [e] at this; cases this
  obtain ⟨N2, k2⟩ := cloneL_call d.limits hl0 h.ll
  obtain ⟨N3, k3⟩ := calling_turned d.guards
  refine .of (N1 + N2 + N3 + d.guards.length + d.curves.length + 20) fun {n} hn => ?_
  have k1 := k1 n (by omega)
  have k2 := k2 n (by omega)
  have k3 := k3 n (by omega)
  obtain ⟨t1, t2, t3, ht, hdc⟩ := dev_cells d
  have hcl : ∀ c ∈ d.curves, c ≠ [] ∧ c.length < 2 ^ 20 ∧ c.length + 4 ≤ n := fun c hc => by
    have h8 : c.length ≤ 8 := by
      unfold rightD at hr
      simp only [Bool.and_eq_true, Bool.not_eq_true'] at hr
      have hb := List.any_eq_false.1 hr.2.2.1 c hc
      unfold badC rightC at hb
      simp only [Bool.not_eq_true', Bool.and_eq_false_iff, not_or, Bool.not_eq_false, decide_eq_true_eq] at hb
      exact hb.2.2
    exact ⟨fun e => by have := (hd.cr c hc).2; rw [e] at this; simp at this, h.cll c hc, by omega⟩
  rw [evV_succ E_wear_Mirror]
  rw [hdc] at k1 ⊢
  obtain ⟨obA, hobA⟩ : ∃ o, o = upd (upd (upd (upd ob0 0 (.box [.sl false (d.guards.map Guard.c), .sl false (d.curves.map fun s => [.sl false (s.map Pt.c)]), .sl false (d.limits.map Pt.c), t1, t2, t3])) 1 (.box [.nils, .nils, .nils, .bool false, .nils, .nils])) 9 (.box [.nils, .nils, .nils, .bool false, .nils, .nils])) 9 (.box [.nils, .nils, .sl false (d.limits.map Pt.c), t1, t2, t3]) := ⟨_, rfl⟩
  have a9 : obA 9 = some (.box [.nils, .nils, .sl false (d.limits.map Pt.c), t1, t2, t3]) := by rw [hobA]; exact upd_same _ _ _
  have a0 : obA 0 = some (.box [.sl false (d.guards.map Guard.c), .sl false (d.curves.map fun s => [.sl false (s.map Pt.c)]), .sl false (d.limits.map Pt.c), t1, t2, t3]) := by rw [hobA, upd_ne (by decide), upd_ne (by decide), upd_ne (by decide)]; exact upd_same _ _ _
  have a1 : obA 1 = some (.box [.nils, .nils, .nils, .bool false, .nils, .nils]) := by rw [hobA, upd_ne (by decide), upd_ne (by decide)]; exact upd_same _ _ _
  obtain ⟨ob1, nx1, v1, X1, g1, g2, g3, g4, g5⟩ := mir_loop0 (fz := fz0) (b5 := 9) d.guards h.gl .nils (.sl false (d.limits.map Pt.c)) t1 t2 t3 (.one (.box 0 0)) (.one (.box 1 0)) k3 d.guards.length 0 (by omega) obA 11 .nils [] (by decide) a9 (by exact .inl ⟨rfl, rfl⟩) n (by omega)
  have z0 : ((0 : Nat) : Int) = 0 := rfl
  rw [z0] at g1
  have b0 := g5 0 _ (by decide) (by decide) a0
  have b1 := g5 1 _ (by decide) (by decide) a1
  obtain ⟨ob2, nx2, v2, es2, X2, q1, q2, q3, q4, q5, q6⟩ := mir_loop2 (n := n) (b5 := 9) d.curves h.cl hcl v1 (.sl false (d.limits.map Pt.c)) t1 t2 t3 (.one (.box 1 0)) d.curves.length 0 (by omega) ob1 nx1 .nils [] [] (by omega) g3 (.inl ⟨rfl, rfl⟩) ⟨by simp, fun j c hj => by simp at hj⟩ n (by omega)
  rw [z0] at q1
  have c1 := q6 1 _ (by omega) (by decide) b1 (fun es v h => by cases h)
  have hv1 : OutE 21 (upd ob2 1 (.box [v1, v2, .sl false (d.limits.map Pt.c), t1, t2, t3])) nx2 v1 (d.guards.map fun g => (mirG g).c) := by
    rcases g4 with h | ⟨id, ver, h1, h2, h3⟩
    · exact .inl h
    · have e9 : id ≠ 9 := fun e => by rw [e, g3] at h2; cases h2
      have e1 : id ≠ 1 := fun e => by rw [e, b1] at h2; cases h2
      exact .inr ⟨id, ver, h1, by rw [upd_ne e1]; exact q6 id _ h3 e9 h2 (fun es v h => by cases h), by omega⟩
  have hv2 : OutE 1 (upd ob2 1 (.box [v1, v2, .sl false (d.limits.map Pt.c), t1, t2, t3])) nx2 v2 es2 := by
    rcases q4 with h | ⟨id, ver, h1, h2, h3⟩
    · exact .inl h
    · have e1 : id ≠ 1 := fun e => by rw [e, c1] at h2; cases h2
      exact .inr ⟨id, ver, h1, by rw [upd_ne e1]; exact h2, h3⟩
  obtain ⟨f1, hf1⟩ := hv1.frzD (by
    have := canonEs_map CanL.guard (d.guards.map mirG)
    rw [List.map_map] at this
    exact this)
  obtain ⟨f2, hf2⟩ := hv2.frzG (frz_cv (ob := upd ob2 1 (.box [v1, v2, .sl false (d.limits.map Pt.c), t1, t2, t3])) d.curves es2 q5.1 fun j c hj => by
    obtain ⟨id, ver, h1, h2, h3⟩ := q5.2 j c hj
    have e1 : id ≠ 1 := fun e => by rw [e, c1] at h2; cases h2
    exact ⟨id, ver, h1, by rw [upd_ne e1]; exact h2⟩) (fun e => by
      have hl := q5.1
      rw [e] at hl
      rw [List.eq_nil_of_length_eq_zero hl.symm]; rfl)
  have hres : (mirD d).c = [.sl false (d.guards.map fun g => (mirG g).c), .sl false (d.curves.map fun c => [.sl false ((mirC c).map Pt.c)]), .sl false (d.limits.map Pt.c), t1, t2, t3] := by
    unfold Dev.c mirD
    rw [ht, List.map_map, List.map_map]
    rfl
  rw [hres]
  have hcan : ∀ (ob : Nat → Option AObj) (fz : Nat → Nat), mapFz (Ev.frz ob DEPTH) fz [.sl false (d.limits.map Pt.c), t1, t2, t3] = some (fz, [.sl false (d.limits.map Pt.c), t1, t2, t3]) := fun ob fz => mapFz_id _ fun y hy => Canon.frz (by
    have := CanL.dev d y
    rw [hdc] at this
    exact this (by simp only [List.mem_cons] at hy ⊢; exact .inr (.inr hy))) ob 7 fz
  have hA : ∀ fz, frzS (upd ob2 1 (.box [v1, v2, .sl false (d.limits.map Pt.c), t1, t2, t3])) fz (.agg [v1, v2, .sl false (d.limits.map Pt.c), t1, t2, t3]) = some (f2 (f1 fz), .agg [.sl false (d.guards.map fun g => (mirG g).c), .sl false (d.curves.map fun c => [.sl false ((mirC c).map Pt.c)]), .sl false (d.limits.map Pt.c), t1, t2, t3]) := fun fz => by
    simp only [frzS]
    rw [mapFz, hf1 fz]
    simp only
    rw [mapFz, hf2 (f1 fz)]
    simp only [hcan]
  have t00 : ((0 : Int) != 0) = false := rfl
  have e55 : (9 < 11) = True := by simp
  simp only [hobA, upd_upd] at g1
  simp only [go_sem, Fn.wear_Mirror, k1, k2, t00, List.length_map, g1, b0, q1, q3, c1, hA]
end Go.Ev
namespace Go.Ev
open Go.Dig
end Go.Ev
namespace Go.Ev
open Go.Dig
end Go.Ev
namespace Go.Ev
open Go.Dig
end Go.Ev
namespace Go.Ev
open Go.Dig
@[irreducible] def WKB : Nat := 2 ^ 19 + 514
theorem MQ.frz {m : Rat} {mc : List AV} (h : MQ m mc) (ob : Nat → Option AObj) (k : Nat) (fz : Nat → Nat) : mapFz (Ev.frz ob (k + 1)) fz mc = some (fz, qC m) := by
  rcases h with rfl | ⟨rfl, rfl⟩
  · exact mapFz_id _ fun x hx => (CanL.q m x hx).frz ob k fz
  · rw [qC_zero]; rfl
theorem Add_all (S T : Nat) (hS : S + T < 2 ^ 36) : ∃ N, ∀ (a b : Rat), SmQ S a → SmQ T b → ∀ n, N ≤ n → evV E n Id.exact_Q_Add [.agg (qC a), .agg (qC b)] = some (.agg (qC (a + b))) :=
  ⟨K (S + T + 1) + 3, fun a b ha hb n hn => by obtain ⟨m, rfl⟩ : ∃ m, n = m + 1 := ⟨n - 1, by omega⟩; exact Add_run a b ha hb hS (by omega)⟩
theorem callV_fz {n : Nat} {f : FuncId} {xs ys : List SV} {r : SV} (h : evV E n f ys = some r) (hx : ∀ (ob : Nat → Option AObj) (fz : Nat → Nat), mapFz (frzS ob) fz xs = some (fz, ys)) (ob : Nat → Option AObj) (fz : Nat → Nat) : callV (evF E n) f xs ob fz = some (.fzd fz r) := by
  rw [callV_ev, hx]
  simp only [h, Option.map_some]
end Go.Ev
namespace Go.Ev
open Go.Dig
theorem fzs_q (q : Rat) : FzS (.agg (qC q)) (.agg (qC q)) := (canS_q q).fzs
end Go.Ev
namespace Go.Ev
set_option maxRecDepth 100000 in
theorem awake_run : evV E 200 Id.amblelaw11_awake [] = some (.one (.bool true)) := by kernel_rfl
theorem awake_ends : Ends Id.amblelaw11_awake [] (.one (.bool true)) := ⟨200, fun n hn => evV_mono hn awake_run⟩
theorem awake_call : Calling Id.amblelaw11_awake [] (.one (.bool true)) := awake_ends.call fun x h => by cases h
end Go.Ev
namespace Go.Ev
open Go.Dig
theorem Cmp_all (S : Nat) (hS : S ≤ 2 ^ 30) : ∃ N, ∀ (a b : Rat), SmQ S a → SmQ S b → ∀ n, N ≤ n → evV E n Id.exact_Q_Cmp [.agg (qC a), .agg (qC b)] = some (.one (.int .i64 (cmpQ a b))) :=
  ⟨4 * (S + S) + 101, fun a b ha hb n hn => by obtain ⟨m, rfl⟩ : ∃ m, n = m + 1 := ⟨n - 1, by omega⟩; exact Cmp_run a b ha hb (by omega) (by omega)⟩
end Go.Ev
namespace Go.Ev
open Go.Dig
section
variable {fz : Nat → Nat}
set_option maxRecDepth 100000 in
theorem mirs_round0 {n nx i : Nat} {ob : Nat → Option AObj} (l : List Samp) (s : Samp) (gd : l[i]? = some s) (hil : i < l.length) (hl : l.length < 2 ^ 20) (v : AV) (es : List (List AV)) (hv : OutE 9 ob nx v es) (hes : es.length < 2 ^ 20) (hn : 2 ≤ n) (y5 : SV) (X : List (Nat × SV)) :
    ∃ ob' nx' v', evC (evF E n) n Fn.amblelaw11_WearMirrors_L0 ⟨env ((5, y5) :: (7, .one (.sl false (l.map Samp.c))) :: (9, .one v) :: (10, .one (.int .i64 (i : Int))) :: X), ob, fz, nx⟩ =
      some (.nrm, ⟨env [(5, y5), (7, .one (.sl false (l.map Samp.c))), (9, .one v'), (10, .one (.int .i64 ((i + 1 : Nat) : Int)))], ob', fz, nx'⟩) ∧ nx ≤ nx' ∧ OutE 9 ob' nx' v' (es ++ [(mirS s).c]) ∧ ∀ id cs, id < nx → ob id = some (.box cs) → ob' id = some (.box cs) := by
  have h1 : (((i : Nat) : Int) < ((l.length : Nat) : Int)) = True := by simp; omega
  have wk : IntKind.i64.wrap ((i + 1 : Nat) : Int) = ((i + 1 : Nat) : Int) := wi64 (by omega)
  have okz : okSz 9 (l.map Samp.c) = true := okSz_map (f := Samp.c) (k := 9) (fun _ => rfl) l
  have ge : (l.map Samp.c)[i]? = some s.c := by rw [List.getElem?_map, gd]; rfl
  obtain ⟨l0, l1, l2, e1, -, -, -⟩ := qC_cells s.load
  obtain ⟨l3, l4, l5, e2, -, -, -⟩ := qC_cells s.angle
  obtain ⟨l6, l7, l8, e3, -, -, -⟩ := qC_cells s.speed
  obtain ⟨m3, m4, m5, e7, -, -, -⟩ := qC_cells (-s.angle)
  obtain ⟨m6, m7, m8, e8, -, -, -⟩ := qC_cells (-s.speed)
  have s1 := samp_cells' s _ _ _ _ _ _ _ _ _ e1 e2 e3
  have s3 := samp_cells' (mirS s) _ _ _ _ _ _ _ _ _ e1 e7 e8
  have k1 := Neg_all s.angle n hn
  have k2 := Neg_all s.speed n hn
  rw [e2, e7] at k1
  rw [e3, e8] at k2
  rw [s1] at ge
  rw [s3]
  have nxa : ∀ a b : Nat, nx + a + b = nx + (a + b) := fun a b => Nat.add_assoc nx a b
  obtain ⟨r, hr0⟩ : ∃ r, evC (evF E n) n Fn.amblelaw11_WearMirrors_L0 ⟨env ((5, y5) :: (7, .one (.sl false (l.map Samp.c))) :: (9, .one v) :: (10, .one (.int .i64 (i : Int))) :: X), ob, fz, nx⟩ = r := ⟨_, rfl⟩
  have hr := hr0
  rcases hv with ⟨rfl, rfl⟩ | ⟨a, va, rfl, h2, h3⟩
  · simp only [go_sem, Fn.amblelaw11_WearMirrors_L0, List.length_map, h1, ge, okz, k1, k2, nxa, okSz, ROOM, add1, wk] at hr
    rw [hr0, ← hr]
    refine ⟨_, _, _, rfl, by omega, .inr ⟨_, 0, rfl, upd_same _ _ _, by omega⟩, fun id cs q1 h => ?_⟩
    repeat rw [upd_ne (by omega)]
    exact h
  · have k3 : ∀ k ob y ver, rowAt (upd ob (nx + k) y) a ver = rowAt ob a ver := fun k ob y ver => rowAt_ne (by omega)
    have hra : rowAt ob a va = some (9, es) := rowAt_of h2
    have b1' : (es.length == es.length) = true := by simp
    have w1 : (es.length + 1) * 168 ≤ 140737488355328 := by omega
    simp only [go_sem, Fn.amblelaw11_WearMirrors_L0, List.length_map, h1, ge, okz, k1, k2, nxa, okSz, ROOM, k3, hra, b1', w1, add1, wk] at hr
    rw [hr0, ← hr]
    refine ⟨_, _, _, rfl, by omega, .inr ⟨a, va + 1, ?_, upd_same _ _ _, by omega⟩, fun id cs q1 h => ?_⟩
    · rw [List.length_append]; rfl
    · have : id ≠ a := fun e => by rw [e, h2] at h; simp at h
      rw [upd_ne this]
      repeat rw [upd_ne (by omega)]
      exact h
theorem mirs_loop0 {n : Nat} (hn : 2 ≤ n) (l : List Samp) (hl : l.length < 2 ^ 20) (y5 : SV) : ∀ (m i : Nat), i + m = l.length → ∀ (ob : Nat → Option AObj) (nx : Nat) (v : AV) (X : List (Nat × SV)), OutE 9 ob nx v ((l.take i).map fun s => (mirS s).c) → ∀ N, m < N →
    ∃ ob' nx' v' X', loopN (evC (evF E n) n Fn.amblelaw11_WearMirrors_L0) N ⟨env ((5, y5) :: (7, .one (.sl false (l.map Samp.c))) :: (9, .one v) :: (10, .one (.int .i64 (i : Int))) :: X), ob, fz, nx⟩ =
      some (.ext 0, ⟨env ((5, y5) :: (7, .one (.sl false (l.map Samp.c))) :: (9, .one v') :: X'), ob', fz, nx'⟩) ∧ nx ≤ nx' ∧ OutE 9 ob' nx' v' (l.map fun s => (mirS s).c) ∧ ∀ id cs, id < nx → ob id = some (.box cs) → ob' id = some (.box cs)
  | 0, i, hi, ob, nx, v, X, hv, N + 1, hN => by
    have hi' : i = l.length := by omega
    subst hi'
    rw [List.take_length] at hv
    have hlt : (((l.length : Nat) : Int) < ((l.length : Nat) : Int)) = False := by simp
    refine ⟨ob, nx, v, [(10, .one (.int .i64 (l.length : Int))), (49, .one (.bool false))], round_ext ?_, Nat.le_refl _, hv, fun id cs _ h => h⟩
    simp only [go_sem, Fn.amblelaw11_WearMirrors_L0, List.length_map, hlt]
  | m + 1, i, hi, ob, nx, v, X, hv, N + 1, hN => by
    have hil : i < l.length := by omega
    have gd : l[i]? = some l[i] := by simp
    obtain ⟨ob1, nx1, v1, hst, g1, g3, g4⟩ := mirs_round0 (fz := fz) (n := n) (nx := nx) (ob := ob) l l[i] gd hil hl v _ hv (by rw [List.length_map, List.length_take]; omega) hn y5 X
    have td : l.take (i + 1) = l.take i ++ [l[i]] := by rw [List.take_add_one, gd]; rfl
    obtain ⟨ob', nx', v', X', q1, q2, q4, q5⟩ := mirs_loop0 hn l hl y5 m (i + 1) (by omega) ob1 nx1 v1 [] (by rw [td, List.map_append]; exact g3) N (by omega)
    exact ⟨ob', nx', v', X', by rw [round_nrm hst]; exact q1, by omega, q4, fun id cs i1 h => q5 id cs (by omega) (g4 id cs i1 h)⟩
end
def negA (a : Nat × Rat) : Nat × Rat := (a.1, -a.2)
set_option maxRecDepth 100000 in
theorem mirs_loop1 (A : List (Nat × Rat)) (hA : ∀ a ∈ A, SmQ (2 ^ 19) a.2) (hl : A.length < 1024) : ∃ N, ∀ n, N ≤ n → ∀ (m i : Nat), i + m = A.length → ∀ (ob : Nat → Option AObj) (nx : Nat) (fz : Nat → Nat) (X : List (Nat × SV)), ∀ M, m < M →
    ∃ X', loopN (evC (evF E n) n Fn.amblelaw11_WearMirrors_L1) M ⟨env ((15, .one (.sl false (A.map actC))) :: (17, .one (.sl false (A.map fun a => actC (negA a)))) :: (19, .one (.sl false (A.map actC))) :: (21, .one (.int .i64 (i : Int))) :: X), ob, fz, nx⟩ =
      some (.ext 2, ⟨env ((15, .one (.sl false (A.map actC))) :: (17, .one (.sl false (A.map fun a => actC (negA a)))) :: (19, .one (.sl false (A.map actC))) :: X'), ob, fz, nx⟩) := by
  obtain ⟨N1, k1⟩ := Add_all (2 ^ 19) (2 ^ 19) (by decide)
  obtain ⟨N2, k2⟩ := Cmp_all (2 ^ 19) (by decide)
  obtain ⟨N3, k3⟩ := Sign_call 0
  refine ⟨N1 + N2 + N3, fun n hn => ?_⟩
  intro m
  induction m with
  | zero =>
    intro i hi ob nx fz X M hM
    obtain ⟨M, rfl⟩ : ∃ k, M = k + 1 := ⟨M - 1, by omega⟩
    have hi' : i = A.length := by omega
    subst hi'
    have hlt : (((A.length : Nat) : Int) < ((A.length : Nat) : Int)) = False := by simp
    refine ⟨[(21, .one (.int .i64 (A.length : Int))), (136, .one (.bool false))], round_ext ?_⟩
    simp only [go_sem, Fn.amblelaw11_WearMirrors_L1, List.length_map, hlt]
  | succ m ih =>
    intro i hi ob nx fz X M hM
    obtain ⟨M, rfl⟩ : ∃ k, M = k + 1 := ⟨M - 1, by omega⟩
    have hil : i < A.length := by omega
    have gd : A[i]? = some A[i] := by simp
    have hs : SmQ (2 ^ 19) A[i].2 := hA _ (by simp)
    generalize A[i] = a at gd hs
    have k1 := callV_fz (k1 _ _ hs (SmQ.neg hs) n (by omega)) ((fzs_q _).two (fzs_q _))
    have k2 := callV_fz (k2 _ _ hs hs n (by omega)) ((fzs_q _).two (fzs_q _))
    have k3 := k3 n (by omega)
    have e0 : a.2 + -a.2 = 0 := by grind
    have sg : signI (0 : Rat).num = 0 := rfl
    rw [e0] at k1
    rw [cmpQ_self] at k2
    rw [sg] at k3
    have gA : (A.map actC)[i]? = some (actC a) := by rw [List.getElem?_map, gd]; rfl
    have gB : (A.map fun a => actC (negA a))[i]? = some (actC (negA a)) := by rw [List.getElem?_map, gd]; rfl
    have oA : okSz 4 (A.map actC) = true := okSz_map (f := actC) (k := 4) (fun _ => rfl) _
    have oB : okSz 4 (A.map fun a => actC (negA a)) = true := okSz_map (f := fun a => actC (negA a)) (k := 4) (fun _ => rfl) _
    have hlt : (((i : Nat) : Int) < ((A.length : Nat) : Int)) = True := by simp; omega
    have wk : IntKind.i64.wrap ((i + 1 : Nat) : Int) = ((i + 1 : Nat) : Int) := wi64 (by omega)
    obtain ⟨a1, a2, a3, ea, -, -, -⟩ := qC_cells a.2
    obtain ⟨b1, b2, b3, eb, -, -, -⟩ := qC_cells (-a.2)
    obtain ⟨z1, z2, z3, ez, -, -, -⟩ := qC_cells 0
    have eac : actC a = [.int .u8 (a.1 : Int), a1, a2, a3] := by unfold actC; rw [ea]
    have ebc : actC (negA a) = [.int .u8 (a.1 : Int), b1, b2, b3] := by unfold actC negA; rw [eb]
    rw [eac] at gA
    rw [ebc] at gB
    rw [ea, eb, ez] at k1
    rw [ez] at k3
    rw [ea] at k2
    have t00 : ((0 : Int) != 0) = false := rfl
    have hst : evC (evF E n) n Fn.amblelaw11_WearMirrors_L1 ⟨env ((15, .one (.sl false (A.map actC))) :: (17, .one (.sl false (A.map fun a => actC (negA a)))) :: (19, .one (.sl false (A.map actC))) :: (21, .one (.int .i64 (i : Int))) :: X), ob, fz, nx⟩ = some (.nrm, ⟨env [(15, .one (.sl false (A.map actC))), (17, .one (.sl false (A.map fun a => actC (negA a)))), (19, .one (.sl false (A.map actC))), (21, .one (.int .i64 ((i + 1 : Nat) : Int)))], ob, fz, nx⟩) := by
      simp only [go_sem, Fn.amblelaw11_WearMirrors_L1, List.length_map, hlt, gA, gB, oA, oB, k1, k2, k3, bne_self_eq_false, t00, add1, wk]
    obtain ⟨X', hX⟩ := ih (i + 1) (by omega) ob nx fz [] M (by omega)
    exact ⟨X', by rw [round_nrm hst]; exact hX⟩
end Go.Ev
namespace Go.Ev
open Go.Dig
set_option maxRecDepth 100000 in
set_option maxHeartbeats 1000000 in
theorem Mirrors_ends (g : Leg) (h1 : g.gates.length < 2 ^ 20) (h2 : g.curves.length < 2 ^ 20) (h2' : ∀ c ∈ g.curves, c.length < 2 ^ 20) (h3 : g.limits.length < 2 ^ 20) (hg : ∀ x ∈ g.gates, x.from_ < 256 ∧ x.to < 256) (l : List Beat) (hl : l.length < 2 ^ 20) :
    Ends Id.amblelaw11_WearMirrors [.agg g.c, .one (.sl false (l.map Beat.c))] (.one (.bool true)) := by
  have hd := Leg.sm g h1 h2 h2' h3 hg
  obtain ⟨N1, k1⟩ := Leg_call g h1 h2 h2' h3
  obtain ⟨N2, k2⟩ := small_call g h2
  obtain ⟨N3, k3⟩ := Check_call g.d hd
  obtain ⟨N4, k4⟩ := awake_call
  obtain ⟨N5, k5⟩ := beats_call l hl
  have hs : ∀ s ∈ l.map Beat.s, SmSamp s := fun s hs => by obtain ⟨b, _, rfl⟩ := List.mem_map.1 hs; exact Beat.sm b
  have hlm : (l.map Beat.s).length < 2 ^ 20 := by simpa using hl
  obtain ⟨N6, k6⟩ := Act_call g.d hd (l.map Beat.s) hlm hs
  obtain ⟨a1, a2, a3, -, eg⟩ := leg_cells g
  obtain ⟨d1, d2, d3, -, ed⟩ := dev_cells g.d
  obtain ⟨r1, r2, r3, r4, er⟩ := devr_cells g.d
  rw [eg] at k1 k2 ⊢
  by_cases p1 : smallB g = true
  case neg =>
    rw [Bool.not_eq_true] at p1
    rw [p1] at k2
    rw [ed, er] at k1
    refine .of (N1 + N2 + N3 + N4) fun {n} hn => ?_
    have k1 := k1 n (by omega)
    have k2 := k2 n (by omega)
    have k4 := k4 n (by omega)
    rw [evV_succ E_amblelaw11_WearMirrors]
    simp only [go_sem, Fn.amblelaw11_WearMirrors, k1, k2, k4]
  rw [p1] at k2
  have q60 : (((l.length : Nat) : Int) > 60) = (60 < l.length) := by rw [eq_iff_iff]; omega
  by_cases p2 : 60 < l.length
  · rw [ed, er] at k1
    refine .of (N1 + N2 + N3 + N4) fun {n} hn => ?_
    have k1 := k1 n (by omega)
    have k2 := k2 n (by omega)
    have k4 := k4 n (by omega)
    rw [evV_succ E_amblelaw11_WearMirrors]
    simp only [go_sem, Fn.amblelaw11_WearMirrors, k1, k2, k4, List.length_map, q60, p2]
  by_cases p3 : errD g.d = 0
  case neg =>
    have e1 : (errD g.d != 0) = true := by simp [p3]
    rw [ed] at k3
    rw [ed, er] at k1
    refine .of (N1 + N2 + N3 + N4) fun {n} hn => ?_
    have k1 := k1 n (by omega)
    have k2 := k2 n (by omega)
    have k3 := k3 n (by omega)
    have k4 := k4 n (by omega)
    rw [evV_succ E_amblelaw11_WearMirrors]
    simp only [go_sem, Fn.amblelaw11_WearMirrors, k1, k2, k3, e1, k4, List.length_map, q60, p2]
  have m6 : mayI g.d (l.map Beat.s) = 0 := mayI_eq p3 (by simp; omega)
  have hr := mayI_ok m6
  have hok := rightD_ok hd hr
  have hdm := mirD_sm hd
  have hrm := rightD_mir hr
  have hsM : ∀ s ∈ (l.map Beat.s).map mirS, SmSamp s := fun s h => by obtain ⟨b, hb, rfl⟩ := List.mem_map.1 h; exact SmSamp.mir (hs b hb)
  have m7 : mayI (mirD g.d) ((l.map Beat.s).map mirS) = 0 := mayI_eq (by unfold errD; rw [if_pos hrm]) (by simp; omega)
  obtain ⟨N7, k7⟩ := (Mirror_ends g.d hd hr).call (can1 (CanL.dev g.d).agg)
  obtain ⟨N8, k8⟩ := (Mirror_ends (mirD g.d) hdm hrm).call (can1 (CanL.dev (mirD g.d)).agg)
  obtain ⟨N9, k9⟩ := Act_ends (mirD g.d) hdm ((l.map Beat.s).map mirS) (by simpa using hl) hsM
  rw [mirD_mirD] at k8
  rw [if_pos m6, m6] at k6
  rw [if_pos m7, m7, acts_mir0 hok (rightD_lim hr)] at k9
  rw [p3] at k3
  have hsm := acts_sm0 hok (l.map Beat.s) hs
  have hlen := acts_len g.d (l.map Beat.s) w0
  rw [List.length_map] at hlen hsm
  generalize acts g.d w0 (l.map Beat.s) = A at *
  have hb60 : 2571 + 257 * l.length ≤ 2 ^ 19 := by
    have : 2571 + 257 * 60 ≤ 2 ^ 19 := by decide
    omega
  obtain ⟨N10, k10⟩ := mirs_loop1 A (fun a ha => SmQ.mono (hsm a ha).1 hb60) (by omega)
  refine .of (N1 + N2 + N3 + N4 + N5 + N6 + N7 + N8 + N9 + N10 + l.length + 3) fun {n} hn => ?_
  have k1 := k1 n (by omega)
  have k2 := k2 n (by omega)
  have k3 := k3 n (by omega)
  have k4 := k4 n (by omega)
  have k5 := k5 n (by omega)
  have k6 := k6 n (by omega)
  have k7 := k7 n (by omega)
  have k8 := k8 n (by omega)
  have k9 := k9 n (by omega)
  have k10 := k10 n (by omega) A.length 0 (by omega)
  have mm : (l.map fun s => s.s.c) = (l.map Beat.s).map Samp.c := by rw [List.map_map]; rfl
  have mN : ((A.map fun a => (a.1, -a.2)).map actC) = A.map fun a => actC (negA a) := by rw [List.map_map]; rfl
  have z0 : ((0 : Nat) : Int) = 0 := rfl
  rw [mm] at k5
  rw [mN] at k9
  rw [z0] at k10
  obtain ⟨f1, f2, f3, -, em⟩ := dev_cells (mirD g.d)
  have kA : ∀ (ob : Nat → Option AObj) (fz : Nat → Nat) (v : AV) (f : Nat → Nat), frzS ob fz (.one v) = some (f, .one (.sl false (((l.map Beat.s).map mirS).map Samp.c))) → callV (evF E n) Id.wear_Act [.agg (mirD g.d).c, .one v] ob fz = some (.fzd f (.tup [.one (.sl false (A.map fun a => actC (negA a))), .one (.int .i64 0)])) := fun ob fz v f h => by
    rw [callV_ev]
    simp only [mapFz, (CanL.dev (mirD g.d)).agg.fzs ob fz, h, k9, Option.map_some]
  have ce : CanonEs ((l.map Beat.s).map fun s => (mirS s).c) := canonEs_map (fun s => CanL.samp (mirS s)) _
  have eM : (((l.map Beat.s).map mirS).map Samp.c) = (l.map Beat.s).map fun s => (mirS s).c := by rw [List.map_map]; rfl
  rw [em] at k7 k8 kA
  rw [ed] at k1 k3 k6 k7 k8
  rw [er] at k1
  have hlA : (((A.map fun a => actC (negA a)).length : Nat) : Int) = ((A.map actC).length : Int) := by simp
  have t00 : ((0 : Int) != 0) = false := rfl
  rw [evV_succ E_amblelaw11_WearMirrors]
  simp only [go_sem, Fn.amblelaw11_WearMirrors, k1, k2, k3, k5, List.length_map, q60, p2, bne_self_eq_false]
  generalize hob : upd (upd (upd (upd _ _ _) _ _) _ _) 8 _ = obx
  have o7 : obx 7 = some (.box [.sl false (g.d.guards.map Guard.c), .sl false (g.d.curves.map fun s => [.sl false (s.map Pt.c)]), .sl false (g.d.limits.map Pt.c), d1, d2, d3]) := by
    rw [← hob, upd_ne (by decide)]; exact upd_same _ _ _
  obtain ⟨ob1, nx1, v1, X1, q1, q2, q3, q4⟩ := mirs_loop0 (n := n) (fz := fz0) (by omega) (l.map Beat.s) hlm (.one (.box 7 0)) (l.map Beat.s).length 0 (by omega) obx 11 .nils [] (.inl ⟨rfl, rfl⟩) n (by rw [List.length_map]; omega)
  rw [z0] at q1
  have b7 := q4 7 _ (by decide) o7
  rw [q1]
  have l7 : ∀ k, (7 < nx1 + k) = True := fun k => by simp only [eq_iff_iff, iff_true]; omega
  have l7' : (7 < nx1) = True := by simp only [eq_iff_iff, iff_true]; omega
  have n7 : ∀ k, (7 = nx1 + k) = False := fun k => by simp only [eq_iff_iff, iff_false]; omega
  have n7' : ∀ k, (nx1 + k = 7) = False := fun k => by simp only [eq_iff_iff, iff_false]; omega
  have nxa : ∀ a b : Nat, nx1 + a + b = nx1 + (a + b) := fun a b => Nat.add_assoc nx1 a b
  simp only [go_sem, k6, k7, k8, b7, l7, l7', n7, n7', nxa, em, upd_upd]
  generalize hoz : upd (upd ob1 (nx1 + 5) _) (nx1 + 13) _ = obz
  have o13 : obz (nx1 + 13) = some (.box [.sl false (g.d.guards.map Guard.c), .sl false (g.d.curves.map fun s => [.sl false (s.map Pt.c)]), .sl false (g.d.limits.map Pt.c), d1, d2, d3]) := by
    rw [← hoz]; exact upd_same _ _ _
  have hv : OutE 9 obz nx1 v1 ((l.map Beat.s).map fun s => (mirS s).c) := by
    rcases q3 with h | ⟨id, ver, u1, u2, u3⟩
    · exact .inl h
    · exact .inr ⟨id, ver, u1, by rw [← hoz, upd_ne (by omega), upd_ne (by omega)]; exact u2, u3⟩
  obtain ⟨gf, hgf⟩ := hv.frz ce
  have kA := kA obz fz0 v1 (gf fz0) (by rw [eM]; exact hgf fz0)
  have l13 : (nx1 + 13 < nx1 + 16) = True := by simp only [eq_iff_iff, iff_true]; omega
  simp only [go_sem, kA, k6, o13, l13, t00, List.length_map, bne_self_eq_false]
  obtain ⟨X2, hX⟩ := k10 obz (nx1 + 16) (gf fz0) [] n (by omega)
  rw [hX]
  simp only [go_sem, k4]
end Go.Ev
