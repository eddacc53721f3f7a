/- PLAIN LAWS OF WHAT IS COMPUTED, for the statement 'DealsOthers'. Nothing is asked of the input. -/
import Derived.Test.YtficeemoekikdaaU14VPm
import Derived.Test.YtficeemoekikdaaLB
set_option linter.unusedVariables false
set_option linter.unusedSimpArgs false
namespace Go.Lt.P5
open Go.Lt
/-! ### the deals -/
/-- below a line -/
def lq (t : Tr) (x y : Rat) : Prop := (t.1 : Rat) * x + (t.2.1 : Rat) * y ≤ (t.2.2 : Rat)
theorem cast_lt {a b : Int} : (a : Rat) < (b : Rat) ↔ a < b := Rat.intCast_lt_intCast
theorem cast_le {a b : Int} : (a : Rat) ≤ (b : Rat) ↔ a ≤ b := Rat.intCast_le_intCast
theorem sat_lq {t : Tr} {x y : Pr} (hx : 0 < x.2) (hy : 0 < y.2) : sat t x y ↔ lq t (dv x.1 x.2) (dv y.1 y.2) := by
  rw [sat_q]
  unfold lq
  have h1 := cast_pos hx
  have h2 := cast_pos hy
  have ex : (x.1 : Rat) = dv x.1 x.2 * x.2 := by unfold dv; rw [Rat.div_mul_cancel (by grind)]
  have ey : (y.1 : Rat) = dv y.1 y.2 * y.2 := by unfold dv; rw [Rat.div_mul_cancel (by grind)]
  rw [← cast_le]
  simp only [Rat.intCast_add, Rat.intCast_mul]
  rw [ex, ey]
  have h3 := Rat.mul_pos h1 h2
  generalize dv x.1 x.2 = p at *
  generalize dv y.1 y.2 = q at *
  generalize (x.2 : Rat) = b at *
  generalize (y.2 : Rat) = d at *
  generalize (t.1 : Rat) = A at *
  generalize (t.2.1 : Rat) = B at *
  generalize (t.2.2 : Rat) = C at *
  have e1 : A * (p * b * d) + B * (q * d * b) = (A * p + B * q) * (b * d) := by grind
  rw [e1]
  exact ⟨fun h => Rat.le_of_mul_le_mul_right h h3, fun h => Rat.mul_le_mul_of_nonneg_right h (Rat.le_of_lt h3)⟩
theorem sat_fq {t : Tr} {p q : Rat} : sat t (fq p) (fq q) ↔ lq t p q := by rw [sat_lq (fq_pos p) (fq_pos q), dv_fq, dv_fq]
/-- a point that no line above all offers parts from them -/
def reg (l : List Pr) (x y : Rat) : Prop := ∀ a b c : Int, 0 ≤ a → 0 ≤ b → (∀ o ∈ l, a * o.1 + b * o.2 ≤ c) → lq (a, b, c) x y
theorem reg_limits {l : List Pr} {x y : Rat} (h : reg l x y) : ∀ t ∈ limits l, lq t x y := fun t ht => by
  unfold limits at ht
  rw [List.mem_filter] at ht
  have hk := of_decide_eq_true ht.2
  have hn := cands_nn t ht.1
  exact h t.1 t.2.1 t.2.2 hn.1 hn.2 hk
theorem reg_lines {q l : List Pr} (hp : q.Perm l) (hs : q.Pairwise lexP) (hne : q ≠ []) {x y : Rat} (h : ∀ t ∈ linesF (chainF q).reverse, lq t x y) : reg l x y := by
  intro a b c ha hb hk
  have hc := chain_ok hs
  have hn := hc.ne hne
  generalize chainF q = s at *
  have hpos := List.length_pos_iff.2 hn
  have h : ∀ t ∈ linesF s.reverse, sat t (fq x) (fq y) := fun t ht => sat_fq.2 (h t ht)
  rw [← sat_fq, sat_q]
  have hx := fq_pos x
  have hy := fq_pos y
  generalize fq x = x at *
  generalize fq y = y at *
  have hQ : 0 < x.2 * y.2 := Int.mul_pos hx hy
  have hl0 := h (0, 1, (at' s.reverse 0).2) (by unfold linesF; simp)
  have hl1 := h (1, 0, (at' s.reverse (s.reverse.length - 1)).1) (by unfold linesF; simp)
  have hli : ∀ i, i < s.reverse.length - 1 → sat (lineB (at' s.reverse i) (at' s.reverse (i + 1))) x y := fun i hi => h _ (by
    unfold linesF
    exact List.mem_cons_of_mem _ (List.mem_cons_of_mem _ (List.mem_map.2 ⟨i, List.mem_range.2 hi, rfl⟩)))
  rw [List.length_reverse] at hli hl1
  rw [sat_q] at hl0 hl1
  rw [at_rev hpos, Nat.sub_zero] at hl0
  rw [at_rev (by omega), Nat.sub_self] at hl1
  dsimp only at hl0 hl1
  simp only [sat_q] at hli
  dsimp only
  generalize x.1 * y.2 = P at *
  generalize y.1 * x.2 = R at *
  generalize x.2 * y.2 = Q at *
  have huq : UQ P R Q s := uq_of s (fun j hj => by
    have := hli (s.length - 1 - (j + 1)) (by omega)
    rw [at_rev (by omega), at_rev (by omega)] at this
    rw [show s.length - 1 - (s.length - 1 - (j + 1)) = j + 1 by omega, show s.length - 1 - (s.length - 1 - (j + 1) + 1) = j by omega] at this
    unfold lineB at this
    dsimp only at this
    generalize at' s (j + 1) = u at *
    generalize at' s j = t at *
    grind) (fun _ => by omega)
  match s, hn, hc, huq, hl1 with
  | a' :: r, _, hc, huq, hl1 =>
    have e : at' (a' :: r) 0 = a' := rfl
    rw [e] at hl1
    exact uq_le hQ ha hb (a' :: r) hc.cv huq (fun o ho => hk o (hp.mem_iff.1 (hc.sub o ho))) a' r rfl (by omega)
theorem lines_reg {q l : List Pr} (hp : q.Perm l) (hs : q.Pairwise lexP) (hne : q ≠ []) {x y : Rat} : (∀ t ∈ linesF (chainF q).reverse, lq t x y) ↔ reg l x y :=
  ⟨reg_lines hp hs hne, fun h t ht => reg_limits h t (line_limit hp hs hne t ht)⟩
theorem limits_reg {q l : List Pr} (hp : q.Perm l) (hs : q.Pairwise lexP) (hne : q ≠ []) {x y : Rat} : (∀ t ∈ limits l, lq t x y) ↔ reg l x y :=
  ⟨fun h => reg_lines hp hs hne fun t ht => h t (line_limit hp hs hne t ht), reg_limits⟩
/-! what deals are -/
theorem reg.conv {l : List Pr} {x y x' y' : Rat} (h : reg l x y) (k : reg l x' y') {s : Rat} (h0 : 0 ≤ s) (h1 : s ≤ 1) : reg l ((1 - s) * x + s * x') ((1 - s) * y + s * y') := by
  intro a b c ha hb hk
  have e1 := h a b c ha hb hk
  have e2 := k a b c ha hb hk
  unfold lq at *
  dsimp only at *
  have m1 := Rat.mul_le_mul_of_nonneg_left e1 (show 0 ≤ 1 - s by grind)
  have m2 := Rat.mul_le_mul_of_nonneg_left e2 h0
  grind
theorem reg.down {l : List Pr} {x y x' y' : Rat} (h : reg l x y) (hx : x' ≤ x) (hy : y' ≤ y) : reg l x' y' := by
  intro a b c ha hb hk
  have e1 := h a b c ha hb hk
  unfold lq at *
  dsimp only at *
  have ha' : (0 : Rat) ≤ a := by exact_mod_cast ha
  have hb' : (0 : Rat) ≤ b := by exact_mod_cast hb
  have m1 := Rat.mul_le_mul_of_nonneg_left hx ha'
  have m2 := Rat.mul_le_mul_of_nonneg_left hy hb'
  grind
theorem reg.sub {l l' : List Pr} {x y : Rat} (h : reg l x y) (hs : ∀ o ∈ l, o ∈ l') : reg l' x y := fun a b c ha hb hk => h a b c ha hb fun o ho => hk o (hs o ho)
theorem reg.mem {l : List Pr} {o : Pr} (h : o ∈ l) : reg l (o.1 : Rat) (o.2 : Rat) := fun a b c ha hb hk => by
  have := hk o h
  unfold lq
  dsimp only
  have e : ((a * o.1 + b * o.2 : Int) : Rat) ≤ (c : Rat) := cast_le.2 this
  rw [Rat.intCast_add, Rat.intCast_mul, Rat.intCast_mul] at e
  exact e
theorem reg.le {l : List Pr} {x y : Rat} (h : reg l x y) (hn : ∀ o ∈ l, num o) : x ≤ 30 ∧ y ≤ 30 := by
  have e1 := h 1 0 30 (by omega) (by omega) fun o ho => by have := hn o ho; unfold num at this; omega
  have e2 := h 0 1 30 (by omega) (by omega) fun o ho => by have := hn o ho; unfold num at this; omega
  unfold lq at e1 e2
  dsimp only at e1 e2
  have c0 : ((0 : Int) : Rat) = 0 := rfl
  have c1 : ((1 : Int) : Rat) = 1 := rfl
  have c30 : ((30 : Int) : Rat) = 30 := rfl
  rw [c0, c1, c30] at e1 e2
  constructor <;> grind
/-- the last deal on a way -/
def IsTop (l : List Pr) (d : Pr) (u v m : Rat) : Prop := ∀ s, reg l ((d.1 : Rat) + s * u) ((d.2 : Rat) + s * v) ↔ s ≤ m
theorem IsTop.uniq {l : List Pr} {d : Pr} {u v m m' : Rat} (h : IsTop l d u v m) (k : IsTop l d u v m') : m = m' := by
  have h1 := (k m).1 ((h m).2 Rat.le_refl)
  have h2 := (h m').1 ((k m').2 Rat.le_refl)
  grind
def roomP (l : List Pr) (d : Pr) : Prop := ∃ x y, reg l x y ∧ (d.1 : Rat) < x ∧ (d.2 : Rat) < y
theorem IsTop.pos {l : List Pr} {d : Pr} {u v m : Rat} (h : IsTop l d u v m) (hr : roomP l d) (hu : 0 ≤ u) (hv : 0 ≤ v) : 0 < m := by
  obtain ⟨x, y, hxy, hx, hy⟩ := hr
  by_cases c : 0 < m
  · exact c
  exfalso
  -- a small step
  have key : ∀ s : Rat, 0 < s → s * u ≤ x - d.1 → s * v ≤ y - d.2 → False := fun s hs h1 h2 => by
    have := (h s).1 (hxy.down (by grind) (by grind))
    grind
  have hw : 0 < u + v + 1 := by grind
  have e0 : ∀ z : Rat, z / (u + v + 1) * (u + v + 1) = z := fun z => Rat.div_mul_cancel (by grind)
  have small : ∀ z : Rat, 0 < z → 0 < z / (u + v + 1) := fun z hz => by
    have := e0 z
    by_cases c2 : 0 < z / (u + v + 1)
    · exact c2
    · have := Rat.mul_le_mul_of_nonneg_right (show z / (u + v + 1) ≤ 0 by grind) (show 0 ≤ u + v + 1 by grind)
      grind
  have le : ∀ z w : Rat, 0 < z → 0 ≤ w → w ≤ u + v + 1 → z / (u + v + 1) * w ≤ z := fun z w hz hw0 hw1 => by
    have := Rat.mul_le_mul_of_nonneg_left hw1 (Rat.le_of_lt (small z hz))
    rw [e0] at this
    exact this
  by_cases c3 : x - d.1 ≤ y - d.2
  · have hz : 0 < x - (d.1 : Rat) := by grind
    refine key _ (small _ hz) (le _ u hz hu (by grind)) ?_
    have := le _ v hz hv (by grind)
    grind
  · have hz : 0 < y - (d.2 : Rat) := by grind
    refine key _ (small _ hz) ?_ (le _ v hz hv (by grind))
    have := le _ u hz hu (by grind)
    grind
def IsHalf (l : List Pr) (d : Pr) (p : Rat × Rat) : Prop := ∃ m, IsTop l d 1 1 m ∧ p = ((d.1 : Rat) + m, (d.2 : Rat) + m)
def IsBest (l : List Pr) (d : Pr) (p : Rat × Rat) : Prop := ∃ a b m, IsTop l d 1 0 a ∧ IsTop l d 0 1 b ∧ IsTop l d a b m ∧ p = ((d.1 : Rat) + m * a, (d.2 : Rat) + m * b)
theorem IsHalf.uniq {l : List Pr} {d : Pr} {p q : Rat × Rat} (h : IsHalf l d p) (k : IsHalf l d q) : p = q := by
  obtain ⟨m, h1, rfl⟩ := h
  obtain ⟨m', k1, rfl⟩ := k
  rw [h1.uniq k1]
theorem IsBest.uniq {l : List Pr} {d : Pr} {p q : Rat × Rat} (h : IsBest l d p) (k : IsBest l d q) : p = q := by
  obtain ⟨a, b, m, h1, h2, h3, rfl⟩ := h
  obtain ⟨a', b', m', k1, k2, k3, rfl⟩ := k
  have ea := h1.uniq k1
  have eb := h2.uniq k2
  subst ea; subst eb
  rw [h3.uniq k3]
/-- the deal with the greatest product -/
structure IsProd (l : List Pr) (d : Pr) (p : Rat × Rat) : Prop where
  reg : reg l p.1 p.2
  x : (d.1 : Rat) < p.1
  y : (d.2 : Rat) < p.2
  max : ∀ x y, Go.Lt.P5.reg l x y → (d.1 : Rat) < x → (d.2 : Rat) < y → (x - d.1) * (y - d.2) ≤ (p.1 - d.1) * (p.2 - d.2)
theorem sq_pos' {x : Rat} (h : x ≠ 0) : 0 < x * x := by
  rcases (show x < 0 ∨ 0 < x by grind) with c | c
  · have := Rat.mul_pos (show 0 < -x by grind) (show 0 < -x by grind)
    grind
  · exact Rat.mul_pos c c
theorem sq_nn {x : Rat} : 0 ≤ x * x := by
  by_cases h : x = 0
  · subst h; grind
  · exact Rat.le_of_lt (sq_pos' h)
theorem prod_uniq {u v u' v' : Rat} (hu : 0 < u) (hv : 0 < v) (hu' : 0 < u') (hv' : 0 < v') (e : u * v = u' * v') (e3 : (u + u') * (v + v') ≤ 4 * (u * v)) : u = u' ∧ v = v' := by
  have e4 : u * v' + u' * v ≤ 2 * (u * v) := by grind
  have e5 : (u * v') * (u' * v) = (u * v) * (u * v) := by
    have : (u * v') * (u' * v) = (u * v) * (u' * v') := by grind
    rw [this, ← e]
  have p1 := Rat.mul_pos hu hv'
  have p2 := Rat.mul_pos hu' hv
  have p3 := Rat.mul_pos hu hv
  have e6 : u * v' = u * v := by
    generalize u * v' = a at *
    generalize u' * v = b at *
    generalize u * v = c at *
    by_cases z : a - b = 0
    · have : (a - c) * (a + c) = 0 := by grind
      rcases Rat.mul_eq_zero.1 this with k | k <;> grind
    · exfalso
      have := sq_pos' z
      have m1 := Rat.mul_le_mul_of_nonneg_left e4 (show 0 ≤ a + b by grind)
      have m2 := Rat.mul_le_mul_of_nonneg_right e4 (show 0 ≤ 2 * c by grind)
      grind
  have ev : v = v' := by
    have : u * (v' - v) = 0 := by grind
    rcases Rat.mul_eq_zero.1 this with c | c <;> grind
  refine ⟨?_, ev⟩
  subst ev
  have : (u - u') * v = 0 := by grind
  rcases Rat.mul_eq_zero.1 this with c | c <;> grind
theorem IsProd.uniq {l : List Pr} {d : Pr} {p q : Rat × Rat} (h : IsProd l d p) (k : IsProd l d q) : p = q := by
  have h1 := h.max q.1 q.2 k.reg k.x k.y
  have h2 := k.max p.1 p.2 h.reg h.x h.y
  have hm := h.reg.conv k.reg (s := 1 / 2) (by grind) (by grind)
  have hx := h.x
  have hy := h.y
  have kx := k.x
  have ky := k.y
  have h3 := h.max _ _ hm (by grind) (by grind)
  clear hm
  obtain ⟨a, b⟩ := prod_uniq (u := p.1 - d.1) (v := p.2 - d.2) (u' := q.1 - d.1) (v' := q.2 - d.2) (by grind) (by grind) (by grind) (by grind) (Rat.le_antisymm h2 h1) (by grind)
  exact Prod.ext (by grind) (by grind)
end Go.Lt.P5
