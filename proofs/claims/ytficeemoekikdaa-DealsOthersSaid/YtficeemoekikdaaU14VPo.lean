/- PLAIN LAWS OF WHAT IS COMPUTED, for the statement 'DealsOthers'. Nothing is asked of the input. -/
import Derived.Test.YtficeemoekikdaaU14VPs
set_option linter.unusedVariables false
set_option linter.unusedSimpArgs false
namespace Go.Lt.P5
open Go.Lt
/-! ### the greatest product -/
theorem fold_max (d : Pr) (C : List (Rat × Rat)) : (C.foldl (seeF d) (none, -1) = (none, -1) ∧ ∀ p ∈ C, gainq d p ≤ -1) ∨ ∃ p ∈ C, C.foldl (seeF d) (none, -1) = (some p, gainq d p) ∧ ∀ p' ∈ C, gainq d p' ≤ gainq d p := by
  have key : ∀ n, n ≤ C.length → ((C.take n).foldl (seeF d) (none, -1) = (none, -1) ∧ ∀ p ∈ C.take n, gainq d p ≤ -1) ∨ ∃ p ∈ C.take n, (C.take n).foldl (seeF d) (none, -1) = (some p, gainq d p) ∧ ∀ p' ∈ C.take n, gainq d p' ≤ gainq d p := by
    intro n
    induction n with
    | zero => intro _; left; simp
    | succ n ih =>
      intro hn
      have hlt : n < C.length := by omega
      rw [List.take_succ_eq_append_getElem hlt, List.foldl_append]
      rcases ih (by omega) with ⟨h1, h2⟩ | ⟨p, hp, h1, h2⟩
      · rw [h1]
        simp only [List.foldl_cons, List.foldl_nil, seeF]
        by_cases c : -1 < gainq d C[n]
        · right
          rw [if_pos c]
          refine ⟨C[n], List.mem_append_right _ (List.mem_singleton.2 rfl), rfl, fun p' hp' => ?_⟩
          rcases List.mem_append.1 hp' with h | h
          · have := h2 p' h; grind
          · rw [List.mem_singleton] at h; subst h; exact Rat.le_refl
        · left
          rw [if_neg c]
          refine ⟨rfl, fun p' hp' => ?_⟩
          rcases List.mem_append.1 hp' with h | h
          · exact h2 p' h
          · rw [List.mem_singleton] at h; subst h; grind
      · rw [h1]
        simp only [List.foldl_cons, List.foldl_nil, seeF]
        right
        by_cases c : gainq d p < gainq d C[n]
        · rw [if_pos c]
          refine ⟨C[n], List.mem_append_right _ (List.mem_singleton.2 rfl), rfl, fun p' hp' => ?_⟩
          rcases List.mem_append.1 hp' with h | h
          · have := h2 p' h; grind
          · rw [List.mem_singleton] at h; subst h; exact Rat.le_refl
        · rw [if_neg c]
          refine ⟨p, List.mem_append_left _ hp, rfl, fun p' hp' => ?_⟩
          rcases List.mem_append.1 hp' with h | h
          · exact h2 p' h
          · rw [List.mem_singleton] at h; subst h; grind
  have := key C.length (Nat.le_refl _)
  rw [List.take_length] at this
  exact this
theorem gainq_pos {d : Pr} {p : Rat × Rat} (h1 : 0 ≤ p.1 - d.1) (h2 : 0 ≤ p.2 - d.2) : gainq d p = (p.1 - d.1) * (p.2 - d.2) := by
  unfold gainq
  rw [if_neg (by rintro (c | c) <;> grind)]
theorem of_gainq {d : Pr} {p : Rat × Rat} (h : 0 < gainq d p) : 0 < p.1 - d.1 ∧ 0 < p.2 - d.2 ∧ gainq d p = (p.1 - d.1) * (p.2 - d.2) := by
  unfold gainq at h
  split at h
  · exact absurd h (by decide)
  · rename_i c
    have h1 : 0 ≤ p.1 - d.1 := by grind
    have h2 : 0 ≤ p.2 - d.2 := by grind
    refine ⟨?_, ?_, gainq_pos h1 h2⟩
    · by_cases e : p.1 - d.1 = 0
      · rw [e, Rat.zero_mul] at h; grind
      · grind
    · by_cases e : p.2 - d.2 = 0
      · rw [e, Rat.mul_zero] at h; grind
      · grind
/-- a + b and their product -/
theorem amgm {x y r : Rat} (hx : 0 ≤ x) (hy : 0 ≤ y) (h : x + y ≤ r) : 4 * (x * y) ≤ r * r := by
  have h1 : 0 ≤ (x - y) * (x - y) := sq_nn
  have h2 := Rat.mul_le_mul_of_nonneg_left h (show 0 ≤ x + y by grind)
  have h3 := Rat.mul_le_mul_of_nonneg_right h (show 0 ≤ r by grind)
  grind
theorem mid_gain {a b u v r : Rat} (ha : 0 < a) (hb : 0 < b) (hu : 0 < u) (hv : 0 < v) (h : a * u + b * v ≤ r) {U V : Rat} (hU : 2 * a * U = r) (hV : 2 * b * V = r) : u * v ≤ U * V := by
  have h1 := amgm (Rat.le_of_lt (Rat.mul_pos ha hu)) (Rat.le_of_lt (Rat.mul_pos hb hv)) h
  have e1 : r * r = 4 * (a * b) * (U * V) := by
    calc r * r = (2 * a * U) * (2 * b * V) := by rw [hU, hV]
      _ = 4 * (a * b) * (U * V) := by grind
  have e2 : 4 * (a * u * (b * v)) = 4 * (a * b) * (u * v) := by grind
  rw [e1, e2] at h1
  have := Rat.mul_pos ha hb
  exact Rat.le_of_mul_le_mul_left h1 (by grind)
theorem left_gain {a b u v r U V : Rat} (ha : 0 < a) (hb : 0 < b) (hu : 0 < u) (hv : 0 < v) (h : a * u + b * v ≤ r) (hUV : a * U + b * V = r) (h1 : r < 2 * a * U) (h2 : U ≤ u) : 0 < U ∧ 0 < V ∧ u * v ≤ U * V := by
  have p1 := Rat.mul_pos ha hu
  have p2 := Rat.mul_pos hb hv
  have hU : 0 < U := by
    by_cases c : 0 < U
    · exact c
    · have := Rat.mul_le_mul_of_nonneg_left (show U ≤ 0 by grind) (Rat.le_of_lt ha)
      grind
  have m1 := Rat.mul_le_mul_of_nonneg_left h2 (Rat.le_of_lt ha)
  have hVv : b * v ≤ b * V := by grind
  have hV : 0 < V := by
    have := Rat.le_of_mul_le_mul_left hVv hb
    grind
  refine ⟨hU, hV, ?_⟩
  -- u (r - a u) <= U (r - a U)
  have m2 : 0 ≤ (u - U) * (a * U + a * u - r) := Rat.mul_nonneg (by grind) (by grind)
  have m3 := Rat.mul_le_mul_of_nonneg_left (show b * v ≤ r - a * u by grind) (Rat.le_of_lt hu)
  have e : b * (U * V) = U * (r - a * U) := by grind
  refine Rat.le_of_mul_le_mul_left (c := b) ?_ hb
  rw [e]
  grind
theorem right_gain {a b u v r U V : Rat} (ha : 0 < a) (hb : 0 < b) (hu : 0 < u) (hv : 0 < v) (h : a * u + b * v ≤ r) (hUV : a * U + b * V = r) (h1 : 2 * a * U < r) (h2 : u ≤ U) : 0 < U ∧ 0 < V ∧ u * v ≤ U * V := by
  have p1 := Rat.mul_pos ha hu
  have p2 := Rat.mul_pos hb hv
  have hU : 0 < U := by grind
  have p3 := Rat.mul_pos ha hU
  have hV : 0 < V := by
    by_cases c : 0 < V
    · exact c
    · have := Rat.mul_le_mul_of_nonneg_left (show V ≤ 0 by grind) (Rat.le_of_lt hb)
      grind
  refine ⟨hU, hV, ?_⟩
  have m1 := Rat.mul_le_mul_of_nonneg_left h2 (Rat.le_of_lt ha)
  have m2 : 0 ≤ (U - u) * (r - a * U - a * u) := Rat.mul_nonneg (by grind) (by grind)
  have m3 := Rat.mul_le_mul_of_nonneg_left (show b * v ≤ r - a * u by grind) (Rat.le_of_lt hu)
  have e : b * (U * V) = U * (r - a * U) := by grind
  refine Rat.le_of_mul_le_mul_left (c := b) ?_ hb
  rw [e]
  grind
theorem mid_val {r b d : Int} (hb : 0 < b) : 2 * (b : Rat) * (dv (r + 2 * b * d) (2 * b) - d) = (r : Rat) := by
  have h := cast_pos hb
  unfold dv
  rw [cast_sub_mul, Rat.intCast_mul]
  have e2 : ((2 : Int) : Rat) = 2 := rfl
  rw [e2]
  generalize (r : Rat) = r at *
  generalize (b : Rat) = b at *
  generalize (d : Rat) = d at *
  have hne : 2 * b ≠ 0 := by grind
  have := Rat.div_mul_cancel (a := r + 2 * b * d) hne
  grind
section
variable {l e : List Pr} {d : Pr}
/-- where a number lies between the edge's corners -/
theorem seg_up {x : Rat} : ∀ n, 0 < n → n ≤ e.length → x ≤ ((at' e (n - 1)).1 : Rat) → x ≤ ((at' e 0).1 : Rat) ∨ ∃ i, i + 1 < n ∧ ((at' e i).1 : Rat) < x ∧ x ≤ ((at' e (i + 1)).1 : Rat) := by
  intro n
  induction n with
  | zero => intro h; omega
  | succ n ih =>
    intro _ hn hx
    by_cases h0 : n = 0
    · subst h0; left; exact hx
    · by_cases c : x ≤ ((at' e (n - 1)).1 : Rat)
      · rcases ih (by omega) (by omega) c with h | ⟨i, h1, h2⟩
        · exact .inl h
        · exact .inr ⟨i, by omega, h2⟩
      · refine .inr ⟨n - 1, by omega, by grind, ?_⟩
        rw [show n - 1 + 1 = n by omega]
        exact hx
theorem line_eq {u t : Pr} : (lineB u t).1 * u.1 + (lineB u t).2.1 * u.2 = (lineB u t).2.2 ∧ (lineB u t).1 * t.1 + (lineB u t).2.1 * t.2 = (lineB u t).2.2 := by
  unfold lineB
  dsimp only
  constructor <;> grind
theorem line_gain {t : Tr} {x d : Pr} (h : t.1 * x.1 + t.2.1 * x.2 = t.2.2) : (t.1 : Rat) * ((x.1 : Rat) - d.1) + (t.2.1 : Rat) * ((x.2 : Rat) - d.2) = (restF t d : Rat) := by
  unfold restF
  have : ((t.1 * x.1 + t.2.1 * x.2 : Int) : Rat) = (t.2.2 : Rat) := by rw [h]
  rw [Rat.intCast_add, Rat.intCast_mul, Rat.intCast_mul] at this
  rw [Rat.intCast_sub, Rat.intCast_sub, Rat.intCast_mul, Rat.intCast_mul]
  grind
/-- no deal has a greater product than all candidates -/
theorem cands_cover (ho : offP l) (hE : EdgeP l e) (hlr : ∀ x y, (∀ t ∈ linesF e, lq t x y) ↔ reg l x y) {x y : Rat} (hr : reg l x y) (hx : (d.1 : Rat) < x) (hy : (d.2 : Rat) < y) : ∃ p ∈ candsP e d e.length, (x - d.1) * (y - d.2) ≤ gainq d p := by
  have hp := hE.pos
  have hL := (hlr x y).2 hr
  have corner_in : ∀ i, i < e.length → cornerQ (at' e i) ∈ candsP e d e.length := fun i hi => by
    unfold candsP
    exact List.mem_flatMap.2 ⟨i, List.mem_range.2 hi, List.mem_cons_self⟩
  obtain ⟨t1, t2⟩ := hE.top
  have hx2 := hL _ t2
  have hy2 := hL _ t1
  unfold lq at hx2 hy2
  dsimp only at hx2 hy2
  have c0 : ((0 : Int) : Rat) = 0 := rfl
  have c1 : ((1 : Int) : Rat) = 1 := rfl
  rw [c0, c1] at hx2 hy2
  rcases seg_up (e := e) (x := x) e.length hp (Nat.le_refl _) (by grind) with h | ⟨i, hi, h1, h2⟩
  · refine ⟨_, corner_in 0 hp, ?_⟩
    have e1 : (cornerQ (at' e 0)).1 = ((at' e 0).1 : Rat) := rfl
    have e2 : (cornerQ (at' e 0)).2 = ((at' e 0).2 : Rat) := rfl
    rw [gainq_pos (by rw [e1]; grind) (by rw [e2]; grind), e1, e2]
    have m1 := Rat.mul_le_mul_of_nonneg_left (show y - d.2 ≤ (at' e 0).2 - (d.2 : Rat) by grind) (show 0 ≤ x - d.1 by grind)
    have m2 := Rat.mul_le_mul_of_nonneg_right (show x - d.1 ≤ (at' e 0).1 - (d.1 : Rat) by grind) (show 0 ≤ (at' e 0).2 - (d.2 : Rat) by grind)
    exact Rat.le_trans m1 m2
  · have hst := hE.step i hi
    have hn0 := ho.2.2.1 _ (hE.mem i (by omega))
    have hn1 := ho.2.2.1 _ (hE.mem (i + 1) hi)
    obtain ⟨hlb, ha, hb⟩ := lineB_lb hn0 hn1 hst.1 hst.2
    have hmem : lineB (at' e i) (at' e (i + 1)) ∈ linesF e := by
      unfold linesF
      exact List.mem_cons_of_mem _ (List.mem_cons_of_mem _ (List.mem_map.2 ⟨i, List.mem_range.2 (by omega), rfl⟩))
    have hl := hL _ hmem
    obtain ⟨le0, le1⟩ := @line_eq (at' e i) (at' e (i + 1))
    have g0 := line_gain (d := d) le0
    have g1 := line_gain (d := d) le1
    have hcs : ∀ (hk : okM (lineB (at' e i) (at' e (i + 1))) d (at' e i) (at' e (i + 1))), midq (lineB (at' e i) (at' e (i + 1))) d ∈ candsP e d e.length := fun hk => by
      unfold candsP
      refine List.mem_flatMap.2 ⟨i + 1, List.mem_range.2 hi, ?_⟩
      unfold candP
      rw [Nat.add_sub_cancel, if_pos ⟨by omega, hk⟩]
      simp
    have q0 : cornerQ (at' e i) = (((at' e i).1 : Rat), ((at' e i).2 : Rat)) := rfl
    have q1 : cornerQ (at' e (i + 1)) = (((at' e (i + 1)).1 : Rat), ((at' e (i + 1)).2 : Rat)) := rfl
    have in0 := corner_in i (by omega)
    have in1 := corner_in (i + 1) hi
    rw [q0] at in0
    rw [q1] at in1
    generalize lineB (at' e i) (at' e (i + 1)) = t at *
    have va := mid_val (r := restF t d) (b := t.1) (d := d.1) ha
    have vb := mid_val (r := restF t d) (b := t.2.1) (d := d.2) hb
    have ha' := cast_pos ha
    have hb' := cast_pos hb
    have hle : (t.1 : Rat) * (x - d.1) + (t.2.1 : Rat) * (y - d.2) ≤ (restF t d : Rat) := by
      unfold lq at hl
      unfold restF
      rw [Rat.intCast_sub, Rat.intCast_sub, Rat.intCast_mul, Rat.intCast_mul]
      grind
    have hu : 0 < x - d.1 := by grind
    have hv : 0 < y - d.2 := by grind
    have em : midq t d = (dv (restF t d + 2 * t.1 * d.1) (2 * t.1), dv (restF t d + 2 * t.2.1 * d.2) (2 * t.2.1)) := rfl
    by_cases hk : okM t d (at' e i) (at' e (i + 1))
    · refine ⟨_, hcs hk, ?_⟩
      have hg := mid_gain ha' hb' hu hv hle va vb
      have hpos : 0 < (restF t d : Rat) := by
        have := Rat.mul_pos ha' hu
        have := Rat.mul_pos hb' hv
        grind
      have pu : 0 ≤ dv (restF t d + 2 * t.1 * d.1) (2 * t.1) - (d.1 : Rat) := by
        by_cases c : 0 ≤ dv (restF t d + 2 * t.1 * d.1) (2 * t.1) - (d.1 : Rat)
        · exact c
        · have := Rat.mul_pos ha' (show 0 < -(dv (restF t d + 2 * t.1 * d.1) (2 * t.1) - (d.1 : Rat)) by grind)
          grind
      have pv : 0 ≤ dv (restF t d + 2 * t.2.1 * d.2) (2 * t.2.1) - (d.2 : Rat) := by
        by_cases c : 0 ≤ dv (restF t d + 2 * t.2.1 * d.2) (2 * t.2.1) - (d.2 : Rat)
        · exact c
        · have := Rat.mul_pos hb' (show 0 < -(dv (restF t d + 2 * t.2.1 * d.2) (2 * t.2.1) - (d.2 : Rat)) by grind)
          grind
      rw [gainq_pos (by rw [em]; exact pu) (by rw [em]; exact pv), em]
      exact hg
    · have hk' : dv (restF t d + 2 * t.1 * d.1) (2 * t.1) < ((at' e i).1 : Rat) ∨ ((at' e (i + 1)).1 : Rat) < dv (restF t d + 2 * t.1 * d.1) (2 * t.1) := by
        unfold okM at hk
        rw [em] at hk
        dsimp only at hk
        grind
      clear hk hcs em vb hl hL t1 t2 hx2 hy2 corner_in
      rcases hk' with c | c
      · have h3 : (restF t d : Rat) < 2 * (t.1 : Rat) * (((at' e i).1 : Rat) - d.1) := by
          rw [← va]
          exact Rat.mul_lt_mul_of_pos_left (by grind) (by grind)
        obtain ⟨k1, k2, k3⟩ := left_gain ha' hb' hu hv hle g0 h3 (by grind)
        refine ⟨_, in0, ?_⟩
        rw [gainq_pos (Rat.le_of_lt k1) (Rat.le_of_lt k2)]
        exact k3
      · have h3 : 2 * (t.1 : Rat) * (((at' e (i + 1)).1 : Rat) - d.1) < (restF t d : Rat) := by
          rw [← va]
          exact Rat.mul_lt_mul_of_pos_left (by grind) (by grind)
        obtain ⟨k1, k2, k3⟩ := right_gain ha' hb' hu hv hle g1 h3 (by grind)
        refine ⟨_, in1, ?_⟩
        rw [gainq_pos (Rat.le_of_lt k1) (Rat.le_of_lt k2)]
        exact k3
/-- all candidates are deals -/
theorem cand_reg (ho : offP l) (hE : EdgeP l e) (hd : num d) (hri : ∀ t ∈ linesF e, 0 < restF t d) {p : Rat × Rat} (h : p ∈ candsP e d e.length) : reg l p.1 p.2 ∧ qp p := by
  unfold candsP at h
  obtain ⟨i, hi, h⟩ := List.mem_flatMap.1 h
  rw [List.mem_range] at hi
  have hni := ho.2.2.1 _ (hE.mem i hi)
  unfold candP at h
  rcases List.mem_cons.1 h with rfl | h
  · exact ⟨reg.mem (hE.mem i hi), corner_qp hni⟩
  · split at h
    · rename_i hk
      rw [List.mem_singleton] at h
      subst h
      obtain ⟨h0, hk1, hk2⟩ := hk
      have hst := hE.step (i - 1) (by omega)
      rw [show i - 1 + 1 = i by omega] at hst
      have hnu := ho.2.2.1 _ (hE.mem (i - 1) (by omega))
      obtain ⟨hlb, ha, hb⟩ := lineB_lb hnu hni hst.1 hst.2
      obtain ⟨hil, hie⟩ := lineF_at h0 hi
      have hr := hri _ (List.getElem_mem hil)
      rw [hie] at hr
      refine ⟨?_, (mid_qp hlb ha hb hd hr).2.2⟩
      have r0 := reg.mem (hE.mem (i - 1) (by omega))
      have r1 := reg.mem (hE.mem i hi)
      obtain ⟨le0, le1⟩ := @line_eq (at' e (i - 1)) (at' e i)
      have g0 := line_gain (d := d) le0
      have g1 := line_gain (d := d) le1
      generalize lineB (at' e (i - 1)) (at' e i) = t at *
      have va := mid_val (r := restF t d) (b := t.1) (d := d.1) ha
      have vb := mid_val (r := restF t d) (b := t.2.1) (d := d.2) hb
      have ha' := cast_pos ha
      have hb' := cast_pos hb
      have hx : ((at' e (i - 1)).1 : Rat) < ((at' e i).1 : Rat) := by exact_mod_cast hst.1
      unfold midq at *
      dsimp only at *
      generalize dv (restF t d + 2 * t.1 * d.1) (2 * t.1) = X at *
      generalize dv (restF t d + 2 * t.2.1 * d.2) (2 * t.2.1) = Y at *
      generalize ((at' e (i - 1)).1 : Rat) = x0 at *
      generalize ((at' e (i - 1)).2 : Rat) = y0 at *
      generalize ((at' e i).1 : Rat) = x1 at *
      generalize ((at' e i).2 : Rat) = y1 at *
      generalize (restF t d : Rat) = r at *
      generalize (t.1 : Rat) = a at *
      generalize (t.2.1 : Rat) = b at *
      generalize (d.1 : Rat) = d1 at *
      generalize (d.2 : Rat) = d2 at *
      have hw : 0 < x1 - x0 := by grind
      have hs : (X - x0) / (x1 - x0) * (x1 - x0) = X - x0 := Rat.div_mul_cancel (by grind)
      generalize (X - x0) / (x1 - x0) = s at *
      have s0 : 0 ≤ s := by
        by_cases c : 0 ≤ s
        · exact c
        · have := Rat.mul_pos (show 0 < -s by grind) hw
          grind
      have s1 : s ≤ 1 := by
        by_cases c : s ≤ 1
        · exact c
        · have := Rat.mul_pos (show 0 < s - 1 by grind) hw
          grind
      have hc := r0.conv r1 s0 s1
      have eX : (1 - s) * x0 + s * x1 = X := by grind
      have eY : (1 - s) * y0 + s * y1 = Y := by
        have e3 : b * (((1 - s) * y0 + s * y1) - Y) = 0 := by grind
        rcases Rat.mul_eq_zero.1 e3 with c | c
        · grind
        · grind
      rw [eX, eY] at hc
      exact hc
    · cases h
/-- Product finds the deal with the greatest product -/
theorem prod_ok (ho : offP l) (hE : EdgeP l e) (hd : num d) (hlr : ∀ x y, (∀ t ∈ linesF e, lq t x y) ↔ reg l x y) (hrm : roomP l d) : ∃ p, (candsP e d e.length).foldl (seeF d) (none, -1) = (some p, gainq d p) ∧ IsProd l d p ∧ qp p ∧ p ∈ candsP e d e.length ∧ 0 < gainq d p ∧ ∀ p' ∈ candsP e d e.length, gainq d p' ≤ gainq d p := by
  have hri := (room_iff (d := d) hlr (hE.lines ho).2).2 hrm
  obtain ⟨x, y, hxy, hx, hy⟩ := hrm
  obtain ⟨c, hc, hg⟩ := cands_cover ho hE hlr hxy hx hy
  have hpos : 0 < (x - d.1) * (y - d.2) := Rat.mul_pos (by grind) (by grind)
  rcases fold_max d (candsP e d e.length) with ⟨h1, h2⟩ | ⟨p, hp, h1, h2⟩
  · exfalso
    have := h2 c hc
    grind
  · have hgp : 0 < gainq d p := by
      have := h2 c hc
      grind
    obtain ⟨u, v, ew⟩ := of_gainq hgp
    obtain ⟨hr, hq⟩ := cand_reg ho hE hd hri hp
    refine ⟨p, h1, ⟨hr, by grind, by grind, fun x y hxy hx hy => ?_⟩, hq, hp, hgp, h2⟩
    obtain ⟨c, hc, hg⟩ := cands_cover ho hE hlr hxy hx hy
    rw [← ew]
    exact Rat.le_trans hg (h2 c hc)
end
end Go.Lt.P5
