/- PLAIN LAWS OF WHAT IS COMPUTED, for the statement 'DealsOthers'. Nothing is asked of the input. -/
import Derived.Test.YtficeemoekikdaaU14VQa
set_option linter.unusedVariables false
set_option linter.unusedSimpArgs false
namespace Go.Lt.P5
open Go Go.Lt Go.Proofs
/-- a point in fractions -/
def pt (p : Rat × Rat) : Int × Int × Int × Int := ((fq p.1).1, (fq p.1).2, (fq p.2).1, (fq p.2).2)
/-- what a search has found -/
def bst : Option Rat → List AV
  | none => [.int .i64 0, .int .i64 0]
  | some m => [.int .i64 (fq m).1, .int .i64 (fq m).2]
def fc (q : Rat) : List AV := [.int .i64 (fq q).1, .int .i64 (fq q).2]
def pc (p : Pr) : List AV := [.int .i64 p.1, .int .i64 p.2]
def tc (t : Tr) : List AV := [.int .i64 t.1, .int .i64 t.2.1, .int .i64 t.2.2]
theorem rest_bd {t : Tr} {d : Pr} (h : lb t) (hd : num d) : restF t d ≤ 1800 := by
  unfold num at hd
  have m1 := Int.mul_nonneg h.1.1 hd.1
  have m2 := Int.mul_nonneg h.2.1.1 hd.2.2.1
  have := h.2.2.1
  unfold restF
  omega
def perZ (t : Tr) (u v : Rat) : Int := t.1 * (fq u).1 * (fq v).2 + t.2.1 * (fq v).1 * (fq u).2
theorem perZ_q {t : Tr} {u v : Rat} : (perZ t u v : Rat) = perq t u v * (((fq u).2 : Rat) * ((fq v).2 : Rat)) := by
  unfold perZ perq
  simp only [Rat.intCast_add, Rat.intCast_mul]
  rw [fq_num u, fq_num v]
  grind
theorem den_prod (u v : Rat) : (0 : Rat) < ((fq u).2 : Rat) * ((fq v).2 : Rat) := Rat.mul_pos (cast_pos (fq_pos u)) (cast_pos (fq_pos v))
theorem perZ_zero {t : Tr} {u v : Rat} : perZ t u v = 0 ↔ perq t u v = 0 := by
  have h := den_prod u v
  constructor
  · intro e
    have := @perZ_q t u v
    rw [e] at this
    have z : ((0 : Int) : Rat) = 0 := rfl
    rw [z] at this
    rcases Rat.mul_eq_zero.1 this.symm with c | c
    · exact c
    · grind
  · intro e
    have := @perZ_q t u v
    rw [e, Rat.zero_mul] at this
    exact_mod_cast this
theorem perZ_pos {t : Tr} {u v : Rat} (h : 0 < perZ t u v) : 0 < perq t u v := by
  have h1 : (0 : Rat) < (perZ t u v : Rat) := by exact_mod_cast h
  rw [perZ_q] at h1
  exact (Rat.mul_pos_iff_of_pos_right (den_prod u v)).1 h1
theorem step_q {t : Tr} {d : Pr} {u v : Rat} (h : 0 < perZ t u v) : dv (restF t d * (fq u).2 * (fq v).2) (perZ t u v) * perq t u v = (restF t d : Rat) := by
  unfold dv
  have hp : (0 : Rat) < (perZ t u v : Rat) := by exact_mod_cast h
  have e := @perZ_q t u v
  have hd := den_prod u v
  simp only [Rat.intCast_mul]
  generalize (perZ t u v : Rat) = z at *
  generalize ((fq u).2 : Rat) = p at *
  generalize ((fq v).2 : Rat) = q at *
  generalize (restF t d : Rat) = r at *
  generalize perq t u v = w at *
  have hz : z ≠ 0 := by grind
  have hpq : p * q ≠ 0 := by grind
  have e2 : r * p * q / z * z = r * p * q := Rat.div_mul_cancel hz
  rw [e] at e2
  have e3 : (r * p * q / (w * (p * q)) * w - r) * (p * q) = 0 := by grind
  rcases Rat.mul_eq_zero.1 e3 with c | c
  · rw [e]; grind
  · exact absurd c hpq
/-- a step's terms -/
theorem step_bd {t : Tr} {d : Pr} {u v : Rat} (h : lb t) (hd : num d) (hr : 0 ≤ restF t d) (hu : qb 1800 30 u) (hv : qb 1800 30 v) (hu0 : 0 ≤ u) (hv0 : 0 ≤ v) :
    (0 ≤ t.1 * (fq u).1 ∧ t.1 * (fq u).1 ≤ 54000) ∧ (0 ≤ t.2.1 * (fq v).1 ∧ t.2.1 * (fq v).1 ≤ 54000) ∧ (0 ≤ t.1 * (fq u).1 * (fq v).2 ∧ t.1 * (fq u).1 * (fq v).2 ≤ 1620000) ∧ (0 ≤ t.2.1 * (fq v).1 * (fq u).2 ∧ t.2.1 * (fq v).1 * (fq u).2 ≤ 1620000) ∧
    (0 ≤ restF t d * (fq u).2 ∧ restF t d * (fq u).2 ≤ 54000) ∧ (0 ≤ restF t d * (fq u).2 * (fq v).2 ∧ restF t d * (fq u).2 * (fq v).2 ≤ 1620000) := by
  have hrb := rest_bd h hd
  obtain ⟨⟨a1, a2⟩, ⟨b1, b2⟩, _⟩ := h
  have u1 := fq_num_nonneg.2 hu0
  have v1 := fq_num_nonneg.2 hv0
  have pu := fq_pos u
  have pv := fq_pos v
  obtain ⟨_, u2, u3⟩ := hu
  obtain ⟨_, v2, v3⟩ := hv
  have m : ∀ {x y A B : Int}, 0 ≤ x → x ≤ A → 0 ≤ y → y ≤ B → 0 ≤ x * y ∧ x * y ≤ A * B := fun h1 h2 h3 h4 => ⟨Int.mul_nonneg h1 h3, Int.mul_le_mul h2 h4 h3 (by omega)⟩
  have c1 := m a1 a2 u1 u2
  have c2 := m b1 b2 v1 v2
  have c3 := m hr hrb (show 0 ≤ (fq u).2 by omega) u3
  exact ⟨c1, c2, m c1.1 c1.2 (by omega) v3, m c2.1 c2.2 (by omega) u3, c3, m c3.1 c3.2 (by omega) v3⟩
section
variable {a : App} {l : List Pr} {L : List Tr} {d : Pr} {u v : Rat}
/-- far's search -/
theorem r65_l0_ok {HH H : Hp} {v1 v2 v3 v4 v5 : Nat} {w : Sl} (hL : ∀ x y, (∀ t ∈ L, lq t x y) ↔ reg l x y) (hb : ∀ t ∈ L, lb t) (hlen : L.length ≤ 100) (hd : num d) (hr : ∀ t ∈ L, 0 < restF t d) (hu : qb 1800 30 u) (hv : qb 1800 30 v) (hu0 : 0 < u) (hv0 : 0 < v) (hne : L ≠ [])
    (hw : SL H w L) (hwb : w.b ≠ v5) (c : Cx HH H [(v5, bst none), (v4, [.int .i64 0, .int .i64 0, .int .i64 0, .int .i64 0]), (v3, fc v), (v2, fc u), (v1, pc d)]) :
    Ok (r65_l0 a FUEL v1 v2 v3 v4 v5 w L.length 0 H) fun r H' => Gr HH H' ∧ ∃ m, IsTop l d u v m ∧ qb 1620000 3240000 m ∧ r = pt ((d.1 : Rat) + m * u, (d.2 : Rat) + m * v) := by
  have hwl := hw.len
  have hnn : ∀ t ∈ L, 0 ≤ perq t u v := fun t ht => perq_nn (hb t ht) (Rat.le_of_lt hu0) (Rat.le_of_lt hv0)
  have hpp : ∀ t ∈ L, 0 < perZ t u v := fun t ht => by
    obtain ⟨⟨a1, _⟩, ⟨b1, _⟩, _, hne⟩ := hb t ht
    have u1 := fq_num_pos.2 hu0
    have v1 := fq_num_pos.2 hv0
    have p1 := Int.mul_nonneg (Int.mul_nonneg a1 (show 0 ≤ (fq u).1 by omega)) (show 0 ≤ (fq v).2 by have := fq_pos v; omega)
    have p2 := Int.mul_nonneg (Int.mul_nonneg b1 (show 0 ≤ (fq v).1 by omega)) (show 0 ≤ (fq u).2 by have := fq_pos u; omega)
    unfold perZ
    rcases hne with k | k
    · have := Int.mul_pos (Int.mul_pos k u1) (fq_pos v)
      omega
    · have := Int.mul_pos (Int.mul_pos k v1) (fq_pos u)
      omega
  refine Ok.loop (L := fun K (s : Int) H2 => r65_l0 a K v1 v2 v3 v4 v5 w L.length s H2) (fun m s H' => ∃ (i : Nat) (o : Option Rat), s = i ∧ i + m = L.length ∧ Cx HH H' [(v5, bst o), (v4, [.int .i64 0, .int .i64 0, .int .i64 0, .int .i64 0]), (v3, fc v), (v2, fc u), (v1, pc d)] ∧ SL H' w L ∧ MinSt (L.take i) d u v o ∧ ∀ m, o = some m → qb 1620000 3240000 m) ?_ FUEL L.length 0 H (by unfold FUEL; omega) ⟨0, none, rfl, by omega, c, hw, by simpa using MinSt.nil, fun _ h => by cases h⟩
  rintro K m s H1 ⟨i, o, rfl, hm, c, hw, hms, hqb⟩ ih
  try dsimp only at *
  rw [r65_l0]
  by_cases h : i < L.length
  · have hmem : L[i] ∈ L := List.getElem_mem h
    have hpz := hpp _ hmem
    have hrm := hr _ hmem
    obtain ⟨s1, s2, s3, s4, s5, s6⟩ := step_bd (hb _ hmem) hd (Int.le_of_lt hrm) hu hv (Rat.le_of_lt hu0) (Rat.le_of_lt hv0)
    have hstep := step_q (d := d) hpz
    have hpq := perZ_pos hpz
    have hlb := hb _ hmem
    have hw0 := hw
    refine Ok.pos (by omega) (Ok.ck (by omega) (Ok.ld (hw.ldI (i := i) (j := 0) h rfl) (Ok.ld (hw.ldI (i := i) (j := 1) h rfl) (Ok.ld (hw.ldI (i := i) (j := 2) h rfl) (Ok.alo c fun A gA c => ?_)))))
    refine Ok.cld c (.head _) rfl (Ok.cld c (.tail _ (.tail _ (.tail _ (.tail _ (.head _))))) rfl (Ok.cld c (.tail _ (.tail _ (.tail _ (.head _)))) rfl (Ok.cld c (.head _) rfl (Ok.cld c (.tail _ (.tail _ (.tail _ (.head _)))) rfl (Ok.cld c (.tail _ (.tail _ (.tail _ (.tail _ (.head _))))) rfl ?_)))))
    rw [w64_id (n := L[i].1 * (fq u).1) (by omega) (by omega), w64_id (n := L[i].1 * (fq u).1 * (fq v).2) (by omega) (by omega), w64_id (n := L[i].2.1 * (fq v).1) (by omega) (by omega), w64_id (n := L[i].2.1 * (fq v).1 * (fq u).2) (by omega) (by omega), w64_id (by omega) (by omega)]
    have hpb : perZ L[i] u v ≤ 3240000 := by unfold perZ; omega
    refine Ok.neg (by unfold perZ at hpz; omega) ?_
    refine Ok.cld c (.head _) rfl (Ok.cld c (.head _) rfl (Ok.cld c (.head _) rfl (Ok.cld c (.tail _ (.tail _ (.tail _ (.tail _ (.tail _ (.head _)))))) rfl (Ok.cld c (.tail _ (.tail _ (.tail _ (.tail _ (.tail _ (.head _)))))) rfl (Ok.own (r78_q hlb.1 hlb.2.1 hlb.2.2.1 hd) fun X => ?_)))))
    refine Ok.cld c (.tail _ (.tail _ (.tail _ (.tail _ (.head _))))) rfl (Ok.cld c (.tail _ (.tail _ (.tail _ (.head _)))) rfl ?_)
    dsimp only
    rw [w64_id (n := restF L[i] d * (fq u).2) (by omega) (by omega), w64_id (n := restF L[i] d * (fq u).2 * (fq v).2) (by omega) (by omega)]
    refine Ok.own (r48_q (by omega) (show 0 < perZ L[i] u v from hpz) (by omega) H0) fun X2 => ?_
    show Ok (((A.push _).sts A.n 0 _).bind _) _
    have hnb : qb 1620000 3240000 (dv (restF L[i] d * (fq u).2 * (fq v).2) (perZ L[i] u v)) := qb_dv hpz (by omega) (by omega) hpb
    generalize dv (restF L[i] d * (fq u).2 * (fq v).2) (perZ L[i] u v) = n at *
    refine Ok.alo c fun B gB c => ?_
    have hwB := hw.gr (gA.trans gB)
    have take : ∀ C, C.n = B.n → (∀ x, x ≠ v5 → C.get x = B.get x) → Cx HH C [(A.n, fc n), (H1.n, tc L[i]), (v5, fc n), (v4, [.int .i64 0, .int .i64 0, .int .i64 0, .int .i64 0]), (v3, fc v), (v2, fc u), (v1, pc d)] → (∀ m, o = some m → n ≤ m) →
        Ok (r65_l0 a K v1 v2 v3 v4 v5 w L.length (w64 ((i : Int) + 1)) C) fun r H' => Gr HH H' ∧ ∃ m, IsTop l d u v m ∧ qb 1620000 3240000 m ∧ r = pt ((d.1 : Rat) + m * u, (d.2 : Rat) + m * v) := fun C hn hg c ho => by
      rw [w64_succ (by omega)]
      refine ih (m - 1) _ C (by omega) ⟨i + 1, some n, rfl, by omega, c.weak (.cons _ (.cons _ (.refl _))), hwB.congr (hg _ hwb), ?_, fun m e => by injection e with e; subst e; exact hnb⟩
      rw [List.take_succ_eq_append_getElem h]
      exact hms.take (fun t ht => hnn t (List.mem_of_mem_take ht)) hpq hstep ho
    cases o with
    | none =>
      refine Ok.cld c (.tail _ (.tail _ (.head _))) rfl (Ok.pos rfl ?_)
      unfold r65_j1
      exact Ok.pos rfl (Ok.cld c (.head _) rfl (Ok.cld c (.head _) rfl (Ok.cst c 2 rfl rfl fun C hn hg c => take C hn hg c fun m e => by cases e)))
    | some m' =>
      have hm0 := fq_pos m'
      have hq' := hqb m' rfl
      refine Ok.cld c (.tail _ (.tail _ (.head _))) rfl (Ok.neg (by omega) ?_)
      refine Ok.cld c (.head _) rfl (Ok.cld c (.head _) rfl (Ok.cld c (.tail _ (.tail _ (.head _))) rfl (Ok.cld c (.tail _ (.tail _ (.head _))) rfl (Ok.own (r68_q hnb hq' (by decide) (by decide)) fun X3 => ?_))))
      have ec : (cmpq n m' < 0) ↔ n < m' := by
        unfold cmpq
        split
        · simp [*]
        · split <;> simp [*]
      unfold r65_j1
      by_cases k : n < m'
      · rw [decide_eq_true (ec.2 k)]
        exact Ok.pos rfl (Ok.cld c (.head _) rfl (Ok.cld c (.head _) rfl (Ok.cst c 2 rfl rfl fun C hn hg c => take C hn hg c fun m e => by injection e with e; subst e; exact Rat.le_of_lt k)))
      · rw [decide_eq_false (fun q => k (ec.1 q))]
        refine Ok.neg (by simp) ?_
        rw [w64_succ (by omega)]
        refine ih (m - 1) _ B (by omega) ⟨i + 1, some m', rfl, by omega, c.weak (.cons _ (.cons _ (.refl _))), hwB, ?_, hqb⟩
        rw [List.take_succ_eq_append_getElem h]
        exact hms.keep hpq hstep k
  · rw [List.take_of_length_le (by omega)] at hms
    obtain ⟨m', rfl⟩ : ∃ m', o = some m' := by
      cases o with
      | none =>
        cases L with
        | nil => exact absurd rfl hne
        | cons t L =>
          have h1 := hms t (by simp)
          have h2 := perZ_pos (hpp t (by simp))
          grind
      | some m' => exact ⟨m', rfl⟩
    have hq := hqb m' rfl
    have hd' := hd
    unfold num at hd'
    refine Ok.neg (by omega) ?_
    refine Ok.cld c (.tail _ (.tail _ (.tail _ (.tail _ (.head _))))) rfl (Ok.cld c (.head _) rfl (Ok.cld c (.head _) rfl (Ok.cld c (.tail _ (.tail _ (.tail _ (.head _)))) rfl (Ok.cld c (.tail _ (.tail _ (.tail _ (.head _)))) rfl ?_))))
    refine Ok.own (r79_q (x := d.1) ⟨hd'.1, hd'.2.1⟩ hq hu (by decide) (by decide)) fun X => ?_
    refine Ok.cld c (.tail _ (.tail _ (.tail _ (.tail _ (.head _))))) rfl (Ok.cld c (.head _) rfl (Ok.cld c (.head _) rfl (Ok.cld c (.tail _ (.tail _ (.head _))) rfl (Ok.cld c (.tail _ (.tail _ (.head _))) rfl ?_))))
    refine Ok.own (r79_q (x := d.2) ⟨hd'.2.2.1, hd'.2.2.2⟩ hq hv (by decide) (by decide)) fun X => ?_
    refine Ok.cst c 1 rfl rfl fun C hn hg c => ?_
    refine Ok.cld c (.tail _ (.head _)) rfl (Ok.cld c (.tail _ (.head _)) rfl (Ok.cld c (.tail _ (.head _)) rfl (Ok.cld c (.tail _ (.head _)) rfl (Ok.ret ⟨c.g, m', hms.top hL hnn (fun t ht => Int.le_of_lt (hr t ht)), hq, rfl⟩))))
end
end Go.Lt.P5
