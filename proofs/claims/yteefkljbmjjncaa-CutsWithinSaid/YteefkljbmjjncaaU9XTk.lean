/- PLAIN LAWS OF WHAT IS COMPUTED, for the statement 'CutsWithin'. Nothing is asked of the input. -/
import Derived.Test.YteefkljbmjjncaaU9XBy
set_option linter.unusedVariables false
set_option linter.unusedSimpArgs false
namespace Go.Lt.P2
open Go Go.Lt Go.Proofs
theorem AccL.lo {T : Type} [El T] {n0 n1 : Nat} {H : Hp} {v : Sl} {l : List T} (h : AccL n0 H v l) (hn : n1 ≤ n0) : AccL n1 H v l := by
  rcases h with h | ⟨a, b, c, d, e, f⟩
  · exact .inl h
  · exact .inr ⟨a, b, c, d, Nat.le_trans hn e, f⟩
/-- all floors of corners are near -/
theorem floor_bd {q : Rat} {N D : Int} (h : qb N D q) (hN : 0 ≤ N) : -N - 1 ≤ q.floor ∧ q.floor ≤ N := by
  obtain ⟨h1, h2, h3⟩ := h
  have hp := fq_pos q
  have := (floor_iff (f := q.floor) (n := (fq q).1) hp).1 (by rw [dv_fq])
  generalize q.floor = f at *
  generalize (fq q).1 = n at *
  generalize (fq q).2 = d at *
  constructor
  · refine Classical.byContradiction fun hc => ?_
    have : (f + 1) * d ≤ (-N - 1) * 1 := by
      have h4 : 0 ≤ (-N - 1 - (f + 1)) * d := Int.mul_nonneg (by omega) (by omega)
      have h5 : 0 ≤ (N + 1) * (d - 1) := Int.mul_nonneg (by omega) (by omega)
      grind
    omega
  · refine Classical.byContradiction fun hc => ?_
    have : (N + 1) * 1 ≤ f * d := by
      have h4 : 0 ≤ (f - (N + 1)) * d := Int.mul_nonneg (by omega) (by omega)
      have h5 : 0 ≤ (N + 1) * (d - 1) := Int.mul_nonneg (by omega) (by omega)
      grind
    omega
def bbd (st : Bst) : Prop := ((-1000 ≤ st.1.1 ∧ st.1.1 ≤ 1000) ∧ -1000 ≤ st.1.2 ∧ st.1.2 ≤ 1000) ∧ (-1000 ≤ st.2.1.1 ∧ st.2.1.1 ≤ 1000) ∧ -1000 ≤ st.2.1.2 ∧ st.2.1.2 ≤ 1000
theorem bup_bd {st : Bst} {c : Cn} (h : bbd st) (hc : qb 320 32 c.1.1 ∧ qb 320 32 c.1.2) : bbd (bup st c) := by
  have h1 := floor_bd hc.1 (by decide)
  have h2 := floor_bd hc.2 (by decide)
  unfold bbd bup up1 up0 nlo nhi flp at *
  dsimp only
  refine ⟨⟨?_, ?_⟩, ?_, ?_⟩ <;> split <;> omega
theorem bxs_bd {l : List Sd} (hs : ∀ s ∈ l, sideP s) : bbd (bxs (cs l)) := by
  have key : ∀ (q : List Cn) (st : Bst), bbd st → (∀ c ∈ q, c ∈ cs l) → bbd (q.foldl bup st) := by
    intro q
    induction q with
    | nil => intro st h _; exact h
    | cons c q ih =>
      intro st h hm
      have hc := cs_mem (hm c (.head _))
      exact ih _ (bup_bd h (by rw [hc.2.2.2.1]; exact meet_qb (hs _ hc.1) (hs _ hc.2.1) hc.2.2.1)) fun x hx => hm x (.tail _ hx)
  exact key (cs l) _ (by unfold bbd; dsimp only; omega) fun _ h => h
def pts (l : List Sd) : List Pr := if (bxs (cs l)).2.2 = true then grid l (bxs (cs l)).1 (bxs (cs l)).2.1 else []
theorem pts_len {l : List Sd} (hs : ∀ s ∈ l, sideP s) : (pts l).length ≤ 4100000 := by
  unfold pts
  split
  · have h := grid_len l (bxs (cs l)).1 (bxs (cs l)).2.1
    have b := bxs_bd hs
    unfold bbd at b
    have : ((bxs (cs l)).2.1.1 + 1 - (bxs (cs l)).1.1).toNat * ((bxs (cs l)).2.1.2 + 1 - (bxs (cs l)).1.2).toNat ≤ 2001 * 2001 := Nat.mul_le_mul (by omega) (by omega)
    omega
  · simp
theorem row_bd {l : List Sd} {lo hi x : Int} (h : -1000 ≤ lo) (h2 : hi ≤ 1000) : (row l lo hi x).length ≤ 2001 := by
  have := row_len l lo hi x
  omega
theorem keep_in {l : List Sd} {x y : Int} : inP l ((x : Rat), (y : Rat)) ↔ ∀ s ∈ l, kp (x, y) s := by
  unfold inP kp
  constructor <;> intro h s hs
  · exact lqs_int.1 (h s hs)
  · exact lqs_int.2 (h s hs)
section
variable {a : App}
theorem r71_l1_ok (ha : A95 a) {A H : Hp} {v w : Sl} {l : List Sd} (hv : SL A v l) (hb : l.length ≤ 1000) (hs : ∀ s ∈ l, sideP s) {n1 n2 : Nat} {hi : Pr} {lo2 x : Int} (h2 : A.get n2 = some (.cells [.int .i64 hi.1, .int .i64 hi.2] false)) (g : Gr A H) {q : List Pr} (hacc : AccL A.n H w q) (hq : q.length ≤ 4100000)
    (hx : -1000 ≤ x ∧ x ≤ 1000) (hlo : -1000 ≤ lo2 ∧ lo2 ≤ 1000) (hhi : -1000 ≤ hi.2 ∧ hi.2 ≤ 1000) {kt : Sl → Nat → Nat → Sl → Int → Hp → Option (Sl × Hp)} {Q : Sl → Hp → Prop} (kN : ∀ w' H', Gr A H' → AccL A.n H' w' (q ++ row l lo2 hi.2 x) → Ok (kt v n1 n2 w' (x + 1) H') Q) :
    Ok (r71_l1 a kt FUEL v n1 n2 w x lo2 H) Q := by
  refine Ok.loop (L := fun K (s : Sl × Int) H2 => r71_l1 a kt K v n1 n2 s.1 x s.2 H2) (fun m s H' => Gr A H' ∧ (lo2 ≤ s.2 ∧ (s.2 ≤ hi.2 + 1 ∨ s.2 = lo2)) ∧ m = (hi.2 + 1 - s.2).toNat ∧ AccL A.n H' s.1 (q ++ row l lo2 (s.2 - 1) x)) ?_ FUEL (hi.2 + 1 - lo2).toNat (w, lo2) H (by unfold FUEL; omega) ⟨g, ⟨by simp, .inr rfl⟩, rfl, by
    have : row l lo2 (lo2 - 1) x = [] := by unfold row; rw [ints_nil (by omega)]; rfl
    rw [this, List.append_nil]; exact hacc⟩
  rintro K m ⟨w, y⟩ H1 ⟨g1, hy, hm, hacc⟩ ih
  try dsimp only at *
  rw [r71_l1]
  have h2' : H1.get n2 = some (.cells [.int .i64 hi.1, .int .i64 hi.2] false) := by rw [g1.2 _ (Hp.get_lt h2)]; exact h2
  refine Ok.ld (ldI_get h2' rfl) ?_
  by_cases h : y ≤ hi.2
  · refine Ok.pos h (Ok.own (r80_q (by omega) (by omega)) fun X => Ok.bind (r65_ok ha (p := ((x : Rat), (y : Rat))) (hv.gr g1) hb hs (qp_int (by omega) (by omega))) fun r D ⟨gD, hr⟩ => ?_)
    subst hr
    rw [w64_id (n := y + 1) (by omega) (by omega)]
    have er := row_snoc (l := l) (x := x) (show lo2 ≤ y by omega)
    have hlen := row_bd (l := l) (x := x) (lo := lo2) (hi := y - 1) (by omega) (by omega)
    by_cases hk : ∀ s ∈ l, kp (x, y) s
    · rw [decide_eq_true (keep_in.2 hk)]
      rw [if_pos hk] at er
      refine Ok.pos rfl (Ok.bind ((hacc.gr gD).push (g1.trans gD) (x, y) rfl rfl (by rw [List.length_append]; omega)) fun w' E ⟨ha', gE, _⟩ => ?_)
      refine ih (m - 1) (w', y + 1) E (by omega) ⟨gE, by omega, by omega, ?_⟩
      dsimp only
      rw [show y + 1 - 1 = y by omega, er, ← List.append_assoc]
      exact ha'
    · rw [decide_eq_false (fun q => hk (keep_in.1 q))]
      rw [if_neg hk, List.append_nil] at er
      refine Ok.neg (by simp) (ih (m - 1) (w, y + 1) D (by omega) ⟨g1.trans gD, by omega, by omega, ?_⟩)
      dsimp only
      rw [show y + 1 - 1 = y by omega, er]
      exact hacc.gr gD
  · refine Ok.neg h ?_
    rw [w64_id (n := x + 1) (by omega) (by omega)]
    refine kN w H1 g1 ?_
    have : row l lo2 (y - 1) x = row l lo2 hi.2 x := by
      by_cases h3 : y ≤ hi.2 + 1
      · rw [show y - 1 = hi.2 by omega]
      · unfold row; rw [ints_nil (by omega), ints_nil (by omega)]
    rw [← this]; exact hacc
/-- points -/
theorem r71_ok {k : Nat} {H : Hp} {v : Sl} {l : List Sd} (hv : SL H v l) (hb : l.length ≤ 1000) (hs : ∀ s ∈ l, sideP s) : Ok (r71 (appA (k + 2)) v H) fun w H' => Gr H H' ∧ AccL H.n H' w (pts l) := by
  unfold r71
  refine Ok.bind (r101_ok hv hb hs) fun r A ⟨gA, hr⟩ => ?_
  subst hr
  have bd := bxs_bd hs
  unfold pts
  generalize bxs (cs l) = st at *
  obtain ⟨lo, hi, ok⟩ := st
  unfold bbd at bd
  dsimp only at bd ⊢
  have c0 : Cx A A [] := .nil A
  have c := (c0.push [.int .i64 0, .int .i64 0]).push [.int .i64 0, .int .i64 0]
  refine Ok.cst c 1 rfl rfl fun B _ _ c => Ok.cst c 0 rfl rfl fun C _ _ c => ?_
  have gC := gA.trans c.g
  by_cases hok : ok = true
  · simp only [if_pos hok]
    refine Ok.cld c (.tail _ (.head _)) rfl ?_
    have h1 := c.e _ (.tail _ (.head _))
    have h2 := c.e _ (.head _)
    have hvC := hv.gr gC
    refine Ok.mono (P := fun w H' => Gr C H' ∧ AccL C.n H' w (grid l lo hi)) ?_ fun w H' h => ⟨gC.trans h.1, AccL.lo h.2 gC.1⟩
    refine Ok.loop (L := fun K (s : Sl × Int) H2 => r71_l0 (appA (k + 2)) K v A.n _ s.1 s.2 H2) (fun m s H' => Gr C H' ∧ (lo.1 ≤ s.2 ∧ (s.2 ≤ hi.1 + 1 ∨ s.2 = lo.1)) ∧ m = (hi.1 + 1 - s.2).toNat ∧ AccL C.n H' s.1 ((ints lo.1 (s.2 - 1)).flatMap (row l lo.2 hi.2))) ?_ FUEL (hi.1 + 1 - lo.1).toNat (⟨true, 0, 0, 0, 0, 0⟩, lo.1) C (by unfold FUEL; omega) ⟨.refl _, ⟨by simp, .inr rfl⟩, rfl, by dsimp only; rw [ints_nil (by omega)]; exact AccL.nilS⟩
    rintro K m ⟨w, x⟩ H1 ⟨g1, hx, hm, hacc⟩ ih
    try dsimp only at *
    rw [r71_l0]
    have h1' := h1
    have h2' := h2
    rw [← g1.2 _ (Hp.get_lt h1)] at h1'
    rw [← g1.2 _ (Hp.get_lt h2)] at h2'
    refine Ok.ld (ldI_get h2' rfl) ?_
    by_cases h : x ≤ hi.1
    · refine Ok.pos h (Ok.ld (ldI_get h1' rfl) ?_)
      have hlen : ((ints lo.1 (x - 1)).flatMap (row l lo.2 hi.2)).length ≤ 4100000 := by
        have := grid_len l lo (x - 1, hi.2)
        have h3 : ((x - 1 : Int) + 1 - lo.1).toNat * (hi.2 + 1 - lo.2).toNat ≤ 2001 * 2001 := Nat.mul_le_mul (by omega) (by omega)
        unfold grid at this
        dsimp only at this
        omega
      refine r71_l1_ok (a95A _) hvC hb hs h2 g1 hacc hlen (by omega) bd.1.2 bd.2.2 fun w' H' g' hacc' => ?_
      refine ih (m - 1) (w', x + 1) H' (by omega) ⟨g', by omega, by omega, ?_⟩
      dsimp only
      rw [show x + 1 - 1 = x by omega, ints_snoc (show lo.1 ≤ x by omega), List.flatMap_append, List.flatMap_singleton]
      exact hacc'
    · refine Ok.neg h (Ok.ret ⟨g1, ?_⟩)
      unfold grid
      by_cases h3 : x ≤ hi.1 + 1
      · rw [show hi.1 = x - 1 by omega]; exact hacc
      · rw [ints_nil (by omega)] at hacc ⊢; exact hacc
  · simp only [if_neg hok]
    exact Ok.ret ⟨gC, AccL.nilS⟩
/-- Points -/
theorem r40_ok {k : Nat} {H : Hp} {v : Sl} {l : List Sd} (hv : SL H v l) (hb : l.length ≤ 1000) : Ok (r40 (appA (k + 2)) v H) fun r H' => Gr H H' ∧ if plateP l then AccL H.n H' r.1 (pts l) ∧ r.2 = 0 else r = (⟨true, 0, 0, 0, 0, 0⟩, 2) := by
  unfold r40
  refine Ok.bind (r63_ok (k := k + 1) hv hb) fun b A ⟨gA, hbb⟩ => ?_
  subst hbb
  by_cases hp : plateP l
  · rw [decide_eq_true hp]
    simp only [if_pos hp]
    exact Ok.pos (by simp) (Ok.bind (r71_ok (hv.gr gA) hb hp.2.1) fun w B ⟨gB, hw⟩ => Ok.ret ⟨gA.trans gB, AccL.lo hw gA.1, rfl⟩)
  · rw [decide_eq_false hp]
    simp only [if_neg hp]
    exact Ok.neg (by simp) (Ok.ret ⟨gA, rfl⟩)
end
end Go.Lt.P2

namespace Go.Lt.P2
open Go Go.Lt Go.Proofs
theorem pts_near {l : List Sd} (hs : ∀ s ∈ l, sideP s) : ∀ p ∈ pts l, near3 p := fun p hp => by
  unfold pts at hp
  have b := bxs_bd hs
  unfold bbd at b
  split at hp
  · have := (mem_grid.1 hp).1
    unfold near3
    omega
  · cases hp
end Go.Lt.P2

namespace Go.Lt.P2
open Go Go.Lt Go.Proofs
def sumI (a b : Int) (p : Pr) : Int := a * p.1 + b * p.2
theorem sum_bd {a b : Int} {p : Pr} (h9 : near9 a b) (hp : near3 p) : (-9000 ≤ a * p.1 ∧ a * p.1 ≤ 9000) ∧ (-9000 ≤ b * p.2 ∧ b * p.2 ≤ 9000) ∧ -18000 ≤ sumI a b p ∧ sumI a b p ≤ 18000 := by
  unfold near9 at h9
  unfold near3 at hp
  have n1 : -9000 ≤ a * p.1 ∧ a * p.1 ≤ 9000 := mul_bd (A := 9) (B := 1000) (by omega) (by omega) (by omega) (by omega)
  have n2 : -9000 ≤ b * p.2 ∧ b * p.2 ≤ 9000 := mul_bd (A := 9) (B := 1000) (by omega) (by omega) (by omega) (by omega)
  unfold sumI
  omega
end Go.Lt.P2

namespace Go.Lt.P2
open Go Go.Lt Go.Proofs
/-! ### the corners of a hull: each edge has all points on its left -/
/-- an edge of a chain, as the points Z are met in the order that `sumI P Q` gives -/
def Eg (P Q : Int) (Z : Pr → Prop) (a b : Pr) : Prop := sumI P Q a < sumI P Q b ∧ ∀ z, Z z → 0 ≤ lft a b z ∧ (lft a b z = 0 → sumI P Q a ≤ sumI P Q z ∧ sumI P Q z ≤ sumI P Q b)
/-- neighbours of a stack (the last one first) -/
def Ch (R : Pr → Pr → Prop) : List Pr → Prop
  | b :: a :: r => R a b ∧ Ch R (a :: r)
  | _ => True
/-- three arrows: `cross (u, w) f v = cross (u, v) f w + cross (v, w) f u` -/
theorem tri (P Q u1 u2 v1 v2 w1 w2 : Int) : (u1 * w2 - u2 * w1) * (P * v1 + Q * v2) = (u1 * v2 - u2 * v1) * (P * w1 + Q * w2) + (v1 * w2 - v2 * w1) * (P * u1 + Q * u2) := by grind
theorem pos_mul {x y : Int} (h : 0 < x * y) (hy : 0 < y) : 0 < x := by
  rcases Int.lt_trichotomy 0 x with h1 | h1 | h1
  · exact h1
  · subst h1; simp at h
  · have := Int.mul_neg_of_neg_of_pos h1 hy; omega
theorem nonneg_mul {x y : Int} (h : 0 ≤ x * y) (hy : 0 < y) : 0 ≤ x := by
  rcases Int.lt_or_le x 0 with h1 | h1
  · have := Int.mul_neg_of_neg_of_pos h1 hy; omega
  · exact h1
/-- the edge before a left turn sees what is farther on at its left -/
theorem lft_back {P Q : Int} {c a b x : Pr} (h1 : sumI P Q c < sumI P Q a) (h2 : sumI P Q a < sumI P Q b) (h3 : sumI P Q a < sumI P Q x) (k1 : 0 < lft c a b) (k2 : 0 < lft a b x) (h4 : sumI P Q b < sumI P Q x) : 0 < lft c a x := by
  have t := tri P Q (a.1 - c.1) (a.2 - c.2) (b.1 - a.1) (b.2 - a.2) (x.1 - a.1) (x.2 - a.2)
  unfold sumI at *
  refine pos_mul (y := P * (b.1 - a.1) + Q * (b.2 - a.2)) ?_ (by grind)
  have e1 : lft c a x = (a.1 - c.1) * (x.2 - a.2) - (a.2 - c.2) * (x.1 - a.1) := rfl
  have e2 : (a.1 - c.1) * (b.2 - a.2) - (a.2 - c.2) * (b.1 - a.1) = lft c a b := rfl
  have e3 : (b.1 - a.1) * (x.2 - a.2) - (b.2 - a.2) * (x.1 - a.1) = lft a b x := by unfold lft; grind
  rw [e1, t, e2, e3]
  have q1 : 0 < lft c a b * (P * (x.1 - a.1) + Q * (x.2 - a.2)) := Int.mul_pos k1 (by grind)
  have q2 : 0 < lft a b x * (P * (a.1 - c.1) + Q * (a.2 - c.2)) := Int.mul_pos k2 (by grind)
  omega
/-- behind a popped corner all is on the left of the new edge -/
theorem lft_pop {P Q : Int} {a b x z : Pr} (h1 : sumI P Q a < sumI P Q b) (h2 : sumI P Q a < sumI P Q x) (h3 : sumI P Q a ≤ sumI P Q z) (k1 : lft a b x ≤ 0) (k2 : 0 ≤ lft a b z) : 0 ≤ lft a x z := by
  have t := tri P Q (x.1 - a.1) (x.2 - a.2) (b.1 - a.1) (b.2 - a.2) (z.1 - a.1) (z.2 - a.2)
  unfold sumI at *
  refine nonneg_mul (y := P * (b.1 - a.1) + Q * (b.2 - a.2)) ?_ (by grind)
  have e1 : lft a x z = (x.1 - a.1) * (z.2 - a.2) - (x.2 - a.2) * (z.1 - a.1) := by unfold lft; grind
  have e2 : (x.1 - a.1) * (b.2 - a.2) - (x.2 - a.2) * (b.1 - a.1) = -lft a b x := by unfold lft; grind
  have e3 : (b.1 - a.1) * (z.2 - a.2) - (b.2 - a.2) * (z.1 - a.1) = lft a b z := by unfold lft; grind
  rw [e1, t, e2, e3]
  have q1 : 0 ≤ -lft a b x * (P * (z.1 - a.1) + Q * (z.2 - a.2)) := Int.mul_nonneg (by omega) (by grind)
  have q2 : 0 ≤ lft a b z * (P * (x.1 - a.1) + Q * (x.2 - a.2)) := Int.mul_nonneg k2 (by grind)
  omega
/-- before a left turn all is on the left of the new edge, and not on it -/
theorem lft_fore {P Q : Int} {a b x z : Pr} (h1 : sumI P Q a < sumI P Q b) (h2 : sumI P Q b < sumI P Q x) (h3 : sumI P Q z < sumI P Q b) (k1 : 0 < lft a b x) (k2 : 0 ≤ lft a b z) : 0 < lft b x z := by
  have t := tri P Q (b.1 - z.1) (b.2 - z.2) (b.1 - a.1) (b.2 - a.2) (x.1 - b.1) (x.2 - b.2)
  unfold sumI at *
  refine pos_mul (y := P * (b.1 - a.1) + Q * (b.2 - a.2)) ?_ (by grind)
  have e1 : lft b x z = (b.1 - z.1) * (x.2 - b.2) - (b.2 - z.2) * (x.1 - b.1) := by unfold lft; grind
  have e2 : (b.1 - z.1) * (b.2 - a.2) - (b.2 - z.2) * (b.1 - a.1) = lft a b z := by unfold lft; grind
  have e3 : (b.1 - a.1) * (x.2 - b.2) - (b.2 - a.2) * (x.1 - b.1) = lft a b x := rfl
  rw [e1, t, e2, e3]
  have q1 : 0 ≤ lft a b z * (P * (x.1 - b.1) + Q * (x.2 - b.2)) := Int.mul_nonneg k2 (by grind)
  have q2 : 0 < lft a b x * (P * (b.1 - z.1) + Q * (b.2 - z.2)) := Int.mul_pos k1 (by grind)
  omega
theorem lft_end (a x : Pr) : lft a x x = 0 := by unfold lft; grind
theorem lft_beg (a x : Pr) : lft a x a = 0 := by unfold lft; grind
/-- the corners below a left turn stay edges -/
theorem ch_keep {P Q : Int} {Z : Pr → Prop} {x : Pr} : ∀ {r : List Pr} {a b : Pr}, Ch (Eg P Q Z) (b :: a :: r) → (∀ p ∈ b :: a :: r, Z p) → (∀ z, Z z → sumI P Q z < sumI P Q x) → 0 < lft a b x → Ch (Eg P Q fun z => Z z ∨ z = x) (b :: a :: r)
  | [], a, b, h, hz, hx, hl => ⟨⟨h.1.1, fun z hzz => by
      rcases hzz with hzz | rfl
      · exact h.1.2 z hzz
      · exact ⟨by omega, by omega⟩⟩, trivial⟩
  | c :: r, a, b, h, hz, hx, hl => by
    refine ⟨⟨h.1.1, fun z hzz => ?_⟩, ch_keep h.2 (fun p hp => hz p (.tail _ hp)) hx ?_⟩
    · rcases hzz with hzz | rfl
      · exact h.1.2 z hzz
      · exact ⟨by omega, by omega⟩
    · have hb := hz b (.head _)
      have ha := hz a (.tail _ (.head _))
      have e := h.2.1.2 b hb
      have hlt : 0 < lft c a b := by
        rcases Int.lt_or_eq_of_le e.1 with k | k
        · exact k
        · have := e.2 k.symm; have := h.1.1; omega
      exact lft_back h.2.1.1 h.1.1 (hx a ha) hlt hl (hx b hb)
/-- one comes to a chain -/
theorem ch_pp {P Q : Int} {Z : Pr → Prop} {x : Pr} (hx : ∀ z, Z z → sumI P Q z < sumI P Q x) : ∀ {s : List Pr} {t : Pr}, Ch (Eg P Q Z) (t :: s) → (∀ p ∈ t :: s, Z p) → (∀ z, Z z → sumI P Q ((t :: s).getLast (by simp)) ≤ sumI P Q z) → (∀ z, Z z → sumI P Q t ≤ sumI P Q z → 0 ≤ lft t x z) → Ch (Eg P Q fun z => Z z ∨ z = x) (x :: pp x (t :: s))
  | [], t, h, hz, hm, ht => by
    have k := hx t (hz t (.head _))
    refine ⟨⟨k, fun z hzz => ?_⟩, trivial⟩
    rcases hzz with hzz | rfl
    · have := hm z hzz
      have := hx z hzz
      simp only [List.getLast_singleton] at *
      exact ⟨ht z hzz (by omega), fun _ => ⟨by omega, by omega⟩⟩
    · rw [lft_end]
      exact ⟨Int.le_refl _, fun _ => ⟨by omega, Int.le_refl _⟩⟩
  | a :: r, t, h, hz, hm, ht => by
    have ka := hx a (hz a (.tail _ (.head _)))
    have kt := hx t (hz t (.head _))
    rw [pp]
    split
    · rename_i hl
      refine ch_pp hx h.2 (fun p hp => hz p (.tail _ hp)) (by simpa using hm) fun z hzz hza => ?_
      exact lft_pop h.1.1 ka hza hl (h.1.2 z hzz).1
    · rename_i hl
      refine ⟨⟨kt, fun z hzz => ?_⟩, ch_keep h hz hx (by omega)⟩
      rcases hzz with hzz | rfl
      · have kz := hx z hzz
        by_cases hc : sumI P Q t ≤ sumI P Q z
        · exact ⟨ht z hzz hc, fun _ => ⟨hc, by omega⟩⟩
        · have := lft_fore h.1.1 kt (by omega) (show 0 < lft a t x by omega) (h.1.2 z hzz).1
          exact ⟨by omega, by omega⟩
      · rw [lft_end]
        exact ⟨Int.le_refl _, fun _ => ⟨by omega, Int.le_refl _⟩⟩
theorem ch_imp {R R' : Pr → Pr → Prop} (h : ∀ a b, R a b → R' a b) : ∀ {s : List Pr}, Ch R s → Ch R' s
  | [], _ => trivial
  | [_], _ => trivial
  | b :: a :: r, k => ⟨h _ _ k.1, ch_imp h k.2⟩
/-- what a chain is -/
theorem stk_ch {P Q : Int} : ∀ n (l : List Pr), l.length = n → (hne : l ≠ []) → l.Pairwise (fun a b => sumI P Q a < sumI P Q b) → Ch (Eg P Q (· ∈ l)) (stk l) ∧ (∃ s, stk l = l.getLast hne :: s) ∧ (stk l).getLast? = l.head? := by
  intro n
  induction n with
  | zero => intro l hl hne; exact absurd (List.length_eq_zero_iff.1 hl) hne
  | succ n ih =>
    intro l hl hne hs
    obtain ⟨l', x, rfl⟩ : ∃ l' x, l = l' ++ [x] := ⟨_, _, (List.dropLast_concat_getLast hne).symm⟩
    rw [List.pairwise_append] at hs
    rw [stk_snoc]
    by_cases h0 : l' = []
    · subst h0
      exact ⟨trivial, ⟨[], rfl⟩, rfl⟩
    obtain ⟨h1, ⟨s, h2⟩, h3⟩ := ih l' (by simpa using hl) h0 hs.1
    have hx : ∀ z ∈ l', sumI P Q z < sumI P Q x := fun z hz => hs.2.2 z hz x (by simp)
    have hsub := stk_sub l'
    have hlast : ∀ z ∈ l', sumI P Q z ≤ sumI P Q (l'.getLast h0) := fun z hz => by
      have hd := hs.1
      rw [← List.dropLast_concat_getLast h0, List.pairwise_append] at hd
      rw [← List.dropLast_concat_getLast h0] at hz
      rcases List.mem_append.1 hz with hz | hz
      · exact Int.le_of_lt (hd.2.2 z hz _ (by simp))
      · rw [List.mem_singleton.1 hz]; exact Int.le_refl _
    have hfirst : ∀ z ∈ l', ∀ w, l'.head? = some w → sumI P Q w ≤ sumI P Q z := fun z hz w hw => by
      cases l' with
      | nil => exact absurd rfl h0
      | cons y l' =>
        cases hw
        rcases List.mem_cons.1 hz with rfl | hz
        · exact Int.le_refl _
        · exact Int.le_of_lt ((List.pairwise_cons.1 hs.1).1 z hz)
    refine ⟨?_, ⟨pp x (stk l'), by simp⟩, ?_⟩
    · rw [h2] at h1 h3 hsub ⊢
      refine ch_imp ?_ (ch_pp hx h1 hsub (fun z hz => ?_) fun z hz hc => ?_)
      · exact fun a b h => ⟨h.1, fun z hz => h.2 z (by simpa using hz)⟩
      · refine hfirst z hz _ ?_
        rw [← h3, List.getLast?_eq_some_getLast (by simp)]
      · have e := hlast z hz
        have : z = l'.getLast h0 := by
          have hd := hs.1
          rw [← List.dropLast_concat_getLast h0, List.pairwise_append] at hd
          rw [← List.dropLast_concat_getLast h0] at hz
          rcases List.mem_append.1 hz with hz | hz
          · have := hd.2.2 z hz _ (List.mem_singleton_self _); omega
          · exact List.mem_singleton.1 hz
        rw [this, lft_beg]
        exact Int.le_refl _
    · have hne' : stk l' ≠ [] := by rw [h2]; simp
      have e := pp_last x x (stk l')
      have hp := pp_ne x hne'
      have hh : (l' ++ [x]).head? = l'.head? := by
        cases l' with
        | nil => exact absurd rfl h0
        | cons => rfl
      have hc : (x :: pp x (stk l')).getLast? = (pp x (stk l')).getLast? := by
        rw [List.getLast?_cons]
        cases hq : pp x (stk l') with
        | nil => exact absurd hq hp
        | cons y r => rw [List.getLast?_cons]; rfl
      rw [hh, ← h3, hc]
      rw [List.getLast?_eq_some_getLast hp, List.getLast?_eq_some_getLast hne']
      rw [List.getLastD_eq_getLast?, List.getLastD_eq_getLast?, List.getLast?_eq_some_getLast hp, List.getLast?_eq_some_getLast hne'] at e
      simp only [Option.getD_some] at e
      rw [e]
end Go.Lt.P2

namespace Go.Lt.P2
open Go Go.Lt Go.Proofs
theorem ch_ix {R : Pr → Pr → Prop} : ∀ {s : List Pr}, Ch R s → ∀ {i : Nat} {a b : Pr}, s.reverse[i]? = some a → s.reverse[i + 1]? = some b → R a b
  | [], _, i, a, b, ha, hb => by simp at ha
  | [_], _, i, a, b, ha, hb => by simp at hb
  | t :: u :: r, h, i, a, b, ha, hb => by
    rw [List.reverse_cons] at ha hb
    have hl : (u :: r).reverse.length = r.length + 1 := by simp
    have hi : i + 1 < ((u :: r).reverse ++ [t]).length := by
      rw [List.getElem?_eq_some_iff] at hb
      exact hb.1
    rw [List.length_append, hl, List.length_singleton] at hi
    rw [List.getElem?_append_left (by omega)] at ha
    by_cases hc : i + 1 < r.length + 1
    · rw [List.getElem?_append_left (by omega)] at hb
      exact ch_ix h.2 ha hb
    · have e : i = r.length := by omega
      subst e
      rw [List.getElem?_append_right (by omega), hl] at hb
      simp at hb
      rw [List.reverse_cons, List.getElem?_append_right (by simp)] at ha
      simp at ha
      rw [← ha, ← hb]
      exact h.1
theorem ch_pw {f : Pr → Int} : ∀ {s : List Pr}, Ch (fun a b => f a < f b) s → s.Pairwise (fun b a => f a < f b)
  | [], _ => .nil
  | [_], _ => by simp
  | b :: a :: r, h => by
    have ih := ch_pw h.2
    refine .cons (fun c hc => ?_) ih
    rcases List.mem_cons.1 hc with rfl | hc
    · exact h.1
    · have := (List.pairwise_cons.1 ih).1 c hc
      have := h.1
      omega
/-- the greatest value stays when corners are popped -/
theorem pp_max {P Q f g : Int} (hd : 0 ≤ f * Q - g * P) {x : Pr} : ∀ {s : List Pr}, Ch (fun a b => sumI P Q a < sumI P Q b) s → (∀ p ∈ s, sumI P Q p < sumI P Q x) → ∀ p ∈ s, ∃ q ∈ x :: pp x s, sumI f g p ≤ sumI f g q
  | [], _, _, p, hp => nomatch hp
  | [t], _, _, p, hp => ⟨p, .tail _ hp, Int.le_refl _⟩
  | b :: a :: r, h, hx, p, hp => by
    rw [pp]
    split
    · rename_i hl
      have ih := pp_max hd h.2 fun q hq => hx q (.tail _ hq)
      rcases List.mem_cons.1 hp with rfl | hp
      · have h1 := h.1
        have h2 := hx p (.head _)
        have key : (sumI f g p - sumI f g a) * (sumI P Q x - sumI P Q p) - (sumI f g x - sumI f g p) * (sumI P Q p - sumI P Q a) = (f * Q - g * P) * lft a p x := by unfold sumI lft; grind
        have kn : (f * Q - g * P) * lft a p x ≤ 0 := Int.mul_nonpos_of_nonneg_of_nonpos hd hl
        by_cases hc : sumI f g p ≤ sumI f g a
        · obtain ⟨q, hq, hle⟩ := ih a (.head _)
          exact ⟨q, hq, by omega⟩
        · have k1 : 0 < (sumI f g p - sumI f g a) * (sumI P Q x - sumI P Q p) := Int.mul_pos (by omega) (by omega)
          have k2 : 0 < (sumI f g x - sumI f g p) * (sumI P Q p - sumI P Q a) := by omega
          have k3 := pos_mul k2 (by omega)
          exact ⟨x, .head _, by omega⟩
      · exact ih p hp
    · exact ⟨p, .tail _ hp, Int.le_refl _⟩
theorem stk_max {P Q f g : Int} (hd : 0 ≤ f * Q - g * P) : ∀ n (l : List Pr), l.length = n → l.Pairwise (fun a b => sumI P Q a < sumI P Q b) → ∀ z ∈ l, ∃ q ∈ stk l, sumI f g z ≤ sumI f g q := by
  intro n
  induction n with
  | zero => intro l hl _ z hz; rw [List.length_eq_zero_iff.1 hl] at hz; cases hz
  | succ n ih =>
    intro l hl hs z hz
    have hne : l ≠ [] := by rintro rfl; simp at hl
    obtain ⟨l', x, rfl⟩ : ∃ l' x, l = l' ++ [x] := ⟨_, _, (List.dropLast_concat_getLast hne).symm⟩
    rw [List.pairwise_append] at hs
    rw [stk_snoc]
    rcases List.mem_append.1 hz with hz | hz
    · obtain ⟨q, hq, hle⟩ := ih l' (by simpa using hl) hs.1 z hz
      have h0 : l' ≠ [] := List.ne_nil_of_mem hz
      have hc : Ch (fun a b => sumI P Q a < sumI P Q b) (stk l') := ch_imp (fun a b h => h.1) (stk_ch _ l' rfl h0 hs.1).1
      obtain ⟨q', hq', hle'⟩ := pp_max hd hc (fun p hp => hs.2.2 p (stk_sub _ p hp) x (by simp)) q hq
      exact ⟨q', hq', by omega⟩
    · exact ⟨z, by rw [List.mem_singleton.1 hz]; exact .head _, Int.le_refl _⟩
/-! ### the whole hull -/
/-- what an order of points by their first and then their second coordinate is, in numbers -/
theorem plt_ph {x y : Pr} (hx : near3 x) (hy : near3 y) (h : plt x y) : sumI 4000 1 x < sumI 4000 1 y := by
  unfold near3 plt sumI at *
  omega
theorem neg_ph (x : Pr) : sumI (-4000) (-1) x = -sumI 4000 1 x := by unfold sumI; omega
def Ed (l : List Pr) (x y : Pr) : Prop := sumI 4000 1 x ≠ sumI 4000 1 y ∧ ∀ z ∈ l, 0 ≤ lft x y z ∧ (lft x y z = 0 → (sumI 4000 1 x ≤ sumI 4000 1 z ∧ sumI 4000 1 z ≤ sumI 4000 1 y) ∨ (sumI 4000 1 y ≤ sumI 4000 1 z ∧ sumI 4000 1 z ≤ sumI 4000 1 x))
theorem Ed.lo {l : List Pr} {x y : Pr} (h : Eg 4000 1 (· ∈ l) x y) : Ed l x y := ⟨by have := h.1; omega, fun z hz => ⟨(h.2 z hz).1, fun e => .inl ((h.2 z hz).2 e)⟩⟩
theorem Ed.hi {l : List Pr} {x y : Pr} (h : Eg (-4000) (-1) (· ∈ l.reverse) x y) : Ed l x y := by
  unfold Eg at h
  simp only [neg_ph, List.mem_reverse] at h
  exact ⟨by omega, fun z hz => ⟨(h.2 z hz).1, fun e => .inr (by have := (h.2 z hz).2 e; omega)⟩⟩
/-- points in order, at least two -/
structure Ord (l : List Pr) : Prop where
  pl : l.Pairwise plt
  nr : ∀ p ∈ l, near3 p
  two : 2 ≤ l.length
namespace Ord
theorem up {l : List Pr} (o : Ord l) : l.Pairwise (fun a b => sumI 4000 1 a < sumI 4000 1 b) := by
  refine List.Pairwise.imp_of_mem ?_ o.pl
  exact fun {a b} ha hb h => plt_ph (o.nr a ha) (o.nr b hb) h
theorem dn {l : List Pr} (o : Ord l) : l.reverse.Pairwise (fun a b => sumI (-4000) (-1) a < sumI (-4000) (-1) b) := by
  rw [List.pairwise_reverse]
  refine o.up.imp fun {a b} h => ?_
  rw [neg_ph, neg_ph]
  omega
theorem ne {l : List Pr} (o : Ord l) : l ≠ [] := by rintro rfl; have := o.two; simp at this
theorem ner {l : List Pr} (o : Ord l) : l.reverse ≠ [] := by simpa using o.ne
theorem elo {l : List Pr} (o : Ord l) {i : Nat} {a b : Pr} (ha : (chn l)[i]? = some a) (hb : (chn l)[i + 1]? = some b) : Eg 4000 1 (· ∈ l) a b := ch_ix (stk_ch _ l rfl o.ne o.up).1 ha hb
theorem ehi {l : List Pr} (o : Ord l) {i : Nat} {a b : Pr} (ha : (chn l.reverse)[i]? = some a) (hb : (chn l.reverse)[i + 1]? = some b) : Eg (-4000) (-1) (· ∈ l.reverse) a b := ch_ix (stk_ch _ _ rfl o.ner o.dn).1 ha hb
theorem ends {P Q : Int} {l : List Pr} (hne : l ≠ []) (hs : l.Pairwise (fun a b => sumI P Q a < sumI P Q b)) : (chn l)[0]? = l.head? ∧ (chn l)[(chn l).length - 1]? = l.getLast? := by
  obtain ⟨_, ⟨s, h2⟩, h3⟩ := stk_ch _ l rfl hne hs
  unfold chn
  constructor
  · rw [← List.head?_eq_getElem?, List.head?_reverse, h3]
  · rw [← List.getLast?_eq_getElem?, List.getLast?_reverse, h2, List.head?_cons, List.getLast?_eq_some_getLast hne]
theorem lo0 {l : List Pr} (o : Ord l) : (chn l)[0]? = l.head? := (ends o.ne o.up).1
theorem lo1 {l : List Pr} (o : Ord l) : (chn l)[(chn l).length - 1]? = l.getLast? := (ends o.ne o.up).2
theorem hi0 {l : List Pr} (o : Ord l) : (chn l.reverse)[0]? = l.getLast? := by rw [(ends o.ner o.dn).1, List.head?_reverse]
theorem hi1 {l : List Pr} (o : Ord l) : (chn l.reverse)[(chn l.reverse).length - 1]? = l.head? := by rw [(ends o.ner o.dn).2, List.getLast?_reverse]
theorem hlt {l : List Pr} (o : Ord l) : ∃ a b, l.head? = some a ∧ l.getLast? = some b ∧ sumI 4000 1 a < sumI 4000 1 b := by
  match l, o.two, o.up with
  | a :: b :: r, _, hu =>
    refine ⟨a, _, rfl, List.getLast?_eq_some_getLast (by simp), ?_⟩
    rw [List.getLast_cons (by simp)]
    exact (List.pairwise_cons.1 hu).1 _ (List.getLast_mem _)
theorem lo2 {l : List Pr} (o : Ord l) : 2 ≤ (chn l).length := by
  obtain ⟨a, b, ha, hb, h⟩ := o.hlt
  have h0 := o.lo0
  have h1 := o.lo1
  rw [ha] at h0
  rw [hb] at h1
  have k := (List.getElem?_eq_some_iff.1 h0).1
  by_cases hc : (chn l).length = 1
  · rw [hc, h0] at h1
    cases h1
    omega
  · omega
theorem hi2 {l : List Pr} (o : Ord l) : 2 ≤ (chn l.reverse).length := by
  obtain ⟨a, b, ha, hb, h⟩ := o.hlt
  have h0 := o.hi0
  have h1 := o.hi1
  rw [hb] at h0
  rw [ha] at h1
  have k := (List.getElem?_eq_some_iff.1 h0).1
  by_cases hc : (chn l.reverse).length = 1
  · rw [hc, h0] at h1
    cases h1
    omega
  · omega
theorem hlen {l : List Pr} (o : Ord l) : (hul l).length = (chn l).length - 1 + ((chn l.reverse).length - 1) := by unfold hul; simp
theorem getlo {l : List Pr} (o : Ord l) {i : Nat} (h : i < (chn l).length - 1) : (hul l)[i]? = (chn l)[i]? := by
  unfold hul
  rw [List.getElem?_append_left (by simpa using h), List.getElem?_dropLast, if_pos h]
theorem gethi {l : List Pr} (o : Ord l) {i : Nat} (h : i < (chn l.reverse).length - 1) : (hul l)[(chn l).length - 1 + i]? = (chn l.reverse)[i]? := by
  unfold hul
  rw [List.getElem?_append_right (by simp), List.getElem?_dropLast, List.length_dropLast, Nat.add_sub_cancel_left, if_pos h]
/-- two neighbours in the hull are an edge -/
theorem edge {l : List Pr} (o : Ord l) {i : Nat} {x y : Pr} (hi : (hul l)[i]? = some x) (hj : (hul l)[(i + 1) % (hul l).length]? = some y) : Ed l x y := by
  have il := (List.getElem?_eq_some_iff.1 hi).1
  have hL := o.hlen
  have l2 := o.lo2
  have h2 := o.hi2
  by_cases c1 : i < (chn l).length - 1
  · rw [Nat.mod_eq_of_lt (by omega)] at hj
    rw [o.getlo c1] at hi
    by_cases c2 : i + 1 < (chn l).length - 1
    · rw [o.getlo c2] at hj
      exact .lo (o.elo hi hj)
    · have e : i + 1 = (chn l).length - 1 := by omega
      have := o.gethi (i := 0) (by omega)
      rw [Nat.add_zero] at this
      rw [e, this, o.hi0, ← o.lo1, ← e] at hj
      exact .lo (o.elo hi hj)
  · obtain ⟨j, rfl⟩ : ∃ j, i = (chn l).length - 1 + j := ⟨i - ((chn l).length - 1), by omega⟩
    rw [o.gethi (by omega)] at hi
    by_cases c2 : j + 1 < (chn l.reverse).length - 1
    · rw [Nat.mod_eq_of_lt (by omega), Nat.add_assoc, o.gethi c2] at hj
      exact .hi (o.ehi hi hj)
    · have e : j + 1 = (chn l.reverse).length - 1 := by omega
      have e2 : (chn l).length - 1 + j + 1 = (hul l).length := by omega
      rw [e2, Nat.mod_self, o.getlo (by omega), o.lo0, ← o.hi1, ← e] at hj
      exact .hi (o.ehi hi hj)
theorem sub {l : List Pr} (o : Ord l) : ∀ p ∈ hul l, p ∈ l := fun p hp => by
  unfold hul chn at hp
  rcases List.mem_append.1 hp with hp | hp
  · exact stk_sub _ _ (List.mem_reverse.1 (List.dropLast_subset _ hp))
  · exact List.mem_reverse.1 (stk_sub _ _ (List.mem_reverse.1 (List.dropLast_subset _ hp)))
theorem head {l : List Pr} (o : Ord l) : (hul l)[0]? = l.head? := by rw [o.getlo (by have := o.lo2; omega), o.lo0]
theorem all_lo {l : List Pr} (o : Ord l) : ∀ p ∈ chn l, p ∈ hul l := fun p hp => by
  obtain ⟨i, hi⟩ := List.mem_iff_getElem?.1 hp
  have il := (List.getElem?_eq_some_iff.1 hi).1
  have h2 := o.hi2
  by_cases c : i < (chn l).length - 1
  · rw [← o.getlo c] at hi
    exact List.mem_iff_getElem?.2 ⟨_, hi⟩
  · have e : i = (chn l).length - 1 := by omega
    subst e
    rw [o.lo1, ← o.hi0, ← o.gethi (by omega)] at hi
    exact List.mem_iff_getElem?.2 ⟨_, hi⟩
theorem all_hi {l : List Pr} (o : Ord l) : ∀ p ∈ chn l.reverse, p ∈ hul l := fun p hp => by
  obtain ⟨i, hi⟩ := List.mem_iff_getElem?.1 hp
  have il := (List.getElem?_eq_some_iff.1 hi).1
  have l2 := o.lo2
  by_cases c : i < (chn l.reverse).length - 1
  · rw [← o.gethi c] at hi
    exact List.mem_iff_getElem?.2 ⟨_, hi⟩
  · have e : i = (chn l.reverse).length - 1 := by omega
    subst e
    rw [o.hi1, ← o.lo0, ← o.getlo (by omega)] at hi
    exact List.mem_iff_getElem?.2 ⟨_, hi⟩
/-- every greatest value is reached at a corner -/
theorem best {l : List Pr} (o : Ord l) {f g : Int} : ∀ z ∈ l, ∃ q ∈ hul l, sumI f g z ≤ sumI f g q := fun z hz => by
  rcases Int.le_total 0 (f * 1 - g * 4000) with h | h
  · obtain ⟨q, hq, hle⟩ := stk_max h _ l rfl o.up z hz
    exact ⟨q, o.all_lo q (List.mem_reverse.2 hq), hle⟩
  · obtain ⟨q, hq, hle⟩ := stk_max (P := -4000) (Q := -1) (f := f) (g := g) (by omega) _ l.reverse rfl o.dn z (List.mem_reverse.2 hz)
    exact ⟨q, o.all_hi q (List.mem_reverse.2 hq), hle⟩
theorem inj {l : List Pr} (o : Ord l) {x y : Pr} (hx : x ∈ l) (hy : y ∈ l) (h : sumI 4000 1 x = sumI 4000 1 y) : x = y := by
  have a := o.nr x hx
  have b := o.nr y hy
  unfold near3 sumI at *
  exact Prod.ext (by omega) (by omega)
/-- a corner of the hull on an edge is one of its ends -/
theorem corner {l : List Pr} (o : Ord l) {i : Nat} {x y z : Pr} (hi : (hul l)[i]? = some x) (hj : (hul l)[(i + 1) % (hul l).length]? = some y) (hz : z ∈ hul l) (h0 : lft x y z = 0) : z = x ∨ z = y := by
  have e := o.edge hi hj
  have il := (List.getElem?_eq_some_iff.1 hi).1
  have hx := o.sub x (List.mem_of_getElem? hi)
  have hy := o.sub y (List.mem_of_getElem? hj)
  have hzl := o.sub z hz
  obtain ⟨j, hj⟩ := List.mem_iff_getElem?.1 hz
  have jl := (List.getElem?_eq_some_iff.1 hj).1
  have kl : (j + (hul l).length - 1) % (hul l).length < (hul l).length := Nat.mod_lt _ (by omega)
  obtain ⟨p, hp⟩ : ∃ p, (hul l)[(j + (hul l).length - 1) % (hul l).length]? = some p := ⟨_, List.getElem?_eq_getElem kl⟩
  have kj : ((j + (hul l).length - 1) % (hul l).length + 1) % (hul l).length = j := by
    rw [Nat.mod_add_mod, show j + (hul l).length - 1 + 1 = j + (hul l).length by omega, Nat.add_mod_right, Nat.mod_eq_of_lt jl]
  have e2 := o.edge hp (by rw [kj]; exact hj)
  have f := (e.2 z hzl).2 h0
  by_cases c1 : sumI 4000 1 z = sumI 4000 1 x
  · exact .inl (o.inj hzl hx c1)
  by_cases c2 : sumI 4000 1 z = sumI 4000 1 y
  · exact .inr (o.inj hzl hy c2)
  exfalso
  have gx := e2.2 x hx
  have gy := e2.2 y hy
  -- z between x and y, and both on the left of p z
  have key : lft p z x * (sumI 4000 1 y - sumI 4000 1 z) + lft p z y * (sumI 4000 1 z - sumI 4000 1 x) = 0 := by
    have t : lft p z x * (sumI 4000 1 y - sumI 4000 1 z) + lft p z y * (sumI 4000 1 z - sumI 4000 1 x) = lft x y z * -(sumI 4000 1 z - sumI 4000 1 p) := by unfold lft sumI; grind
    rw [t, h0, Int.zero_mul]
  have both : lft p z x = 0 ∧ lft p z y = 0 := by
    rcases f with f | f
    · have a1 : 0 < sumI 4000 1 y - sumI 4000 1 z := by omega
      have a2 : 0 < sumI 4000 1 z - sumI 4000 1 x := by omega
      have m1 := Int.mul_nonneg gx.1 (Int.le_of_lt a1)
      have m2 := Int.mul_nonneg gy.1 (Int.le_of_lt a2)
      constructor
      · rcases Int.lt_or_eq_of_le gx.1 with k | k
        · have := Int.mul_pos k a1; omega
        · exact k.symm
      · rcases Int.lt_or_eq_of_le gy.1 with k | k
        · have := Int.mul_pos k a2; omega
        · exact k.symm
    · have a1 : 0 < sumI 4000 1 z - sumI 4000 1 y := by omega
      have a2 : 0 < sumI 4000 1 x - sumI 4000 1 z := by omega
      have m1 := Int.mul_nonneg gx.1 (Int.le_of_lt a1)
      have m2 := Int.mul_nonneg gy.1 (Int.le_of_lt a2)
      have n1 : lft p z x * (sumI 4000 1 y - sumI 4000 1 z) = -(lft p z x * (sumI 4000 1 z - sumI 4000 1 y)) := by grind
      have n2 : lft p z y * (sumI 4000 1 z - sumI 4000 1 x) = -(lft p z y * (sumI 4000 1 x - sumI 4000 1 z)) := by grind
      constructor
      · rcases Int.lt_or_eq_of_le gx.1 with k | k
        · have := Int.mul_pos k a1; omega
        · exact k.symm
      · rcases Int.lt_or_eq_of_le gy.1 with k | k
        · have := Int.mul_pos k a2; omega
        · exact k.symm
  have bx := gx.2 both.1
  have by' := gy.2 both.2
  omega
/-- no more corners than points -/
theorem nodup_len {α : Type} : ∀ {h l : List α}, h.Nodup → (∀ x ∈ h, x ∈ l) → h.length ≤ l.length
  | [], _, _, _ => Nat.zero_le _
  | x :: h, l, hn, hs => by
    obtain ⟨s, t, rfl⟩ := List.append_of_mem (hs x (.head _))
    rw [List.nodup_cons] at hn
    have := nodup_len (h := h) (l := s ++ t) hn.2 fun y hy => by
      have := hs y (.tail _ hy)
      rw [List.mem_append, List.mem_cons] at this
      rw [List.mem_append]
      rcases this with k | rfl | k
      · exact .inl k
      · exact absurd hy hn.1
      · exact .inr k
    simp only [List.length_append, List.length_cons] at *
    omega
theorem pwc {P Q : Int} {l : List Pr} (hne : l ≠ []) (hs : l.Pairwise (fun a b => sumI P Q a < sumI P Q b)) : (chn l).Pairwise (fun a b => sumI P Q a < sumI P Q b) := by
  unfold chn
  rw [List.pairwise_reverse]
  exact ch_pw (ch_imp (fun a b h => h.1) (stk_ch _ l rfl hne hs).1)
theorem plo {l : List Pr} (o : Ord l) : (chn l).Pairwise (fun a b => sumI 4000 1 a < sumI 4000 1 b) := pwc o.ne o.up
theorem phi {l : List Pr} (o : Ord l) : (chn l.reverse).Pairwise (fun a b => sumI (-4000) (-1) a < sumI (-4000) (-1) b) := pwc o.ner o.dn
theorem nodup {l : List Pr} (o : Ord l) : (hul l).Nodup := by
  have nd : ∀ {P Q : Int} {c : List Pr}, c.Pairwise (fun a b => sumI P Q a < sumI P Q b) → c.dropLast.Nodup := fun {P Q c} h => by
    refine (h.sublist (List.dropLast_sublist c)).imp fun {a b} h e => ?_
    subst e; omega
  unfold hul
  rw [List.nodup_append]
  refine ⟨nd o.plo, nd o.phi, fun a ha b hb e => ?_⟩
  subst e
  obtain ⟨i, hi⟩ := List.mem_iff_getElem?.1 ha
  obtain ⟨j, hj⟩ := List.mem_iff_getElem?.1 hb
  rw [List.getElem?_dropLast] at hi hj
  split at hi
  case isFalse => cases hi
  split at hj
  case isFalse => cases hj
  rename_i hil hjl
  have ge : ∀ {c : List Pr} {i : Nat}, i < c.length → ∃ b, c[i]? = some b := fun {c i} h => ⟨_, List.getElem?_eq_getElem h⟩
  obtain ⟨m, M, hm, hM, hmM⟩ := o.hlt
  have ix : ∀ {P Q : Int} {c : List Pr}, c.Pairwise (fun a b => sumI P Q a < sumI P Q b) → ∀ {i j : Nat} {a b : Pr}, i < j → c[i]? = some a → c[j]? = some b → sumI P Q a < sumI P Q b := fun {P Q c} h {i j a b} hij ha hb => by
    obtain ⟨h1, rfl⟩ := List.getElem?_eq_some_iff.1 ha
    obtain ⟨h2, rfl⟩ := List.getElem?_eq_some_iff.1 hb
    exact List.pairwise_iff_getElem.1 h _ _ h1 h2 hij
  have kM := ix o.plo hil hi (o.lo1.trans hM)
  have km := ix o.phi hjl hj (o.hi1.trans hm)
  rw [neg_ph, neg_ph] at km
  have i0 : i ≠ 0 := by
    rintro rfl
    rw [o.lo0, hm] at hi
    cases hi; omega
  have j0 : j ≠ 0 := by
    rintro rfl
    rw [o.hi0, hM] at hj
    cases hj; omega
  obtain ⟨p, hp⟩ := ge (c := chn l) (i := i - 1) (by omega)
  obtain ⟨q, hq⟩ := ge (c := chn l.reverse) (i := j - 1) (by omega)
  have e1 := o.elo hp (by rw [Nat.sub_add_cancel (by omega)]; exact hi)
  have e2 := o.ehi hq (by rw [Nat.sub_add_cancel (by omega)]; exact hj)
  have hpl : p ∈ l := stk_sub _ _ (List.mem_reverse.1 (List.mem_of_getElem? hp))
  have hql : q ∈ l := List.mem_reverse.1 (stk_sub _ _ (List.mem_reverse.1 (List.mem_of_getElem? hq)))
  have f1 := e1.2 q hql
  have f2 := (e2.2 p (List.mem_reverse.2 hpl)).1
  have g2 := e2.1
  rw [neg_ph, neg_ph] at g2
  have n : lft q a p = -lft p a q := by unfold lft; grind
  have z : lft p a q = 0 := by omega
  have := f1.2 z
  omega
theorem len {l : List Pr} (o : Ord l) : (hul l).length ≤ l.length := nodup_len o.nodup o.sub
theorem hge {l : List Pr} (o : Ord l) : 2 ≤ (hul l).length := by have := o.hlen; have := o.lo2; have := o.hi2; omega
end Ord
/-- between, in both coordinates -/
def btwP (x y z : Pr) : Prop := ((min x.1 y.1 ≤ z.1 ∧ z.1 ≤ max x.1 y.1) ∧ min x.2 y.2 ≤ z.2 ∧ z.2 ≤ max x.2 y.2)
theorem btw1 {P Q u v : Int} (hQ : 0 < Q) (h0 : 0 ≤ P) (h1 : P ≤ Q) (h : v * Q = u * P) : (0 ≤ v ∧ v ≤ u) ∨ (u ≤ v ∧ v ≤ 0) := by
  rcases Int.le_total 0 u with hu | hu
  · refine .inl ⟨nonneg_mul (by rw [h]; exact Int.mul_nonneg hu h0) hQ, ?_⟩
    have k : 0 ≤ (u - v) * Q := by
      have e : (u - v) * Q = u * (Q - P) := by grind
      rw [e]; exact Int.mul_nonneg hu (by omega)
    have := nonneg_mul k hQ
    omega
  · refine .inr ⟨?_, ?_⟩
    · have k : 0 ≤ (v - u) * Q := by
        have e : (v - u) * Q = -u * (Q - P) := by grind
        rw [e]; exact Int.mul_nonneg (by omega) (by omega)
      have := nonneg_mul k hQ
      omega
    · have k : 0 ≤ -v * Q := by
        have e : -v * Q = -u * P := by grind
        rw [e]; exact Int.mul_nonneg (by omega) h0
      have := nonneg_mul k hQ
      omega
theorem Ed.btw {l : List Pr} {x y z : Pr} (h : Ed l x y) (hz : z ∈ l) (h0 : lft x y z = 0) : btwP x y z := by
  have f := (h.2 z hz).2 h0
  have a1 : (z.1 - x.1) * (sumI 4000 1 y - sumI 4000 1 x) = (y.1 - x.1) * (sumI 4000 1 z - sumI 4000 1 x) - lft x y z := by unfold lft sumI; grind
  have a2 : (z.2 - x.2) * (sumI 4000 1 y - sumI 4000 1 x) = (y.2 - x.2) * (sumI 4000 1 z - sumI 4000 1 x) + 4000 * lft x y z := by unfold lft sumI; grind
  rw [h0] at a1 a2
  have hne := h.1
  unfold btwP
  generalize sumI 4000 1 x = X at *
  generalize sumI 4000 1 y = Y at *
  generalize sumI 4000 1 z = Z at *
  rcases f with f | f
  · have b1 := btw1 (Q := Y - X) (P := Z - X) (u := y.1 - x.1) (v := z.1 - x.1) (by omega) (by omega) (by omega) (by omega)
    have b2 := btw1 (Q := Y - X) (P := Z - X) (u := y.2 - x.2) (v := z.2 - x.2) (by omega) (by omega) (by omega) (by omega)
    omega
  · have b1 := btw1 (Q := X - Y) (P := X - Z) (u := y.1 - x.1) (v := z.1 - x.1) (by omega) (by omega) (by omega) (by grind)
    have b2 := btw1 (Q := X - Y) (P := X - Z) (u := y.2 - x.2) (v := z.2 - x.2) (by omega) (by omega) (by omega) (by grind)
    omega
end Go.Lt.P2

namespace Go.Lt.P2
open Go Go.Lt Go.Proofs
theorem says44 (k : Nat) (H : Hp) (p q : Pr) : Ok (callv (appA (k + 1)) (.fn 44 [] []) [.agg [.int .i64 p.1, .int .i64 p.2], .agg [.int .i64 q.1, .int .i64 q.2]] H) fun r H' => Gr H H' ∧ r = .int .i64 (cmP p q) := by
  show Ok ((r44 p.1 p.2 q.1 q.2 H).map fun p => (AV.int .i64 p.1, p.2)) _
  have h1 : Ok (r44 p.1 p.2 q.1 q.2 H) fun r H' => Gr H H' ∧ r = cmP p q := by
    unfold r44
    refine Ok.box2 (.nil H) fun A gA c => ?_
    exact Ok.ld (r45_two (c.e _ (.tail _ (.head _))) (c.e _ (.head _))) (Ok.ret ⟨gA, rfl⟩)
  obtain ⟨r, H', e, g, rfl⟩ := h1
  rw [e]
  exact Ok.ret ⟨g, rfl⟩
theorem keqs2 (a b c d : Int) : AV.keqs [.int .i64 a, .int .i64 b] [.int .i64 c, .int .i64 d] = decide ((a, b) = (c, d)) := by
  simp only [AV.keqs, AV.keq1, Bool.and_true, Prod.mk.injEq]
  exact Bool.eq_iff_iff.2 (by simp)
/-- Index of what is not there -/
theorem r85_no {H : Hp} {v : Sl} {l : List Pr} {z : Pr} (hv : SL H v l) (hb : l.length ≤ 100000000) (hz : z ∉ l) : Ok (r85 v z.1 z.2 H) fun r H' => Gr H H' ∧ r = -1 := by
  unfold r85
  have hlen := hv.len
  refine Ok.box (.nil H) fun A gA c => ?_
  rw [hlen]
  refine Ok.loop (L := fun K (s : Int) H2 => r85_l0 K v H.n l.length s H2) (fun m s H' => H' = A ∧ ∃ i : Nat, s = i ∧ i + m = l.length) ?_ FUEL l.length 0 A (by unfold FUEL; omega) ⟨rfl, 0, rfl, by omega⟩
  rintro K m s H1 ⟨rfl, i, rfl, hm⟩ ih
  try dsimp only at *
  rw [r85_l0]
  have hg := hv.gr gA
  by_cases h : i < l.length
  · refine Ok.pos (by omega) (Ok.cld c (.head _) rfl (Ok.cld c (.head _) rfl (Ok.ck (by omega) (Ok.ld (hg.ldI (i := i) (j := 0) h rfl) (Ok.ld (hg.ldI (i := i) (j := 1) h rfl) ?_)))))
    rw [keqs2]
    have hne : z ≠ l[i] := fun e => hz (by rw [e]; exact List.getElem_mem h)
    refine Ok.neg (by simpa [Prod.ext_iff] using hne) ?_
    rw [w64_succ (by omega)]
    exact ih (m - 1) _ _ (by omega) ⟨rfl, i + 1, rfl, by omega⟩
  · exact Ok.neg (by omega) (Ok.ret ⟨gA, rfl⟩)
/-- Contains -/
theorem r47_no {H : Hp} {v : Sl} {l : List Pr} {z : Pr} (hv : SL H v l) (hb : l.length ≤ 100000000) (hz : z ∉ l) : Ok (r47 v z.1 z.2 H) fun r H' => Gr H H' ∧ r = false := by
  unfold r47
  refine Ok.box (.nil H) fun A gA c => Ok.cld c (.head _) rfl (Ok.cld c (.head _) rfl (Ok.bind (r85_no (hv.gr gA) hb hz) fun r E ⟨gE, hr⟩ => ?_))
  subst hr
  exact Ok.ret ⟨gA.trans gE, rfl⟩
/-- between -/
theorem r46_yes {x y z : Pr} (h : btwP x y z) : Ok (r46 x.1 x.2 y.1 y.2 z.1 z.2 H0) fun r _ => r = true := by
  unfold btwP at h
  unfold r46
  refine Ok.box3 (.nil H0) fun A _ c => ?_
  have e1 : (if y.1 < x.1 then y.1 else x.1) = min x.1 y.1 := by split <;> omega
  have e2 : (if x.1 < y.1 then y.1 else x.1) = max x.1 y.1 := by split <;> omega
  have e3 : (if y.2 < x.2 then y.2 else x.2) = min x.2 y.2 := by split <;> omega
  have e4 : (if x.2 < y.2 then y.2 else x.2) = max x.2 y.2 := by split <;> omega
  refine Ok.cld c (.tail _ (.tail _ (.head _))) rfl (Ok.cld c (.tail _ (.head _)) rfl (Ok.cld c (.head _) rfl (Ok.pos (by omega) (Ok.cld c (.head _) rfl (Ok.cld c (.tail _ (.tail _ (.head _))) rfl (Ok.cld c (.tail _ (.head _)) rfl (Ok.pos (by omega) ?_)))))))
  refine Ok.cld c (.tail _ (.tail _ (.head _))) rfl (Ok.cld c (.tail _ (.head _)) rfl (Ok.cld c (.head _) rfl (Ok.pos (by omega) (Ok.cld c (.head _) rfl (Ok.cld c (.tail _ (.tail _ (.head _))) rfl (Ok.cld c (.tail _ (.head _)) rfl (Ok.ret ?_)))))))
  rw [decide_eq_true_iff]
  omega
end Go.Lt.P2

namespace Go.Lt.P2
open Go Go.Lt Go.Proofs
/-- left -/
theorem r102_ok {a b c : Pr} (ha : near3 a) (hb : near3 b) (hc : near3 c) : Ok (r102 a.1 a.2 b.1 b.2 c.1 c.2 H0) fun r _ => r = lft a b c := by
  unfold near3 at ha hb hc
  unfold r102
  refine Ok.box3 (.nil H0) fun A _ cx => ?_
  refine Ok.cld cx (.tail _ (.head _)) rfl (Ok.cld cx (.tail _ (.tail _ (.head _))) rfl (Ok.cld cx (.tail _ (.head _)) rfl (Ok.cld cx (.tail _ (.tail _ (.head _))) rfl (Ok.cld cx (.head _) rfl (Ok.cld cx (.tail _ (.head _)) rfl (Ok.cld cx (.head _) rfl (Ok.cld cx (.tail _ (.head _)) rfl ?_)))))))
  rw [w64_id (n := b.1 - a.1) (by omega) (by omega), w64_id (n := b.2 - a.2) (by omega) (by omega), w64_id (n := c.1 - b.1) (by omega) (by omega), w64_id (n := c.2 - b.2) (by omega) (by omega)]
  exact Ok.own (r97_ok (by omega) (by omega) (by omega) (by omega)) fun X => Ok.ret rfl
/-- one comes to a chain -/
theorem r72_l1_ok {B H : Hp} {w v : Sl} {st : List Pr} {x : Pr} {c : Nat} {ln iv : Int} {kt : Sl → Sl → Int → Int → Hp → Option (Sl × Hp)} {Q : Sl → Hp → Prop} (hw : Buf B.n H w st.reverse) (g : Gr B H) (hc : H.get c = some (.cells [.int .i64 x.1, .int .i64 x.2] false)) (hwc : w.nil = false → w.b ≠ c) (hst : ∀ p ∈ st, near3 p) (hx : near3 x) (hlen : st.length ≤ 10000000) (hiv : 0 ≤ iv ∧ iv < 1000000000)
    (kN : ∀ w' H', Gr B H' → Buf B.n H' w' (x :: pp x st).reverse → Ok (kt w' v ln (iv + 1) H') Q) : Ok (r72_l1 kt FUEL w c v ln iv H) Q := by
  refine Ok.loop (L := fun K (s : Sl) H2 => r72_l1 kt K s c v ln iv H2) (fun m s H' => H' = H ∧ ∃ st', m = st'.length ∧ (st'.length ≤ st.length ∧ pp x st' = pp x st) ∧ (∀ p ∈ st', near3 p) ∧ Buf B.n H s st'.reverse ∧ (s.nil = false → s.b ≠ c)) ?_ FUEL st.length w H (by unfold FUEL; omega) ⟨rfl, st, rfl, ⟨Nat.le_refl _, rfl⟩, hst, hw, hwc⟩
  rintro K m w H1 ⟨rfl, st', rfl, ⟨hle', hpp⟩, hst', hw, hwc⟩ ih
  try dsimp only at *
  rw [r72_l1]
  have hl := hw.len
  rw [List.length_reverse] at hl
  have push : pp x st' = st' → Ok (r72_j2 kt (fun v1_ v2_ v3_ v4_ v5_ H_ => r72_l1 kt K v1_ v2_ v3_ v4_ v5_ H_) w c v ln iv false H1) Q := fun he => by
    unfold r72_j2
    have hle : (st'.reverse).length < 4294967296 := by
      rw [List.length_reverse]
      omega
    refine Ok.neg (by simp) (Ok.ld (ldI_get hc rfl) (Ok.ld (ldI_get hc rfl) (Ok.bind (hw.push g.1 x rfl rfl hle) fun w' E ⟨hw', bt, _⟩ => ?_)))
    rw [w64_id (n := iv + 1) (by omega) (by omega)]
    refine kN w' E (But.grB bt.1 hw g) ?_
    rw [← hpp, he, List.reverse_cons]
    exact hw'
  match st', hle', hpp, hst', hw, hl, push, ih with
  | [], hle', hpp, hst', hw, hl, push, ih => exact Ok.neg (by rw [hl]; simp) (push rfl)
  | [p], hle', hpp, hst', hw, hl, push, ih => exact Ok.neg (by rw [hl]; simp) (push rfl)
  | b :: a :: r, hle', hpp, hst', hw, hl, push, ih =>
    simp only [List.length_cons] at hl hle'
    have hr := rd2 (pre := []) (n := w.len) (by simpa using hw.sl) rfl
    have e2 : (w64 ((w.len : Int) - 2)).toNat = w.len - 2 := by rw [w64_id (by omega) (by omega)]; omega
    have e1 : (w64 ((w.len : Int) - 1)).toNat = w.len - 1 := by rw [w64_id (by omega) (by omega)]; omega
    have f2 : w64 ((w.len : Int) - 2) = (w.len : Int) - 2 := w64_id (by omega) (by omega)
    have f1 : w64 ((w.len : Int) - 1) = (w.len : Int) - 1 := w64_id (by omega) (by omega)
    rw [e2, e1, f2, f1]
    refine Ok.pos (by omega) (Ok.ck (by omega) (Ok.ld hr.1.1 (Ok.ld hr.1.2 (Ok.ck (by omega) (Ok.ld hr.2.1 (Ok.ld hr.2.2 (Ok.ld (ldI_get hc rfl) (Ok.ld (ldI_get hc rfl) (Ok.own (r102_ok (hst' a (by simp)) (hst' b (by simp)) hx) fun X => ?_)))))))))
    by_cases hc0 : lft a b x ≤ 0
    · rw [decide_eq_true hc0]
      unfold r72_j2
      rw [e1, f1]
      have hopn := hw.sl.opn
      have hcap := hw.sl.cap
      have es : El.sz Pr = 2 := rfl
      rw [es] at hopn
      refine Ok.pos rfl (Ok.ck ⟨by omega, hopn⟩ ?_)
      have hp : Buf B.n H1 w ((a :: r).reverse ++ [b]) := by rw [← List.reverse_cons]; exact hw
      obtain ⟨p1, p2, p3, p4⟩ := hp.pop
      refine ih (a :: r).length _ H1 (by simp) ⟨rfl, a :: r, rfl, ⟨by simp only [List.length_cons]; omega, ?_⟩, fun p hp => hst' p (.tail _ hp), p1, fun _ => by
        show (w.cut (El.sz Pr) 0 (w.len - 1)).b ≠ c
        rw [p3]; exact hwc p4⟩
      rw [← hpp, pp, if_pos hc0]
    · rw [decide_eq_false hc0]
      exact push (by rw [pp, if_neg hc0])
/-- chain -/
theorem r72_ok {H : Hp} {v : Sl} {l : List Pr} (hv : SL H v l) (hb : l.length ≤ 10000000) (hl : ∀ p ∈ l, near3 p) : Ok (r72 v H) fun w H' => Gr H H' ∧ Buf H.n H' w (chn l) := by
  unfold r72
  have hlen := hv.len
  rw [hlen]
  refine Ok.loop (L := fun K (s : Sl × Int) H2 => r72_l0 K s.1 v l.length s.2 H2) (fun m s H' => Gr H H' ∧ ∃ i : Nat, s.2 = i ∧ i + m = l.length ∧ Buf H.n H' s.1 (stk (l.take i)).reverse) ?_ FUEL l.length (⟨true, 0, 0, 0, 0, 0⟩, 0) H (by unfold FUEL; omega) ⟨.refl _, 0, rfl, by omega, .inl ⟨rfl, rfl⟩⟩
  rintro K m ⟨w, s⟩ H1 ⟨g1, i, rfl, hm, hw⟩ ih
  try dsimp only at *
  rw [r72_l0]
  by_cases h : i < l.length
  · have hg := hv.gr g1
    have c0 : Cx H1 H1 [] := .nil H1
    refine Ok.pos (by omega) (Ok.ck (by omega) (Ok.ld (hg.ldI (i := i) (j := 0) h rfl) (Ok.ld (hg.ldI (i := i) (j := 1) h rfl) (Ok.alo c0 fun E gE cx => ?_))))
    refine r72_l1_ok (x := l[i]) (hw.gr gE) (g1.trans gE) (cx.e _ (.head _)) (fun hn => by have := (hw.lt hn).1; show w.b ≠ H1.n; omega) (fun p hp => hl p (List.mem_of_mem_take (stk_sub _ p hp))) (hl _ (List.getElem_mem h)) (by have := stk_len (l.take i); rw [List.length_take] at this; omega) (by omega) fun w' H' g' hw' => ?_
    refine ih (m - 1) (w', _) H' (by omega) ⟨g', i + 1, by simp, by omega, ?_⟩
    rw [List.take_succ_eq_append_getElem h, stk_snoc]
    exact hw'
  · rw [List.take_of_length_le (by omega)] at hw
    exact Ok.neg (by omega) (Ok.ret ⟨g1, hw⟩)
end Go.Lt.P2

namespace Go.Lt.P2
open Go Go.Lt Go.Proofs
/-- Reverse -/
theorem r73_ok {H : Hp} {v : Sl} {l : List Pr} (hv : Own H v l) (hb : l.length ≤ 10000000) : Ok (r73 v H) fun _ H' => Own H' v l.reverse ∧ Only v.b H H' := by
  unfold r73
  have hlen := hv.len
  have fin : ∀ {q : List Pr} {i : Nat}, q.length = l.length → (∀ k, q[k]? = if k < i ∨ l.length - i ≤ k then l.reverse[k]? else l[k]?) → l.length ≤ 2 * i + 1 → q = l.reverse := fun {q i} h1 h2 h3 => by
    refine List.ext_getElem? fun k => ?_
    rw [h2]
    split
    · rfl
    · by_cases hk : k < l.length
      · rw [List.getElem?_reverse hk]
        congr 1; omega
      · omega
  refine Ok.loop (L := fun K (s : Int × Int) H2 => r73_l0 K v s.1 s.2 H2) (fun m s H' => ∃ (i : Nat) (q : List Pr), s.1 = i ∧ s.2 = (l.length : Int) - 1 - i ∧ m = l.length - i ∧ i ≤ l.length ∧ q.length = l.length ∧ Own H' v q ∧ Only v.b H H' ∧ ∀ k, q[k]? = if k < i ∨ l.length - i ≤ k then l.reverse[k]? else l[k]?) ?_ FUEL l.length (0, w64 ((v.len : Int) - 1)) H (by unfold FUEL; omega) ⟨0, l, rfl, by rw [w64_id (by omega) (by omega)]; omega, by omega, by omega, rfl, hv, .refl _ _, fun k => by
    split
    · rename_i hk
      have hk : l.length ≤ k := by omega
      rw [List.getElem?_eq_none hk, List.getElem?_eq_none (by simpa using hk)]
    · rfl⟩
  rintro K m ⟨a, b⟩ H1 ⟨i, q, rfl, rfl, rfl, hi, hql, ho, hon, hq⟩ ih
  try dsimp only at *
  rw [r73_l0]
  have hol := ho.len
  by_cases h : (i : Int) < (l.length : Int) - 1 - i
  · have hj : ((l.length : Int) - 1 - i).toNat = l.length - 1 - i := by omega
    have hjq : l.length - 1 - i < q.length := by omega
    have hiq : i < q.length := by omega
    rw [hj]
    refine Ok.pos h (Ok.ck (by omega) (Ok.ld (ho.sl.ldI (i := l.length - 1 - i) (j := 0) hjq rfl) (Ok.ld (ho.sl.ldI (i := l.length - 1 - i) (j := 1) hjq rfl) (Ok.ck (by omega) (Ok.ld (ho.sl.ldI (i := i) (j := 0) hiq rfl) (Ok.ld (ho.sl.ldI (i := i) (j := 1) hiq rfl) (Ok.ck (by omega) ?_)))))))
    refine Own.put ho hiq q[l.length - 1 - i] rfl rfl fun A oA onA nA => Ok.ck (by omega) (Own.put oA (by rw [List.length_set]; exact hjq) q[i] rfl rfl fun B oB onB nB => ?_)
    rw [w64_id (by omega) (by omega), w64_id (by omega) (by omega)]
    refine ih (l.length - (i + 1)) (_, _) B (by omega) ⟨i + 1, _, by simp, by dsimp only; omega, rfl, by omega, by rw [List.length_set, List.length_set]; exact hql, oB, hon.trans (onA.trans onB), fun k => ?_⟩
    have e1 : q[l.length - 1 - i]? = l[l.length - 1 - i]? := by rw [hq, if_neg (by omega)]
    have e2 : q[i]? = l[i]? := by rw [hq, if_neg (by omega)]
    rw [List.getElem?_set, List.getElem?_set]
    by_cases k1 : l.length - 1 - i = k
    · subst k1
      rw [if_pos rfl, if_pos (by rw [List.length_set]; exact hjq), if_pos (by omega), List.getElem?_reverse (by omega), ← List.getElem?_eq_getElem hiq, e2]
      congr 1; omega
    · rw [if_neg k1]
      by_cases k2 : i = k
      · subst k2
        rw [if_pos rfl, if_pos hiq, if_pos (by omega), List.getElem?_reverse (by omega), ← List.getElem?_eq_getElem hjq, e1]
      · rw [if_neg k2, hq]
        by_cases k3 : k < i ∨ l.length - i ≤ k
        · rw [if_pos k3, if_pos (by omega)]
        · rw [if_neg k3, if_neg (by omega)]
  · refine Ok.neg h (Ok.ret ⟨?_, hon⟩)
    rw [← fin hql hq (by omega)]
    exact ho
end Go.Lt.P2

namespace Go.Lt.P2
open Go Go.Lt Go.Proofs
theorem AccL.own {T : Type} [El T] {n0 : Nat} {H : Hp} {v : Sl} {l : List T} (h : AccL n0 H v l) (hne : l ≠ []) : Own H v l ∧ n0 ≤ v.b := by
  have hlen := AccL.len h
  rcases h with ⟨rfl, e⟩ | ⟨h1, h2, h3, h4, h5, h6, h7⟩
  · exact absurd (List.length_eq_zero_iff.1 (by rw [← hlen]; rfl)) hne
  · exact ⟨⟨h1, h2, hlen, by omega, .inr h3, h6⟩, h5⟩
def hulR (l : List Pr) : Int × List Pr := if l.length = 0 then (4, []) else if l.length = 1 then (0, l) else (0, hul l)
theorem chn_ne {l : List Pr} (h : l ≠ []) : chn l ≠ [] := by
  unfold chn
  rw [← List.dropLast_concat_getLast h, stk_snoc]
  simp
theorem chn_len (l : List Pr) : (chn l).length ≤ l.length := by unfold chn; rw [List.length_reverse]; exact stk_len l
/-- Hull -/
theorem r23_ok {k : Nat} {H : Hp} {v : Sl} {l : List Sd} (hv : SL H v l) (hb : l.length ≤ 1000) : Ok (r23 (appA (k + 2)) v H) fun r H' => Gr H H' ∧ if plateP l then SL H' r.1 (hulR (pts l)).2 ∧ r.2 = (hulR (pts l)).1 else r = (⟨true, 0, 0, 0, 0, 0⟩, 2) := by
  unfold r23
  refine Ok.bind (r63_ok (k := k + 1) hv hb) fun b A ⟨gA, hbb⟩ => ?_
  subst hbb
  by_cases hp : plateP l
  case neg =>
    rw [decide_eq_false hp]
    simp only [if_neg hp]
    exact Ok.neg (by simp) (Ok.ret ⟨gA, rfl⟩)
  rw [decide_eq_true hp]
  simp only [if_pos hp]
  have hn := pts_near hp.2.1
  have hpl := pts_len hp.2.1
  refine Ok.pos (by simp) (Ok.bind (r71_ok (hv.gr gA) hb hp.2.1) fun w B ⟨gB, hw⟩ => ?_)
  have hwl := AccL.len hw
  have gHB := gA.trans gB
  generalize pts l = q at *
  unfold hulR
  by_cases h0 : q.length = 0
  · rw [if_pos h0]
    exact Ok.pos (by dsimp only; omega) (Ok.ret ⟨gHB, .nilS, rfl⟩)
  rw [if_neg h0]
  by_cases h1 : q.length = 1
  · rw [if_pos h1]
    exact Ok.neg (by dsimp only; omega) (Ok.pos (by dsimp only; omega) (Ok.ret ⟨gHB, AccL.sl hw, rfl⟩))
  rw [if_neg h1]
  have hne : q ≠ [] := by rintro rfl; exact h0 rfl
  obtain ⟨ow, hwb⟩ := AccL.own hw hne
  refine Ok.neg (by dsimp only; omega) (Ok.neg (by dsimp only; omega) (Ok.bind (r72_ok ow.sl (by omega) hn) fun lo C ⟨gC, hlo⟩ => ?_))
  refine Ok.bind (r73_ok (ow.gr gC) (by omega)) fun _ D ⟨ow2, onD⟩ => ?_
  have hlob : lo.nil = false → lo.b ≠ w.b := fun hn => by have h1 := (hlo.lt hn).2; have h2 := Hp.get_lt ow.get; dsimp only at h1; omega
  have hloD : Buf B.n D lo (chn q) := hlo.keep fun hn => onD.2 _ (hlo.lt hn).1 (hlob hn)
  refine Ok.bind (r72_ok ow2.sl (by rw [List.length_reverse]; omega) fun p hp => hn p (List.mem_reverse.1 hp)) fun hi E ⟨gE, hhi⟩ => ?_
  have hloE := hloD.gr gE
  have ll := hloE.len
  have lh := hhi.len
  have nl := List.length_pos_iff.2 (chn_ne hne)
  have nh := List.length_pos_iff.2 (chn_ne (show q.reverse ≠ [] by simpa using hne))
  have bl := chn_len q
  have bh := chn_len q.reverse
  rw [List.length_reverse] at bh
  have cl := hloE.sl.cap
  have chp := hhi.sl.cap
  have co := hhi.sl.opn
  have es : El.sz Pr = 2 := rfl
  rw [es] at co
  have e1 : (w64 ((lo.len : Int) - 1)).toNat = lo.len - 1 := by rw [w64_id (by omega) (by omega)]; omega
  have e2 : (w64 ((hi.len : Int) - 1)).toNat = hi.len - 1 := by rw [w64_id (by omega) (by omega)]; omega
  have f1 : w64 ((lo.len : Int) - 1) = (lo.len : Int) - 1 := w64_id (by omega) (by omega)
  have f2 : w64 ((hi.len : Int) - 1) = (hi.len : Int) - 1 := w64_id (by omega) (by omega)
  dsimp only
  rw [e1, e2, f1, f2]
  refine Ok.ck (by omega) (Ok.ck ⟨by omega, co⟩ ?_)
  have c2 := hhi.sl.cut (lo := 0) (hi := hi.len - 1) (by omega) (by omega)
  have c1 := hloE.sl.cut3 (lo := 0) (hi := lo.len - 1) (mx := lo.len - 1) (by omega) (by omega) (Nat.le_refl _)
  rw [List.drop_zero, Nat.sub_zero] at c1 c2
  have d1 : (chn q).take (lo.len - 1) = (chn q).dropLast := by rw [ll, List.dropLast_eq_take]
  have d2 : (chn q.reverse).take (hi.len - 1) = (chn q.reverse).dropLast := by rw [lh, List.dropLast_eq_take]
  rw [d1] at c1
  rw [d2] at c2
  have l2 := c2.len
  refine Ok.ld c2.lds (Ok.ck (encs_all _) ?_)
  have l1 := c1.len
  have hcap : (lo.cut3 (El.sz Pr) 0 (lo.len - 1) (lo.len - 1)).cap = (lo.cut3 (El.sz Pr) 0 (lo.len - 1) (lo.len - 1)).len ∧ (lo.cut3 (El.sz Pr) 0 (lo.len - 1) (lo.len - 1)).opn = 0 := by
    have hnn := hloE.sl.nonnil (chn_ne hne)
    unfold Sl.cut3
    rw [if_neg (by simp [hnn])]
    exact ⟨rfl, rfl⟩
  refine Ok.bind (Go.Lt.P2.SL.app0 c1 hcap.1 hcap.2 rfl rfl l2 (by rw [List.length_dropLast, List.length_dropLast]; omega)) fun u F ⟨gF, hu⟩ => Ok.ret ⟨?_, hu, rfl⟩
  have gBD : Gr A D := ⟨Nat.le_trans gB.1 (Nat.le_trans gC.1 onD.1), fun b hb => by rw [onD.2 b (Nat.lt_of_lt_of_le hb (Nat.le_trans gB.1 gC.1)) (Nat.ne_of_lt (Nat.lt_of_lt_of_le hb hwb)), gC.2 b (Nat.lt_of_lt_of_le hb gB.1), gB.2 b hb]⟩
  exact gA.trans (gBD.trans (gE.trans gF))
end Go.Lt.P2

namespace Go.Lt.P2
open Go Go.Lt Go.Proofs
theorem fn81_isV {H : Hp} {b n m : Nat} (h : H.get b = some (.cells [.fn 81 [] [.ptr n 0, .ptr m 0]] false)) : H.isV b 0 (.fn 81 [] [.ptr n 0, .ptr m 0]) = true := by
  unfold Hp.isV
  rw [ld_of_get h]
  simp [AV.eqb, AV.eqbs]
theorem fn81_ldV {H : Hp} {b n m : Nat} (h : H.get b = some (.cells [.fn 81 [] [.ptr n 0, .ptr m 0]] false)) : H.ldV b 0 = some (.fn 81 [] [.ptr n 0, .ptr m 0]) := ldV_get h rfl rfl
section
variable {a b : Int} {n m : Nat}
/-- the two numbers stand in their boxes -/
def Nm (H : Hp) (n m : Nat) (a b : Int) : Prop := H.get n = some (.cells [.int .i64 a] false) ∧ H.get m = some (.cells [.int .i64 b] false)
theorem Nm.gr {H H' : Hp} (h : Nm H n m a b) (g : Gr H H') : Nm H' n m a b := ⟨by rw [g.2 _ (Hp.get_lt h.1)]; exact h.1, by rw [g.2 _ (Hp.get_lt h.2)]; exact h.2⟩
theorem r81_ok {H : Hp} {p : Pr} (h : Nm H n m a b) (h9 : near9 a b) (hp : near3 p) : Ok (r81 p.1 p.2 n m H) fun r H' => Gr H H' ∧ r = sumI a b p := by
  have bd := sum_bd h9 hp
  unfold r81
  refine Ok.box (.nil H) fun A gA c => ?_
  have h := h.gr gA
  refine Ok.ld (ldI_get h.1 rfl) (Ok.cld c (.head _) rfl (Ok.ld (ldI_get h.2 rfl) (Ok.cld c (.head _) rfl ?_)))
  rw [w64_id (n := a * _) (by omega) (by omega), w64_id (n := b * _) (by omega) (by omega)]
  refine Ok.ret ⟨gA, ?_⟩
  exact w64_id (by unfold sumI at bd; omega) (by unfold sumI at bd; omega)
def A81 (ap : App) : Prop := ∀ (p : Pr) (n m : Nat) (H : Hp), callv ap (.fn 81 [] [.ptr n 0, .ptr m 0]) [argP p] H = (r81 p.1 p.2 n m H).map fun p => (.int .i64 p.1, p.2)
theorem call81 {ap : App} (hap : A81 ap) {H : Hp} {p : Pr} (h : Nm H n m a b) (h9 : near9 a b) (hp : near3 p) : Ok (callv ap (.fn 81 [] [.ptr n 0, .ptr m 0]) [argP p] H) fun r H' => Gr H H' ∧ r = .int .i64 (sumI a b p) := by
  rw [hap]
  obtain ⟨r, H', e, g, rfl⟩ := r81_ok h h9 hp
  rw [e]
  exact Ok.ret ⟨g, rfl⟩
theorem r83_ok {k : Nat} {H : Hp} {f : Nat} {p q : Pr} (h : Nm H n m a b) (hf : H.get f = some (.cells [.fn 81 [] [.ptr n 0, .ptr m 0]] false)) (h9 : near9 a b) (hp : near3 p) (hq : near3 q) : Ok (r83 (app (k + 1)) p.1 p.2 q.1 q.2 f H) fun r H' => Gr H H' ∧ r = sumI a b p - sumI a b q := by
  have b1 := sum_bd h9 hp
  have b2 := sum_bd h9 hq
  have hap : A81 (app (k + 1)) := fun _ _ _ _ => rfl
  unfold r83
  refine Ok.box2 (.nil H) fun A gA c => ?_
  have cA := c
  have hfA : A.get f = some (.cells [.fn 81 [] [.ptr n 0, .ptr m 0]] false) := by rw [gA.2 _ (Hp.get_lt hf)]; exact hf
  refine Ok.ld (fn81_ldV hfA) (Ok.cld c (.tail _ (.head _)) rfl (Ok.cld c (.tail _ (.head _)) rfl ?_))
  refine Ok.bind (call81 hap (h.gr gA) h9 hp) fun r B ⟨gB, hr⟩ => ?_
  subst hr
  have c := c.gr gB
  have hfB : B.get f = some (.cells [.fn 81 [] [.ptr n 0, .ptr m 0]] false) := by rw [gB.2 _ (Hp.get_lt hfA)]; exact hfA
  refine Ok.ld rfl (Ok.ld (fn81_ldV hfB) (Ok.cld c (.head _) rfl (Ok.cld c (.head _) rfl ?_)))
  refine Ok.bind (call81 hap (h.gr (gA.trans gB)) h9 hq) fun r C ⟨gC, hr⟩ => ?_
  subst hr
  refine Ok.ld rfl (Ok.ck (fn81_isV hfA) (Ok.cck cA (.head _) rfl (Ok.cck cA (.head _) rfl (Ok.ret ⟨gA.trans (gB.trans gC), ?_⟩))))
  exact w64_id (by omega) (by omega)
/-- MaxFunc -/
theorem r82_ok {k : Nat} {H : Hp} {f : Nat} {v : Sl} {P : List Pr} (h : Nm H n m a b) (hf : H.get f = some (.cells [.fn 81 [] [.ptr n 0, .ptr m 0]] false)) (h9 : near9 a b) (hv : SL H v P) (hb : P.length ≤ 10000000) (hn : ∀ p ∈ P, near3 p) (h0 : P ≠ []) : Ok (r82 (appA (k + 2)) v (.fn 83 [] [.ptr f 0]) H) fun r H' => Gr H H' ∧ r ∈ P ∧ ∀ p ∈ P, sumI a b p ≤ sumI a b r := by
  unfold r82
  have hlen := hv.len
  have hpos := List.length_pos_iff.2 h0
  refine Ok.box (.nil H) fun A gA c => Ok.neg (by omega) ?_
  have hvA := hv.gr gA
  refine Ok.ck (by omega) (Ok.ld (hvA.ldI (i := 0) (j := 0) hpos rfl) (Ok.ld (hvA.ldI (i := 0) (j := 1) hpos rfl) (Ok.alo c fun B gB c => ?_)))
  have m0 := List.getElem_mem hpos
  refine Ok.loop (L := fun K (s : Int) H2 => r82_l0 (appA (k + 2)) K v (.fn 83 [] [.ptr f 0]) H.n A.n s H2) (fun m' s H' => ∃ (i : Nat) (z : Pr), s = i ∧ i + m' = P.length ∧ 1 ≤ i ∧ Cx H H' [(A.n, [.int .i64 z.1, .int .i64 z.2]), (H.n, [.int .i64 0, .int .i64 0])] ∧ z ∈ P ∧ ∀ p ∈ P.take i, sumI a b p ≤ sumI a b z) ?_ FUEL (P.length - 1) 1 B (by unfold FUEL; omega) ⟨1, P[0], rfl, by omega, by omega, c, m0, fun p hp => ?_⟩
  rotate_left
  · rw [List.take_succ_eq_append_getElem hpos, List.take_zero, List.nil_append, List.mem_singleton] at hp
    subst hp; exact Int.le_refl _
  rintro K m' s H1 ⟨i, z, rfl, hm, hi1, c, hz, hle⟩ ih
  try dsimp only at *
  rw [r82_l0]
  by_cases h3 : i < P.length
  · have hg := hv.gr c.g
    have mi := List.getElem_mem h3
    have e2 := List.take_succ_eq_append_getElem h3
    have l0 := hg.ldI (i := i) (j := 0) h3 rfl
    have l1 := hg.ldI (i := i) (j := 1) h3 rfl
    refine Ok.pos (by omega) (Ok.ck (by omega) (Ok.ld l0 (Ok.ld l1 (Ok.cld c (.head _) rfl (Ok.cld c (.head _) rfl ?_)))))
    have hfH : H1.get f = some (.cells [.fn 81 [] [.ptr n 0, .ptr m 0]] false) := by rw [c.g.2 _ (Hp.get_lt hf)]; exact hf
    have h83 := r83_ok (k := k) (p := P[i]) (q := z) (h.gr c.g) hfH h9 (hn _ mi) (hn _ hz)
    have hcall : Ok (callv (appA (k + 2)) (.fn 83 [] [.ptr f 0]) [.agg [.int .i64 P[i].1, .int .i64 P[i].2], .agg [.int .i64 z.1, .int .i64 z.2]] H1) fun r H' => Gr H1 H' ∧ r = .int .i64 (sumI a b P[i] - sumI a b z) := by
      show Ok ((r83 (app (k + 1)) P[i].1 P[i].2 z.1 z.2 f H1).map fun p => (AV.int .i64 p.1, p.2)) _
      obtain ⟨r, H', e, g, rfl⟩ := h83
      rw [e]
      exact Ok.ret ⟨g, rfl⟩
    refine Ok.bind hcall fun r D ⟨gD, hr⟩ => ?_
    subst hr
    have c := c.gr gD
    have hgD := hg.gr gD
    refine Ok.ld rfl (Ok.ite (fun hc => ?_) fun hc => ?_)
    · rw [w64_succ (by omega)]
      refine Ok.ck (by omega) (Ok.ld (hgD.ldI (i := i) (j := 0) h3 rfl) (Ok.ld (hgD.ldI (i := i) (j := 1) h3 rfl) (Ok.cst c 0 rfl rfl fun E nE oE c => ?_)))
      refine ih (m' - 1) _ E (by omega) ⟨i + 1, P[i], rfl, by omega, by omega, c, mi, fun p hp => ?_⟩
      rw [e2] at hp
      rcases List.mem_append.1 hp with hp | hp
      · have := hle p hp; omega
      · rw [List.mem_singleton] at hp; subst hp; exact Int.le_refl _
    · rw [w64_succ (by omega)]
      refine ih (m' - 1) _ D (by omega) ⟨i + 1, z, rfl, by omega, by omega, c, hz, fun p hp => ?_⟩
      rw [e2] at hp
      rcases List.mem_append.1 hp with hp | hp
      · exact hle p hp
      · rw [List.mem_singleton] at hp; subst hp; omega
  · rw [List.take_of_length_le (by omega)] at hle
    exact Ok.neg (by omega) (Ok.cld c (.head _) rfl (Ok.cld c (.head _) rfl (Ok.cst c 1 rfl rfl fun E nE oE c => Ok.cld c (.tail _ (.head _)) rfl (Ok.cld c (.tail _ (.head _)) rfl (Ok.ret ⟨c.g, hz, hle⟩)))))
end
/-- Best -/
theorem r42_ok {k : Nat} {H : Hp} {v : Sl} {l : List Sd} {a b : Int} (hv : SL H v l) (hb : l.length ≤ 1000) : Ok (r42 (appA (k + 2)) v a b H) fun r H' => Gr H H' ∧ (¬ (plateP l ∧ near9 a b) → r = (0, 2)) ∧ (plateP l ∧ near9 a b → (pts l = [] → r = (0, 4)) ∧ (pts l ≠ [] → ∃ m, isMxI (sumI a b) (pts l) m ∧ r = (m, 0))) := by
  unfold r42
  refine Ok.box2 (.nil H) fun A gA c => Ok.bind (r63_ok (k := k + 1) (hv.gr gA) hb) fun z B ⟨gB, hz⟩ => ?_
  subst hz
  have c := c.gr gB
  have bad : ∀ {B : Hp} {n m : Nat}, ¬ (plateP l ∧ near9 a b) → Gr H B → Ok (r42_j0 (appA (k + 2)) v n m true B) fun r H' => Gr H H' ∧ (¬ (plateP l ∧ near9 a b) → r = (0, 2)) ∧ (plateP l ∧ near9 a b → (pts l = [] → r = (0, 4)) ∧ (pts l ≠ [] → ∃ m, isMxI (sumI a b) (pts l) m ∧ r = (m, 0))) := fun {B n m} hn g => by
    unfold r42_j0
    exact Ok.pos rfl (Ok.ret ⟨g, fun _ => rfl, fun h => absurd h hn⟩)
  by_cases hp : plateP l
  case neg =>
    rw [decide_eq_false hp]
    exact Ok.neg (by simp) (bad (fun q => hp q.1) c.g)
  rw [decide_eq_true hp]
  refine Ok.pos rfl (Ok.cld c (.tail _ (.head _)) rfl (Ok.cld c (.head _) rfl ?_))
  have gp := Gr.push B (.cells [.int .i64 a, .int .i64 b] false)
  have hs : SL (T := Int) (B.push (.cells [.int .i64 a, .int .i64 b] false)) ⟨false, B.n, 0, 2, 2, 0⟩ [a, b] := .of_get (ro := false) (Hp.get_push_new _ _) rfl rfl (Nat.le_refl _) (.inl rfl) rfl
  refine Ok.bind (r79_ok (k := k + 1) (c := 9) (by omega) hs (by simp)) fun r C ⟨gC, hr⟩ => ?_
  subst hr
  have c := c.gr (gp.trans gC)
  rw [Bool.not_not]
  by_cases h1 : ∃ y ∈ [a, b], y < -9 ∨ 9 < y
  · rw [decide_eq_true h1]
    refine bad (fun hn => ?_) c.g
    have h9 := hn.2
    unfold near9 at h9
    obtain ⟨y, hy, h2⟩ := h1
    simp only [List.mem_cons, List.not_mem_nil, or_false] at hy
    rcases hy with rfl | rfl <;> omega
  rw [decide_eq_false h1]
  have q1 : ¬ (a < -9 ∨ 9 < a) := fun q => h1 ⟨a, by simp, q⟩
  have q2 : ¬ (b < -9 ∨ 9 < b) := fun q => h1 ⟨b, by simp, q⟩
  have h9 : near9 a b := by unfold near9; omega
  have tt : plateP l ∧ near9 a b := ⟨hp, h9⟩
  unfold r42_j0
  refine Ok.neg (by simp) (Ok.bind (r71_ok (k := k) (hv.gr c.g) hb hp.2.1) fun w D ⟨gD, hw⟩ => ?_)
  have c := c.gr gD
  have hsl := AccL.sl hw
  have hlen := hsl.len
  have hn := pts_near hp.2.1
  have hpl := pts_len hp.2.1
  generalize pts l = P at *
  dsimp only
  rw [hlen]
  by_cases h0 : P = []
  · subst h0
    exact Ok.pos rfl (Ok.ret ⟨c.g, fun h => absurd tt h, fun _ => ⟨fun _ => rfl, fun h => absurd rfl h⟩⟩)
  have hpos := List.length_pos_iff.2 h0
  refine Ok.neg (by omega) ?_
  have c := c.push [.nilfn]
  have gE := Gr.push D (.cells [.nilfn] false)
  refine Ok.cst1 c 0 rfl (by simp) fun E nE oE c => ?_
  have gDE : Gr D E := ⟨by rw [nE]; exact gE.1, fun x hx => by rw [oE x (by omega)]; exact gE.2 x hx⟩
  have hf : E.get D.n = some (.cells [.fn 81 [] [.ptr H.n 0, .ptr (H.push (.cells [.int .i64 a] false)).n 0]] false) := c.e _ (.head _)
  have hNm : Nm E H.n (H.push (.cells [.int .i64 a] false)).n a b := ⟨c.e _ (.tail _ (.tail _ (.head _))), c.e _ (.tail _ (.head _))⟩
  refine Ok.ld (fn81_ldV hf) (Ok.bind (r82_ok (k := k) hNm hf h9 (hsl.gr gDE) (by omega) hn h0) fun z F ⟨gF, hz, hle⟩ => ?_)
  have hap : A81 (appA (k + 2)) := fun _ _ _ _ => rfl
  refine Ok.bind (call81 hap (hNm.gr gF) h9 (hn _ hz)) fun r G ⟨gG, hr⟩ => ?_
  subst hr
  refine Ok.ld rfl (Ok.ck (fn81_isV (by rw [gF.2 _ (Hp.get_lt hf)]; exact hf)) (Ok.ret ⟨c.g.trans (gF.trans gG), fun h => absurd tt h, fun _ => ⟨fun h => absurd h h0, fun _ => ⟨_, ⟨⟨z, hz, rfl⟩, hle⟩, rfl⟩⟩⟩))
end Go.Lt.P2

namespace Go.Lt.P2
open Go Go.Lt Go.Proofs
/-- near -/
theorem r48_ok {a b : Int} : Ok (r48 a b H0) fun r _ => r = decide (near9 a b) := by
  have no : ¬ near9 a b → Ok (some (false, H0)) fun r _ => r = decide (near9 a b) := fun h => Ok.ret (by rw [decide_eq_false h])
  unfold r48
  refine Ok.ite (fun h1 => Ok.ite (fun h2 => Ok.ite (fun h3 => Ok.ret ?_) fun h => no fun q => h q.2.1) fun h => no fun q => h q.1.2) fun h => no fun q => h q.1.1
  refine decide_eq_decide.2 ?_
  unfold near9
  omega
end Go.Lt.P2

namespace Go.Lt.P2
open Go Go.Lt Go.Proofs
/-- Of -/
theorem r18_ok {H : Hp} {v : Sl} {l : List Sd} (hv : SL H v l) (hb : l.length < 9223372036854775808) : Ok (r18 v H) fun w H' => Gr H H' ∧ SL H' w (l.take 9) := by
  unfold r18
  have hlen := hv.len
  rw [hlen]
  refine Ok.loop (L := fun K (s : Sl × Int) H2 => r18_l0 K s.1 v l.length s.2 H2) (fun m s H' => Gr H H' ∧ ∃ i : Nat, s.2 = i ∧ i + m = l.length ∧ AccL H.n H' s.1 ((l.take i).take 9)) ?_ FUEL l.length (⟨true, 0, 0, 0, 0, 0⟩, 0) H (by unfold FUEL; omega) ⟨.refl _, 0, rfl, by omega, by simpa using AccL.nilS⟩
  rintro K m ⟨w, s⟩ H1 ⟨g1, i, rfl, hm, ha⟩ ih
  try dsimp only at *
  rw [r18_l0]
  by_cases h : i < l.length
  · have hg := hv.gr g1
    obtain ⟨E, hE, hE', gE, nE⟩ := sts3 H1 (.int .i64 l[i].1) (.int .i64 l[i].2.1) (.int .i64 l[i].2.2) (.int .i64 0) (.int .i64 0) (.int .i64 0)
    have gB := g1.trans gE
    refine Ok.pos (by omega) (Ok.ck (by omega) (Ok.ld (hg.ldI (i := i) (j := 0) h rfl) (Ok.ld (hg.ldI (i := i) (j := 1) h rfl) (Ok.ld (hg.ldI (i := i) (j := 2) h rfl) (Ok.ld hE ?_)))))
    refine Ok.ite (fun c => Ok.ld (ldI_get hE' rfl) (Ok.ld (ldI_get hE' rfl) (Ok.ld (ldI_get hE' rfl) ?_))) fun c => ?_
    · have ha' := ha.gr gE
      rw [List.take_of_length_le (by rw [List.length_take]; omega)] at ha'
      refine Ok.bind (ha'.push gB l[i] rfl rfl (by rw [List.length_take]; omega)) fun w2 H3 ⟨ha3, g3, _⟩ => ?_
      rw [w64_succ (by omega)]
      refine ih (m - 1) (w2, _) H3 (by omega) ⟨g3, i + 1, rfl, by omega, ?_⟩
      rw [List.take_succ_eq_append_getElem h, List.take_of_length_le (by simp; omega)]
      exact ha3
    · rw [w64_succ (by omega)]
      refine ih (m - 1) (w, _) E (by omega) ⟨gB, i + 1, rfl, by omega, ?_⟩
      rw [List.take_take, Nat.min_eq_left (by omega)] at ha ⊢
      exact ha.gr gE
  · have hi : i = l.length := by omega
    subst hi
    rw [List.take_length] at ha
    exact Ok.neg (by omega) (Ok.ret ⟨g1, ha.sl⟩)
end Go.Lt.P2

namespace Go.Lt.P2
open Go Go.Lt Go.Proofs
def onP (l : List Sd) (s : Sd) (g : Int) : Prop := ∀ t ∈ l, g * (t.2.1 * s.1 - t.1 * s.2.1) ≤ 0
instance (l : List Sd) (s : Sd) (g : Int) : Decidable (onP l s g) := by unfold onP; infer_instance
theorem onP_one {l : List Sd} {s : Sd} : ¬ onP l s 1 ↔ dirP l (-s.2.1, s.1) := by
  unfold onP dirP
  simp only [Classical.not_forall]
  constructor
  · rintro ⟨t, ht, h⟩
    refine ⟨t, ht, ?_⟩
    try dsimp only
    rw [Int.mul_neg]
    omega
  · rintro ⟨t, ht, h⟩
    refine ⟨t, ht, ?_⟩
    try dsimp only at h
    rw [Int.mul_neg] at h
    omega
theorem onP_neg {l : List Sd} {s : Sd} : ¬ onP l s (-1) ↔ dirP l (s.2.1, -s.1) := by
  unfold onP dirP
  simp only [Classical.not_forall]
  constructor
  · rintro ⟨t, ht, h⟩
    refine ⟨t, ht, ?_⟩
    try dsimp only
    rw [Int.mul_neg]
    omega
  · rintro ⟨t, ht, h⟩
    refine ⟨t, ht, ?_⟩
    try dsimp only at h
    rw [Int.mul_neg] at h
    omega
section
variable {Q : Bool → Hp → Prop}
theorem r19_l5_ok {H : Hp} {v vv : Sl} {l : List Sd} {sb : Nat} {s : Sd} {g ln iv : Int} (hv : SL H v l) (hb : l.length ≤ 6) (hs : ∀ s ∈ l, sideP s) (hss : sideP s) (hg : g = 1 ∨ g = -1) (hsb : H.get sb = some (.cells [.int .i64 s.1, .int .i64 s.2.1, .int .i64 s.2.2] false))
    {kt4 : Sl → Nat → Int → Sl → Int → Int → Hp → Option (Bool × Hp)} (kf : ∀ H', Gr H H' → onP l s g → Q false H') (k : ∀ H', Gr H H' → ¬ onP l s g → Ok (kt4 v sb (w64 (g + 2)) vv ln iv H') Q) : Ok (r19_l5 kt4 FUEL v sb g true vv ln iv v l.length 0 H) Q := by
  have hlen := hv.len
  refine Ok.loop (L := fun K (t : Bool × Int) H2 => r19_l5 kt4 K v sb g t.1 vv ln iv v l.length t.2 H2) (fun m t H' => ∃ i : Nat, t.2 = i ∧ i + m = l.length ∧ Gr H H' ∧ t.1 = decide (onP (l.take i) s g)) ?_ FUEL l.length (true, 0) H (by unfold FUEL; omega) ⟨0, rfl, by omega, .refl _, by simp [onP]⟩
  rintro K m ⟨b, t⟩ H1 ⟨i, rfl, hm, g1, hbb⟩ ih
  try dsimp only at *
  subst hbb
  rw [r19_l5]
  by_cases h : i < l.length
  · have hgl := hv.gr g1
    have hx := hs _ (List.getElem_mem h)
    obtain ⟨E, hE, hE', gE, nE⟩ := sts3 H1 (.int .i64 l[i].1) (.int .i64 l[i].2.1) (.int .i64 l[i].2.2) (.int .i64 0) (.int .i64 0) (.int .i64 0)
    have gB := g1.trans gE
    have hsE : E.get sb = some (.cells [.int .i64 s.1, .int .i64 s.2.1, .int .i64 s.2.2] false) := by rw [gB.2 _ (Hp.get_lt hsb)]; exact hsb
    have ek : onP (l.take (i + 1)) s g ↔ onP (l.take i) s g ∧ g * (l[i].2.1 * s.1 - l[i].1 * s.2.1) ≤ 0 := by
      unfold onP
      constructor
      · intro q
        rw [List.take_succ_eq_append_getElem h] at q
        exact ⟨fun t ht => q t (List.mem_append_left _ ht), q _ (List.mem_append_right _ (List.mem_singleton.2 rfl))⟩
      · rintro ⟨q1, q2⟩
        exact forall_take h q1 q2
    refine Ok.pos (by omega) (Ok.ck (by omega) (Ok.ld (hgl.ldI (i := i) (j := 0) h rfl) (Ok.ld (hgl.ldI (i := i) (j := 1) h rfl) (Ok.ld (hgl.ldI (i := i) (j := 2) h rfl) (Ok.ld hE ?_)))))
    by_cases c : onP (l.take i) s g
    · rw [decide_eq_true c]
      refine Ok.pos rfl (Ok.ld (ldI_get hE' rfl) (Ok.ld (ldI_get hsE rfl) (Ok.ld (ldI_get hE' rfl) (Ok.ld (ldI_get hsE rfl) ?_))))
      unfold sideP at hss hx
      have b1 := mul_bd (A := 4) (B := 4) (x := l[i].2.1) (y := s.1) (by omega) (by omega) (by omega) (by omega)
      have b2 := mul_bd (A := 4) (B := 4) (x := l[i].1) (y := s.2.1) (by omega) (by omega) (by omega) (by omega)
      rw [w64_id (n := l[i].2.1 * s.1) (by omega) (by omega), w64_id (n := l[i].1 * s.2.1) (by omega) (by omega), w64_id (n := l[i].2.1 * s.1 - l[i].1 * s.2.1) (by omega) (by omega), w64_id (n := g * (l[i].2.1 * s.1 - l[i].1 * s.2.1)) (by rcases hg with rfl | rfl <;> omega) (by rcases hg with rfl | rfl <;> omega), w64_succ (by omega)]
      exact ih (m - 1) (_, _) E (by omega) ⟨i + 1, rfl, by omega, gB, decide_eq_decide.2 (by rw [ek]; exact ⟨fun q => ⟨c, q⟩, fun q => q.2⟩)⟩
    · rw [decide_eq_false c]
      refine Ok.neg (by simp) ?_
      rw [w64_succ (by omega)]
      exact ih (m - 1) (_, _) E (by omega) ⟨i + 1, rfl, by omega, gB, (decide_eq_false (fun q => c (ek.1 q).1)).symm⟩
  · rw [List.take_of_length_le (by omega)]
    refine Ok.neg (by omega) ?_
    by_cases c : onP l s g
    · rw [decide_eq_true c]; exact Ok.pos rfl (Ok.ret (kf H1 g1 c))
    · rw [decide_eq_false c]; exact Ok.neg (by simp) (k H1 g1 c)
end
/-- the directions -/
theorem r19_l3_ok {H0' H : Hp} {v : Sl} {l : List Sd} (hv : SL H v l) (hb : l.length ≤ 6) (hs : ∀ s ∈ l, sideP s) (g : Gr H0' H) : Ok (r19_l3 FUEL v v l.length 0 H) fun r H' => Gr H0' H' ∧ r = decide (∀ s ∈ l, dirP l (-s.2.1, s.1) ∧ dirP l (s.2.1, -s.1)) := by
  have hlen := hv.len
  refine Ok.loop (L := fun K (s : Int) H2 => r19_l3 K v v l.length s H2) (fun m s H' => Gr H H' ∧ ∃ i : Nat, s = i ∧ i + m = l.length ∧ ∀ s ∈ l.take i, dirP l (-s.2.1, s.1) ∧ dirP l (s.2.1, -s.1)) ?_ FUEL l.length 0 H (by unfold FUEL; omega) ⟨.refl _, 0, rfl, by omega, by simp⟩
  rintro K m s H1 ⟨g1, i, rfl, hm, ht⟩ ih
  try dsimp only at *
  rw [r19_l3]
  by_cases h : i < l.length
  · have hg := hv.gr g1
    have hmem : l[i] ∈ l := List.getElem_mem h
    have hsd := hs _ hmem
    obtain ⟨E, hE, hE', gE, nE⟩ := sts3 H1 (.int .i64 l[i].1) (.int .i64 l[i].2.1) (.int .i64 l[i].2.2) (.int .i64 0) (.int .i64 0) (.int .i64 0)
    refine Ok.pos (by omega) (Ok.ck (by omega) (Ok.ld (hg.ldI (i := i) (j := 0) h rfl) (Ok.ld (hg.ldI (i := i) (j := 1) h rfl) (Ok.ld (hg.ldI (i := i) (j := 2) h rfl) (Ok.ld hE ?_)))))
    have gB := g1.trans gE
    have bad : ∀ H', Gr E H' → ¬ (dirP l (-l[i].2.1, l[i].1) ∧ dirP l (l[i].2.1, -l[i].1)) → Gr H0' H' ∧ false = decide (∀ s ∈ l, dirP l (-s.2.1, s.1) ∧ dirP l (s.2.1, -s.1)) := fun H' gH hno => ⟨g.trans (gB.trans gH), by rw [decide_eq_false (fun q => hno (q _ hmem))]⟩
    rw [show FUEL = 18446744073709551613 + 1 + 1 + 1 from rfl, r19_l4]
    refine Ok.pos (by decide) ?_
    rw [hlen]
    refine r19_l5_ok (hv.gr gB) hb hs hsd (.inr rfl) hE' (fun H' gH hon => bad H' gH fun q => (onP_neg.2 q.2) hon) fun H2 g2 hn1 => ?_
    rw [show w64 (-1 + 2) = 1 by decide +kernel, r19_l4]
    refine Ok.pos (by decide) ?_
    rw [hlen]
    refine r19_l5_ok (hv.gr (gB.trans g2)) hb hs hsd (.inl rfl) (by rw [g2.2 _ (Hp.get_lt hE')]; exact hE') (fun H' gH hon => bad H' (g2.trans gH) fun q => (onP_one.2 q.1) hon) fun H3 g3 hn2 => ?_
    rw [show w64 (1 + 2) = 3 by decide +kernel, r19_l4]
    refine Ok.neg (by decide) ?_
    rw [w64_succ (by omega)]
    exact ih (m - 1) _ H3 (by omega) ⟨gB.trans (g2.trans g3), i + 1, rfl, by omega, forall_take h ht ⟨onP_one.1 hn2, onP_neg.1 hn1⟩⟩
  · rw [List.take_of_length_le (by omega)] at ht
    exact Ok.neg (by omega) (Ok.ret ⟨g.trans g1, by rw [decide_eq_true ht]⟩)
/-- Plate of the reference -/
theorem r19_ok {H : Hp} {v : Sl} {l : List Sd} (hv : SL H v l) : Ok (r19 v H) fun r H' => Gr H H' ∧ r = decide (plateP l) := by
  unfold r19
  have hlen := hv.len
  by_cases h3 : l.length < 3
  · refine Ok.pos (by omega) ?_
    unfold r19_j0
    exact Ok.pos rfl (Ok.ret ⟨.refl _, by rw [decide_eq_false (fun h => by have := h.1.1; omega)]⟩)
  · refine Ok.neg (by omega) ?_
    unfold r19_j0
    by_cases h6 : 6 < l.length
    · exact Ok.pos (by rw [decide_eq_true_iff]; omega) (Ok.ret ⟨.refl _, by rw [decide_eq_false (fun h => by have := h.1.2; omega)]⟩)
    · refine Ok.neg (by rw [decide_eq_true_iff]; omega) ?_
      rw [hlen]
      refine Ok.loop (L := fun K (s : Int) H2 => r19_l1 K v v l.length s H2) (fun m s H' => Gr H H' ∧ ∃ i : Nat, s = i ∧ i + m = l.length ∧ ∀ s ∈ l.take i, sideP s) ?_ FUEL l.length 0 H (by unfold FUEL; omega) ⟨.refl _, 0, rfl, by omega, by simp⟩
      rintro K m s H1 ⟨g1, i, rfl, hm, ht⟩ ih
      try dsimp only at *
      rw [r19_l1]
      by_cases h : i < l.length
      · have hg := hv.gr g1
        have hmem : l[i] ∈ l := List.getElem_mem h
        obtain ⟨E, hE, hE', gE, nE⟩ := sts3 H1 (.int .i64 l[i].1) (.int .i64 l[i].2.1) (.int .i64 l[i].2.2) (.int .i64 0) (.int .i64 0) (.int .i64 0)
        have gB := g1.trans gE
        have j2 : ∀ b, b = !decide (sideP l[i]) → Ok (r19_j2 (fun v1_ v2_ v3_ v4_ H_ => r19_l1 K v1_ v2_ v3_ v4_ H_) v v l.length i b E) fun r H' => Gr H H' ∧ r = decide (plateP l) := fun b hbb => by
          subst hbb
          unfold r19_j2
          by_cases c : sideP l[i]
          · rw [decide_eq_true c]
            refine Ok.neg (by simp) ?_
            rw [w64_succ (by omega)]
            exact ih (m - 1) _ E (by omega) ⟨gB, i + 1, rfl, by omega, forall_take h ht c⟩
          · rw [decide_eq_false c]
            exact Ok.pos rfl (Ok.ret ⟨gB, by rw [decide_eq_false (fun q => c (q.2.1 _ hmem))]⟩)
        have no : ¬ sideP l[i] → true = !decide (sideP l[i]) := fun q => by rw [decide_eq_false q]; rfl
        refine Ok.pos (by omega) (Ok.ck (by omega) (Ok.ld (hg.ldI (i := i) (j := 0) h rfl) (Ok.ld (hg.ldI (i := i) (j := 1) h rfl) (Ok.ld (hg.ldI (i := i) (j := 2) h rfl) (Ok.ld hE (Ok.ld (ldI_get hE' rfl) ?_))))))
        refine Ok.ite (fun c => j2 _ (no fun q => by unfold sideP at q; omega)) fun c1 => Ok.ld (ldI_get hE' rfl) ?_
        refine Ok.ite (fun c => j2 _ (no fun q => by unfold sideP at q; omega)) fun c2 => Ok.ld (ldI_get hE' rfl) ?_
        refine Ok.ite (fun c => j2 _ (no fun q => by unfold sideP at q; omega)) fun c3 => Ok.ld (ldI_get hE' rfl) ?_
        refine Ok.ite (fun c => j2 _ (no fun q => by unfold sideP at q; omega)) fun c4 => Ok.ld (ldI_get hE' rfl) ?_
        have last : ¬ (l[i].1 = 0 ∧ l[i].2.1 = 0) → Ok (if l[i].2.2 < -40 then r19_j2 (fun v1_ v2_ v3_ v4_ H_ => r19_l1 K v1_ v2_ v3_ v4_ H_) v v l.length i true E else (E.ldI .i64 H1.n (0 + 2)).bind fun x => r19_j2 (fun v1_ v2_ v3_ v4_ H_ => r19_l1 K v1_ v2_ v3_ v4_ H_) v v l.length i (decide (40 < x)) E) fun r H' => Gr H H' ∧ r = decide (plateP l) := fun hne => by
          refine Ok.ite (fun c => j2 _ (no fun q => by unfold sideP at q; omega)) fun c5 => Ok.ld (ldI_get hE' rfl) (j2 _ ?_)
          refine Bool.eq_iff_iff.2 ?_
          rw [Bool.not_eq_true', decide_eq_false_iff_not, decide_eq_true_iff]
          unfold sideP
          constructor
          · intro q w; omega
          · intro q
            by_cases w : 40 < l[i].2.2
            · exact w
            · exact absurd ⟨⟨by omega, by omega⟩, ⟨by omega, by omega⟩, hne, by omega, by omega⟩ q
        refine Ok.ite (fun c0 => Ok.ld (ldI_get hE' rfl) (Ok.ite (fun c5 => j2 _ (no fun q => q.2.2.1 ⟨c0, c5⟩)) fun c5 => Ok.ld (ldI_get hE' rfl) (last fun q => c5 q.2))) fun c0 => Ok.ld (ldI_get hE' rfl) (last fun q => c0 q.1)
      · rw [List.take_of_length_le (by omega)] at ht
        refine Ok.neg (by omega) ?_
        rw [hlen]
        refine (r19_l3_ok (hv.gr g1) (by omega) ht g1).mono fun r H' hh => ⟨hh.1, ?_⟩
        rw [hh.2]
        exact decide_eq_decide.2 ⟨fun q => ⟨⟨by omega, by omega⟩, ht, q⟩, fun q => q.2.2⟩
end Go.Lt.P2

namespace Go.Lt.P2
open Go Go.Lt Go.Proofs
theorem plate_take {p : List Sd} : plateP (p.take 9) ↔ plateP p := by
  by_cases h : p.length ≤ 9
  · rw [List.take_of_length_le h]
  · constructor
    · intro c; have b := c.1.2; rw [List.length_take] at b; omega
    · intro c; have b := c.1.2; omega
theorem plate_eq {p : List Sd} (h : plateP p) : p.take 9 = p := List.take_of_length_le (by have := h.1.2; omega)
theorem awk (k : Nat) (H : Hp) : appA k 21 [] H = some (.bool true, H) := rfl
end Go.Lt.P2
