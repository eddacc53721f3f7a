/- PLAIN LAWS OF WHAT IS COMPUTED, for the statement 'CutsCuts'. Nothing is asked of the input. -/
import Derived.Test.YteefkljbmjjncaaU5WCu
set_option linter.unusedVariables false
set_option linter.unusedSimpArgs false
namespace Go.Lt.P2
open Go Go.Lt Go.Proofs
theorem term_bd {L x : Int} {f : Pr} (hL : 0 < L) (hf : frP f) (hdv : f.2 ∣ L) (hx : -40 ≤ x ∧ x ≤ 40) : Int.tdiv L f.2 = L / f.2 ∧ 0 ≤ L / f.2 ∧ L / f.2 ≤ L ∧ 0 ≤ L / f.2 * f.1 ∧ L / f.2 * f.1 ≤ 100 * L ∧ (L / f.2 * f.1 * x).natAbs ≤ 4000 * L.natAbs := by
  obtain ⟨f1, f2, f3, f4, _⟩ := hf
  obtain ⟨q, hq⟩ := hdv
  have hqe : L / f.2 = q := by rw [hq]; exact Int.mul_ediv_cancel_left _ (by omega)
  have hq0 : 0 < q := by
    have : 0 < f.2 * q := by omega
    exact Int.pos_of_mul_pos_right this (by omega)
  have hqt : Int.tdiv L f.2 = q := by rw [hq]; exact Int.mul_tdiv_cancel_left _ (by omega)
  rw [hqe, hqt]
  have m1 : q * f.1 ≤ q * (100 * f.2) := Int.mul_le_mul_of_nonneg_left f4 (by omega)
  have m2 : 0 ≤ q * f.1 := Int.mul_nonneg (by omega) f3
  have m3 : q * (100 * f.2) = 100 * L := by rw [hq]; grind
  have m5 : q ≤ L := by
    have := Int.mul_le_mul_of_nonneg_right f1 (show 0 ≤ q by omega)
    omega
  refine ⟨rfl, by omega, m5, m2, by omega, ?_⟩
  rw [Int.natAbs_mul]
  have m4 : x.natAbs ≤ 40 := by omega
  have := Nat.mul_le_mul (show (q * f.1).natAbs ≤ 100 * L.natAbs by omega) m4
  omega
theorem TT_succ {L : Int} {p : List Sd} {m : List Pr} {k i : Nat} : TT L p m k (i + 1) = TT L p m k i + L / (atF m i).2 * (atF m i).1 * comp (atS p i) k := rfl
/-- what the reference says, out of its sums -/
def RefR (L T0 T1 T2 : Int) (r : Int × Int × Int × Int) : Prop :=
  if Int.tmod T0 L ≠ 0 ∨ Int.tmod T1 L ≠ 0 ∨ (T0 = 0 ∧ T1 = 0) then r = (0, 0, 0, 4) else ∃ n d f, Red n d T2 L ∧ Fl f n d ∧ r = (Int.tdiv T0 L, Int.tdiv T1 L, f, 0)
theorem r31_j2_ok {n0 H : Hp} {v1 v3 : Nat} {L T0 T1 T2 : Int} (g : Gr n0 H) (hv1 : n0.n ≤ v1) (h1 : ∃ a b c, H.get v1 = some (.cells [a, b, c] false)) (h3 : H.get v3 = some (.cells [.int .i64 T0, .int .i64 T1, .int .i64 T2] false)) (hL : 0 < L) (hL2 : L ≤ 1000000000000) (hT0 : T0.natAbs < 4611686018427387904) (hT1 : T1.natAbs < 4611686018427387904) (hT2 : T2.natAbs < 4611686018427387904) (fl : Bool) :
    Ok (r31_j2 v1 L v3 fl H) fun r H' => Gr n0 H' ∧ if fl = true then r = (0, 0, 0, 4) else ∃ n d f, Red n d T2 L ∧ Fl f n d ∧ r = (Int.tdiv T0 L, Int.tdiv T1 L, f, 0) := by
  obtain ⟨a, b, c, h1⟩ := h1
  unfold r31_j2
  have mk : ∀ x y z : Int, ∃ E, H.sts v1 0 [.int .i64 x, .int .i64 y, .int .i64 z] = some E ∧ E.get v1 = some (.cells [.int .i64 x, .int .i64 y, .int .i64 z] false) ∧ Gr n0 E := fun x y z => by
    obtain ⟨E, e1, e2, e3, e4⟩ := sts_blk [.int .i64 x, .int .i64 y, .int .i64 z] 0 H [a, b, c] h1 (by simp)
    exact ⟨E, e1, e2, by rw [e3]; exact g.1, fun q hq => by rw [e4 q (by omega)]; exact g.2 q hq⟩
  cases fl with
  | true =>
    obtain ⟨E, e1, e2, e3⟩ := mk 0 0 0
    exact Ok.pos rfl (Ok.ld e1 (Ok.ld (ldI_get e2 rfl) (Ok.ld (ldI_get e2 rfl) (Ok.ld (ldI_get e2 rfl) (Ok.ret ⟨e3, rfl⟩)))))
  | false =>
    obtain ⟨n, d, X, e56, hr⟩ := r56_ok (a := T2) (b := L) (by omega) hL (by omega) H0
    have h5 := hr.2.2.2.2
    obtain ⟨f, Y, e61, hf⟩ := r61_ok (n := n) (d := d) (by omega) hr.1 H0
    have q0 := tdiv_bd (n := T0) hL
    have q1 := tdiv_bd (n := T1) hL
    obtain ⟨E, e1, e2, e3⟩ := mk (Int.tdiv T0 L) (Int.tdiv T1 L) f
    refine Ok.neg (by simp) (Ok.ld (ldI_get h3 rfl) (Ok.ck (by omega) (Ok.ld (ldI_get h3 rfl) (Ok.ck (by omega) (Ok.ld (ldI_get h3 rfl) (Ok.ld e56 (Ok.ld e61 ?_)))))))
    dsimp only
    rw [w64_id (n := Int.tdiv T0 L) (by omega) (by omega), w64_id (n := Int.tdiv T1 L) (by omega) (by omega)]
    exact Ok.ld e1 (Ok.ld (ldI_get e2 rfl) (Ok.ld (ldI_get e2 rfl) (Ok.ld (ldI_get e2 rfl) (Ok.ret ⟨e3, n, d, f, hr, hf, rfl⟩))))
/-- the sums -/
theorem r31_l1_ok {n0 H : Hp} {vp vm : Sl} {p : List Sd} {m : List Pr} {L : Int} {v1 v3 : Nat} (hL : 0 < L) (hL2 : L ≤ 1000000000000) (hp : SL n0 vp p) (hm : SL n0 vm m) (hlen : m.length = p.length) (h6 : p.length ≤ 6) (hs : ∀ s ∈ p, sideP s) (hf : ∀ f ∈ m, frP f) (hdv : ∀ f ∈ m, f.2 ∣ L) (g : Gr n0 H) (hv1 : n0.n ≤ v1) (hv3 : n0.n ≤ v3) (hne : v1 ≠ v3)
    (h1 : ∃ a b c, H.get v1 = some (.cells [a, b, c] false)) (h3 : H.get v3 = some (.cells [.int .i64 0, .int .i64 0, .int .i64 0] false)) :
    Ok (r31_l1 FUEL vp v1 L v3 vm m.length 0 H) fun r H' => Gr n0 H' ∧ RefR L (TT L p m 0 p.length) (TT L p m 1 p.length) (TT L p m 2 p.length) r := by
  obtain ⟨ua, ub, uc, h1⟩ := h1
  have hml := hm.len
  have hpl := hp.len
  refine Ok.loop (L := fun K (s : Int) H2 => r31_l1 K vp v1 L v3 vm m.length s H2) (fun mm s H' => ∃ i : Nat, s = i ∧ i + mm = m.length ∧ Gr n0 H' ∧ H'.get v1 = some (.cells [ua, ub, uc] false) ∧ H'.get v3 = some (.cells [.int .i64 (TT L p m 0 i), .int .i64 (TT L p m 1 i), .int .i64 (TT L p m 2 i)] false) ∧ ∀ k, (TT L p m k i).natAbs ≤ 4000 * i * L.natAbs) ?_ FUEL m.length 0 H (by unfold FUEL; omega) ⟨0, rfl, by omega, g, h1, h3, fun k => by simp [TT, tot]⟩
  rintro K mm s H1 ⟨i, rfl, hmm, g1, k1, k3, hb⟩ ih
  try dsimp only at *
  rw [r31_l1]
  by_cases h : i < m.length
  · have hg := hm.gr g1
    have hi : i < p.length := by omega
    obtain ⟨D, hD, hD', gD, nD⟩ := sts2 H1 (.int .i64 m[i].1) (.int .i64 m[i].2) (.int .i64 0) (.int .i64 0)
    have hfm := hf _ (List.getElem_mem h)
    have hdm := hdv _ (List.getElem_mem h)
    have hsm := hs _ (List.getElem_mem hi)
    have gB := g1.trans gD
    have hpD := hp.gr gB
    have d1 : D.get v1 = some (.cells [ua, ub, uc] false) := by rw [gD.2 _ (Hp.get_lt k1)]; exact k1
    have d3 : D.get v3 = some (.cells [.int .i64 (TT L p m 0 i), .int .i64 (TT L p m 1 i), .int .i64 (TT L p m 2 i)] false) := by rw [gD.2 _ (Hp.get_lt k3)]; exact k3
    have P0 : D.ldI .i64 vp.b ((vp.o + i * 3) + 0) = some (comp p[i] 0) := hpD.ldI (i := i) (j := 0) hi rfl
    have P1 : ∀ E, Gr n0 E → E.ldI .i64 vp.b ((vp.o + i * 3) + 1) = some (comp p[i] 1) := fun E gE => (hp.gr gE).ldI (i := i) (j := 1) hi rfl
    have P2 : ∀ E, Gr n0 E → E.ldI .i64 vp.b ((vp.o + i * 3) + 2) = some (comp p[i] 2) := fun E gE => (hp.gr gE).ldI (i := i) (j := 2) hi rfl
    have T0 := term_bd hL hfm hdm (comp_bd hsm 0)
    have T1 := term_bd hL hfm hdm (comp_bd hsm 1)
    have T2 := term_bd hL hfm hdm (comp_bd hsm 2)
    have s0 : TT L p m 0 (i + 1) = TT L p m 0 i + L / m[i].2 * m[i].1 * comp p[i] 0 := by rw [TT_succ, ← atF_eq h, ← atS_eq hi]
    have s1 : TT L p m 1 (i + 1) = TT L p m 1 i + L / m[i].2 * m[i].1 * comp p[i] 1 := by rw [TT_succ, ← atF_eq h, ← atS_eq hi]
    have s2 : TT L p m 2 (i + 1) = TT L p m 2 i + L / m[i].2 * m[i].1 * comp p[i] 2 := by rw [TT_succ, ← atF_eq h, ← atS_eq hi]
    have hbi : ∀ k, (TT L p m k i).natAbs ≤ 4000 * 6 * 1000000000000 := fun k => Nat.le_trans (hb k) (Nat.mul_le_mul (by omega) (by omega))
    have b0 := hbi 0
    have b1 := hbi 1
    have b2 := hbi 2
    have f1 := hfm.1
    have f2 := hfm.2.1
    have f3 := hfm.2.2.1
    have f4 := hfm.2.2.2.1
    obtain ⟨t1, t2, t3, t4, t5, u0⟩ := T0
    have u1 := T1.2.2.2.2.2
    have u2 := T2.2.2.2.2.2
    refine Ok.pos (by omega) (Ok.ck (by omega) ?_)
    simp only [Int.toNat_natCast]
    refine Ok.ld (hg.ldI (i := i) (j := 0) h rfl) (Ok.ld (hg.ldI (i := i) (j := 1) h rfl) (Ok.ld hD (Ok.ld (ldI_get hD' rfl) (Ok.ck (by omega) (Ok.ld (ldI_get hD' rfl) (Ok.ld (ldI_get d3 rfl) (Ok.ck (by omega) (Ok.ld P0 ?_))))))))
    have hbnd : ∀ k, (TT L p m k (i + 1)).natAbs ≤ 4000 * (i + 1) * L.natAbs := fun k => by
      rw [TT_succ, ← atF_eq h, ← atS_eq hi]
      have c1 := hb k
      have c2 := (term_bd hL hfm hdm (comp_bd hsm k)).2.2.2.2.2
      have c3 := Int.natAbs_add_le (TT L p m k i) (L / m[i].2 * m[i].1 * comp p[i] k)
      have c4 : 4000 * (i + 1) * L.natAbs = 4000 * i * L.natAbs + 4000 * L.natAbs := by rw [Nat.mul_add, Nat.add_mul]
      omega
    rw [t1]
    generalize hq : L / m[i].2 = q at *
    rw [w64_id (n := q) (by omega) (by omega), w64_id (n := q * m[i].1) (by omega) (by omega)]
    generalize hqf : q * m[i].1 = z at *
    rw [w64_id (n := z * comp p[i] 0) (by omega) (by omega), w64_id (n := TT L p m 0 i + z * comp p[i] 0) (by omega) (by omega)]
    refine Ok.st d3 (by simp) fun E eE hE => ?_
    rw [← s0] at hE
    have gE : Gr n0 E := ⟨by rw [eE]; simp; exact gB.1, fun x hx => by rw [eE, Hp.get_set_other _ _ (by omega)]; exact gB.2 x hx⟩
    have e1 : E.get v1 = some (.cells [ua, ub, uc] false) := by rw [eE, Hp.get_set_other _ _ hne]; exact d1
    refine Ok.ld (ldI_get hE rfl) (Ok.ck (by omega) (Ok.ld (P1 E gE) ?_))
    rw [w64_id (n := z * comp p[i] 1) (by omega) (by omega), w64_id (n := TT L p m 1 i + z * comp p[i] 1) (by omega) (by omega)]
    refine Ok.st hE (by simp) fun F eF hF => ?_
    rw [← s1] at hF
    have gF : Gr n0 F := ⟨by rw [eF]; simp; exact gE.1, fun x hx => by rw [eF, Hp.get_set_other _ _ (by omega)]; exact gE.2 x hx⟩
    have f1' : F.get v1 = some (.cells [ua, ub, uc] false) := by rw [eF, Hp.get_set_other _ _ hne]; exact e1
    refine Ok.ld (ldI_get hF rfl) (Ok.ck (by omega) (Ok.ld (P2 F gF) ?_))
    rw [w64_id (n := z * comp p[i] 2) (by omega) (by omega), w64_id (n := TT L p m 2 i + z * comp p[i] 2) (by omega) (by omega)]
    refine Ok.st hF (by simp) fun G eG hG => ?_
    rw [← s2] at hG
    have gG : Gr n0 G := ⟨by rw [eG]; simp; exact gF.1, fun x hx => by rw [eG, Hp.get_set_other _ _ (by omega)]; exact gF.2 x hx⟩
    rw [w64_succ (by omega)]
    exact ih (mm - 1) _ G (by omega) ⟨i + 1, rfl, by omega, gG, by rw [eG, Hp.get_set_other _ _ hne]; exact f1', hG, hbnd⟩
  · have hi : i = p.length := by omega
    subst hi
    have hbi : ∀ k, (TT L p m k p.length).natAbs ≤ 4000 * 6 * 1000000000000 := fun k => Nat.le_trans (hb k) (Nat.mul_le_mul (by omega) (by omega))
    have b0 := hbi 0
    have b1 := hbi 1
    have b2 := hbi 2
    generalize TT L p m 0 p.length = T0 at *
    generalize TT L p m 1 p.length = T1 at *
    generalize TT L p m 2 p.length = T2 at *
    have hj := fun fl => r31_j2_ok g1 hv1 ⟨_, _, _, k1⟩ k3 hL hL2 (by omega) (by omega) (by omega) fl
    have fin : ∀ fl, (fl = true ↔ (Int.tmod T0 L ≠ 0 ∨ Int.tmod T1 L ≠ 0 ∨ (T0 = 0 ∧ T1 = 0))) → Ok (r31_j2 v1 L v3 fl H1) fun r H' => Gr n0 H' ∧ RefR L T0 T1 T2 r := fun fl hfl => (hj fl).mono fun r H' ⟨a, b⟩ => ⟨a, by
      unfold RefR
      by_cases c : fl = true
      · rw [if_pos c] at b; rw [if_pos (hfl.1 c)]; exact b
      · rw [if_neg c] at b; rw [if_neg (fun q => c (hfl.2 q))]; exact b⟩
    refine Ok.neg (by omega) (Ok.ld (ldI_get k3 rfl) (Ok.ck (by omega) (Ok.ite (fun c => fin true (by simp [c])) fun c => Ok.ld (ldI_get k3 rfl) (Ok.ck (by omega) (Ok.ite (fun c2 => fin true (by simp [c2])) fun c2 => Ok.ld (ldI_get k3 rfl) (Ok.ite (fun c3 => Ok.ld (ldI_get k3 rfl) (fin _ ?_)) fun c3 => fin false ?_))))))
    · rw [decide_eq_true_iff]
      constructor
      · intro c4; exact .inr (.inr ⟨c3, c4⟩)
      · rintro (c4 | c4 | c4)
        · exact absurd c4 c
        · exact absurd c4 c2
        · exact c4.2
    · constructor
      · intro c4; simp at c4
      · rintro (c4 | c4 | c4)
        · exact absurd c4 c
        · exact absurd c4 c2
        · exact absurd c4.1 c3
/-- the common denominator -/
def stepL (a : Int) (f : Pr) : Int := a * Int.tdiv f.2 (Nat.gcd f.2.natAbs a.natAbs)
def lcmF (m : List Pr) : Int := m.foldl stepL 1
theorem red_num {n d a b : Int} (hb : 0 < b) (h : Red n d a b) : n = Int.tdiv a (Nat.gcd a.natAbs b.natAbs) := by
  obtain ⟨h1, _, h3, h4, _⟩ := h
  obtain ⟨k1, _, k3, k4, _⟩ := red_of (a := a) hb
  refine (red_uniq h1 k1 h3 k3 ?_).1
  refine Int.eq_of_mul_eq_mul_right (show b ≠ 0 by omega) ?_
  generalize Int.tdiv a (Nat.gcd a.natAbs b.natAbs) = n' at *
  generalize Int.tdiv b (Nat.gcd a.natAbs b.natAbs) = d' at *
  have e1 : n * d' * b = n * b * d' := by grind
  have e2 : n' * d * b = n' * b * d := by grind
  rw [e1, e2, h4, k4]
  grind
/-- Cut of the reference -/
theorem r31_ok {H : Hp} {vp vm : Sl} {p : List Sd} {m : List Pr} (hp : SL H vp p) (hm : SL H vm m) (hlen : m.length = p.length) (h6 : p.length ≤ 6) (hs : ∀ s ∈ p, sideP s) (hf : ∀ f ∈ m, frP f) :
    Ok (r31 vp vm H) fun r H' => Gr H H' ∧ ∃ L, L = lcmF m ∧ 0 < L ∧ (∀ f ∈ m, f.2 ∣ L) ∧ RefR L (TT L p m 0 p.length) (TT L p m 1 p.length) (TT L p m 2 p.length) r := by
  unfold r31
  have gp := Gr.push H (.cells [.int .i64 0, .int .i64 0, .int .i64 0] false)
  have g0 : (H.push (.cells [.int .i64 0, .int .i64 0, .int .i64 0] false)).get H.n = some (.cells [.int .i64 0, .int .i64 0, .int .i64 0] false) := Hp.get_push_new _ _
  generalize H.push (.cells [.int .i64 0, .int .i64 0, .int .i64 0] false) = A at *
  have hml := hm.len
  refine Ok.lt ?_
  rw [hml]
  refine Ok.loop (L := fun K (s : Int × Int) H2 => r31_l0 K vp vm H.n s.1 vm m.length s.2 H2) (fun mm s H' => ∃ i : Nat, s.2 = i ∧ i + mm = m.length ∧ Gr H H' ∧ H'.get H.n = some (.cells [.int .i64 0, .int .i64 0, .int .i64 0] false) ∧ s.1 = (m.take i).foldl stepL 1 ∧ 0 < s.1 ∧ s.1 ≤ 100 ^ i ∧ ∀ f ∈ m.take i, f.2 ∣ s.1) ?_ FUEL m.length (1, 0) A (by unfold FUEL; omega) ⟨0, rfl, by omega, gp, g0, by simp, by decide, by decide, by simp⟩
  rintro K mm ⟨a, s⟩ H1 ⟨i, rfl, hmm, g1, k1, haL, ha0, hap, hdv⟩ ih
  try dsimp only at *
  rw [r31_l0]
  by_cases h : i < m.length
  · have hg := hm.gr g1
    obtain ⟨D, hD, hD', gD, nD⟩ := sts2 H1 (.int .i64 m[i].1) (.int .i64 m[i].2) (.int .i64 0) (.int .i64 0)
    have hfm := hf _ (List.getElem_mem h)
    have hpw := pow_small (show i < 6 by omega)
    have f1 := hfm.1
    have f2 := hfm.2.1
    obtain ⟨n, d, X, e56, hr⟩ := r56_ok (a := m[i].2) (b := a) (by omega) ha0 (by omega) H0
    have hrn := red_num ha0 hr
    obtain ⟨r1, r2, r3, r4, r5⟩ := hr
    refine Ok.pos (by omega) (Ok.ck (by omega) (Ok.ld (hg.ldI (i := i) (j := 0) h rfl) (Ok.ld (hg.ldI (i := i) (j := 1) h rfl) (Ok.ld hD (Ok.ld (ldI_get hD' rfl) (Ok.ld e56 ?_))))))
    dsimp only
    have hmd : 0 < m[i].2 * d := Int.mul_pos (by omega) r1
    have hle : m[i].2 * d ≤ 100 * a := by
      have q1 : m[i].2 * d ≤ m[i].2 * a := Int.mul_le_mul_of_nonneg_left r2 (by omega)
      have q2 : m[i].2 * a ≤ 100 * a := Int.mul_le_mul_of_nonneg_right f2 (by omega)
      omega
    have ean : a * n = m[i].2 * d := by rw [Int.mul_comm]; exact r4
    rw [w64_id (n := a * n) (by omega) (by omega), w64_succ (by omega)]
    have hp1 : (100 : Int) ^ (i + 1) = 100 ^ i * 100 := Int.pow_succ _ _
    refine ih (mm - 1) (_, _) D (by omega) ⟨i + 1, rfl, by omega, g1.trans gD, by rw [gD.2 _ (Hp.get_lt k1)]; exact k1, ?_, by omega, by omega, ?_⟩
    · rw [List.take_succ_eq_append_getElem h, List.foldl_append, ← haL, hrn]
      rfl
    rw [List.take_succ_eq_append_getElem h]
    intro f hfi
    rcases List.mem_append.1 hfi with hfi | hfi
    · exact Int.dvd_trans (hdv f hfi) ⟨n, rfl⟩
    · rw [List.mem_singleton] at hfi
      subst hfi
      exact ⟨d, ean⟩
  · have hi : i = m.length := by omega
    rw [List.take_of_length_le (by omega)] at hdv haL
    have hpw : (100 : Int) ^ i ≤ 1000000000000 := by
      by_cases c : i = 6
      · rw [c]; decide
      · have := pow_small (show i < 6 by omega); omega
    refine Ok.neg (by omega) (Ok.lt ?_)
    have gq := Gr.push H1 (.cells [.int .i64 0, .int .i64 0, .int .i64 0] false)
    rw [hml]
    have hlt := Hp.get_lt k1
    refine (r31_l1_ok (n0 := H) ha0 (by omega) hp hm hlen h6 hs hf hdv (g1.trans gq) (Nat.le_refl _) g1.1 (by omega) ⟨_, _, _, by rw [gq.2 _ hlt]; exact k1⟩ (Hp.get_push_new _ _)).mono fun r H' hh => ⟨hh.1, a, haL, ha0, hdv, hh.2⟩
end Go.Lt.P2
