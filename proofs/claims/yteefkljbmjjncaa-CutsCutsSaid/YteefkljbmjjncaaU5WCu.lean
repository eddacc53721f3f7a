/- PLAIN LAWS OF WHAT IS COMPUTED, for the statement 'CutsCuts'. Nothing is asked of the input. -/
import Derived.Test.YteefkljbmjjncaaU5WFr
set_option linter.unusedVariables false
set_option linter.unusedSimpArgs false
namespace Go.Lt.P2
open Go Go.Lt Go.Proofs
def comp (x : Sd) (k : Nat) : Int := if k = 0 then x.1 else if k = 1 then x.2.1 else x.2.2
def atS (p : List Sd) (j : Nat) : Sd := p.getD j (0, 0, 0)
def atF (m : List Pr) (j : Nat) : Pr := m.getD j (0, 1)
theorem atS_eq {p : List Sd} {j : Nat} (h : j < p.length) : p[j] = atS p j := by
  unfold atS; rw [List.getD_eq_getElem?_getD, List.getElem?_eq_getElem h]; rfl
theorem atF_eq {p : List Pr} {j : Nat} (h : j < p.length) : p[j] = atF p j := by
  unfold atF; rw [List.getD_eq_getElem?_getD, List.getElem?_eq_getElem h]; rfl
/-- a side -/
def sideP (s : Sd) : Prop := (-4 ≤ s.1 ∧ s.1 ≤ 4) ∧ (-4 ≤ s.2.1 ∧ s.2.1 ≤ 4) ∧ ¬ (s.1 = 0 ∧ s.2.1 = 0) ∧ (-40 ≤ s.2.2 ∧ s.2.2 ≤ 40)
instance (s : Sd) : Decidable (sideP s) := by unfold sideP; infer_instance
theorem comp_bd {s : Sd} (h : sideP s) (k : Nat) : -40 ≤ comp s k ∧ comp s k ≤ 40 := by
  unfold sideP at h
  unfold comp
  split
  · omega
  · split <;> omega
def TT (L : Int) (p : List Sd) (m : List Pr) (k i : Nat) : Int := tot L (fun j => comp (atS p j) k) (atF m) i
theorem pow_small {i : Nat} (h : i < 6) : (100 : Int) ^ i ≤ 10000000000 := by
  rcases (show i = 0 ∨ i = 1 ∨ i = 2 ∨ i = 3 ∨ i = 4 ∨ i = 5 by omega) with rfl | rfl | rfl | rfl | rfl | rfl <;> decide
theorem apart3 (x : Sd) {k : Nat} (h : k < 3) : (apart false 1 [.int .i64 x.1, .int .i64 x.2.1, .int .i64 x.2.2] (k * 1)) = some (.int .i64 (comp x k)) := by
  rcases (show k = 0 ∨ k = 1 ∨ k = 2 by omega) with rfl | rfl | rfl <;> rfl
theorem getElem_set3 {q : List Pr} {k j : Nat} (x : Pr) (hj : j < (q.set k x).length) : (q.set k x)[j] = if k = j then x else q[j]'(by simpa using hj) := List.getElem_set _
section
variable {Q : Int × Int × Int × Bool → Hp → Prop}
theorem r77_l1_ok {n0 H : Hp} {vm z : Sl} {p : List Sd} {m : List Pr} {L : Int} {q : List Pr} {i v2 v3 : Nat} {ln iv : Int} {x : Sd} (hL : 0 < L) (hm : SL n0 vm m) (hi : i < m.length) (hi6 : i < 6) (hxe : atS p i = x) (hx : sideP x) (hf : frP (atF m i)) (hdv : (atF m i).2 ∣ L) (hz : z = ⟨false, v3, 0, 3, 3, 0⟩) (hv3 : n0.n ≤ v3) (g : Gr n0 H) (ho : Own H z q) (hq : q.length = 3) (hPI : ∀ k (h : k < q.length), PI L (TT L p m k i) i q[k])
    {vp2 : Sl} {kt0 : Sl → Nat → Nat → Sl → Int → Int → Hp → Option ((Int × Int × Int × Bool) × Hp)} (kk : ∀ q' H', Own H' z q' → q'.length = 3 → (∀ k (h : k < q'.length), PI L (TT L p m k (i + 1)) (i + 1) q'[k]) → Only v3 H H' → Gr n0 H' → Ok (kt0 vm v2 v3 vp2 ln (w64 (iv + 1)) H') Q) : Ok (r77_l1 kt0 FUEL vm v2 v3 i vp2 ln iv x.1 x.2.1 x.2.2 0 H) Q := by
  refine Ok.loop (L := fun K (s : Int) H2 => r77_l1 kt0 K vm v2 v3 i vp2 ln iv x.1 x.2.1 x.2.2 s H2) (fun mm s H' => ∃ k : Nat, s = k ∧ k + mm = 3 ∧ Gr n0 H' ∧ Only v3 H H' ∧ ∃ q', Own H' z q' ∧ q'.length = 3 ∧ ∀ j (h : j < q'.length), if j < k then PI L (TT L p m j (i + 1)) (i + 1) q'[j] else PI L (TT L p m j i) i q'[j]) ?_ FUEL 3 0 H (by unfold FUEL; omega) ⟨0, rfl, rfl, g, .refl _ _, q, ho, hq, fun j h => by rw [if_neg (by omega)]; exact hPI j h⟩
  rintro K mm s H1 ⟨k, rfl, hk, g1, on, q', o1, hq1, hP⟩ ih
  try dsimp only at *
  rw [r77_l1]
  by_cases h : k < 3
  · have hs := o1.sl
    have hm1 := hm.gr g1
    have hkq : k < q'.length := by omega
    have hzb : z.b = v3 := by rw [hz]
    have hzo : z.o = 0 := by rw [hz]
    have hml := hm.len
    have L1 : H1.ldI .i64 v3 (0 + k * 2) = some q'[k].1 := by
      have := hs.ldI (i := k) (j := 0) hkq (n := q'[k].1) rfl
      rw [hzb, hzo] at this; exact this
    have L2 : H1.ldI .i64 v3 ((0 + k * 2) + 1) = some q'[k].2 := by
      have := hs.ldI (i := k) (j := 1) hkq (n := q'[k].2) rfl
      rw [hzb, hzo] at this; exact this
    have hpk := hP k hkq
    rw [if_neg (by omega)] at hpk
    have hb1 := hpk.num hL
    have hb2 := hpk.le
    have hb3 := pow_small hi6
    have hpp := hpk.pos
    have hxk := comp_bd hx k
    have M1 : H1.ldI .i64 vm.b (vm.o + i * 2) = some (atF m i).1 := by rw [← atF_eq hi]; exact hm1.ldI (i := i) (j := 0) hi rfl
    have M2 : H1.ldI .i64 vm.b ((vm.o + i * 2) + 1) = some (atF m i).2 := by rw [← atF_eq hi]; exact hm1.ldI (i := i) (j := 1) hi rfl
    have hf' := hf
    obtain ⟨f1, f2, f3, f4, f5⟩ := hf'
    obtain ⟨n, d, X, e99, ht⟩ := r99_ok (k := comp x k) (a := atF m i) hxk ⟨f3, by omega⟩ ⟨f1, f2⟩ H0
    have hbx := mul_bd (A := 40) (B := 10000) (x := comp x k) (y := (atF m i).1) (by omega) (by omega) (by omega) (by omega)
    obtain ⟨t1, t2, t3, t4, t5⟩ := ht
    have hn15 : q'[k].1.natAbs ≤ 1000000000000000 := by
      have : 4000 * i * q'[k].2.natAbs ≤ 4000 * 5 * 10000000000 := Nat.mul_le_mul (by omega) (by omega)
      omega
    obtain ⟨n2, d2, Y, e98, hp⟩ := r98_ok (a := q'[k]) (b := (n, d)) hn15 ⟨by omega, by omega⟩ (by omega) ⟨by omega, by omega⟩ H0
    refine Ok.pos (by omega) (Ok.ck (by omega) ?_)
    simp only [Int.toNat_natCast]
    refine Ok.ld (apart3 x h) (Ok.ld rfl (Ok.ck (by omega) (Ok.ld L1 (Ok.ld L2 (Ok.ck (by omega) (Ok.ld M1 (Ok.ld M2 (Ok.ld e99 (Ok.ld e98 (Ok.ck (by omega) ?_))))))))))
    dsimp only
    rw [← hzb]
    refine o1.put (j := k) hkq ((n2, d2) : Pr) (by rw [hzo]; rfl) rfl fun H2 o2 on2 n2' => ?_
    rw [w64_succ (by omega)]
    rw [hzb] at on2 ⊢
    refine ih (mm - 1) _ H2 (by omega) ⟨k + 1, rfl, by omega, on2.gr g1 hv3, on.trans on2, _, o2, by simp [hq1], fun j hj => ?_⟩
    rw [getElem_set3]
    have hj' : j < q'.length := by simpa using hj
    have hpj := hP j hj'
    by_cases c : k = j
    · subst c
      rw [if_pos (by omega), if_pos rfl]
      have := PI.step (x := comp x k) (s' := (n2, d2)) hL hpk hf hdv hxk ⟨t1, t2, t3, t4, t5⟩ hp
      show PI L (tot L (fun j => comp (atS p j) k) (atF m) (i + 1)) (i + 1) (n2, d2)
      unfold tot
      rw [hxe]
      exact this
    · rw [if_neg c]
      by_cases c2 : j < k
      · rw [if_pos (by omega)]; rw [if_pos c2] at hpj; exact hpj
      · rw [if_neg (by omega)]; rw [if_neg c2] at hpj; exact hpj
  · refine Ok.neg (by omega) (kk q' H1 o1 hq1 (fun j hj => ?_) on g1)
    have := hP j hj
    rw [if_pos (by omega)] at this
    exact this
end
/-- what cut says, out of the sums -/
def CutR (s0 s1 s2 : Pr) (r : Int × Int × Int × Bool) : Prop :=
  if s0.2 ≠ 1 ∨ s1.2 ≠ 1 ∨ (s0.1 = 0 ∧ s1.1 = 0) then r = (0, 0, 0, false) else ∃ f, Fl f s2.1 s2.2 ∧ r = (s0.1, s1.1, f, true)
theorem r100_one (H : Hp) : ∃ H', r100 0 1 H = some ((0, 1), H') := by
  obtain ⟨n, d, H', e, h⟩ := r100_ok (a := 0) (b := 1) (by decide) (by decide) (by decide) H
  obtain ⟨h1, h2, _, h4, _⟩ := h
  have : d = 1 := by omega
  subst this
  have : n = 0 := by omega
  subst this
  exact ⟨H', e⟩
theorem r77_j2_ok {H0' H : Hp} {v2 v3 : Nat} {s0 s1 s2 : Pr} (g : Gr H0' H) (hv2 : H0'.n ≤ v2) (h2 : ∃ a b c, H.get v2 = some (.cells [a, b, c] false)) (h3 : H.get v3 = some (.cells (encs [s0, s1, s2]) false)) (hd : 0 < s2.2) (hn : s2.1.natAbs < 4611686018427387904) (fl : Bool) : Ok (r77_j2 v2 v3 fl H) fun r H' => Gr H0' H' ∧ if fl = true then r = (0, 0, 0, false) else ∃ f, Fl f s2.1 s2.2 ∧ r = (s0.1, s1.1, f, true) := by
  obtain ⟨a, b, c, h2⟩ := h2
  unfold r77_j2
  have mk : ∀ x y z : Int, ∃ E, H.sts v2 0 [.int .i64 x, .int .i64 y, .int .i64 z] = some E ∧ E.get v2 = some (.cells [.int .i64 x, .int .i64 y, .int .i64 z] false) ∧ Gr H0' E := fun x y z => by
    obtain ⟨E, e1, e2, e3, e4⟩ := sts_blk [.int .i64 x, .int .i64 y, .int .i64 z] 0 H [a, b, c] h2 (by simp)
    exact ⟨E, e1, e2, by rw [e3]; exact g.1, fun q hq => by rw [e4 q (by omega)]; exact g.2 q hq⟩
  cases fl with
  | true =>
    obtain ⟨E, e1, e2, e3⟩ := mk 0 0 0
    exact Ok.pos rfl (Ok.ld e1 (Ok.ld (ldI_get e2 rfl) (Ok.ld (ldI_get e2 rfl) (Ok.ld (ldI_get e2 rfl) (Ok.ret ⟨e3, rfl⟩)))))
  | false =>
    obtain ⟨f, X, e68, hf⟩ := r68_ok hn hd H0
    obtain ⟨E, e1, e2, e3⟩ := mk s0.1 s1.1 f
    exact Ok.neg (by simp) (Ok.ld (ldI_get h3 rfl) (Ok.ld (ldI_get h3 rfl) (Ok.ld (ldI_get h3 rfl) (Ok.ld (ldI_get h3 rfl) (Ok.ld e68 (Ok.ld e1 (Ok.ld (ldI_get e2 rfl) (Ok.ld (ldI_get e2 rfl) (Ok.ld (ldI_get e2 rfl) (Ok.ret ⟨e3, f, hf, rfl⟩))))))))))
/-- cut -/
theorem r77_ok {H : Hp} {vp vm : Sl} {p : List Sd} {m : List Pr} {L : Int} (hL : 0 < L) (hp : SL H vp p) (hm : SL H vm m) (hlen : m.length = p.length) (h6 : p.length ≤ 6) (hs : ∀ s ∈ p, sideP s) (hf : ∀ f ∈ m, frP f) (hdv : ∀ f ∈ m, f.2 ∣ L) :
    Ok (r77 vp vm H) fun r H' => Gr H H' ∧ ∃ s0 s1 s2, PI L (TT L p m 0 p.length) p.length s0 ∧ PI L (TT L p m 1 p.length) p.length s1 ∧ PI L (TT L p m 2 p.length) p.length s2 ∧ CutR s0 s1 s2 r := by
  unfold r77
  have gp := Gr.push H (.cells [.int .i64 0, .int .i64 0, .int .i64 0] false)
  have g0 : (H.push (.cells [.int .i64 0, .int .i64 0, .int .i64 0] false)).get H.n = some (.cells [.int .i64 0, .int .i64 0, .int .i64 0] false) := Hp.get_push_new _ _
  have n0 : (H.push (.cells [.int .i64 0, .int .i64 0, .int .i64 0] false)).n = H.n + 1 := by simp
  generalize H.push (.cells [.int .i64 0, .int .i64 0, .int .i64 0] false) = A at *
  obtain ⟨X, eX⟩ := r100_one H0
  refine Ok.lt (Ok.ld eX (Ok.ld eX (Ok.ld eX ?_)))
  dsimp only
  obtain ⟨B, e1, e2, e3, e4⟩ := sts_blk [.int .i64 0, .int .i64 1, .int .i64 0, .int .i64 1, .int .i64 0, .int .i64 1] 0 (A.push (.cells [.int .i64 0, .int .i64 0, .int .i64 0, .int .i64 0, .int .i64 0, .int .i64 0] false)) _ (Hp.get_push_new _ _) (by simp)
  have gAB : Gr A B := ⟨by rw [e3]; simp, fun q hq => by rw [e4 q (by omega), Hp.get_push_old _ _ hq]⟩
  refine Ok.ld e1 ?_
  have hown : Own (T := Pr) B ⟨false, A.n, 0, 3, 3, 0⟩ [(0, 1), (0, 1), (0, 1)] := ⟨rfl, rfl, rfl, Nat.le_refl _, .inl rfl, e2⟩
  have hpA := hp.gr gp
  have hmA := hm.gr gp
  have hpl := hp.len
  rw [hpl]
  refine Ok.loop (L := fun K (s : Int) H2 => r77_l0 K vm H.n A.n vp p.length s H2) (fun mm s H' => ∃ i : Nat, s = i ∧ i + mm = p.length ∧ Gr A H' ∧ ∃ q, Own H' ⟨false, A.n, 0, 3, 3, 0⟩ q ∧ q.length = 3 ∧ ∀ k (h : k < q.length), PI L (TT L p m k i) i q[k]) ?_ FUEL p.length 0 B (by unfold FUEL; omega) ⟨0, rfl, by omega, gAB, _, hown, rfl, fun k h => ?_⟩
  rotate_left
  · have e : ([(0, 1), (0, 1), (0, 1)] : List Pr)[k] = (0, 1) := by
      rcases (show k = 0 ∨ k = 1 ∨ k = 2 by simp at h; omega) with rfl | rfl | rfl <;> rfl
    rw [e]
    exact PI.zero
  rintro K mm s H1 ⟨i, rfl, hmm, g1, q, o1, hq, hP⟩ ih
  try dsimp only at *
  rw [r77_l0]
  by_cases h : i < p.length
  · have hg := hpA.gr g1
    have hi : i < m.length := by omega
    have hx := hs _ (List.getElem_mem h)
    obtain ⟨D, d1, d2, d3, d4⟩ := sts_blk [.int .i64 p[i].1, .int .i64 p[i].2.1, .int .i64 p[i].2.2] 0 (H1.push (.cells [.int .i64 0, .int .i64 0, .int .i64 0] false)) _ (Hp.get_push_new _ _) (by simp)
    have gD : Gr H1 D := ⟨by rw [d3]; simp, fun q hq => by rw [d4 q (by omega), Hp.get_push_old _ _ hq]⟩
    refine Ok.pos (by omega) (Ok.ck (by omega) (Ok.ld (hg.ldI (i := i) (j := 0) h rfl) (Ok.ld (hg.ldI (i := i) (j := 1) h rfl) (Ok.ld (hg.ldI (i := i) (j := 2) h rfl) (Ok.ld d1 (Ok.ld (ldI_get d2 rfl) (Ok.ld (ldI_get d2 rfl) (Ok.ld (ldI_get d2 rfl) ?_))))))))
    have hfm := hf _ (List.getElem_mem hi)
    have hdm := hdv _ (List.getElem_mem hi)
    rw [atF_eq hi] at hfm hdm
    refine r77_l1_ok (n0 := A) (p := p) (x := p[i]) hL hmA hi (by omega) (atS_eq h).symm hx hfm hdm rfl (Nat.le_refl _) (g1.trans gD) (o1.gr gD) hq hP fun q' H2 o2 hq2 hP2 on2 g2 => ?_
    rw [w64_succ (by omega)]
    exact ih (mm - 1) _ H2 (by omega) ⟨i + 1, rfl, by omega, g2, q', o2, hq2, hP2⟩
  · have hi : i = p.length := by omega
    subst hi
    match q, hq, hP, o1 with
    | [s0, s1, s2], _, hP, o1 =>
      have P0 := hP 0 (show 0 < 3 by decide)
      have P1 := hP 1 (show 1 < 3 by decide)
      have P2 := hP 2 (show 2 < 3 by decide)
      have e0 : ([s0, s1, s2] : List Pr)[0] = s0 := rfl
      have e1 : ([s0, s1, s2] : List Pr)[1] = s1 := rfl
      have e2 : ([s0, s1, s2] : List Pr)[2] = s2 := rfl
      rw [e0] at P0
      rw [e1] at P1
      rw [e2] at P2
      have h3 : H1.get A.n = some (.cells (encs [s0, s1, s2]) false) := o1.get
      have hA2 : H1.get H.n = some (.cells [.int .i64 0, .int .i64 0, .int .i64 0] false) := by rw [g1.2 _ (by omega)]; exact g0
      have hb := P2.num hL
      have hle := P2.le
      have hps := P2.pos
      have hpw : (100 : Int) ^ p.length ≤ 1000000000000 := by
        by_cases c : p.length = 6
        · rw [c]; decide
        · have := pow_small (show p.length < 6 by omega); omega
      have hn : s2.1.natAbs < 4611686018427387904 := by
        have : 4000 * p.length * s2.2.natAbs ≤ 4000 * 6 * 1000000000000 := Nat.mul_le_mul (by omega) (by omega)
        omega
      have hj := fun fl => r77_j2_ok (H0' := H) (H := H1) (v2 := H.n) (v3 := A.n) (s0 := s0) (s1 := s1) (s2 := s2) (gp.trans g1) (Nat.le_refl _) ⟨_, _, _, hA2⟩ h3 hps hn fl
      have fin : ∀ fl, (fl = true ↔ (s0.2 ≠ 1 ∨ s1.2 ≠ 1 ∨ (s0.1 = 0 ∧ s1.1 = 0))) → Ok (r77_j2 H.n A.n fl H1) fun r H' => Gr H H' ∧ ∃ s0 s1 s2, PI L (TT L p m 0 p.length) p.length s0 ∧ PI L (TT L p m 1 p.length) p.length s1 ∧ PI L (TT L p m 2 p.length) p.length s2 ∧ CutR s0 s1 s2 r := fun fl hfl => (hj fl).mono fun r H' ⟨a, b⟩ => ⟨a, s0, s1, s2, P0, P1, P2, by
        unfold CutR
        by_cases c : fl = true
        · rw [if_pos c] at b; rw [if_pos (hfl.1 c)]; exact b
        · rw [if_neg c] at b; rw [if_neg (fun q => c (hfl.2 q))]; exact b⟩
      refine Ok.neg (by omega) (Ok.ld (ldI_get h3 rfl) (Ok.ite (fun c => fin true (by simp [c])) fun c => Ok.ld (ldI_get h3 rfl) (Ok.ite (fun c2 => fin true (by simp [c2])) fun c2 => Ok.ld (ldI_get h3 rfl) (Ok.ite (fun c3 => Ok.ld (ldI_get h3 rfl) (fin _ ?_)) fun c3 => fin false ?_))))
      · rw [decide_eq_true_iff]
        constructor
        · intro c4; exact .inr (.inr ⟨c3, c4⟩)
        · rintro (c4 | c4 | c4)
          · exact absurd c4 (by simpa using c)
          · exact absurd c4 (by simpa using c2)
          · exact c4.2
      · constructor
        · intro c4; simp at c4
        · rintro (c4 | c4 | c4)
          · exact absurd c4 (by simpa using c)
          · exact absurd c4 (by simpa using c2)
          · exact absurd c4.1 c3
end Go.Lt.P2
