/- PLAIN LAWS OF WHAT IS COMPUTED, for the statement 'PairsDifferences'. Nothing is asked of the input. -/
import Derived.Test.YthmhdbmpeepmaaaU7USplit
import Derived.Test.YthmhdbmpeepmaaaU7UTake
import Derived.Test.YthmhdbmpeepmaaaU7UFirst
set_option linter.unusedVariables false
namespace Go.Lt.P8
open Go Go.Lt Go.Proofs

/-- one place more -/
theorem met_step {M : Nat} {y : Nat} (hM : M < 2 ^ 40) (hy : y < 40) : bitsOf .or .i64 (M : Int) (shlOf .i64 1 (y : Int)) = ((M ||| 2 ^ y : Nat) : Int) ∧ M ||| 2 ^ y < 2 ^ 40 := by
  have h1 : 2 ^ y < 2 ^ 40 := Nat.pow_lt_pow_right (by omega) hy
  rw [shl_one (by omega), bits_or_nat (by omega) (by omega)]
  exact ⟨rfl, Nat.or_lt_two_pow hM h1⟩

theorem inner {row : List Int} {v1 v3 : Sl} {H : Hp} {M i len a b : Nat} (hl : v1.len = row.length) (hlen : row.length ≤ 16) (hM : M < 2 ^ 40) (ha : 1 ≤ a) (hb : 1 ≤ b) (ha2 : a ≤ row.length) (hb2 : b ≤ row.length) (hab : a ≠ b)
    (h1 : M.testBit a = false) (h2 : M.testBit b = false) {kt : Sl → Int → Sl → Int → Int → Hp → Option (Bool × Hp)} :
    r7_l2 (app 10) kt FUEL v1 (M : Int) v3 (len : Int) (i : Int) (a : Int) (b : Int) 0 H = kt v1 ((M ||| 2 ^ a ||| 2 ^ b : Nat) : Int) v3 (len : Int) (w64 ((i : Int) + 1)) H := by
  obtain ⟨e1, m1⟩ := met_step (y := a) hM (by omega)
  obtain ⟨e2, m2⟩ := met_step (y := b) m1 (by omega)
  have n1 : ¬ bitsOf .and .i64 (shrOf .i64 (M : Int) (a : Int)) 1 = 1 := by rw [bit_nat (by omega) (by omega), h1]; simp
  have n2 : ¬ bitsOf .and .i64 (shrOf .i64 ((M ||| 2 ^ a : Nat) : Int) (b : Int)) 1 = 1 := by
    rw [bit_nat (by omega) (by omega), Nat.testBit_or, h2, Nat.testBit_two_pow]
    simp [hab]
  have step : ∀ (K : Nat) (M' : Nat) (y : Nat) (t : Int), 1 ≤ y → y ≤ row.length → Go.Lt.apart false 1 [.int .i64 (a : Int), .int .i64 (b : Int)] (t.toNat * 1) = some (.int .i64 (y : Int)) → 0 ≤ t → t < 2 → ¬ bitsOf .and .i64 (shrOf .i64 (M' : Int) (y : Int)) 1 = 1 →
      r7_l2 (app 10) kt (K + 1) v1 (M' : Int) v3 (len : Int) (i : Int) (a : Int) (b : Int) t H = r7_l2 (app 10) kt K v1 (bitsOf .or .i64 (M' : Int) (shlOf .i64 1 (y : Int))) v3 (len : Int) (i : Int) (a : Int) (b : Int) (w64 (t + 1)) H := by
    intro K M' y t y1 y2 hap t0 t2 hn
    rw [r7_l2, if_pos t2, ck, if_pos ⟨t0, by simpa using t2⟩, hap]
    simp only [Option.bind_some, AV.asI, if_true]
    rw [if_neg (by omega), if_neg (by omega), ck, if_pos (by omega), r7_j3, decide_eq_false hn, if_neg (by simp), ck, if_pos (by omega)]
  rw [show FUEL = 4611686018427387901 + 1 + 1 + 1 from rfl, step _ M a 0 ha ha2 rfl (by omega) (by omega) n1, e1, show w64 (0 + 1) = 1 by decide, step _ _ b 1 hb hb2 rfl (by omega) (by omega) n2, e2, show w64 (1 + 1) = 2 by decide, r7_l2, if_neg (by omega)]

theorem outer {row l : List Int} {v1 v3 : Sl} {Hb : Hp} (hp : placesF 1 row = some l) (hl : v1.len = row.length) (hv : Prs Hb v3 (splitF l 0)) : ∀ (m k K M : Nat) (H : Hp), k + m = l.length → m < K → M < 2 ^ 40 → Gr Hb H →
    (∀ y, M.testBit y = true → 1 ≤ y ∧ ∃ (h : y - 1 < row.length), row[y - 1] ≤ k) →
    ∃ H', r7_l1 (app 10) K v1 (M : Int) v3 (l.length : Int) (k : Int) H = some (true, H') := by
  obtain ⟨_, p2, p3, p4, p5, p6⟩ := placesF_some hp
  intro m
  induction m with
  | zero =>
    intro k K M H hk hK hM g hbit
    obtain ⟨K, rfl⟩ : ∃ j, K = j + 1 := ⟨K - 1, by omega⟩
    rw [r7_l1, if_neg (by omega)]
    obtain ⟨H5, h5⟩ := awake10 H
    rw [h5]
    exact ⟨_, rfl⟩
  | succ m ih =>
    intro k K M H hk hK hM g hbit
    obtain ⟨K, rfl⟩ : ∃ j, K = j + 1 := ⟨K - 1, by omega⟩
    have hkl : k < l.length := by omega
    obtain ⟨t, et, t1, t2, r1, r2⟩ := p6 k hkl
    simp only [show (1 : Int).toNat = 1 from rfl] at t2 r2
    obtain ⟨sl, sg⟩ := splitF_get l 0
    have hks : k < (splitF l 0).length := by omega
    have hv' := hv.gr g
    have hvl := hv'.len
    have hget := sg k hks hkl
    have ew : w64 ((k : Int) + 1) = ((k + 1 : Nat) : Int) := by rw [w64_id (by omega) (by omega)]; push_cast; rfl
    rw [r7_l1, if_pos (by omega)]
    simp only [ck, Int.toNat_natCast]
    rw [if_pos (by omega), hv'.ld1 hks]
    simp only [Option.bind_some]
    rw [hv'.ld2 hks]
    simp only [Option.bind_some, hget, et, Nat.zero_add]
    have est : (H.push (.cells [.int .i64 0, .int .i64 0] false)).sts H.n 0 [.int .i64 ((t : Int) + 1), .int .i64 ((t : Int) + k + 2)] = some (((H.push (.cells [.int .i64 0, .int .i64 0] false)).set H.n (.cells [.int .i64 ((t : Int) + 1), .int .i64 0] false)).set H.n (.cells [.int .i64 ((t : Int) + 1), .int .i64 ((t : Int) + k + 2)] false)) := by
      simp only [Hp.sts]
      rw [st_eq (b := H.n) (cs := [.int .i64 0, .int .i64 0]) (by simp) (by simp)]
      simp only [Option.bind_some, List.set_cons_zero, Nat.zero_add]
      rw [st_eq (b := H.n) (cs := [.int .i64 ((t : Int) + 1), .int .i64 0]) (Hp.get_set_same _ _ (by simp)) (by simp)]
      rfl
    rw [est]
    simp only [Option.bind_some]
    generalize hD : Hp.set _ _ _ = D
    have hD' : D.get H.n = some (.cells [.int .i64 ((t : Int) + 1), .int .i64 ((t : Int) + k + 2)] false) := by rw [← hD]; exact Hp.get_set_same _ _ (by simp)
    have gD : Gr H D := ⟨by rw [← hD]; simp, fun b hb => by rw [← hD, Hp.get_set_other _ _ (by omega), Hp.get_set_other _ _ (by omega), Hp.get_push_old _ _ hb]⟩
    clear hD est
    have q1 : D.ldI .i64 H.n ((1 : Int).toNat * 1) = some ((t : Int) + k + 2) := by
      rw [show (1 : Int).toNat * 1 = 1 from rfl]; simp [Hp.ldI, ld_of_get hD', AV.asI]
    have q1' : D.ldI .i64 H.n 1 = some ((t : Int) + k + 2) := q1
    have q0 : D.ldI .i64 H.n ((0 : Int).toNat * 1) = some ((t : Int) + 1) := by
      rw [show (0 : Int).toNat * 1 = 0 from rfl]; simp [Hp.ldI, ld_of_get hD', AV.asI]
    have q0' : D.ldI .i64 H.n 0 = some ((t : Int) + 1) := q0
    rw [q1]
    simp only [Option.bind_some]
    rw [q0]
    simp only [Option.bind_some]
    have ed : w64 ((t : Int) + k + 2 - ((t : Int) + 1)) = k + 1 := by rw [w64_id (by omega) (by omega)]; omega
    rw [ed, w64_id (n := (k : Int) + 1) (by omega) (by omega), if_neg (by simp), q0']
    simp only [Option.bind_some]
    rw [q1']
    simp only [Option.bind_some]
    have ea : (t : Int) + 1 = ((t + 1 : Nat) : Int) := by push_cast; rfl
    have eb : (t : Int) + k + 2 = ((t + k + 2 : Nat) : Int) := by push_cast; rfl
    have hno : ∀ y : Nat, 1 ≤ y → ∀ (h : y - 1 < row.length), row[y - 1] = ((k + 1 : Nat) : Int) → M.testBit y = false := by
      intro y hy h hr
      cases hb : M.testBit y with
      | false => rfl
      | true =>
        obtain ⟨_, h', hle⟩ := hbit y hb
        omega
    have na := hno (t + 1) (by omega) (by simpa using t1) (by simpa using r1)
    have nb := hno (t + k + 2) (by omega) (by omega) (by
      have e : t + k + 2 - 1 = t + k + 1 := by omega
      simp only [e]; exact r2)
    rw [ea, eb, inner (row := row) hl (by omega) hM (by omega) (by omega) (by omega) (by omega) (by omega) na nb, ew]
    obtain ⟨_, m1⟩ := met_step (y := t + 1) hM (by omega)
    obtain ⟨_, m2⟩ := met_step (y := t + k + 2) m1 (by omega)
    refine ih (k + 1) K _ D (by omega) (by omega) m2 (g.trans gD) fun y hy => ?_
    rw [Nat.testBit_or, Nat.testBit_or, Nat.testBit_two_pow, Nat.testBit_two_pow] at hy
    simp only [Bool.or_eq_true, decide_eq_true_eq] at hy
    rcases hy with (hy | hy) | hy
    · obtain ⟨a, b, c⟩ := hbit y hy
      exact ⟨a, b, by omega⟩
    · subst hy
      exact ⟨by omega, by simpa using t1, by simp only [Nat.add_sub_cancel]; omega⟩
    · subst hy
      have e : t + k + 2 - 1 = t + k + 1 := by omega
      refine ⟨by omega, by omega, ?_⟩
      simp only [e]
      omega

theorem diffLaw {row : List Int} {H : Hp} {v : Sl} (hv : IS H v row) : ∃ H', r7 (app 10) v H = some (true, H') := by
  unfold r7
  obtain ⟨v1, H1, e1, g1, i1, _⟩ := r31_spec hv
  rw [e1]
  simp only [Option.bind_some]
  obtain ⟨w, e, H2, e2, g2, h2⟩ := r37_spec i1 (by simp; omega)
  rw [e2]
  simp only [Option.bind_some]
  have g12 := g1.trans g2
  obtain ⟨v3, H3, e3, g3, i3, _⟩ := r31_spec (hv.gr g12)
  rw [e3]
  simp only [Option.bind_some]
  obtain ⟨H4, e4, g4⟩ := r30_spec (s := 1) i3 (by simp; omega)
  have hlen := hv.ints.len
  obtain ⟨H5, h5⟩ := awake10 H4
  cases hp : placesF 1 (row.take 20) with
  | none =>
    rw [hp] at h2
    obtain ⟨rfl, rfl⟩ := h2
    by_cases h16 : (row.take 20).length ≤ 16
    · rw [if_pos ⟨.inl rfl, h16⟩, hp] at e4
      rw [e4]
      simp [h5]
    · rw [if_neg (fun h => h16 h.2)] at e4
      rw [e4]
      simp [h5]
  | some l =>
    rw [hp] at h2
    obtain ⟨rfl, hprs⟩ := h2
    obtain ⟨_, p2, p3, p4, p5, p6⟩ := placesF_some hp
    have h16 : (row.take 20).length ≤ 16 := by omega
    have hrl : row.length ≤ 16 := by simp at h16; omega
    have ht : row.take 20 = row := List.take_of_length_le (by omega)
    rw [if_pos ⟨.inl rfl, h16⟩, hp] at e4
    rw [e4]
    rw [ht] at hp p2 p3 p4 p5
    simp only [Option.bind_some]
    have hwl := (hprs.gr (g3.trans g4)).len
    have hsl := (splitF_get l 0).1
    simp only [Option.isSome_some]
    rw [if_neg (by simp), if_neg (by simp), if_pos trivial, half hlen (by omega), if_neg (by rw [hwl, hsl, p5]; simp), decide_eq_false (by omega)]
    unfold r7_j0
    rw [if_neg (by simp), hwl, hsl]
    have := outer hp hlen (hprs.gr (g3.trans g4)) l.length 0 FUEL 0 H4 (by omega) (by unfold FUEL; omega) (by omega) (.refl _) (fun y hy => by simp at hy)
    exact this
theorem lawCall7 (H : Hp) (xs : List AV) (_ : NoOwn H) (h : RdAs H [.sl (.int .i64)] xs) : ∃ H1, CallSim Try.prog 7 xs H (.bool true) H1 := by
  obtain ⟨y, _, rfl, hy, rfl⟩ := h
  obtain ⟨v, row, rfl, hv, hb, _⟩ := rd_ints hy
  obtain ⟨H1, h1⟩ := diffLaw hv
  exact ⟨H1, sim7 (happ := appSim 10) h1⟩
end Go.Lt.P8
