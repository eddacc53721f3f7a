/- PLAIN LAWS OF WHAT IS COMPUTED, for the statement 'PairsPins'. Nothing is asked of the input. -/
import Derived.Test.YthmhdbmpeepmaaaU10UPc
set_option linter.unusedVariables false
set_option linter.unusedSimpArgs false
namespace Go.Lt.P8
open Go Go.Lt Go.Proofs
def pinsAll (n : Nat) : List (List Int) := (expand n n [[]]).filter pinsF
theorem expand_small {n k : Nat} (hn : n ≤ 6) (hk : k ≤ 6) : (expand n k [[]]).length ≤ 46656 := by
  refine Nat.le_trans (expand_len n k [[]]) ?_
  rw [List.length_singleton, Nat.one_mul]
  calc n ^ k ≤ 6 ^ k := Nat.pow_le_pow_left hn k
    _ ≤ 6 ^ 6 := Nat.pow_le_pow_right (by omega) hk
    _ = 46656 := by decide
/-- Pins -/
theorem r47_ok (n : Int) (H : Hp) : Ok (r47 (app 10) n H) fun r H' => Gr H H' ∧ if 1 ≤ n ∧ n ≤ 6 then r.2 = 0 ∧ ∃ ws, SLL H' r.1 ws (pinsAll n.toNat) else r = (nilS, 2) := by
  unfold r47
  have bad : ¬ (1 ≤ n ∧ n ≤ 6) → Ok (r47_j0 (app 10) n true H) fun r H' => Gr H H' ∧ if 1 ≤ n ∧ n ≤ 6 then r.2 = 0 ∧ ∃ ws, SLL H' r.1 ws (pinsAll n.toNat) else r = (nilS, 2) := by
    intro hc
    unfold r47_j0
    refine Ok.pos rfl (Ok.ret ⟨.refl _, ?_⟩)
    rw [if_neg hc]
    rfl
  refine Ok.ite (fun hc => bad (by omega)) fun hc => ?_
  by_cases h6 : 6 < n
  · rw [decide_eq_true h6]; exact bad (by omega)
  rw [decide_eq_false h6]
  obtain ⟨n, rfl⟩ : ∃ m : Nat, n = m := ⟨n.toNat, by omega⟩
  simp only [if_pos (show 1 ≤ (n : Int) ∧ (n : Int) ≤ 6 by omega)]
  unfold r47_j0
  refine Ok.neg (by simp) (Ok.lt ?_)
  have gp := Gr.push H (.cells [.sl ⟨true, 0, 0, 0, 0, 0⟩] false)
  refine Ok.loop (L := fun K (s : Sl × Int) H' => r47_l1 (app 10) K n s.1 n s.2 H') (fun m s H' => ∃ j : Nat, s.2 = j ∧ j + m = n ∧ Gr H H' ∧ ∃ us, SLL H' s.1 us (expand n j [[]]) ∧ (0 < j → ∃ Hl, Gr H Hl ∧ Gr Hl H' ∧ AccS Hl.n H' s.1 us (expand n j [[]]))) ?_ FUEL n (_, 0) _ (by unfold FUEL; omega)
    ⟨0, rfl, by omega, gp, [nilS], ⟨.of_get (ro := false) (by simp [nilS]) rfl rfl, Nat.le_refl _, .inl rfl, fun e => (by cases e), All.one SL.nilS⟩, fun h => by omega⟩
  rintro K m ⟨v2, s⟩ H1 ⟨j, rfl, hm, g1, us, h2, h3⟩ ih
  try dsimp only at *
  rw [r47_l1]
  by_cases h : j < n
  · refine Ok.pos (by omega) (r47_l2_ok (Hl := H1) (by omega) h2 (fun l hl => ?_) (Nat.le_trans (expand_small (by omega) (by omega)) (by omega)) fun v2' vs' H2 h4 g2 => ?_)
    · have := expand_mem (c := 0) (by simp) hl; omega
    · rw [w64_succ (by omega)]
      rw [← expand_succ] at h4
      exact ih (m - 1) (v2', _) H2 (by omega) ⟨j + 1, rfl, by omega, g1.trans g2, vs', h4.sll, fun _ => ⟨H1, g1, g2, h4⟩⟩
  · have e : j = n := by omega
    subst e
    obtain ⟨Hl, gl, gl2, h4⟩ := h3 (by omega)
    refine Ok.neg (by omega) (Ok.bind (r83_ok (says84 9) h4 gl2 (fun l hl => ?_) (Nat.le_trans (expand_small (by omega) (by omega)) (by omega))) fun w H2 ⟨g2, ws, h5⟩ => Ok.ret ⟨gl.trans g2, rfl, ws, ?_⟩)
    · have := expand_mem (c := 0) (by simp) hl; omega
    · have e : pinsAll ((j : Int)).toNat = (expand j j [[]]).filter fun l => !!pinsF l := by simp [pinsAll]
      rw [e]
      exact h5
/-- orders of the reference -/
theorem r86_ok {n : Nat} (hn : n ≤ 6) : ∀ (d a : Nat), d ≤ a → ∀ (H : Hp) (v : Sl) (begun : List Int), SL H v begun → begun.length + d = n →
    Ok (r86 (app a) n v H) fun w H' => Gr H H' ∧ ∃ ws, SLL H' w ws (expand n d [begun]) ∧ ∀ x ∈ ws, x = v ∨ (x.nil = false ∧ H.n ≤ x.b) := by
  intro d
  induction d with
  | zero =>
    intro a _ H v begun hv hd
    unfold r86
    have hlen := hv.len
    refine Ok.pos (by omega) (Ok.lt (Ok.ret ⟨.push _ _, [v], ⟨.of_get (ro := false) (by simp) rfl rfl, Nat.le_refl _, .inl rfl, fun e => (by cases e), .one (hv.gr (.push _ _))⟩, fun x hx => .inl (by simpa using hx)⟩))
  | succ d ihd =>
    intro a ha H v begun hv hd
    obtain ⟨a, rfl⟩ : ∃ b, a = b + 1 := ⟨a - 1, by omega⟩
    unfold r86
    have hlen := hv.len
    have hcap := hv.cap
    refine Ok.neg (by omega) ?_
    refine Ok.mono (P := fun w H' => Gr H H' ∧ ∃ ws, AccS H.n H' w ws (expand n d (ext n begun)) ∧ ∀ x ∈ ws, (x.nil = false ∧ H.n ≤ x.b)) ?_ fun w H' ⟨g, ws, h1, h2⟩ => ⟨g, ws, by rw [expand]; simpa using h1.sll, fun x hx => .inr (h2 x hx)⟩
    refine Ok.loop (L := fun K (s : Sl × Int) H' => r86_l0 (app (a + 1)) K n v s.1 n s.2 H') (fun m s H' => ∃ i : Nat, s.2 = i ∧ i + m = n ∧ Gr H H' ∧ ∃ ws, AccS H.n H' s.1 ws (expand n d (ext i begun)) ∧ ∀ x ∈ ws, (x.nil = false ∧ H.n ≤ x.b)) ?_ FUEL n (⟨true, 0, 0, 0, 0, 0⟩, 0) H (by unfold FUEL; omega)
      ⟨0, rfl, by omega, .refl _, [], by simp [ext, expand_nil]; exact .nilS, by simp⟩
    rintro K m ⟨v3, s⟩ H1 ⟨i, rfl, hm, g1, ws, h2, h3⟩ ih
    try dsimp only at *
    rw [r86_l0]
    by_cases h : i < n
    · refine Ok.pos (by omega) ?_
      obtain ⟨w2, H2, e2, g2, i2⟩ := r78_spec (x := (i : Int)) (hv.gr g1).is.ints (by omega)
      refine Ok.ld e2 ?_
      have hw2 := i2.ints.len
      dsimp only
      rw [w64_succ (by omega)]
      by_cases hc : (i : Int) ∈ begun
      · have h0 : occF begun i 0 ≠ [] := fun e => (occF_nil.1 e) hc
        have := List.length_pos_iff.2 h0
        refine Ok.neg (by omega) ?_
        refine ih (m - 1) (v3, _) H2 (by omega) ⟨i + 1, rfl, by omega, g1.trans g2, ws, ?_, h3⟩
        rw [ext_succ, if_pos hc, List.append_nil]
        exact h2.gr g2
      · have h0 := occF_nil (i := (0 : Int)).2 hc
        rw [h0] at hw2
        refine Ok.pos (by simp at hw2; omega) (Ok.ck (by omega) ?_)
        have gg := g1.trans g2
        refine Ok.bind (grow_ok (hv.gr gg) (i : Int) rfl rfl (by omega)) fun w H3 ⟨g3, hw, hn3, hb3⟩ => ?_
        have hrec := ihd a (by omega) H3 w (begun ++ [(i : Int)]) hw (by simp; omega)
        have hcall : Ok (app (a + 1) 86 [.int .i64 n, .sl w] H3) fun r H' => ∃ x, r = .sl x ∧ Gr H3 H' ∧ ∃ ws, SLL H' x ws (expand n d [begun ++ [(i : Int)]]) ∧ ∀ y ∈ ws, y = w ∨ (y.nil = false ∧ H3.n ≤ y.b) := by
          show Ok ((r86 (app a) n w H3).map fun p => (AV.sl p.1, p.2)) _
          obtain ⟨x, H', e, hx⟩ := hrec
          rw [e]
          exact ⟨_, _, rfl, x, rfl, hx⟩
        refine Ok.bind hcall fun r H4 ⟨x, hr, g4, us, hx, hus⟩ => ?_
        subst hr
        refine Ok.ld rfl (Ok.ld hx.lds (Ok.ck (by simp [AV.one]) ?_))
        have hxl := hx.len
        have hvl := hx.vlen
        have g14 := g2.trans (g3.trans g4)
        have hv3 : v3.nil = false → v3.b < H1.n := fun e => h2.1.lt e
        have hal : All (H4.hide v3) us (expand n d [begun ++ [(i : Int)]]) := ⟨hx.all.1, fun k k1 k2 => (hx.all.2 k k1 k2).hide fun e1 e2 => by
          have hb := hv3 e1
          have q2 := g2.1
          have q3 := g3.1
          try dsimp only at hb hb3
          rcases hus _ (List.getElem_mem k1) with e | ⟨_, e⟩
          · rw [e]; omega
          · omega⟩
        have hb1 : (expand n d (ext i begun)).length ≤ 6 * 46656 := by
          refine Nat.le_trans (expand_len _ _ _) (Nat.mul_le_mul (Nat.le_trans (ext_len _ _) (by omega)) ?_)
          calc n ^ d ≤ 6 ^ d := Nat.pow_le_pow_left hn d
            _ ≤ 6 ^ 6 := Nat.pow_le_pow_right (by omega) (by omega)
            _ = 46656 := by decide
        have hb2 : (expand n d [begun ++ [(i : Int)]]).length ≤ 46656 := by
          refine Nat.le_trans (expand_len _ _ _) ?_
          rw [List.length_singleton, Nat.one_mul]
          calc n ^ d ≤ 6 ^ d := Nat.pow_le_pow_left hn d
            _ ≤ 6 ^ 6 := Nat.pow_le_pow_right (by omega) (by omega)
            _ = 46656 := by decide
        refine Ok.bind ((h2.gr g14).app (g1.trans g14) hal rfl (by omega) (by omega)) fun v3' H5 ⟨h5, g5, _⟩ => ?_
        refine ih (m - 1) (v3', _) H5 (by omega) ⟨i + 1, rfl, by omega, g5, ws ++ us, ?_, fun y hy => ?_⟩
        · rw [ext_succ, if_neg hc, expand_append]
          exact h5
        · rcases List.mem_append.1 hy with hy | hy
          · exact h3 y hy
          · have q1 := g1.1
            have q2 := g2.1
            have q3 := g3.1
            try dsimp only at hb3
            rcases hus y hy with e | ⟨e1, e2⟩
            · rw [e]; exact ⟨hn3, by omega⟩
            · exact ⟨e1, by omega⟩
    · have e : i = n := by omega
      subst e
      exact Ok.neg (by omega) (Ok.ret ⟨g1, ws, h2, h3⟩)
/-- Pins of the reference -/
theorem r49_ok {n : Nat} (hn1 : 1 ≤ n) (hn : n ≤ 6) (H : Hp) : Ok (r49 (app 10) n H) fun w H' => Gr H H' ∧ ∃ ws, SLL H' w ws (pinsAll n) := by
  unfold r49
  refine Ok.bind (r86_ok hn n 10 (by omega) H _ [] SL.nilS (by simp)) fun v H1 ⟨g1, us, hv, hus⟩ => ?_
  dsimp only
  have hlen := hv.len
  rw [hlen]
  have hsm := expand_small (n := n) (k := n) hn hn
  refine Ok.loop (L := fun K (s : Sl × Int) H' => r49_l0 (app 10) K s.1 v (expand n n [[]]).length s.2 H') (fun m s H' => ∃ i : Nat, s.2 = i ∧ i + m = (expand n n [[]]).length ∧ Gr H1 H' ∧ ∃ ws, AccS H1.n H' s.1 ws (((expand n n [[]]).take i).filter pinsF)) ?_ FUEL (expand n n [[]]).length (⟨true, 0, 0, 0, 0, 0⟩, 0) H1 (by unfold FUEL; omega)
    ⟨0, rfl, by omega, .refl _, [], by simp; exact .nilS⟩
  rintro K m ⟨v2, s⟩ H2 ⟨i, rfl, hm, g2, ws, h2⟩ ih
  try dsimp only at *
  rw [r49_l0]
  by_cases h : i < (expand n n [[]]).length
  · refine Ok.pos (by omega) (Ok.ck (by omega) (Ok.ld ((hv.gr g2).ldSl (i := i) h) ?_))
    have hx := hv.get h
    have hxl := expand_mem (c := 0) (by simp) (List.getElem_mem h)
    refine Ok.bind (r45_ok (hx.gr g2) (by omega)) fun b H3 ⟨g3, hb⟩ => ?_
    subst hb
    rw [w64_succ (by omega)]
    refine Ok.ite (fun hc => ?_) fun hc => ?_
    · have hfl : (((expand n n [[]]).take i).filter pinsF).length ≤ 46656 := Nat.le_trans (List.length_filter_le _ _) (by simp; omega)
      refine Ok.bind ((h2.gr g3).push (g2.trans g3) ((hx.gr (g2.trans g3)).hide fun e1 e2 => ?_) (by omega)) fun v2' H4 ⟨h4, g4, _⟩ => ?_
      · have hb : H1.n ≤ v2.b := by
          rcases h2.1 with ⟨rfl, _⟩ | ⟨_, _, _, _, h5, _⟩
          · simp [nilS] at e1
          · exact h5
        have h0 : (expand n n [[]])[i] ≠ [] := fun e => by rw [e] at hxl; simp at hxl; omega
        have := ld_lt (hx.ld (i := 0) (j := 0) (List.length_pos_iff.2 h0) rfl)
        omega
      · refine ih (m - 1) (v2', _) H4 (by omega) ⟨i + 1, rfl, by omega, g4, ws ++ [us[i]'(by rw [hv.vlen]; exact h)], ?_⟩
        rw [List.take_succ_eq_append_getElem h, List.filter_append, List.filter_cons_of_pos (p := pinsF) hc]
        exact h4
    · refine ih (m - 1) (v2, _) H3 (by omega) ⟨i + 1, rfl, by omega, g2.trans g3, ws, ?_⟩
      rw [List.take_succ_eq_append_getElem h, List.filter_append, List.filter_cons_of_neg (by simpa using hc)]
      simpa using h2.gr g3
  · refine Ok.neg (by omega) ?_
    rw [List.take_of_length_le (by omega)] at h2
    exact Ok.ret ⟨g1.trans g2, ws, h2.sll⟩
end Go.Lt.P8
