/- PLAIN LAWS OF WHAT IS COMPUTED, for the statement 'PairsMeet'. Nothing is asked of the input. -/
import Derived.Test.YthmhdbmpeepmaaaU18URrMp
import Derived.Test.YthmhdbmpeepmaaaU18URrS
set_option linter.unusedVariables false
set_option linter.unusedSimpArgs false
namespace Go.Lt
/-- what one appends to, or a literal -/
def AccO {T : Type} [El T] (n0 : Nat) (H : Hp) (v : Sl) (l : List T) : Prop := AccL n0 H v l ∨ (Own H v l ∧ v.opn = 0 ∧ v.cap = v.len ∧ n0 ≤ v.b)
theorem AccO.sl {T : Type} [El T] {n0 : Nat} {H : Hp} {v : Sl} {l : List T} (h : AccO n0 H v l) : SL H v l := h.elim (fun h => h.sl) (fun h => h.1.sl)
theorem AccO.gr {T : Type} [El T] {n0 : Nat} {H H' : Hp} {v : Sl} {l : List T} (h : AccO n0 H v l) (g : Gr H H') : AccO n0 H' v l := h.elim (fun h => .inl (h.gr g)) (fun h => .inr ⟨h.1.gr g, h.2⟩)
theorem AccL.own {T : Type} [El T] {n0 : Nat} {H : Hp} {v : Sl} {l : List T} (h : AccL n0 H v l) (h0 : l ≠ []) : Own H v l ∧ n0 ≤ v.b := by
  have hl := h.sl.len
  rcases h with ⟨rfl, e⟩ | ⟨h1, h2, h3, h4, h5, h6, h7⟩
  · exfalso
    cases l with
    | nil => exact h0 rfl
    | cons x l =>
      have h1 := congrArg List.length e
      rw [encs_len, List.length_cons, List.length_nil, Nat.add_mul] at h1
      have := El.pos (T := T)
      omega
  · exact ⟨⟨h1, h2, hl, by omega, .inr h3, h6⟩, h5⟩
theorem AccO.own {T : Type} [El T] {n0 : Nat} {H : Hp} {v : Sl} {l : List T} (h : AccO n0 H v l) (h0 : l ≠ []) : Own H v l ∧ n0 ≤ v.b := h.elim (fun h => h.own h0) (fun h => ⟨h.1, h.2.2.2⟩)
theorem AccO.push {T : Type} [El T] {H0 H : Hp} {v : Sl} {l : List T} (h : AccO H0.n H v l) (g : Gr H0 H) (x : T) {es : Nat} {cs : List AV} (hes : es = El.sz T) (hcs : cs = El.enc x) (hb : l.length < 4294967296) :
    Ok (H.apN es v cs 1) fun v' H' => AccO H0.n H' v' (l ++ [x]) ∧ Gr H0 H' := by
  rcases h with h | ⟨h, h1, h2, h3⟩
  · exact (h.push g x hes hcs hb).mono fun v' H' ⟨a, b, _⟩ => ⟨.inl a, b⟩
  · subst hes; subst hcs
    have hl := h.len
    have gp := Gr.push H (.cells (El.enc x) false)
    unfold Hp.apN Hp.app
    rw [if_pos (by omega), if_neg (by omega), (h.sl.gr gp).lds]
    simp only [Option.bind_some]
    rw [if_pos h1, ← encs_one, ← encs_append]
    refine Ok.ret ⟨.inl (.inr ⟨rfl, rfl, rfl, rfl, ?_, by rw [Hp.get_push, if_pos rfl], by rw [encs_len]; simp [hl]⟩), g.trans (gp.trans (by rw [← encs_one]; exact .push _ _))⟩
    have := g.1
    simp
    omega
end Go.Lt
namespace Go.Lt.P8
open Go Go.Lt Go.Proofs
theorem says102 (k : Nat) : CmpSays (app (k + 1)) (.fn 102 [] []) := fun H p q => call102 k p q H
section
variable {n : Nat} {Hb : Hp} {Q : Sl × Int → Hp → Prop}
theorem r68_l2_ok {m0 : Nat} (hn1 : 1 ≤ m0) (hn : m0 ≤ 8) {kt : Int → Sl → Int → Sl → Int → Int → Int → Int → Hp → Option ((Sl × Int) × Hp)} {v2 v4 : Sl} {r a : Nat} (hr : r ≤ 100) (ha : a < m0) {x7 x8 x9 : Int} {x10 : Nat} (hx : x10 ≤ 100) {acc : List Pr} (hacc : acc.length ≤ 1000) {H : Hp} (h4 : AccO Hb.n H v4 acc) (g : Gr Hb H)
    (k : ∀ v4' H', AccO Hb.n H' v4' (acc ++ selB (condP m0 r) a (m0 - (a + 1))) → Gr Hb H' → Ok (kt m0 v2 r v4' x7 x8 x9 ((x10 + 1 : Nat) : Int) H') Q) :
    Ok (r68_l2 (app 10) kt FUEL m0 v2 r v4 a ((a + 1 : Nat) : Int) x7 x8 x9 x10 H) Q := by
  refine Ok.loop (L := fun K (s : Sl × Int) H' => r68_l2 (app 10) kt K m0 v2 r s.1 a s.2 x7 x8 x9 x10 H') (fun m s H' => ∃ t : Nat, s.2 = ((a + 1 + t : Nat) : Int) ∧ t + m = m0 - (a + 1) ∧ Gr Hb H' ∧ AccO Hb.n H' s.1 (acc ++ selB (condP m0 r) a t)) ?_ FUEL (m0 - (a + 1)) (v4, _) H (by unfold FUEL; omega) ⟨0, rfl, by omega, g, by simpa [selB] using h4⟩
  rintro K m ⟨v4, s⟩ H1 ⟨t, hs, hm, g1, h1⟩ ih
  dsimp only at hs h1
  subst hs
  dsimp only
  rw [r68_l2]
  by_cases h : a + 1 + t < m0
  · have e1 : w64 ((a : Int) + ((a + 1 + t : Nat) : Int)) = (a : Int) + ((a + 1 + t : Nat) : Int) := w64_id (by omega) (by omega)
    have e2 : w64 (2 * (r : Int)) = 2 * (r : Int) := w64_id (by omega) (by omega)
    have e3 : w64 ((a : Int) + ((a + 1 + t : Nat) : Int) - 2 * (r : Int)) = (a : Int) + ((a + 1 + t : Nat) : Int) - 2 * (r : Int) := w64_id (by omega) (by omega)
    rw [e1, e2, e3]
    have hlen : (acc ++ selB (condP m0 r) a t).length ≤ 1100 := by have := selB_len (condP m0 r) a t; rw [List.length_append]; omega
    refine Ok.pos (by omega) (Ok.ck (by omega) ?_)
    rw [w64_succ (by omega)]
    refine Ok.ite (fun hc => ?_) fun hc => ?_
    · refine Ok.bind (h1.push g1 ((a : Int), ((a + 1 + t : Nat) : Int)) rfl rfl (by omega)) fun v5' H2 ⟨h2, g2⟩ => ?_
      refine ih (m - 1) (v5', _) H2 (by omega) ⟨t + 1, rfl, by omega, g2, ?_⟩
      rw [selB_succ, if_pos (by unfold condP; exact decide_eq_true hc), ← List.append_assoc]
      exact h2
    · refine ih (m - 1) (v4, _) H1 (by omega) ⟨t + 1, rfl, by omega, g1, ?_⟩
      rw [selB_succ, if_neg (by unfold condP; simpa using hc), List.append_nil]
      exact h1
  · refine Ok.neg (by omega) ?_
    have : t = m0 - (a + 1) := by omega
    subst this
    rw [w64_succ (by omega)]
    exact k v4 H1 h1 g1
theorem r68_l1_ok (hn1 : 1 ≤ n) (hn : n ≤ 4) {kt : Int → Sl → Int → Int → Hp → Option ((Sl × Int) × Hp)} {v2 : Sl} {r : Nat} (hr : r < 2 * n - 1) {x5 : Int} {ws : List Sl} {ls : List (List Pr)} (hls : ls.length ≤ 1000) {H0 H : Hp} (g0 : Gr H0 H) (h2 : AccS H0.n H v2 ws ls)
    (k : ∀ v2' ws' H', AccS H0.n H' v2' ws' (ls ++ [rowB (condR (2 * n - 1) r) (2 * n) (2 * n)]) → Gr H0 H' → Ok (kt ((2 * n - 1 : Nat) : Int) v2' x5 ((r + 1 : Nat) : Int) H') Q) :
    Ok (r68_l1 (app 10) kt FUEL ((2 * n - 1 : Nat) : Int) v2 r ⟨false, H.n, 0, 1, 1, 0⟩ x5 r ((2 * n - 1 : Nat) : Int) 0 (H.push (.cells [.int .i64 r, .int .i64 ((2 * n - 1 : Nat) : Int)] false))) Q := by
  have gp := Gr.push H (.cells [.int .i64 r, .int .i64 ((2 * n - 1 : Nat) : Int)] false)
  have hlit : AccO H.n (H.push (.cells [.int .i64 r, .int .i64 ((2 * n - 1 : Nat) : Int)] false)) ⟨false, H.n, 0, 1, 1, 0⟩ [((r : Int), ((2 * n - 1 : Nat) : Int))] :=
    .inr ⟨⟨rfl, rfl, rfl, Nat.le_refl _, .inl rfl, by rw [Hp.get_push_new]; rfl⟩, rfl, rfl, Nat.le_refl _⟩
  refine Ok.loop (L := fun K (s : Sl × Int) H' => r68_l1 (app 10) kt K ((2 * n - 1 : Nat) : Int) v2 r s.1 x5 r ((2 * n - 1 : Nat) : Int) s.2 H') (fun m s H' => ∃ a : Nat, s.2 = a ∧ a + m = 2 * n - 1 ∧ Gr H H' ∧ AccO H.n H' s.1 (((r : Int), ((2 * n - 1 : Nat) : Int)) :: rowB (condP (2 * n - 1) r) (2 * n - 1) a)) ?_ FUEL (2 * n - 1) (_, 0) _ (by unfold FUEL; omega) ⟨0, rfl, by omega, gp, by simpa [rowB] using hlit⟩
  rintro K m ⟨v4, s⟩ H1 ⟨a, hs, hm, g1, h1⟩ ih
  dsimp only at hs h1
  subst hs
  dsimp only
  rw [r68_l1]
  by_cases h : a < 2 * n - 1
  · refine Ok.pos (by omega) ?_
    rw [w64_succ (by omega)]
    have hlen := rowB_len (condP (2 * n - 1) r) (2 * n - 1) a
    have hm2 : a * (2 * n - 1) ≤ 8 * 8 := Nat.mul_le_mul (by omega) (by omega)
    refine r68_l2_ok (Hb := H) (by omega) (by omega) (by omega) h (by omega) (by simp; omega) h1 g1 fun v5' H2 h3 g2 => ?_
    refine ih (m - 1) (v5', _) H2 (by omega) ⟨a + 1, rfl, by omega, g2, ?_⟩
    rw [rowB_succ]
    exact h3
  · have : a = 2 * n - 1 := by omega
    subst this
    refine Ok.neg (by omega) ?_
    obtain ⟨p1, p2, p3⟩ := rows_same n (by simp; omega) r (by simp; omega)
    obtain ⟨o1, b1⟩ := h1.own (by simp)
    have hsort : Ok (r106 (app 10) v4 (.fn 102 [] []) H1) fun w H' => w = v4 ∧ ∃ q', Own H' v4 q' ∧ Only v4.b H1 H' ∧ q' = rowB (condR (2 * n - 1) r) (2 * n) (2 * n) := by
      unfold r106
      refine Ok.bind (r66_ok (k := 9) (says102 9) p3 o1) fun _ H2 ⟨q', o2, g2, hp, hs⟩ => Ok.ret ⟨rfl, q', o2, g2, ?_⟩
      exact srt_unique (hp.trans p1) hs p2
    refine Ok.bind hsort fun w H2 ⟨ew, q', o2, g2, eq⟩ => ?_
    subst ew; subst eq
    have gg : Gr H H2 := g2.gr g1 b1
    have hne : v2.nil = false → w.nil = false → w.b ≠ v2.b := fun e1 e2 => by
      have hlt := h2.1.lt e1
      omega
    refine Ok.bind ((h2.gr gg).push (g0.trans gg) (o2.sl.hide hne) (by omega)) fun v2' H3 ⟨h3, g3, _⟩ => ?_
    rw [w64_succ (by omega)]
    exact k v2' _ H3 h3 g3
end
/-- Rounds -/
theorem r68_ok (n : Int) (H : Hp) : Ok (r68 (app 10) n H) fun r H' => Gr H H' ∧ if 1 ≤ n ∧ n ≤ 4 then r.2 = 0 ∧ ∃ ws, SLL H' r.1 ws (roundsR n.toNat) else r = (nilS, 2) := by
  unfold r68
  have h100 : r100 n H = some (decide (1 ≤ n ∧ n ≤ 4), H) := by
    unfold r100
    by_cases h1 : 1 ≤ n <;> simp [h1]
  refine Ok.ld h100 ?_
  by_cases hn : 1 ≤ n ∧ n ≤ 4
  · rw [decide_eq_true hn]
    simp only [if_pos hn]
    refine Ok.pos (by simp) ?_
    obtain ⟨n, rfl⟩ : ∃ m : Nat, n = m := ⟨n.toNat, by omega⟩
    have e1 : w64 (w64 (2 * (n : Int)) - 1) = ((2 * n - 1 : Nat) : Int) := by rw [w64_id (n := 2 * (n : Int)) (by omega) (by omega), w64_id (by omega) (by omega)]; omega
    rw [e1, Int.toNat_natCast]
    refine Ok.loop (L := fun K (s : Sl × Int) H' => r68_l0 (app 10) K ((2 * n - 1 : Nat) : Int) s.1 ((2 * n - 1 : Nat) : Int) s.2 H') (fun m s H' => ∃ r : Nat, s.2 = r ∧ r + m = 2 * n - 1 ∧ Gr H H' ∧ ∃ ws, AccS H.n H' s.1 ws ((List.range r).map fun r => rowB (condR (2 * n - 1) r) (2 * n) (2 * n))) ?_ FUEL (2 * n - 1) (_, 0) H (by unfold FUEL; omega) ⟨0, rfl, by omega, .refl _, [], by simp; exact .nilS⟩
    rintro K m ⟨v2, s⟩ H1 ⟨r, hs, hm, g1, ws, h1⟩ ih
    dsimp only at hs h1
    subst hs
    dsimp only
    rw [r68_l0]
    by_cases h : r < 2 * n - 1
    · refine Ok.pos (by omega) (Ok.lt (r68_l1_ok (by omega) (by omega) h (by simp; omega) g1 h1 fun v2' ws' H2 h2 g2 => ?_))
      refine ih (m - 1) (v2', _) H2 (by omega) ⟨r + 1, rfl, by omega, g2, ws', ?_⟩
      rw [List.range_succ, List.map_append]
      exact h2
    · refine Ok.neg (by omega) (Ok.ret ⟨g1, rfl, ws, ?_⟩)
      have : r = 2 * n - 1 := by omega
      subst this
      exact h1.sll
  · rw [decide_eq_false hn]
    simp only [if_neg hn]
    exact Ok.neg (by simp) (Ok.ret ⟨.refl _, rfl⟩)
end Go.Lt.P8
