/- PLAIN LAWS OF WHAT IS COMPUTED, for the statement 'PairsTurned'. Nothing is asked of the input. -/
import Derived.Test.YthmhdbmpeepmaaaU11UGen
import Derived.Test.YthmhdbmpeepmaaaU11UCmp
import Derived.Test.YthmhdbmpeepmaaaU11UTurn
import Derived.Test.YthmhdbmpeepmaaaU11UOk
import Derived.Test.YthmhdbmpeepmaaaU11URow34
import Derived.Test.YthmhdbmpeepmaaaU11UArg
set_option linter.unusedVariables false
set_option linter.unusedSimpArgs false
namespace Go.Lt.P8
open Go Go.Lt Go.Proofs
theorem rowV_of {s : Nat} {r l : List Int} (h : placesF s r = some l) : RowV (r.length / 2) s r := by
  obtain ⟨hs, p2, p3, p4, p5, p6⟩ := placesF_some h
  refine ⟨p4, fun k h1 h2 => ?_⟩
  obtain ⟨t, _, t1, t2, e1, e2⟩ := p6 (k - 1) (by omega)
  have ee : t + (k - 1) + ((s : Int)).toNat = t + (k + s - 1) := by omega
  refine ⟨t, by omega, ?_, ?_⟩
  · rw [getD_at t1, e1]; congr 1; omega
  · rw [getD_at (by omega)]
    simp only [ee] at e2
    rw [e2]; congr 1; omega
theorem r30_ok {s : Int} {row : List Int} {H : Hp} {v : Sl} (hv : SL H v row) (hb : row.length < 4611686018427387904) : Ok (r30 s v H) fun r H' => Gr H H' ∧ r = if (s = 1 ∨ s = 2) ∧ row.length ≤ 16 then ((placesF s row).isSome, 0) else (false, 2) := by
  obtain ⟨H', e, g⟩ := r30_spec (s := s) hv.is hb
  exact ⟨_, H', e, g, rfl⟩
/-- Places -/
theorem r32_ok {s : Int} {row : List Int} {H : Hp} {v : Sl} (hv : SL H v row) (hb : row.length < 4611686018427387904) : Ok (r32 s v H) fun r H' => Gr H H' ∧ match placesF s row with
    | none => r = (nilS, 2)
    | some l => r.2 = 0 ∧ SL H' r.1 l := by
  unfold r32
  obtain ⟨w, ok, H1, e1, g1, h1⟩ := r81_spec (s := s) hv.is hb
  refine Ok.ld e1 ?_
  cases hp : placesF s row with
  | none =>
    rw [hp] at h1
    rw [h1.2]
    exact Ok.neg (by simp) (Ok.ret ⟨g1, rfl⟩)
  | some l =>
    rw [hp] at h1
    rw [h1.1]
    exact Ok.pos rfl (Ok.ret ⟨g1, rfl, h1.2.sl⟩)
theorem places_loop {s : Nat} (hs : s = 1 ∨ s = 2) {row l : List Int} (hp : placesF s row = some l) {v p : Sl} {H : Hp} (hv : SL H v row) (hl : SL H p l) : Ok (r11_l3 (app 10) FUEL s v p (p.len : Int) 0 H) T := by
  obtain ⟨_, p2, p3, p4, p5, p6⟩ := placesF_some hp
  have h1 := hv.len
  have h2 := hl.len
  rw [h2]
  refine Ok.loop (L := fun K (i : Int) H' => r11_l3 (app 10) K s v p l.length i H') (fun m i H' => H' = H ∧ ∃ k : Nat, i = k ∧ k + m = l.length) ?_ FUEL l.length 0 H (by unfold FUEL; omega) ⟨rfl, 0, rfl, by omega⟩
  rintro K m i H1 ⟨rfl, k, rfl, hm⟩ ih
  try dsimp only at *
  rw [r11_l3]
  by_cases h : k < l.length
  · obtain ⟨t, et, t1, t2, e1, e2⟩ := p6 k h
    have hl' := hl.ldI (i := k) (j := 0) (n := l[k]) h rfl
    rw [et] at hl'
    have ew : w64 (w64 ((t : Int) + k) + s) = ((t + k + s : Nat) : Int) := by rw [w64_id (n := (t : Int) + k) (by omega) (by omega), w64_id (by omega) (by omega)]; push_cast; rfl
    have t2' : t + k + s < row.length := by simpa using t2
    refine Ok.pos (by omega) (Ok.ck (by omega) (Ok.ld hl' (Ok.neg (by omega) ?_)))
    rw [ew]
    refine Ok.neg (by omega) (Ok.ck (by omega) (Ok.ld (hv.ldI (i := t) (j := 0) t1 rfl) ?_))
    rw [w64_succ (by omega)]
    refine Ok.neg (by rw [e1]; simp) (Ok.ck (by omega) (Ok.ld (hv.ldI (i := t + k + s) (j := 0) t2' rfl) ?_))
    have e3 : row[t + k + s] = ((k + 1 : Nat) : Int) := by simpa using e2
    unfold r11_j4
    rw [decide_eq_false (by rw [e3]; simp)]
    refine Ok.neg (by simp) ?_
    dsimp only
    rw [w64_succ (by omega)]
    exact ih (m - 1) _ _ (by omega) ⟨rfl, k + 1, rfl, by omega⟩
  · exact Ok.neg (by omega) (Ok.bind awake_ok fun b _ hb => Ok.ret hb)
theorem turned_main {s : Nat} (hs : s = 1 ∨ s = 2) {row l : List Int} (hp : placesF s row = some l) {v w : Sl} {H : Hp} (hv : SL H v row) (hw : SL H w row.reverse) : Ok (r11_j1 (app 10) s v w false H) T := by
  obtain ⟨_, p2, p3, p4, p5, p6⟩ := placesF_some hp
  have hrl : row.length ≤ 16 := by omega
  have hR := rowV_of hp
  have hRr := hR.reverse
  have hlen := hv.len
  obtain ⟨l', hp'⟩ := Option.isSome_iff_exists.1 (places_of hs (by omega) (by omega) hRr)
  unfold r11_j1
  refine Ok.neg (by simp) ?_
  obtain ⟨w1, H1, e1, g1, i1, _⟩ := r36_is hw.is (by simp; omega)
  refine Ok.ld e1 (Ok.bind (r30_ok (s := s) i1.sl (by simp; omega)) fun r H2 ⟨g2, hr⟩ => ?_)
  subst hr
  rw [if_pos (show (((s : Int)) = 1 ∨ (s : Int) = 2) ∧ row.reverse.length ≤ 16 from ⟨by omega, by simp; omega⟩), hp']
  have g12 := g1.trans g2
  obtain ⟨w3, H3, e3, g3, i3, _⟩ := r36_is (hw.gr g12).is (by simp; omega)
  refine Ok.ld e3 (Ok.bind (r41_ok (s := s) i3.sl (by simp; omega)) fun ⟨b, eb⟩ H4 ⟨g4, h4⟩ => ?_)
  dsimp only
  rw [if_neg (by rw [hp']; simp), List.reverse_reverse] at h4
  obtain ⟨hb0, hb⟩ := h4
  dsimp only at hb0 hb
  subst hb0
  have g14 := g12.trans (g3.trans g4)
  have hh : w64 (Int.tdiv (v.len : Int) 2) = ((row.length / 2 : Nat) : Int) := half hlen (by omega)
  rw [hh]
  obtain ⟨fv, ef, H5, h5, g5, hf⟩ := first_spec (n := row.length / 2) (s := (s : Int)) p2 p3 (by omega) (f := 9) (by omega) H4
  obtain ⟨h, rest, hg, hc1⟩ := first_le hs p3 hR (f := 9) (by omega)
  obtain ⟨h', rest', hg', hc2⟩ := first_le hs (by omega) hRr (f := 9) (by omega)
  rw [hg] at hg'
  injection hg' with hg' _
  subst hg'
  rw [hg] at hf
  obtain ⟨hfn, rfl, hfv⟩ := hf
  refine Ok.ld h5 ?_
  dsimp only
  refine Ok.bind (r31_ok (hv.gr (g14.trans g5))) fun v6 H6 ⟨g6, i6⟩ => ?_
  rw [List.take_of_length_le (by omega)] at i6
  refine Ok.bind (r32_ok (s := s) i6 (by omega)) fun ⟨pl, epl⟩ H7 ⟨g7, h7⟩ => ?_
  rw [hp] at h7
  obtain ⟨h70, h7⟩ := h7
  dsimp only at h70 h7 ⊢
  subst h70
  have g67 := g6.trans g7
  have gg := g14.trans (g5.trans g67)
  have hl0 := gen_mem _ _ _ _ _ h (by rw [hg]; simp)
  refine Ok.pos rfl (Ok.neg (by simp) (Ok.neg (by simp) (Ok.neg (by simp) (Ok.neg (by simp) ?_))))
  refine Ok.bind (r25_ok (hb.gr (g5.trans g67)) (hv.gr gg) (by omega)) fun b8 H8 ⟨e8, hb8⟩ => ?_
  subst e8 hb8
  have hz : (zeros (row.length / 2)).length ≤ 100 := by simp [zeros]; omega
  refine Ok.pos (by simp) (Ok.bind (r50_ok (hfv.sl.gr g67) (hv.gr gg) (by omega)) fun c9 H9 ⟨e9, hc9⟩ => ?_)
  subst e9 hc9
  refine Ok.neg (by dsimp only; omega) (Ok.bind (r50_ok (hfv.sl.gr g67) (hw.gr gg) (by omega)) fun c9 H9 ⟨e9, hc9⟩ => ?_)
  subst e9 hc9
  refine Ok.neg (by dsimp only; omega) ?_
  have h7l := h7.len
  dsimp only
  rw [decide_eq_false (by omega)]
  unfold r11_j2
  exact Ok.neg (by simp) (places_loop hs hp (hv.gr gg) h7)
theorem turnedLaw {s : Int} (hs1 : -9223372036854775808 ≤ s) (hs2 : s < 9223372036854775808) {row : List Int} {H : Hp} {v : Sl} (hv : SL H v row) (hl : row.length < 9223372036854775808) : Ok (r11 (app 10) s v H) T := by
  unfold r11
  refine Ok.bind (r31_ok hv) fun v1 H1 ⟨g1, i1⟩ => ?_
  refine Ok.bind (r41_ok (s := s) i1 (by simp; omega)) fun ⟨t, f⟩ H2 ⟨g2, h2⟩ => ?_
  have g12 := g1.trans g2
  refine Ok.bind (r31_ok (hv.gr g12)) fun v3 H3 ⟨g3, i3⟩ => ?_
  refine Ok.bind (r30_ok (s := s) i3 (by simp; omega)) fun r H4 ⟨g4, hr⟩ => ?_
  subst hr
  have g14 := g12.trans (g3.trans g4)
  cases hp : placesF s (row.take 20) with
  | none =>
    rw [if_pos hp] at h2
    obtain ⟨rfl, rfl⟩ := Prod.mk.inj h2
    by_cases hc : (s = 1 ∨ s = 2) ∧ (row.take 20).length ≤ 16
    · rw [if_pos hc]
      refine Ok.neg (by simp) ?_
      unfold r11_j0
      exact Ok.pos rfl (Ok.pos rfl (Ok.pos rfl (Ok.bind awake_ok fun b _ hb => Ok.ret hb)))
    · rw [if_neg hc]
      refine Ok.pos (by simp) ?_
      unfold r11_j0
      exact Ok.pos rfl (Ok.pos rfl (Ok.neg (by simp) (Ok.pos rfl (Ok.bind awake_ok fun b _ hb => Ok.ret hb))))
  | some l =>
    rw [if_neg (by rw [hp]; simp)] at h2
    obtain ⟨h2a, h2⟩ := h2
    dsimp only at h2a h2 ⊢
    subst h2a
    obtain ⟨hs, p2, p3, p4, p5, p6⟩ := placesF_some hp
    have hrl : row.length ≤ 16 := by simp at p3 p4; omega
    have ht : row.take 20 = row := List.take_of_length_le (by omega)
    rw [ht] at hp h2 ⊢
    rw [if_pos (show (s = 1 ∨ s = 2) ∧ row.length ≤ 16 from ⟨hs, hrl⟩)]
    refine Ok.neg (by simp) ?_
    unfold r11_j0
    refine Ok.neg (by simp) (Ok.neg (by simp) (Ok.bind (r34_ok (s := s) (by omega) (by omega) (hv.gr g14) hl) fun b H5 ⟨g5, hb⟩ => ?_))
    subst hb
    have hr : refRow s row = true := by
      have := placesF_ref (s := s) (row := row) hs
      rw [hp] at this
      cases h : refRow s row with
      | true => rfl
      | false => rw [h] at this; simp at this
    refine Ok.pos hr ?_
    have hS : Ok (r33 s H5) fun b H' => H' = H5 ∧ b = decide (s = 1 ∨ s = 2) := by
      unfold r33
      by_cases h1 : s = 1
      · rw [if_pos h1]; exact Ok.ret ⟨rfl, by simp [h1]⟩
      · rw [if_neg h1]; exact Ok.ret ⟨rfl, by simp [h1]⟩
    refine Ok.bind hS fun b H6 ⟨e6, hb⟩ => ?_
    subst e6 hb
    obtain ⟨s', rfl⟩ : ∃ k : Nat, s = k := ⟨s.toNat, by omega⟩
    dsimp only
    rw [decide_eq_true hs]
    exact turned_main (by omega) hp (hv.gr (g14.trans g5)) (h2.gr (g3.trans (g4.trans g5)))
theorem lawCall11 (H : Hp) (xs : List AV) (_ : NoOwn H) (h : RdAs H [.int .i64, .sl (.int .i64)] xs) : ∃ H1, CallSim Try.prog 11 xs H (.bool true) H1 := by
  obtain ⟨x, _, rfl, hx, y, _, rfl, hy, rfl⟩ := h
  obtain ⟨a0, e0, hw⟩ : Rd H (.int .i64) [x] := hx
  injection e0 with e0
  subst e0
  have := wf_i64 hw
  obtain ⟨v, row, rfl, hv, hb, _⟩ := rd_ints hy
  obtain ⟨b, H1, h1, rfl⟩ := turnedLaw (s := a0) this.1 this.2 hv.sl (by unfold maxLen at hb; omega)
  exact ⟨H1, sim11 (happ := appSim 10) h1⟩
end Go.Lt.P8
