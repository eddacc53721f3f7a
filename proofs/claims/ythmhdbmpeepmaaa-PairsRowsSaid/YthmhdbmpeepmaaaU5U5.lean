/- PLAIN LAWS OF WHAT IS COMPUTED, for the statement 'PairsRows'. Nothing is asked of the input. -/
import Derived.Test.YthmhdbmpeepmaaaU5URowR
import Derived.Test.YthmhdbmpeepmaaaU5UFirst
set_option linter.unusedVariables false
namespace Go.Lt.P8
open Go Go.Lt Go.Proofs

theorem flat_ints {H : Hp} : ∀ (l : List (List AV)), (∀ y ∈ l, Rd H (.int .i64) y) → ∃ row : List Int, l.flatten = row.map (.int .i64) ∧ row.length = l.length ∧ ∀ n ∈ row, (Lit.int .i64 n).wf = true := by
  intro l
  induction l with
  | nil => intro _; exact ⟨[], rfl, rfl, by simp⟩
  | cons y l ih =>
    intro h
    obtain ⟨row, h1, h2, h3⟩ := ih (fun z hz => h z (by simp [hz]))
    obtain ⟨n, rfl, hn⟩ := h y (by simp)
    exact ⟨n :: row, by simp [h1], by simp [h2], by simpa using ⟨hn, h3⟩⟩
theorem rd_ints {H : Hp} {x : AV} (h : Rd H (.sl (.int .i64)) [x]) : ∃ v row, x = .sl v ∧ IS H v row ∧ row.length ≤ maxLen ∧ ∀ n ∈ row, (Lit.int .i64 n).wf = true := by
  obtain ⟨v, e, hok, l, hl, hd, hr⟩ := h
  injection e with e
  obtain ⟨row, h1, h2, h3⟩ := flat_ints l hr
  simp only [Sh.cells, Nat.mul_one] at hd
  rw [h1] at hd
  have hi : Ints H v row := ⟨by simp [h2, hl], by rw [List.length_map, h2, hl]; exact hd⟩
  refine ⟨v, row, e, ?_, ?_, h3⟩
  · rcases hok with rfl | ⟨a, b, c, d, e, f⟩
    · refine ⟨hi, by simp, by simp, fun _ => ⟨rfl, ?_⟩⟩
      exact List.length_eq_zero_iff.1 (by rw [h2, hl])
    · exact ⟨hi, d, .inl b, fun hn => by simp [a] at hn⟩
  · rcases hok with rfl | ⟨a, b, c, d, e, f⟩
    · rw [h2, hl]; simp
    · omega
theorem wf_i64 {n : Int} (h : (Lit.int .i64 n).wf = true) : -9223372036854775808 ≤ n ∧ n < 9223372036854775808 := by
  simp [Lit.wf, IntKind.min, IntKind.max, IntKind.signed, IntKind.bits] at h
  omega

theorem r33_spec (s : Int) (H : Hp) : r33 s H = some (decide (s = 1 ∨ s = 2), H) := by
  unfold r33
  by_cases h : s = 1 <;> simp [h]

theorem r30_spec {s : Int} {row : List Int} {H : Hp} {v : Sl} (hv : IS H v row) (hb : row.length < 4611686018427387904) :
    ∃ H', r30 s v H = some ((if (s = 1 ∨ s = 2) ∧ row.length ≤ 16 then ((placesF s row).isSome, 0) else (false, 2)), H') ∧ Gr H H' := by
  unfold r30 r30_j0
  rw [r80_spec]
  simp only [Option.bind_some]
  have hlen := hv.ints.len
  by_cases hs : s = 1 ∨ s = 2
  · rw [decide_eq_true hs, if_pos rfl]
    by_cases hl : row.length ≤ 16
    · rw [decide_eq_false (by omega), if_neg (by simp), if_pos ⟨hs, hl⟩]
      obtain ⟨w, ok, H', h1, g, h2⟩ := r81_spec (s := s) hv hb
      rw [h1]
      refine ⟨H', ?_, g⟩
      cases hp : placesF s row <;> rw [hp] at h2
      · rw [h2.2]; rfl
      · rw [h2.1]; rfl
    · rw [decide_eq_true (by omega), if_pos rfl, if_neg (fun h => hl h.2)]
      exact ⟨H, rfl, .refl _⟩
  · rw [decide_eq_false hs, if_neg (by simp), if_pos trivial, if_neg (fun h => hs h.1)]
    exact ⟨H, rfl, .refl _⟩
theorem r32_spec {s : Int} {row : List Int} {H : Hp} {v : Sl} (hv : IS H v row) (hb : row.length < 4611686018427387904) :
    ∃ w e H', r32 s v H = some ((w, e), H') ∧ Gr H H' ∧ match placesF s row with
      | none => w = ⟨true, 0, 0, 0, 0, 0⟩ ∧ e = 2
      | some l => e = 0 ∧ IS H' w l := by
  unfold r32
  obtain ⟨w, ok, H', h1, g, h2⟩ := r81_spec (s := s) hv hb
  rw [h1]
  simp only [Option.bind_some]
  cases hp : placesF s row <;> rw [hp] at h2
  · rw [h2.2, if_neg (by simp)]; exact ⟨_, _, _, rfl, g, rfl, rfl⟩
  · rw [h2.1, if_pos rfl]; exact ⟨_, _, _, rfl, g, rfl, h2.2⟩

theorem r35_loop {row : List Int} {Hb : Hp} {v : Sl} (hv : Ints Hb v row) {n : Nat} (hn : n ≤ 8) (hl : row.length ≤ 16) : ∀ (m k K : Nat) (acc : List Int) (w : Sl) (H : Hp), k + m = n → m < K → acc.length ≤ k → (∀ t, t < m → 0 < (occF row ((k + t + 1 : Nat) : Int) 0).length) → Gr Hb H → Acc Hb.n 1 H w (acc.map (.int .i64)) →
    ∃ w' H', r35_l0 K v w (n : Int) (k : Int) H = some (w', H') ∧ Gr Hb H' ∧ IS H' w' (acc ++ (List.range' (k + 1) m).map fun (k : Nat) => (occF row (k : Int) 0).getD 0 0) := by
  intro m
  induction m with
  | zero =>
    intro k K acc w H hk hK ha _ g hw
    obtain ⟨K, rfl⟩ : ∃ j, K = j + 1 := ⟨K - 1, by omega⟩
    rw [r35_l0, if_neg (by omega)]
    exact ⟨_, _, rfl, g, .ofAcc (by simpa using hw)⟩
  | succ m ih =>
    intro k K acc w H hk hK ha hocc g hw
    obtain ⟨K, rfl⟩ : ∃ j, K = j + 1 := ⟨K - 1, by omega⟩
    have ew : w64 ((k : Int) + 1) = ((k + 1 : Nat) : Int) := by rw [w64_id (by omega) (by omega)]; push_cast; rfl
    rw [r35_l0, if_pos (by omega), ew]
    obtain ⟨x, H2, h2, g2, hx⟩ := r78_spec (x := ((k + 1 : Nat) : Int)) (hv.gr g) (by omega)
    rw [h2]
    simp only [Option.bind_some, ck]
    have h0 := hocc 0 (by omega)
    simp only [Nat.add_zero] at h0
    have hxl := hx.ints.len
    rw [if_pos (by omega)]
    have e0 := hx.ints.ldI (i := 0) h0
    simp only [Nat.add_zero] at e0
    rw [show x.o + (0 : Int).toNat * 1 = x.o from rfl, e0]
    simp only [Option.bind_some]
    have hw2 := hw.gr g2
    have hwl := hw2.cs.1
    simp only [List.length_map, Nat.mul_one] at hwl
    obtain ⟨w', H', h1', h2', h3', _⟩ := hw2.apN (es := 1) (xs := [.int .i64 (occF row ((k + 1 : Nat) : Int) 0)[0]]) (k := 1) (by omega) (by simp) (by omega) (by have := g.1; have := g2.1; omega)
    rw [h1']
    simp only [Option.bind_some]
    obtain ⟨w3, H3, h3, g3, h4⟩ := ih (k + 1) K (acc ++ [(occF row ((k + 1 : Nat) : Int) 0)[0]]) w' H' (by omega) (by omega) (by simp; omega) (fun t ht => by have := hocc (t + 1) (by omega); rw [show k + (t + 1) + 1 = k + 1 + t + 1 by omega] at this; exact this) (h3'.gr hw2 (g.trans g2)) (by simpa using h2')
    refine ⟨w3, H3, h3, g3, ?_⟩
    rw [List.range'_succ, List.map_cons]
    have e : (occF row ((k + 1 : Nat) : Int) 0).getD 0 0 = (occF row ((k + 1 : Nat) : Int) 0)[0] := by rw [List.getD_eq_getElem?_getD, List.getElem?_eq_getElem h0]; rfl
    rw [e]
    simpa using h4
theorem r35_spec {s : Int} {row : List Int} {H : Hp} {v : Sl} (hv : Ints H v row) (hr : refRow s row = true) :
    ∃ w' H', r35 v H = some (w', H') ∧ Gr H H' ∧ IS H' w' ((List.range' 1 (row.length / 2)).map fun (k : Nat) => (occF row (k : Int) 0).getD 0 0) := by
  unfold refRow at hr
  simp only [Bool.and_eq_true, decide_eq_true_eq] at hr
  obtain ⟨⟨h1, h2, h3⟩, hall⟩ := hr
  unfold r35
  rw [half hv.len (by omega)]
  have := r35_loop hv (n := row.length / 2) h2 (by omega) (row.length / 2) 0 FUEL [] ⟨true, 0, 0, 0, 0, 0⟩ H (by omega) (by unfold FUEL; omega) (by simp) (fun t ht => by
    have := List.all_eq_true.1 hall (t + 1) (List.mem_range'_1.2 (by omega))
    unfold refK at this
    simp only [Bool.and_eq_true, beq_iff_eq] at this
    rw [show 0 + t + 1 = t + 1 by omega]
    omega) (.refl _) .nilS
  simpa using this


theorem rowsLaw {s : Int} {row : List Int} {H : Hp} {v : Sl} (hs : (Lit.int .i64 s).wf = true) (hv : IS H v row) : ∃ H', r5 (app 10) s v H = some (true, H') := by
  unfold r5
  obtain ⟨v1, H1, e1, g1, i1, _⟩ := r31_spec hv
  rw [e1]
  simp only [Option.bind_some]
  obtain ⟨H2, e2, g2⟩ := r30_spec (s := s) i1 (by simp; omega)
  rw [e2]
  simp only [Option.bind_some]
  have g12 := g1.trans g2
  obtain ⟨v3, H3, e3, g3, i3, _⟩ := r31_spec (hv.gr g12)
  rw [e3]
  simp only [Option.bind_some]
  obtain ⟨w, e, H4, e4, g4, h4⟩ := r32_spec (s := s) i3 (by simp; omega)
  rw [e4]
  simp only [Option.bind_some, r33_spec]
  have hlen := hv.ints.len
  obtain ⟨H5, h5⟩ := awake10 H4
  by_cases hsh : s = 1 ∨ s = 2
  · rw [decide_eq_true hsh, if_pos rfl]
    by_cases hl : row.length ≤ 16
    · rw [decide_eq_false (by omega)]
      have ht : row.take 20 = row := List.take_of_length_le (by omega)
      rw [ht, if_pos ⟨hsh, hl⟩]
      rw [ht] at h4
      unfold r5_j0
      rw [if_neg (by simp)]
      obtain ⟨H6, e6, g6⟩ := r34_spec (s := s) (by omega) (by omega) ((hv.ints.gr g12).gr (g3.trans g4)) (by omega)
      rw [e6]
      simp only [Option.bind_some]
      rw [placesF_ref hsh] at h4 ⊢
      by_cases hr : refRow s row = true
      · rw [if_pos hr] at h4 ⊢
        obtain ⟨rfl, iw⟩ := h4
        rw [hr]
        simp only [Option.isSome_some, if_true]
        obtain ⟨w7, H7, e7, g7, i7⟩ := r35_spec (s := s) ((hv.ints.gr g12).gr ((g3.trans g4).trans g6)) hr
        rw [e7]
        simp only [Option.bind_some]
        rw [r25_spec ((iw.gr g6).gr g7).ints i7.ints (by simp; omega)]
        simp only [Option.bind_some, decide_true, if_true]
        obtain ⟨H8, h8⟩ := awake10 H7
        rw [h8]
        exact ⟨_, rfl⟩
      · rw [if_neg hr] at h4 ⊢
        obtain ⟨rfl, rfl⟩ := h4
        obtain ⟨H8, h8⟩ := awake10 H6
        simp [hr, h8]
    · rw [decide_eq_true (by omega), if_neg (by simp; omega)]
      have hpl : placesF s (row.take 20) = none := by
        unfold placesF
        rw [if_neg]
        simp only [List.length_take]
        omega
      rw [hpl] at h4
      obtain ⟨rfl, rfl⟩ := h4
      unfold r5_j0
      simp [h5]
  · rw [decide_eq_false hsh, if_neg (by simp), if_neg (fun h => hsh h.1)]
    have hpl : placesF s (row.take 20) = none := by
      unfold placesF
      rw [if_neg (fun h => hsh h.1)]
    rw [hpl] at h4
    obtain ⟨rfl, rfl⟩ := h4
    unfold r5_j0
    simp [h5]

theorem lawCall5 (H : Hp) (xs : List AV) (_ : NoOwn H) (h : RdAs H [.int .i64, .sl (.int .i64)] xs) : ∃ H1, CallSim Try.prog 5 xs H (.bool true) H1 := by
  obtain ⟨x, _, rfl, hx, y, _, rfl, hy, rfl⟩ := h
  obtain ⟨a0, e0, hw⟩ : Rd H (.int .i64) [x] := hx
  obtain ⟨v, row, rfl, hv, hb, _⟩ := rd_ints hy
  injection e0 with e0
  subst e0
  obtain ⟨H1, h1⟩ := rowsLaw hw hv
  exact ⟨H1, sim5 (happ := appSim 10) h1⟩
end Go.Lt.P8
