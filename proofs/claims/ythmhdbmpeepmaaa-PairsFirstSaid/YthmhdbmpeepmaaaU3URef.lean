/- PLAIN LAWS OF WHAT IS COMPUTED, for the statement 'PairsFirst'. Nothing is asked of the input. -/
import Derived.Test.YthmhdbmpeepmaaaU3URows3
set_option linter.unusedVariables false
namespace Go.Lt.P8
open Go Go.Lt Go.Proofs

/-- a slice of slices of numbers -/
def LL (n0 : Nat) (H : Hp) (v : Sl) (sls : List Sl) (L : List (List Int)) : Prop :=
  sls.length = L.length ∧ ∀ i (h : i < sls.length) (h' : i < L.length), Ints H sls[i] L[i] ∧ n0 ≤ sls[i].b ∧ sls[i].b < H.n ∧ (v.nil = false → sls[i].b ≠ v.b) ∧ sls[i].nil = false
theorem LL.append {n0 : Nat} {H : Hp} {v : Sl} {s1 s2 : List Sl} {l1 l2 : List (List Int)} (h1 : LL n0 H v s1 l1) (h2 : LL n0 H v s2 l2) : LL n0 H v (s1 ++ s2) (l1 ++ l2) := by
  refine ⟨by simp [h1.1, h2.1], fun i h h' => ?_⟩
  by_cases hi : i < s1.length
  · have := h1.2 i hi (by have := h1.1; omega)
    simp only [List.getElem_append_left hi, List.getElem_append_left (show i < l1.length by have := h1.1; omega)]
    exact this
  · have e := h1.1
    have := h2.2 (i - s1.length) (by simp at h; omega) (by simp at h'; omega)
    simp only [List.getElem_append_right (show s1.length ≤ i by omega), List.getElem_append_right (show l1.length ≤ i by omega)]
    simp only [← e]
    exact this
theorem LL.keep {n0 n1 : Nat} {H H' : Hp} {v v' : Sl} {sls : List Sl} {L : List (List Int)} (h : LL n0 H v sls L) (hn : H.n ≤ H'.n) (h1 : n1 ≤ n0) (hg : ∀ b, b < H.n → (v.nil = false → b ≠ v.b) → H'.get b = H.get b)
    (hv : v'.nil = false → v' = v ∨ H.n ≤ v'.b) : LL n1 H' v' sls L := by
  refine ⟨h.1, fun i hi hi' => ?_⟩
  obtain ⟨a, b, c, d, e⟩ := h.2 i hi hi'
  refine ⟨?_, by omega, by omega, fun hv' => ?_, e⟩
  · exact Cs.congr a (hg _ c d)
  · rcases hv hv' with rfl | h2
    · exact d hv'
    · omega

theorem gen_len (n : Nat) (hn : n ≤ 8) (s : Int) : ∀ (f : Nat) (row : List Int) (u : Int), (gen n s f row u).length ≤ 8 ^ f := by
  intro f
  induction f with
  | zero => intro row u; simp [gen]
  | succ f ih =>
    intro row u
    rw [gen]
    split
    · have := Nat.pow_pos (n := f + 1) (show 0 < 8 by omega)
      simp only [List.length_cons, List.length_nil]
      omega
    · have : ∀ (m k : Nat), ((List.range' k m).flatMap fun k => genK (gen n s f) s row u (idxF row 0 0) k).length ≤ m * 8 ^ f := by
        intro m
        induction m with
        | zero => intro k; simp
        | succ m ihm =>
          intro k
          rw [List.range'_succ, List.flatMap_cons, List.length_append, Nat.succ_mul]
          have := ihm (k + 1)
          have h2 : (genK (gen n s f) s row u (idxF row 0 0) k).length ≤ 8 ^ f := by
            unfold genK
            split
            · simp
            · exact ih _ _
          omega
      refine Nat.le_trans (this n 1) ?_
      rw [Nat.pow_succ, Nat.mul_comm]
      exact Nat.mul_le_mul_left _ hn

theorem app76 (k : Nat) (n s : Int) (v : Sl) (u : Int) (H : Hp) : app (k + 1) 76 [.int .i64 n, .int .i64 s, .sl v, .int .i64 u] H = (r76 (app k) n s v u H).map fun p => (.sl p.1, p.2) := rfl
theorem slones (l : List Sl) : (l.map AV.sl).all AV.one = true := by simp [AV.one]

section
variable {n : Nat} {s : Int} {a z : Nat} {Hb : Hp} {v : Sl} {row : List Int} {f : Nat}

theorem ref_loop (hn : n ≤ 8) (hs1 : 1 ≤ s) (hs2 : s ≤ 64) (hl : row.length = 2 * n) (hr : Ints Hb v row) (hf : f ≤ 8)
    (ih : ∀ row u v H, row.length = 2 * n → Ints H v row → row.count 0 + 2 ≤ z → ∃ out sls H', app a 76 [.int .i64 n, .int .i64 s, .sl v, .int .i64 u] H = some (.sl out, H') ∧ Gr H H' ∧ Cs H' 1 out (sls.map .sl) ∧ LL H.n H' out sls (gen n s f row u))
    (hz : row.count 0 ≤ z) {i : Nat} (hi : i < row.length) (hi0 : row[i] = 0) (u : Int) :
    ∀ (m k K : Nat) (acc : Sl) (sls : List Sl) (L : List (List Int)) (H : Hp), k + m = n + 1 → 1 ≤ k → m < K → Gr Hb H → Acc Hb.n 1 H acc (sls.map .sl) → LL Hb.n H acc sls L → L.length ≤ (k - 1) * 8 ^ f →
      ∃ out sls' H', r76_l1 (app a) K n s v u (i : Int) acc (k : Int) H = some (out, H') ∧ Gr Hb H' ∧ Acc Hb.n 1 H' out (sls'.map .sl) ∧ LL Hb.n H' out sls' (L ++ (List.range' k m).flatMap fun k => genK (gen n s f) s row u i k) := by
  intro m
  induction m with
  | zero =>
    intro k K acc sls L H hk h1 hK g ha hL hlen
    obtain ⟨K, rfl⟩ : ∃ j, K = j + 1 := ⟨K - 1, by omega⟩
    rw [r76_l1, if_neg (by omega)]
    exact ⟨acc, sls, H, rfl, g, ha, by simpa using hL⟩
  | succ m ihm =>
    intro k K acc sls L H hk h1 hK g ha hL hlen
    obtain ⟨K, rfl⟩ : ∃ j, K = j + 1 := ⟨K - 1, by omega⟩
    have ej : w64 ((w64 ((w64 ((i : Int) + k)) + s)) - 1) = i + k + s - 1 := by rw [w64_id (n := (i : Int) + k) (by omega) (by omega), w64_id (n := (i : Int) + k + s) (by omega) (by omega), w64_id (by omega) (by omega)]
    have ek : w64 ((k : Int) + 1) = ((k + 1 : Nat) : Int) := by rw [w64_id (by omega) (by omega)]; rfl
    have e2n : w64 (2 * (n : Int)) = ((2 * n : Nat) : Int) := by rw [w64_id (by omega) (by omega)]; push_cast; rfl
    have hpos : 0 < 8 ^ f := Nat.pow_pos (by omega)
    have hkk : (k - 1) * 8 ^ f ≤ (k + 1 - 1) * 8 ^ f := Nat.mul_le_mul_right _ (by omega)
    rw [r76_l1, if_pos (by omega)]
    simp only [ej, e2n, ck]
    rw [if_pos (by omega), List.range'_succ, List.flatMap_cons]
    have next := ihm (k + 1) K acc sls L H (by omega) (by omega) (by omega) g ha hL (by omega)
    by_cases hb : bitq u k
    · rw [if_pos hb]
      have : genK (gen n s f) s row u i k = [] := by unfold genK; rw [if_pos (.inl hb)]
      rw [this, List.nil_append, r76_j3, if_pos rfl, ek]
      exact next
    rw [if_neg hb]
    by_cases hj : ((2 * n : Nat) : Int) ≤ i + k + s - 1
    · have : genK (gen n s f) s row u i k = [] := by unfold genK; rw [if_pos (.inr (.inl (by rw [hl]; exact hj)))]
      rw [if_pos hj, this, List.nil_append, r76_j3, if_pos rfl, ek]
      exact next
    rw [if_neg hj]
    obtain ⟨j, hj'⟩ : ∃ j : Nat, (i : Int) + k + s - 1 = j := ⟨(i + k + s - 1).toNat, by omega⟩
    have hjL : j < row.length := by omega
    have hr' := hr.gr g
    have hvl := hr'.len
    rw [hj', if_pos (by omega)]
    simp only [Int.toNat_natCast, Nat.mul_one]
    rw [hr'.ldI hjL]
    simp only [Option.bind_some]
    by_cases h0 : row[j] = 0
    · have hg : genK (gen n s f) s row u i k = gen n s f ((row.set i k).set j k) (orb u k) := by
        unfold genK
        rw [hj', if_neg]
        · simp
        · rintro (h | h | h)
          · exact hb h
          · omega
          · exact h (by simp [List.getElem?_eq_getElem hjL, h0])
      have hij : i < j := by omega
      rw [r76_j3, decide_eq_false (by simpa using h0), if_neg (by simp)]
      have hl1 := (hr'.gr (Gr.push H (.cells [] false))).lds
      rw [Nat.mul_one, hl1]
      simp only [Option.bind_some, ck, ints_one, if_true]
      obtain ⟨x4, H4, hap, g4, hg4, hnil, ho, hxl, hxc, hge, hlt⟩ := app_new (H := H) (xs := row.map (.int .i64)) (es := 1) (k := v.len) (by omega) (by simp [hvl]) (by omega)
      rw [hap]
      simp only [Option.bind_some, ho, Nat.zero_add, Int.toNat_natCast, Nat.mul_one]
      have hrow4 : RowAt x4.b H4 row := hg4
      obtain ⟨w5, r5⟩ := hrow4.st (i := i) hi (k : Int)
      obtain ⟨w6, r6⟩ := r5.st (i := j) (by simpa using hjL) (k : Int)
      rw [if_pos (by omega), w5]
      simp only [Option.bind_some]
      rw [if_pos (by omega), w6]
      simp only [Option.bind_some]
      rw [if_pos (by omega)]
      generalize hH8 : (H4.set x4.b _).set x4.b _ = H8 at r6 ⊢
      have n8 : H8.n = H4.n := by rw [← hH8]; simp
      have o8 : ∀ b, b ≠ x4.b → H8.get b = H4.get b := fun b hb => by rw [← hH8, Hp.get_set_other _ _ hb, Hp.get_set_other _ _ hb]
      clear hH8
      have g48 : Gr H H8 := ⟨by have := g4.1; omega, fun b hb => by rw [o8 b (by omega), g4.2 b hb]⟩
      have hi8 : Ints H8 x4 ((row.set i k).set j k) := by
        have h8 := r6.ints
        refine .mk (by rw [hxl, hvl]; simp) fun t ht => ?_
        have := h8.ld ht
        rw [ho]
        exact this
      have hz2 : ((row.set i k).set j k).count 0 + 2 ≤ z := by
        have c1 := count_set0 row i k hi hi0 (by omega)
        have c2 := count_set0 (row.set i k) j k (by simpa using hjL) (by rw [List.getElem_set_ne (by omega)]; exact h0) (by omega)
        omega
      obtain ⟨out, sl2, H9, hc, g9, hcs, hll⟩ := ih _ (orb u k) x4 H8 (by simp [hl]) hi8 hz2
      rw [show bitsOf .or .i64 u (shlOf .i64 1 k) = orb u k from rfl, hc]
      simp only [Option.bind_some, AV.asSl]
      have hout := hcs.1
      simp only [List.length_map, Nat.mul_one] at hout
      have hlds := hcs.lds
      rw [Nat.mul_one] at hlds
      rw [hlds]
      simp only [Option.bind_some, slones, if_true]
      have g09 := g48.trans g9
      have ha9 := ha.gr g09
      have hbnd := gen_len n hn s f ((row.set i k).set j k) (orb u k)
      have h8f : (8 : Nat) ^ f ≤ 8 ^ 8 := Nat.pow_le_pow_right (by omega) hf
      have hacc := ha.cs.1
      simp only [List.length_map, Nat.mul_one] at hacc
      have hkb : (k - 1) * 8 ^ f ≤ 8 * 8 ^ 8 := Nat.mul_le_mul (by omega) h8f
      obtain ⟨v', H', hap2, ha', hbut, hvv, hvl', hvn, _⟩ := ha9.app (es := 1) (xs := sl2.map .sl) (k := out.len) (by omega) (by simp; omega) (by have := hL.1; have := hll.1; omega) (Nat.le_trans g.1 g09.1)
      rw [hap2]
      simp only [Option.bind_some]
      rw [hg, ek]
      have hL9 : LL Hb.n H9 acc sls L := hL.keep g09.1 (Nat.le_refl _) (fun b hb _ => g09.2 b hb) (fun _ => .inl rfl)
      have h2' : LL Hb.n H9 acc sl2 (gen n s f ((row.set i k).set j k) (orb u k)) := ⟨hll.1, fun t h h' => by
        obtain ⟨p1, p2, p3, p4, p5⟩ := hll.2 t h h'
        refine ⟨p1, ?_, p3, fun hn => ?_, p5⟩
        · have := g.1; have := g48.1; omega
        · have := ha.lt hn; have := g48.1; omega⟩
      have hall := (hL9.append h2').keep (n1 := Hb.n) (v' := v') hbut.1 (Nat.le_refl _) (fun b hb hne => hbut.2 b hb hne) (fun _ => hvv)
      have fin := ihm (k + 1) K v' (sls ++ sl2) _ H' (by omega) (by omega) (by omega) (hbut.gr ha9 (g.trans g09)) (by rw [List.map_append]; exact ha') hall (by
        rw [List.length_append, show k + 1 - 1 = (k - 1) + 1 by omega, Nat.succ_mul]; omega)
      rw [List.append_assoc] at fin
      exact fin
    · have : genK (gen n s f) s row u i k = [] := by
        unfold genK
        rw [if_pos (.inr (.inr (by rw [hj']; simp [List.getElem?_eq_getElem hjL, h0])))]
      rw [decide_eq_true h0, this, List.nil_append, r76_j3, if_pos rfl, ek]
      exact next

theorem idx_at {row : List Int} {t : Nat} (ht : t < row.length) (h : row[t] = 0) (hb : ∀ j (hj : j < t), row[j] ≠ 0) : idxF row 0 0 = t := by
  rcases idxF_cases 0 row 0 (Int.le_refl 0) with ⟨_, h2⟩ | ⟨t', ht', h1, h2, h3⟩
  · exact absurd (h ▸ List.getElem_mem ht) h2
  · rcases Nat.lt_trichotomy t t' with hlt | rfl | hgt
    · exact absurd h (h3 t hlt)
    · omega
    · exact absurd h2 (hb t' hgt)
theorem idx_none {row : List Int} (hb : ∀ j (hj : j < row.length), row[j] ≠ 0) : idxF row 0 0 = -1 := by
  rcases idxF_cases 0 row 0 (Int.le_refl 0) with ⟨h1, _⟩ | ⟨t', ht', h1, h2, h3⟩
  · exact h1
  · exact absurd h2 (hb t' ht')

theorem ref_scan (hn1 : 1 ≤ n) (hn : n ≤ 8) (hs1 : 1 ≤ s) (hs2 : s ≤ 64) (hl : row.length = 2 * n) (hr : Ints Hb v row) (hf : f ≤ 8)
    (ih : ∀ row u v H, row.length = 2 * n → Ints H v row → row.count 0 + 2 ≤ z → ∃ out sls H', app a 76 [.int .i64 n, .int .i64 s, .sl v, .int .i64 u] H = some (.sl out, H') ∧ Gr H H' ∧ Cs H' 1 out (sls.map .sl) ∧ LL H.n H' out sls (gen n s f row u))
    (hz : row.count 0 ≤ z) (u : Int) : ∀ (m t K : Nat), t + m = 2 * n → m < K → (∀ j (hj : j < row.length), j < t → row[j] ≠ 0) →
      ∃ out sls H', r76_l0 (app a) K n s v u (t : Int) Hb = some (out, H') ∧ Gr Hb H' ∧ Cs H' 1 out (sls.map .sl) ∧ LL Hb.n H' out sls (gen n s (f + 1) row u) := by
  intro m
  have e2n : w64 (2 * (n : Int)) = ((2 * n : Nat) : Int) := by rw [w64_id (by omega) (by omega)]; push_cast; rfl
  have hvl := hr.len
  induction m with
  | zero =>
    intro t K ht hK hb
    obtain ⟨K, rfl⟩ : ∃ j, K = j + 1 := ⟨K - 1, by omega⟩
    rw [r76_l0, e2n, if_neg (by omega), r76_j2, if_neg (by simp), e2n, if_pos (by omega)]
    have hl1 := (hr.gr (Gr.push Hb (.cells [] false))).lds
    rw [Nat.mul_one, hl1]
    simp only [Option.bind_some, ck, ints_one, if_true, lt]
    obtain ⟨x4, H4, hap, g4, hg4, hnil, ho, hxl, hxc, hge, hlt⟩ := app_new (H := Hb) (xs := row.map (.int .i64)) (es := 1) (k := v.len) (by omega) (by simp [hvl]) (by omega)
    rw [hap]
    simp only [Option.bind_some]
    have hgen : gen n s (f + 1) row u = [row] := by rw [gen, idx_none (fun j hj => hb j hj (by omega)), if_pos (by decide)]
    rw [hgen]
    refine ⟨_, [x4], _, rfl, g4.trans (.push _ _), Cs.of_get (ro := false) (by simp) rfl rfl, rfl, fun i h h' => ?_⟩
    have hi : i = 0 := by simp at h; omega
    subst hi
    refine ⟨?_, hge, by simp; omega, fun _ => by simp; omega, hnil⟩
    have : Cs H4 1 x4 (row.map (.int .i64)) := .of_get hg4 ho (by simp [hxl, hvl])
    exact this.gr (.push _ _)
  | succ m ihm =>
    intro t K ht hK hb
    obtain ⟨K, rfl⟩ : ∃ j, K = j + 1 := ⟨K - 1, by omega⟩
    have htl : t < row.length := by omega
    rw [r76_l0, e2n, if_pos (by omega)]
    simp only [ck, Int.toNat_natCast, Nat.mul_one]
    rw [if_pos (by omega), hr.ldI htl]
    simp only [Option.bind_some]
    by_cases h0 : row[t] = 0
    · rw [r76_j2, decide_eq_false (by simpa using h0), if_neg (by simp), e2n, if_neg (by omega)]
      have hix := idx_at htl h0 (fun j hj => hb j (by omega) hj)
      have hgen : gen n s (f + 1) row u = (List.range' 1 n).flatMap fun k => genK (gen n s f) s row u (t : Int) k := by rw [gen, hix, if_neg (by omega)]
      obtain ⟨out, sls, H', h1, h2, h3, h4⟩ := ref_loop (z := z) hn hs1 hs2 hl hr hf ih hz htl h0 u n 1 FUEL ⟨true, 0, 0, 0, 0, 0⟩ [] [] Hb (by omega) (by omega) (by unfold FUEL; omega) (.refl _) .nilS ⟨rfl, fun i h => absurd h (by simp)⟩ (by simp)
      rw [hgen]
      exact ⟨out, sls, H', h1, h2, h3.cs, by simpa using h4⟩
    · rw [r76_j2, decide_eq_true h0, if_pos rfl]
      have ek : w64 ((t : Int) + 1) = ((t + 1 : Nat) : Int) := by rw [w64_id (by omega) (by omega)]; rfl
      rw [ek]
      refine ihm (t + 1) K (by omega) (by omega) fun j hj hjt => ?_
      by_cases e : j = t
      · subst e; exact h0
      · exact hb j hj (by omega)
end

/-- THE REFERENCE's ROWS -/
theorem ref_spec {n : Nat} {s : Int} (hn1 : 1 ≤ n) (hn : n ≤ 8) (hs1 : 1 ≤ s) (hs2 : s ≤ 64) (c : Nat) : ∀ (f : Nat) (row : List Int) (u : Int) (v : Sl) (H : Hp), f ≤ 9 → row.length = 2 * n → Ints H v row → row.count 0 < 2 * f →
    ∃ out sls H', r76 (app (c + (f - 1))) n s v u H = some (out, H') ∧ Gr H H' ∧ Cs H' 1 out (sls.map .sl) ∧ LL H.n H' out sls (gen n s f row u) := by
  intro f
  induction f with
  | zero => intro row u v H _ _ _ h; omega
  | succ f ih =>
    intro row u v H hf9 hl hr hz
    unfold r76
    refine ref_scan (z := 2 * f + 1) (a := c + f) hn1 hn hs1 hs2 hl hr (by omega) (fun row' u' v' H' hl' hr' hz' => ?_) (by omega) u (2 * n) 0 FUEL (by omega) (by unfold FUEL; omega) (fun j _ hj => by omega)
    obtain ⟨f, rfl⟩ : ∃ j, f = j + 1 := ⟨f - 1, by omega⟩
    obtain ⟨out, sls, H2, h1, h2, h3, h4⟩ := ih row' u' v' H' (by omega) hl' hr' (by omega)
    rw [← Nat.add_assoc, app76]
    simp only [Nat.add_sub_cancel] at h1
    rw [h1]
    exact ⟨out, sls, H2, rfl, h2, h3, h4⟩

theorem r76_zero {n : Nat} {s : Int} (hn1 : 1 ≤ n) (hn : n ≤ 8) (hs1 : 1 ≤ s) (hs2 : s ≤ 64) (c : Nat) (H : Hp) :
    ∃ out sls H', r76 (app (c + 8)) n s ⟨false, H.n, 0, 2 * n, 2 * n, 0⟩ 0 (H.push (.cells ((zeros n).map (.int .i64)) false)) = some (out, H') ∧ Gr H H' ∧ Cs H' 1 out (sls.map .sl) ∧ LL (H.n + 1) H' out sls (gen n s 9 (zeros n) 0) := by
  have hi := ints_new H (zeros n) false (2 * n) 0
  have hl : (zeros n).length = 2 * n := by simp [zeros]
  rw [hl] at hi
  obtain ⟨out, sls, H', h1, h2, h3, h4⟩ := ref_spec hn1 hn hs1 hs2 c 9 (zeros n) 0 _ _ (Nat.le_refl _) hl hi (by simp [zeros]; omega)
  exact ⟨out, sls, H', h1, (Gr.push _ _).trans h2, h3, by simpa using h4⟩

end Go.Lt.P8
