/- PLAIN LAWS OF WHAT IS COMPUTED, for the statement 'PairsSpread'. Nothing is asked of the input. -/
import Derived.Test.YthmhdbmpeepmaaaU12UTsN
import Derived.Test.YthmhdbmpeepmaaaU12UTsH
import Derived.Test.YthmhdbmpeepmaaaU12UThK
import Derived.Test.YthmhdbmpeepmaaaU12UTg1
import Derived.Test.YthmhdbmpeepmaaaU12UThT2
import Derived.Test.YthmhdbmpeepmaaaU12UThI2
import Derived.Test.YthmhdbmpeepmaaaU12UCmp
import Derived.Test.YthmhdbmpeepmaaaU12UFirst
import Derived.Test.YthmhdbmpeepmaaaLB
set_option linter.unusedVariables false
set_option linter.unusedSimpArgs false
namespace Go.Lt.P8
open Go Go.Lt Go.Proofs
theorem awake20d (H : Hp) : ∃ H', r23 (app 20) H = some (true, H') := awake_spec H (f := 19) (by omega) (by decide +kernel)
theorem first16d {v : Nat} (hv : 3 ≤ v ∧ v ≤ 9) (l : List Tr) : areF v (l.take 16) = refF v l := by
  by_cases h : l.length ≤ 16
  · rw [List.take_of_length_le h, threes_eq]
  · rw [Bool.eq_iff_iff, areF_iff, refF_iff]
    constructor
    · intro c
      have := c.len hv
      rw [List.length_take] at this
      omega
    · intro c
      have := c.len hv
      omega
/-- the players of a triple, each once -/
theorem r12_l7_ok {v : Nat} {lv sv tv sp s8 s11 : Sl} {n5 n9 n10 n12 : Int} {i : Nat} {t : Tr} {m m' : Nat} (hv : v ≤ 9) (ht : inT v t) (hm : m < 512) (hp : plW m (list3 t) = some m') {Q : Bool → Hp → Prop}
    {kt : Int → Sl → Sl → Sl → Int → Sl → Int → Sl → Int → Int → Sl → Int → Int → Hp → Option (Bool × Hp)} {H : Hp}
    (k : m' < 512 → Ok (kt v lv sv tv n5 sp m' s8 n9 n10 s11 n12 (w64 ((i : Int) + 1)) H) Q) :
    Ok (r12_l7 (app 20) kt FUEL v lv sv tv n5 sp m s8 n9 n10 s11 n12 i t.1 t.2.1 t.2.2 0 H) Q := by
  refine Ok.loop (L := fun K (s : Int × Int) H' => r12_l7 (app 20) kt K v lv sv tv n5 sp s.1 s8 n9 n10 s11 n12 i t.1 t.2.1 t.2.2 s.2 H') (fun mm s H' => H' = H ∧ ∃ j m1 : Nat, s = ((m1 : Int), (j : Int)) ∧ j + mm = 3 ∧ m1 < 512 ∧ plW m1 ((list3 t).drop j) = some m') ?_ FUEL 3 ((m : Int), 0) H (by unfold FUEL; omega) ⟨rfl, 0, m, rfl, by omega, hm, hp⟩
  rintro K mm s H1 ⟨rfl, j, m1, rfl, hmm, hm1, hpl⟩ ih
  try dsimp only at *
  rw [r12_l7]
  have hl3 : (list3 t).length = 3 := rfl
  by_cases h : j < 3
  · have hx : 0 ≤ (list3 t)[j] ∧ (list3 t)[j] < 9 := by
      unfold inT at ht
      have : j = 0 ∨ j = 1 ∨ j = 2 := by omega
      rcases this with rfl | rfl | rfl <;> simp only [list3, List.getElem_cons_zero, List.getElem_cons_succ] <;> omega
    have hap : apart false 1 [.int .i64 t.1, .int .i64 t.2.1, .int .i64 t.2.2] ((j : Int).toNat * 1) = some (.int .i64 (list3 t)[j]) := by
      rw [Int.toNat_natCast, Nat.mul_one]
      have : j = 0 ∨ j = 1 ∨ j = 2 := by omega
      rcases this with rfl | rfl | rfl <;> rfl
    rw [List.drop_eq_getElem_cons (by omega), plW] at hpl
    refine Ok.pos (by omega) (Ok.ck (by omega) (Ok.ld hap ?_))
    generalize (list3 t)[j] = x at *
    obtain ⟨y, rfl⟩ : ∃ y : Nat, x = y := ⟨x.toNat, by omega⟩
    rw [Int.toNat_natCast] at hpl
    cases hb : m1.testBit y with
    | true => rw [hb, if_pos rfl] at hpl; cases hpl
    | false =>
      rw [hb, if_neg (by simp)] at hpl
      refine Ok.ld rfl (Ok.ck (by omega) (Ok.neg ?_ (Ok.ck (by omega) ?_)))
      · rw [bit_nat (by omega) (by omega), hb]; simp
      · have h2 : 2 ^ y < 2 ^ 9 := Nat.pow_lt_pow_right (by omega) (by omega)
        have h3 : m1 ||| 2 ^ y < 2 ^ 9 := Nat.or_lt_two_pow (by omega) h2
        rw [shl_one (by omega), bits_or_nat (by omega) (by omega), w64_succ (by omega)]
        exact ih (mm - 1) (_, _) _ (by omega) ⟨rfl, j + 1, _, rfl, by omega, by omega, hpl⟩
  · have : j = 3 := by omega
    subst this
    rw [List.drop_of_length_le (by omega), plW] at hpl
    injection hpl with hpl
    subst hpl
    exact Ok.neg (by omega) (k hm1)
theorem spW_sorted {l : List Tr} : ∀ (s : List Int) (p : Int) (m r : Nat), spW l p m s = some r → ∀ x ∈ s, p < x ∧ x < l.length := by
  intro s
  induction s with
  | nil => intro p m r _ x hx; simp at hx
  | cons y s ih =>
    intro p m r h x hx
    rw [spW] at h
    by_cases hc : p < y ∧ y < l.length
    · rw [if_pos hc] at h
      obtain ⟨m', _, h2⟩ := Option.bind_eq_some_iff.1 h
      rcases List.mem_cons.1 hx with rfl | hx
      · exact hc
      · have := ih _ _ _ h2 x hx
        exact ⟨by omega, this.2⟩
    · rw [if_neg hc] at h; cases h
/-- a spread -/
theorem r12_l3_ok {v : Nat} (hv : 3 ≤ v ∧ v ≤ 9) {B : Hp} {lv sv : Sl} {l : List Tr} (hr : ∀ t ∈ l, inT v t) (hl : l.length ≤ 12) (hlv : SL B lv l) {vs : List Sl} {S : List (List Int)} (hS : SLL B sv vs S) {k : Nat} (hk : k < S.length) (hsl : S[k].length ≤ 12)
    (hw : spW l (-1) 0 S[k] = some (2 ^ v - 1)) (hc : ∀ (h : 0 < k), cmpL (S[k - 1]'(by omega)) S[k] < 0) (hlen0 : S.length ≤ 4096) (hlen1 : ∀ s ∈ S, s.length ≤ 12) {F : List Int} (hF : F.length ≤ 100000) {Q : Bool → Hp → Prop} {kt : Int → Sl → Sl → Sl → Sl → Int → Int → Hp → Option (Bool × Hp)} {H : Hp} {n9 : Int} (g : Gr B H)
    (ht : H.get B.n = some (.cells (cntB l.length F) false))
    (kk : ∀ H', Gr B H' → H'.get B.n = some (.cells (cntB l.length (F ++ S[k])) false) → Ok (kt v lv sv ⟨false, B.n, 0, l.length, l.length, 0⟩ sv n9 (w64 ((k : Int) + 1)) H') Q) :
    Ok (r12_l3 (app 20) kt FUEL v lv sv ⟨false, B.n, 0, l.length, l.length, 0⟩ k (vs[k]'(by rw [hS.vlen]; exact hk)) 0 sv n9 k (vs[k]'(by rw [hS.vlen]; exact hk)) ((vs[k]'(by rw [hS.vlen]; exact hk)).len : Int) 0 H) Q := by
  have hsk := hS.get hk
  have hsn := hsk.len
  have hlvl := hlv.len
  have hSl := hS.len
  generalize hs : S[k] = s at *
  generalize (vs[k]'(by rw [hS.vlen]; exact hk)) = u at *
  rw [hsn]
  refine Ok.loop (L := fun K (st : Int × Int) H' => r12_l3 (app 20) kt K v lv sv ⟨false, B.n, 0, l.length, l.length, 0⟩ k u st.1 sv n9 k u s.length st.2 H') (fun mm st H' => ∃ i m1 : Nat, st = ((m1 : Int), (i : Int)) ∧ i + mm = s.length ∧ m1 < 512 ∧ Gr B H' ∧ H'.get B.n = some (.cells (cntB l.length (F ++ s.take i)) false) ∧ spW l (if h : 0 < i ∧ i ≤ s.length then s[i - 1] else -1) m1 (s.drop i) = some (2 ^ v - 1)) ?_ FUEL s.length (0, 0) H (by unfold FUEL; omega)
    ⟨0, 0, rfl, by omega, by omega, g, by simpa using ht, by simpa using hw⟩
  rintro K mm st H1 ⟨i, m1, rfl, hmm, hm1, g1, ht1, hsw⟩ ih
  try dsimp only at *
  rw [r12_l3]
  by_cases h : i < s.length
  · rw [List.drop_eq_getElem_cons h, spW] at hsw
    have hu := hsk.gr g1
    refine Ok.pos (by omega) (Ok.ck (by omega) (Ok.ld (hu.ldI (i := i) (j := 0) h rfl) ?_))
    have htk : s.take (i + 1) = s.take i ++ [s[i]] := List.take_succ_eq_append_getElem h
    have hsi : (if h : 0 < i + 1 ∧ i + 1 ≤ s.length then s[i + 1 - 1] else -1) = s[i] := by
      rw [dif_pos ⟨by omega, by omega⟩]; rfl
    generalize hx : s[i] = x at *
    have hcx : (if h : 0 < i ∧ i ≤ s.length then s[i - 1] else -1) < x ∧ x < l.length := by
      by_cases c : (if h : 0 < i ∧ i ≤ s.length then s[i - 1] else -1) < x ∧ x < l.length
      · exact c
      · rw [if_neg c] at hsw; cases hsw
    rw [if_pos hcx] at hsw
    obtain ⟨m', hp, hsw⟩ := Option.bind_eq_some_iff.1 hsw
    have hprev : -1 ≤ (if h : 0 < i ∧ i ≤ s.length then s[i - 1] else -1) := by
      split
      · rename_i h2
        have := spW_sorted s (-1) 0 _ hw (s[i - 1]) (List.getElem_mem _)
        omega
      · omega
    obtain ⟨y, rfl⟩ : ∃ y : Nat, x = y := ⟨x.toNat, by omega⟩
    have hy : y < l.length := by omega
    rw [Int.toNat_natCast, List.getElem?_eq_getElem hy] at hp
    simp only [Option.getD_some] at hp
    have go : Ok (r12_j5 (app 20) (fun v1_ v2_ v3_ v4_ v5_ v6_ v7_ v8_ v9_ v10_ v11_ v12_ v13_ H_ => r12_l3 (app 20) kt K v1_ v2_ v3_ v4_ v5_ v6_ v7_ v8_ v9_ v10_ v11_ v12_ v13_ H_) v lv sv ⟨false, B.n, 0, l.length, l.length, 0⟩ k u m1 y sv n9 k u s.length i false H1) Q := by
      unfold r12_j5
      refine Ok.neg (by simp) (Ok.ck (by dsimp only; omega) (Ok.ld (ldI_get ht1 (by simpa using cntB_get hy)) (Ok.ck (by dsimp only; omega) ?_)))
      have hcl : (F ++ s.take i).count (y : Int) ≤ 200000 := by
        refine Nat.le_trans List.count_le_length ?_
        rw [List.length_append, List.length_take]; omega
      refine Ok.st ht1 (by rw [cntB_len]; simp; exact hy) fun H2 e2 h2 => ?_
      rw [w64_id (by omega) (by omega)] at h2
      have hz : (0 + (y : Int).toNat * 1) = y := by simp
      simp only [hz] at h2 e2
      rw [cntB_set hy] at h2
      have g2 : Gr B H2 := ⟨by rw [e2]; simpa using g1.1, fun c hc => by rw [e2, Hp.get_set_other _ _ (by omega), g1.2 c hc]⟩
      have hl2 := hlv.gr g2
      refine Ok.ck (by omega) (Ok.ld (hl2.ldI (i := y) (j := 0) hy rfl) (Ok.ld (hl2.ldI (i := y) (j := 1) hy rfl) (Ok.ld (hl2.ldI (i := y) (j := 2) hy rfl) ?_)))
      refine r12_l7_ok hv.2 (hr _ (List.getElem_mem hy)) hm1 hp fun hm' => ?_
      rw [w64_succ (by omega)]
      refine ih (mm - 1) (_, _) H2 (by omega) ⟨i + 1, m', rfl, by omega, hm', g2, ?_, ?_⟩
      · rw [htk, ← List.append_assoc]; exact h2
      · rw [hsi]; exact hsw
    refine Ok.neg (by omega) (Ok.neg (by omega) (Ok.ite (fun h0 => ?_) fun _ => go))
    have hi1 : w64 ((i : Int) - 1) = ((i - 1 : Nat) : Int) := by
      rw [w64_id (by omega) (by omega)]; omega
    rw [hi1]
    refine Ok.ck (by omega) (Ok.ld (hu.ldI (i := i - 1) (j := 0) (by omega) rfl) ?_)
    have hlt : s[i - 1] < (y : Int) := by
      have := hcx.1
      rw [dif_pos ⟨by omega, by omega⟩] at this
      exact this
    rw [decide_eq_false (by omega)]
    exact go
  · rw [List.drop_of_length_le (by omega), spW] at hsw
    injection hsw with hsw
    rw [List.take_of_length_le (by omega)] at ht1
    refine Ok.neg (by omega) (Ok.ck (by omega) ?_)
    rw [full hv.2]
    refine Ok.neg (by omega) ?_
    have go : Ok (r12_j6 (app 20) kt v lv sv ⟨false, B.n, 0, l.length, l.length, 0⟩ sv n9 k false H1) Q := by
      unfold r12_j6
      exact Ok.neg (by simp) (kk H1 g1 ht1)
    refine Ok.ite (fun h0 => ?_) fun _ => go
    have hi1 : w64 ((k : Int) - 1) = ((k - 1 : Nat) : Int) := by
      rw [w64_id (by omega) (by omega)]; omega
    rw [hi1]
    have hS1 := hS.gr g1
    refine Ok.ck (by omega) (Ok.ld (hS1.ldSl (i := k - 1) (by omega)) (Ok.bind (r50_ok (hS1.get (by omega)) (hsk.gr g1) (by have := hlen1 _ (List.getElem_mem (show k - 1 < S.length by omega)); omega)) fun c H2 ⟨e2, hc2⟩ => ?_))
    subst e2 hc2
    have := hc (by omega)
    rw [decide_eq_false (by omega)]
    exact go
theorem adjC_at : ∀ (S : List (List Int)), adjC S = true → ∀ k (hk : k < S.length) (h : 0 < k), cmpL (S[k - 1]'(by omega)) S[k] < 0 := by
  intro S
  induction S with
  | nil => intro _ k hk; simp at hk
  | cons a S ih =>
    intro h k hk h0
    cases S with
    | nil => simp at hk; omega
    | cons b S =>
      rw [adjC, Bool.and_eq_true] at h
      by_cases h1 : k = 1
      · subst h1; exact of_decide_eq_true h.1
      · have := ih h.2 (k - 1) (by simp at hk ⊢; omega) (by omega)
        obtain ⟨j, rfl⟩ : ∃ j, k = j + 2 := ⟨k - 2, by omega⟩
        simpa using this
theorem spreadLaw {n : Int} {H : Hp} {w : Sl} {l : List Tr} (hw : SL H w l) (hb : l.length < 9223372036854775808) : Ok (r12 (app 20) n w H) fun b _ => b = true := by
  unfold r12
  refine Ok.bind (r52_ok hw hb) fun w1 H1 ⟨g1, hw1⟩ => ?_
  refine Ok.bind (r51_ok (k := 20) (by omega) hw1 (by simp; omega)) fun r2 H2 ⟨g2, h2⟩ => ?_
  refine Ok.bind (r52_ok (hw.gr (g1.trans g2)) hb) fun w3 H3 ⟨g3, hw3⟩ => ?_
  refine Ok.bind (r53_ok (k := 19) hw3 (by simp; omega)) fun r4 H4 ⟨g4, h4⟩ => ?_
  obtain ⟨x, e⟩ := r2
  dsimp only at h2
  by_cases hok : (3 ≤ n ∧ n ≤ 9) ∧ areF n.toNat (l.take 16) = true
  · rw [if_pos hok] at h2
    rw [if_pos hok.1, hok.2] at h4
    subst h4
    obtain ⟨rfl, vs, hx⟩ := h2
    obtain ⟨v, rfl⟩ : ∃ m : Nat, n = m := ⟨n.toNat, by omega⟩
    have hv : 3 ≤ v ∧ v ≤ 9 := by omega
    rw [Int.toNat_natCast] at hok hx
    have hrf : refF v l = true := by rw [← first16d hv]; exact hok.2
    have T := refF_iff.1 hrf
    have hl12 := T.len hv
    have htk : l.take 16 = l := List.take_of_length_le (by omega)
    rw [htk] at hx
    have hgood := good12_ok hv T
    refine Ok.neg (by simp) (Ok.neg (by simp) ?_)
    unfold r12_j0
    have g14 := g1.trans (g2.trans (g3.trans g4))
    refine Ok.neg (by simp) (Ok.neg (by omega) (Ok.neg (by omega) (Ok.bind (r54_ok hv.2 (hw.gr g14) (by omega)) fun b H5 ⟨g5, hb5⟩ => ?_)))
    subst hb5
    rw [hrf]
    unfold r12_j1
    have hwl := hw.len
    refine Ok.neg (by simp) (Ok.ck (by omega) (Ok.lt ?_))
    have hS := hx.gr (g3.trans (g4.trans g5))
    have hlv := hw.gr (g14.trans g5)
    have hSl := hS.len
    rw [hwl, hSl, Int.toNat_natCast, Nat.mul_one, cntB_nil]
    have hS4096 := spF_len12 (v := v) (f := 13) (q := []) (b := 0) (Nat.zero_le l.length) hl12
    have hSels := spF_els (v := v) (l := l) 13 [] 0 0 (by simp) (by omega)
    generalize spF v l 13 [] 0 0 = S at *
    obtain ⟨hg1, hg2, hg9, hgl⟩ := hgood
    have gA := Gr.push H5 (.cells (cntB l.length []) false)
    have cA : (H5.push (.cells (cntB l.length []) false)).get H5.n = some (.cells (cntB l.length []) false) := by simp
    generalize H5.push (.cells (cntB l.length []) false) = A at *
    clear hwl
    refine Ok.loop (L := fun K (s : Int) H' => r12_l2 (app 20) K v w x ⟨false, H5.n, 0, l.length, l.length, 0⟩ x S.length s H') (fun m s H' => ∃ i : Nat, s = i ∧ i + m = S.length ∧ Gr H5 H' ∧ H'.get H5.n = some (.cells (cntB l.length (S.take i).flatten) false)) ?_ FUEL S.length 0 A (by unfold FUEL; omega) ⟨0, rfl, by omega, gA, by simpa using cA⟩
    rintro K m s H6 ⟨i, rfl, hm, g6, hc6⟩ ih
    try dsimp only at *
    rw [r12_l2]
    by_cases h : i < S.length
    · have hwi := hg1 _ (List.getElem_mem h)
      refine Ok.pos (by omega) (Ok.ck (by omega) (Ok.ld ((hS.gr g6).ldSl (i := i) h) ?_))
      have hfl : (S.take i).flatten.length ≤ 100000 := by
        have key : ∀ (L : List (List Int)), (∀ s ∈ L, s.length ≤ 12) → L.flatten.length ≤ 12 * L.length := by
          intro L
          induction L with
          | nil => intro _; simp
          | cons a L ih => intro h; have h1 := h a (by simp); have h2 := ih (fun s hs => h s (by simp [hs])); simp only [List.flatten_cons, List.length_append, List.length_cons]; omega
        have := key (S.take i) (fun s hs => by have := hSels s (List.mem_of_mem_take hs); omega)
        rw [List.length_take] at this
        omega
      refine r12_l3_ok hv T.rng hl12 hlv hS h (by have := hSels _ (List.getElem_mem h); omega) hwi (fun h0 => adjC_at S hg2 i h h0) hS4096 (fun s hs => by have := hSels s hs; omega) hfl g6 hc6 fun H7 g7 hc7 => ?_
      rw [w64_succ (by omega)]
      refine ih (m - 1) _ H7 (by omega) ⟨i + 1, rfl, by omega, g7, ?_⟩
      rw [List.take_succ_eq_append_getElem h, List.flatten_append]
      simpa using hc7
    · rw [List.take_of_length_le (by omega)] at hc6
      refine Ok.neg (by omega) ?_
      clear ih
      obtain ⟨H', ha⟩ := awake20d H6
      by_cases h9 : v = 9
      · obtain ⟨hS4, hcn⟩ := hg9 h9
        refine Ok.neg (by omega) ?_
        refine Ok.loop (L := fun K (s : Int) H' => r12_l4 (app 20) K x ⟨false, H5.n, 0, l.length, l.length, 0⟩ l.length s H') (fun m s H' => H' = H6 ∧ ∃ i : Nat, s = i ∧ i + m = l.length) ?_ FUEL l.length 0 H6 (by unfold FUEL; omega) ⟨rfl, 0, rfl, by omega⟩
        rintro K m s H7 ⟨rfl, j, rfl, hm⟩ ih
        try dsimp only at *
        rw [r12_l4]
        by_cases hj : j < l.length
        · refine Ok.pos (by omega) (Ok.ck (by dsimp only; omega) (Ok.ld (ldI_get hc6 (by simpa using cntB_get hj)) ?_))
          rw [hcn j hj]
          refine Ok.neg (by simp) ?_
          rw [w64_succ (by omega)]
          exact ih (m - 1) _ _ (by omega) ⟨rfl, j + 1, rfl, by omega⟩
        · exact Ok.neg (by omega) (Ok.pos (by omega) (Ok.ld ha (Ok.ret rfl)))
      · have hg3 := hgl h9
        refine Ok.pos (by omega) (Ok.pos ?_ (Ok.ld ha (Ok.ret rfl)))
        rw [hSl, hg3]
        have : v = 3 ∨ v = 4 ∨ v = 5 ∨ v = 6 ∨ v = 7 ∨ v = 8 := by omega
        rcases this with rfl | rfl | rfl | rfl | rfl | rfl <;> decide +kernel
  · rw [if_neg hok] at h2
    injection h2 with hx he
    subst hx he
    refine Ok.pos (by simp) ?_
    unfold r12_j0
    obtain ⟨H', ha⟩ := awake20d H4
    refine Ok.pos rfl (Ok.pos rfl ?_)
    by_cases hn : 3 ≤ n ∧ n ≤ 9
    · rw [if_pos hn] at h4
      subst h4
      have : areF n.toNat (l.take 16) = false := by
        rw [Bool.eq_false_iff]; exact fun c => hok ⟨hn, c⟩
      rw [this]
      exact Ok.pos rfl (Ok.neg (by simp) (Ok.ld ha (Ok.ret rfl)))
    · rw [if_neg hn] at h4
      subst h4
      exact Ok.neg (by simp) (Ok.pos rfl (Ok.ld ha (Ok.ret rfl)))
theorem lawCall12 (H : Hp) (xs : List AV) (_ : NoOwn H) (h : RdAs H [.int .i64, .sl (.rep 3 (.int .i64))] xs) : ∃ H1, CallSim Try.prog 12 xs H (.bool true) H1 := by
  obtain ⟨x, _, rfl, hx, y, _, rfl, hy, rfl⟩ := h
  obtain ⟨a0, e0, _⟩ : Rd H (.int .i64) [x] := hx
  injection e0 with e0
  subst e0
  obtain ⟨v, l, rfl, hv, hb⟩ := rd_sl (enc_rep3 enc_int) hy
  obtain ⟨b, H1, h1, rfl⟩ := spreadLaw (n := a0) hv (by unfold maxLen at hb; omega)
  exact ⟨H1, sim12 (happ := appSim 20) h1⟩
end Go.Lt.P8
