/- PLAIN LAWS OF WHAT IS COMPUTED, for the statement 'DealsCorners'. Nothing is asked of the input. -/
import Derived.Test.YtficeemoekikdaaU7VEp
import Derived.Test.YtficeemoekikdaaU7VLm
import Derived.Test.YtficeemoekikdaaU7VSa
import Derived.Test.YtficeemoekikdaaLB
set_option linter.unusedVariables false
set_option linter.unusedSimpArgs false
namespace Go.Lt.P5
open Go Go.Lt Go.Proofs
theorem awakeD (k : Nat) (H : Hp) : appA k 19 [] H = some (.bool true, H) := rfl
/-- Contains -/
theorem r32_ok {H : Hp} {v : Sl} {l : List Pr} (hv : SL H v l) (hb : l.length ≤ 1000) (a b : Int) : Ok (r32 v a b H) fun r H' => Gr H H' ∧ r = decide ((a, b) ∈ l) := by
  unfold r32
  refine Ok.lt ?_
  have gp := Gr.push H (.cells [.int .i64 a, .int .i64 b] false)
  have hg : (H.push (.cells [.int .i64 a, .int .i64 b] false)).get H.n = some (.cells [.int .i64 a, .int .i64 b] false) := Hp.get_push_new _ _
  have hv1 := hv.gr gp
  generalize H.push (.cells [.int .i64 a, .int .i64 b] false) = A at *
  refine Ok.ld (ldI_get hg rfl) (Ok.ld (ldI_get hg rfl) (Ok.bind (P := fun r H' => Gr A H' ∧ (0 ≤ r ↔ (a, b) ∈ l)) ?_ fun r H' h => Ok.ret ⟨gp.trans h.1, decide_eq_decide.2 h.2⟩))
  unfold r58
  have gq := Gr.push A (.cells [.int .i64 a, .int .i64 b] false)
  have hg2 : (A.push (.cells [.int .i64 a, .int .i64 b] false)).get A.n = some (.cells [.int .i64 a, .int .i64 b] false) := Hp.get_push_new _ _
  have hv2 := hv1.gr gq
  refine Ok.lt ?_
  generalize A.push (.cells [.int .i64 a, .int .i64 b] false) = C at *
  have hlen := hv.len
  rw [hlen]
  refine Ok.loop (L := fun K (s : Int) H2 => r58_l0 K v A.n l.length s H2) (fun m s H' => H' = C ∧ ∃ i : Nat, s = i ∧ i + m = l.length ∧ (a, b) ∉ l.take i) ?_ FUEL l.length 0 C (by unfold FUEL; omega) ⟨rfl, 0, rfl, by omega, by simp⟩
  rintro K m s H1 ⟨rfl, i, rfl, hm, ht⟩ ih
  try dsimp only at *
  rw [r58_l0]
  by_cases h : i < l.length
  · refine Ok.pos (by omega) (Ok.ld (ldI_get hg2 rfl) (Ok.ld (ldI_get hg2 rfl) (Ok.ck (by omega) (Ok.ld (hv2.ldI (i := i) (j := 0) h rfl) (Ok.ld (hv2.ldI (i := i) (j := 1) h rfl) ?_)))))
    rw [keqs_two]
    refine Ok.ite (fun hc => ?_) fun hc => ?_
    · have := of_decide_eq_true hc
      exact Ok.ret ⟨gq, ⟨fun _ => by rw [this]; exact List.getElem_mem h, fun _ => by omega⟩⟩
    · rw [w64_succ (by omega)]
      refine ih (m - 1) _ _ (by omega) ⟨rfl, i + 1, rfl, by omega, ?_⟩
      rw [List.take_succ_eq_append_getElem h, List.mem_append]
      rintro (c | c)
      · exact ht c
      · rw [List.mem_singleton] at c
        exact hc (decide_eq_true c)
  · rw [List.take_of_length_le (by omega)] at ht
    exact Ok.neg (by omega) (Ok.ret ⟨gq, by simp [ht]⟩)
/-- what the edge is -/
structure EdgeP (l e : List Pr) : Prop where
  pos : 0 < e.length
  le : e.length ≤ 8
  mem : ∀ i, i < e.length → at' e i ∈ l
  step : ∀ i, i + 1 < e.length → (at' e i).1 < (at' e (i + 1)).1 ∧ (at' e (i + 1)).2 < (at' e i).2
  turn : ∀ i, i + 2 < e.length → turn (at' e i) (at' e (i + 1)) (at' e (i + 2)) < 0
  last : ∀ i, i < e.length → ∀ y ∈ l, ¬ dom (at' e i) y
  out : ∀ y ∈ l, y.2 ≤ (at' e 0).2 ∧ y.1 ≤ (at' e (e.length - 1)).1
theorem edgeP {q l : List Pr} (ho : offP l) (hp : q.Perm l) (hs : q.Pairwise lexP) : EdgeP l (chainF q).reverse := by
  have hpl := hp.length_eq
  have h1 := ho.1
  have h8 := ho.2.1
  have hne : q ≠ [] := by intro e; rw [e] at hpl; simp at hpl; omega
  have hcl := chainF_len q
  have hc := chain_ok hs
  have hn := hc.ne hne
  generalize chainF q = s at *
  have hpos := List.length_pos_iff.2 hn
  have hl : s.reverse.length = s.length := by simp
  have hin : ∀ j, j < s.length → at' s j ∈ l := fun j hj => hp.mem_iff.1 (hc.sub _ (at_mem hj))
  refine ⟨by omega, by omega, fun i hi => ?_, fun i hi => ?_, fun i hi => ?_, fun i hi y hy => ?_, fun y hy => ?_⟩
  · rw [at_rev (by omega)]; exact hin _ (by omega)
  · rw [at_rev (by omega), at_rev (by omega)]
    have := conv_at s hc.cv (s.length - 1 - (i + 1)) (by omega)
    rw [show s.length - 1 - (i + 1) + 1 = s.length - 1 - i by omega] at this
    exact this
  · rw [at_rev (by omega), at_rev (by omega), at_rev (by omega)]
    have := conv_turn s hc.cv (s.length - 1 - (i + 2)) (by omega)
    rw [show s.length - 1 - (i + 2) + 2 = s.length - 1 - i by omega, show s.length - 1 - (i + 2) + 1 = s.length - 1 - (i + 1) by omega] at this
    exact this
  · rw [at_rev (by omega)]
    exact (corner_last hp hc (show s.length - 1 - i < s.length by omega) y hy).1
  · rw [hl, at_rev (by omega), at_rev (by omega), Nat.sub_zero, Nat.sub_self]
    refine ⟨und_last s (hc.ud y (hp.mem_iff.2 hy)) hn, ?_⟩
    match s, hn, hc with
    | t :: r, _, hc => exact (hc.top t r rfl y (hp.mem_iff.2 hy)).1
theorem fr_one {x : Int} (h : 0 ≤ x ∧ x ≤ 30) : fr (x, 1) := ⟨by show (1 : Int) ≤ 1; omega, by show (1 : Int) ≤ 1000000; omega, h.1, by dsimp only; omega, by simp⟩
theorem is_corner {q l : List Pr} {x : Pr} (hp : q.Perm l) (hs : q.Pairwise lexP) (hne : q ≠ []) (hx : x ∈ l) : ∀ t ∈ linesF (chainF q).reverse, sat t (x.1, 1) (x.2, 1) := by
  intro t ht
  have := line_limit hp hs hne t ht
  unfold limits at this
  rw [List.mem_filter] at this
  have := of_decide_eq_true this.2 x hx
  unfold sat
  dsimp only
  omega
section
variable {l e : List Pr} {H : Hp} {v w : Sl}
theorem r7_l3_ok (hv : SL H v l) (hw : SL H w e) (hE : EdgeP l e) (hb : l.length ≤ 8) : Ok (r7_l3 (appA 20) FUEL w v l.length 0 H) fun r _ => r = true := by
  have hlen := hv.len
  have hwl := hw.len
  have h8 := hE.le
  have hps := hE.pos
  refine Ok.loop (L := fun K (s : Int) H2 => r7_l3 (appA 20) K w v l.length s H2) (fun m s H' => Gr H H' ∧ ∃ i : Nat, s = i ∧ i + m = l.length) ?_ FUEL l.length 0 H (by unfold FUEL; omega) ⟨.refl _, 0, rfl, by omega⟩
  rintro K m s H1 ⟨g1, i, rfl, hm⟩ ih
  try dsimp only at *
  rw [r7_l3]
  by_cases h : i < l.length
  · have hg := hv.gr g1
    obtain ⟨D, hD, hD', gD, nD⟩ := sts2 H1 (.int .i64 l[i].1) (.int .i64 l[i].2) (.int .i64 0) (.int .i64 0)
    have hwD := hw.gr (g1.trans gD)
    have ho := hE.out _ (List.getElem_mem h)
    have em : w64 ((w.len : Int) - 1) = ((e.length - 1 : Nat) : Int) := by rw [w64_id (by omega) (by omega)]; omega
    have L1 : D.ldI .i64 w.b ((w.o + (0 : Int).toNat * 2) + (1 : Int).toNat * 1) = some (at' e 0).2 := by rw [← at_eq hps]; exact hwD.ldI (i := 0) (j := 1) hps rfl
    have L2 : D.ldI .i64 w.b ((w.o + (e.length - 1) * 2) + (0 : Int).toNat * 1) = some (at' e (e.length - 1)).1 := by rw [← at_eq (by omega)]; exact hwD.ldI (i := e.length - 1) (j := 0) (by omega) rfl
    rw [em]
    simp only [Int.toNat_natCast]
    refine Ok.pos (by omega) (Ok.ck (by omega) (Ok.ld (hg.ldI (i := i) (j := 0) h rfl) (Ok.ld (hg.ldI (i := i) (j := 1) h rfl) (Ok.ld hD (Ok.ld (ldI_get hD' rfl) (Ok.ck (by omega) (Ok.ld L1 (Ok.neg (by omega) (Ok.ld (ldI_get hD' rfl) (Ok.ck (by omega) (Ok.ld L2 ?_)))))))))))
    rw [decide_eq_false (by omega)]
    unfold r7_j8
    refine Ok.neg (by simp) ?_
    rw [w64_succ (by omega)]
    exact ih (m - 1) _ D (by omega) ⟨g1.trans gD, i + 1, rfl, by omega⟩
  · exact Ok.neg (by omega) (Ok.ld (awakeD 20 _) (Ok.ld rfl (Ok.ret rfl)))
/-- a corner against all offers, and Is -/
theorem r7_j5_ok {H1 : Hp} {xb i : Nat} {vv : Sl} {ln iv : Int} {kt1 : Sl → Sl → Sl → Int → Int → Hp → Option (Bool × Hp)} (ho : offP l) (hv : SL H v l) (g : Gr H H1) (hx : at' e i ∈ l) (hlast : ∀ y ∈ l, ¬ dom (at' e i) y) (hxb : H1.get xb = some (.cells [.int .i64 (at' e i).1, .int .i64 (at' e i).2] false))
    (k : ∀ H', Gr H H' → Ok (kt1 v w vv ln (w64 (iv + 1)) H') fun r _ => r = true) : Ok (r7_j5 (appA 20) kt1 v w xb vv ln iv H1) fun r _ => r = true := by
  unfold r7_j5
  have hlen := hv.len
  have h8 := ho.2.1
  have hl1 := ho.1
  rw [hlen]
  refine Ok.loop (L := fun K (s : Int) H2 => r7_l4 (appA 20) kt1 K v w xb vv ln iv v l.length s H2) (fun m s H' => Gr H H' ∧ Gr H1 H' ∧ ∃ j : Nat, s = j ∧ j + m = l.length) ?_ FUEL l.length 0 H1 (by unfold FUEL; omega) ⟨g, .refl _, 0, rfl, by omega⟩
  rintro K m s H2 ⟨g2, g12, j, rfl, hm⟩ ih
  try dsimp only at *
  rw [r7_l4]
  have hx2 : H2.get xb = some (.cells [.int .i64 (at' e i).1, .int .i64 (at' e i).2] false) := by rw [g12.2 _ (Hp.get_lt hxb)]; exact hxb
  by_cases h : j < l.length
  · have hg := hv.gr g2
    have hd := hlast _ (List.getElem_mem h)
    obtain ⟨D, hD, hD', gD, nD⟩ := sts2 H2 (.int .i64 l[j].1) (.int .i64 l[j].2) (.int .i64 0) (.int .i64 0)
    have hxD : D.get xb = some (.cells [.int .i64 (at' e i).1, .int .i64 (at' e i).2] false) := by rw [gD.2 _ (Hp.get_lt hx2)]; exact hx2
    have go : Ok (r7_j6 (appA 20) (fun v1_ v2_ v3_ v4_ v5_ v6_ v7_ v8_ v9_ H_ => r7_l4 (appA 20) kt1 K v1_ v2_ v3_ v4_ v5_ v6_ v7_ v8_ v9_ H_) v w xb vv ln iv v l.length j false D) fun r _ => r = true := by
      unfold r7_j6
      refine Ok.neg (by simp) ?_
      rw [w64_succ (by omega)]
      exact ih (m - 1) _ D (by omega) ⟨g2.trans gD, g12.trans gD, j + 1, rfl, by omega⟩
    refine Ok.pos (by omega) (Ok.ck (by omega) (Ok.ld (hg.ldI (i := j) (j := 0) h rfl) (Ok.ld (hg.ldI (i := j) (j := 1) h rfl) (Ok.ld hD (Ok.ld (ldI_get hD' rfl) (Ok.ld (ldI_get hD' rfl) (Ok.ld (ldI_get hxD rfl) (Ok.ld (ldI_get hxD rfl) ?_))))))))
    rw [keqs_two]
    refine Ok.ite (fun _ => go) fun c => ?_
    have hne : l[j] ≠ at' e i := fun q => c (decide_eq_true q)
    refine Ok.ld (ldI_get hD' rfl) (Ok.ld (ldI_get hxD rfl) (Ok.ite (fun c1 => Ok.ld (ldI_get hD' rfl) (Ok.ld (ldI_get hxD rfl) ?_)) fun _ => go))
    rw [decide_eq_false (fun c2 => hd ⟨hne, c1, c2⟩)]
    exact go
  · refine Ok.neg (by omega) (Ok.bind (r24_ok (hv.gr g2) (by omega)) fun u A ⟨gA, hu, _⟩ => ?_)
    rw [List.take_of_length_le (by omega)] at hu
    have hxA : A.get xb = some (.cells [.int .i64 (at' e i).1, .int .i64 (at' e i).2] false) := by rw [gA.2 _ (Hp.get_lt hx2)]; exact hx2
    refine Ok.ld (ldI_get hxA rfl) (Ok.ld (ldI_get hxA rfl) (Ok.bind (r23_ok (k := 18) hu (by omega) (at' e i).1 1 (at' e i).2 1) fun r B ⟨gB, hr⟩ => ?_))
    have hn := ho.2.2.1 _ hx
    unfold num at hn
    rw [if_pos ⟨ho, fr_one ⟨hn.1, hn.2.1⟩, fr_one ⟨hn.2.2.1, hn.2.2.2⟩⟩] at hr
    obtain ⟨q, hp, hs, rfl⟩ := hr
    have hpl := hp.length_eq
    have hne : q ≠ [] := by intro e; rw [e] at hpl; simp at hpl; omega
    rw [decide_eq_true (is_corner hp hs hne hx)]
    refine Ok.ck (ldI_get hx2 rfl) (Ok.ck (ldI_get hx2 rfl) (Ok.pos rfl ?_))
    unfold r7_j7
    exact Ok.neg (by simp) (k B (g2.trans (gA.trans gB)))
/-- the corners -/
theorem r7_l1_ok (ho : offP l) (hv : SL H v l) (hw : SL H w e) (hE : EdgeP l e) : Ok (r7_l1 (appA 20) FUEL v w w e.length 0 H) fun r _ => r = true := by
  have hlen := hv.len
  have hwl := hw.len
  have h8 := hE.le
  have hl8 := ho.2.1
  refine Ok.loop (L := fun K (s : Int) H2 => r7_l1 (appA 20) K v w w e.length s H2) (fun m s H' => Gr H H' ∧ ∃ i : Nat, s = i ∧ i + m = e.length) ?_ FUEL e.length 0 H (by unfold FUEL; omega) ⟨.refl _, 0, rfl, by omega⟩
  rintro K m s H1 ⟨g1, i, rfl, hm⟩ ih
  try dsimp only at *
  rw [r7_l1]
  by_cases h : i < e.length
  · have hg := hw.gr g1
    have hmem := hE.mem i h
    obtain ⟨D, hD, hD', gD, nD⟩ := sts2 H1 (.int .i64 e[i].1) (.int .i64 e[i].2) (.int .i64 0) (.int .i64 0)
    refine Ok.pos (by omega) (Ok.ck (by omega) (Ok.ld (hg.ldI (i := i) (j := 0) h rfl) (Ok.ld (hg.ldI (i := i) (j := 1) h rfl) (Ok.ld hD (Ok.ld (ldI_get hD' rfl) (Ok.ld (ldI_get hD' rfl) ?_))))))
    have gB := g1.trans gD
    rw [at_eq h] at hD' ⊢
    refine Ok.bind (r32_ok (hv.gr gB) (by omega) _ _) fun r B ⟨gB2, hr⟩ => ?_
    subst hr
    rw [decide_eq_true (show ((at' e i).1, (at' e i).2) ∈ l from hmem)]
    refine Ok.pos rfl ?_
    have gX := gB.trans gB2
    have hxB : B.get H1.n = some (.cells [.int .i64 (at' e i).1, .int .i64 (at' e i).2] false) := by rw [gB2.2 _ (Hp.get_lt hD')]; exact hD'
    have kk : ∀ H', Gr H H' → Ok (r7_l1 (appA 20) K v w w e.length (w64 ((i : Int) + 1)) H') fun r _ => r = true := fun H' g' => by
      rw [w64_succ (by omega)]
      exact ih (m - 1) _ H' (by omega) ⟨g', i + 1, rfl, by omega⟩
    have hwB := hw.gr gX
    -- it goes down more and more
    have j2 : Ok (r7_j2 (appA 20) (fun v1_ v2_ v3_ v4_ v5_ H_ => r7_l1 (appA 20) K v1_ v2_ v3_ v4_ v5_ H_) v w i H1.n w e.length i false B) fun r _ => r = true := by
      unfold r7_j2
      refine Ok.neg (by simp) ?_
      by_cases c : 1 < i
      · have e2 : w64 ((i : Int) - 2) = ((i - 2 : Nat) : Int) := by rw [w64_id (by omega) (by omega)]; omega
        have e1 : w64 ((i : Int) - 1) = ((i - 1 : Nat) : Int) := by rw [w64_id (by omega) (by omega)]; omega
        rw [e1, e2]
        simp only [Int.toNat_natCast]
        have ga := Gr.push B (.cells [.int .i64 0, .int .i64 0] false)
        have na : (B.push (.cells [.int .i64 0, .int .i64 0] false)).n = B.n + 1 := by simp
        have hA0 : (B.push (.cells [.int .i64 0, .int .i64 0] false)).get B.n = some (.cells [.int .i64 0, .int .i64 0] false) := Hp.get_push_new _ _
        have hwa := hwB.gr ga
        generalize B.push (.cells [.int .i64 0, .int .i64 0] false) = A at *
        have gb := Gr.push A (.cells [.int .i64 0, .int .i64 0] false)
        have hC0 : (A.push (.cells [.int .i64 0, .int .i64 0] false)).get B.n = some (.cells [.int .i64 0, .int .i64 0] false) := by rw [gb.2 _ (Hp.get_lt hA0)]; exact hA0
        have hC1 : (A.push (.cells [.int .i64 0, .int .i64 0] false)).get A.n = some (.cells [.int .i64 0, .int .i64 0] false) := Hp.get_push_new _ _
        have hwb := hwa.gr gb
        generalize A.push (.cells [.int .i64 0, .int .i64 0] false) = C at *
        obtain ⟨E, a1, a2, a3, a4⟩ := sts_blk [.int .i64 (at' e (i - 2)).1, .int .i64 (at' e (i - 2)).2] 0 C _ hC0 (by simp)
        have hE1 : E.get A.n = some (.cells [.int .i64 0, .int .i64 0] false) := by rw [a4 _ (by omega)]; exact hC1
        have gBE : Gr B E := ⟨by rw [a3]; exact (ga.trans gb).1, fun x hx => by rw [a4 x (by omega)]; exact (ga.trans gb).2 x hx⟩
        obtain ⟨G, b1, b2, b3, b4⟩ := sts_blk [.int .i64 (at' e (i - 1)).1, .int .i64 (at' e (i - 1)).2] 0 E _ hE1 (by simp)
        have gBG : Gr B G := ⟨by rw [b3]; exact gBE.1, fun x hx => by rw [b4 x (by omega)]; exact gBE.2 x hx⟩
        have hG0 : G.get B.n = some (.cells [.int .i64 (at' e (i - 2)).1, .int .i64 (at' e (i - 2)).2] false) := by rw [b4 _ (by omega)]; exact a2
        have hG1 : G.get A.n = some (.cells [.int .i64 (at' e (i - 1)).1, .int .i64 (at' e (i - 1)).2] false) := b2
        have hGx : G.get H1.n = some (.cells [.int .i64 (at' e i).1, .int .i64 (at' e i).2] false) := by rw [gBG.2 _ (Hp.get_lt hxB)]; exact hxB
        have M1 : ∀ X, SL X w e → X.ldI .i64 w.b (w.o + (i - 2) * 2) = some (at' e (i - 2)).1 := fun X hX => by rw [← at_eq (by omega)]; exact hX.ldI (i := i - 2) (j := 0) (by omega) rfl
        have M2 : ∀ X, SL X w e → X.ldI .i64 w.b ((w.o + (i - 2) * 2) + 1) = some (at' e (i - 2)).2 := fun X hX => by rw [← at_eq (by omega)]; exact hX.ldI (i := i - 2) (j := 1) (by omega) rfl
        have M3 : ∀ X, SL X w e → X.ldI .i64 w.b (w.o + (i - 1) * 2) = some (at' e (i - 1)).1 := fun X hX => by rw [← at_eq (by omega)]; exact hX.ldI (i := i - 1) (j := 0) (by omega) rfl
        have M4 : ∀ X, SL X w e → X.ldI .i64 w.b ((w.o + (i - 1) * 2) + 1) = some (at' e (i - 1)).2 := fun X hX => by rw [← at_eq (by omega)]; exact hX.ldI (i := i - 1) (j := 1) (by omega) rfl
        have hwE := hwB.gr gBE
        refine Ok.pos (by omega) (Ok.ck (by omega) (Ok.ld (M1 _ hwB) (Ok.ld (M2 _ hwB) (Ok.ck (by omega) (Ok.ld (M3 _ hwB) (Ok.ld (M4 _ hwB) (Ok.ld a1 (Ok.ld b1 (Ok.ck (M3 _ hwa) (Ok.ck (M4 _ hwa) (Ok.ck (M3 _ hwb) (Ok.ck (M4 _ hwb) (Ok.ck (M3 _ hwE) (Ok.ck (M4 _ hwE) ?_))))))))))))))
        refine Ok.ld (ldI_get hG1 rfl) (Ok.ld (ldI_get hG0 rfl) (Ok.ld (ldI_get hGx rfl) (Ok.ld (ldI_get hG1 rfl) (Ok.ld (ldI_get hG1 rfl) (Ok.ld (ldI_get hG0 rfl) (Ok.ld (ldI_get hGx rfl) (Ok.ld (ldI_get hG1 rfl) ?_)))))))
        have ht := hE.turn (i - 2) (by omega)
        rw [show i - 2 + 1 = i - 1 by omega, show i - 2 + 2 = i by omega] at ht
        have n0 := ho.2.2.1 _ (hE.mem (i - 2) (by omega))
        have n1 := ho.2.2.1 _ (hE.mem (i - 1) (by omega))
        have n2 := ho.2.2.1 _ hmem
        unfold num at n0 n1 n2
        unfold turn at ht
        generalize at' e (i - 2) = x0 at *
        generalize at' e (i - 1) = x1 at *
        generalize hx2 : at' e i = x2 at *
        have c1 := mul_bd (A := 30) (B := 30) (x := x1.1 - x0.1) (y := x2.2 - x1.2) (by omega) (by omega) (by omega) (by omega)
        have c2 := mul_bd (A := 30) (B := 30) (x := x1.2 - x0.2) (y := x2.1 - x1.1) (by omega) (by omega) (by omega) (by omega)
        rw [w64_id (n := x1.1 - x0.1) (by omega) (by omega), w64_id (n := x2.2 - x1.2) (by omega) (by omega), w64_id (n := x1.2 - x0.2) (by omega) (by omega), w64_id (n := x2.1 - x1.1) (by omega) (by omega), w64_id (n := (x1.1 - x0.1) * (x2.2 - x1.2)) (by omega) (by omega), w64_id (n := (x1.2 - x0.2) * (x2.1 - x1.1)) (by omega) (by omega), w64_id (by omega) (by omega)]
        refine Ok.neg (by omega) (r7_j5_ok (e := e) (i := i) ho hv (gX.trans gBG) (by rw [hx2]; exact hmem) (by rw [hx2]; have := hE.last i h; rw [hx2] at this; exact this) (by rw [hx2]; exact hGx) kk)
      · exact Ok.neg (by omega) (r7_j5_ok (e := e) (i := i) ho hv gX hmem (hE.last i h) hxB kk)
    by_cases c : 0 < i
    · have e1 : w64 ((i : Int) - 1) = ((i - 1 : Nat) : Int) := by rw [w64_id (by omega) (by omega)]; omega
      rw [e1]
      simp only [Int.toNat_natCast]
      have M3 : B.ldI .i64 w.b ((w.o + (i - 1) * 2) + (0 : Int).toNat * 1) = some (at' e (i - 1)).1 := by rw [← at_eq (by omega)]; exact hwB.ldI (i := i - 1) (j := 0) (by omega) rfl
      have M4 : B.ldI .i64 w.b ((w.o + (i - 1) * 2) + (1 : Int).toNat * 1) = some (at' e (i - 1)).2 := by rw [← at_eq (by omega)]; exact hwB.ldI (i := i - 1) (j := 1) (by omega) rfl
      have hst := hE.step (i - 1) (by omega)
      rw [show i - 1 + 1 = i by omega] at hst
      refine Ok.pos (by omega) (Ok.ck (by omega) (Ok.ld M3 (Ok.ld (ldI_get hxB rfl) (Ok.neg (by omega) (Ok.ck (by omega) (Ok.ld M4 (Ok.ld (ldI_get hxB rfl) ?_)))))))
      rw [decide_eq_false (by omega)]
      exact j2
    · exact Ok.neg (by omega) j2
  · refine Ok.neg (by omega) ?_
    rw [hlen]
    exact r7_l3_ok (hv.gr g1) (hw.gr g1) hE (by omega)
end
theorem cornersLaw {H : Hp} {v : Sl} {l : List Pr} (hv : SL H v l) (hb : l.length < 9223372036854775808) : Ok (r7 (appA 20) v H) fun r _ => r = true := by
  unfold r7
  have ht : (l.take 11).length ≤ 1000 := by rw [List.length_take]; omega
  refine Ok.bind (r24_ok hv hb) fun w A ⟨gA, hw, _⟩ => ?_
  refine Ok.bind (P := fun r H' => Gr A H' ∧ if offP l then ∃ q, q.Perm l ∧ q.Pairwise lexP ∧ SL H' r.1 (chainF q).reverse ∧ r.2 = 0 else r = (⟨true, 0, 0, 0, 0, 0⟩, 2)) ?_ fun r B ⟨gB, hr⟩ => ?_
  · unfold r29
    refine Ok.bind (r52_ok hw ht) fun b C ⟨gC, hbC⟩ => ?_
    subst hbC
    by_cases ho : offP l
    · have hl8 := ho.2.1
      rw [List.take_of_length_le (by omega)] at hw ⊢
      rw [decide_eq_true ho]
      simp only [if_pos ho]
      exact Ok.pos (by simp) (Ok.bind (r56_ok (k := 18) (hw.gr gC) ho) fun u D ⟨gD, q, h1, h2, h3⟩ => Ok.ret ⟨gC.trans gD, q, h1, h2, h3, rfl⟩)
    · have ho' : ¬ offP (l.take 11) := fun c => ho ((off11 l).1 c)
      rw [decide_eq_false ho']
      simp only [if_neg ho]
      exact Ok.neg (by simp) (Ok.ret ⟨gC, rfl⟩)
  have gX := gA.trans gB
  by_cases ho : offP l
  · rw [if_pos ho] at hr
    obtain ⟨q, hperm, hlex, hs, he⟩ := hr
    obtain ⟨u, z⟩ := r
    dsimp only at he hs ⊢
    subst he
    refine Ok.neg (by simp) (Ok.bind (r26_ok (hv.gr gX) hb) fun o C ⟨gC, hoo⟩ => ?_)
    subst hoo
    rw [decide_eq_true ho]
    have hE := edgeP ho hperm hlex
    have hul := hs.len
    have hps := hE.pos
    unfold r7_j0
    refine Ok.neg (by simp) (Ok.neg (by omega) ?_)
    rw [hul]
    exact r7_l1_ok ho (hv.gr (gX.trans gC)) (hs.gr gC) hE
  · rw [if_neg ho] at hr
    subst hr
    refine Ok.pos (by simp) ?_
    unfold r7_j0
    exact Ok.pos rfl (Ok.pos rfl (Ok.ld (awakeD 20 _) (Ok.ld rfl (Ok.ret rfl))))
theorem lawCall7 (H : Hp) (xs : List AV) (_ : NoOwn H) (h : RdAs H [.sl (.rep 2 (.int .i64))] xs) : ∃ H1, CallSim Try.prog 7 xs H (.bool true) H1 := by
  obtain ⟨x, _, rfl, hx, rfl⟩ := h
  obtain ⟨v, l, rfl, hv, hb⟩ := rd_sl (enc_rep2 enc_int) hx
  obtain ⟨r, H1, h1, rfl⟩ := cornersLaw hv (by unfold maxLen at hb; omega)
  exact ⟨H1, sim7 (happ := appASim 20) h1⟩
end Go.Lt.P5
