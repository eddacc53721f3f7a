/- PLAIN LAWS OF WHAT IS COMPUTED, for the statement 'CutsCuts'. Nothing is asked of the input. -/
import Derived.Test.YteefkljbmjjncaaU5WPl
import Derived.Test.YteefkljbmjjncaaU5WMu
import Derived.Test.YteefkljbmjjncaaU5WPa
import Derived.Test.YteefkljbmjjncaaLB
set_option linter.unusedVariables false
set_option linter.unusedSimpArgs false
namespace Go.Lt.P2
open Go Go.Lt Go.Proofs
theorem awakeB (k : Nat) (H : Hp) : appA k 21 [] H = some (.bool true, H) := rfl
def okP (p : List Sd) (m : List Pr) : Prop := plateP p ∧ m.length = p.length ∧ mulP m
instance (p : List Sd) (m : List Pr) : Decidable (okP p m) := by unfold okP; infer_instance
/-- what cut says to a plate and its multipliers -/
def CutIs (p : List Sd) (m : List Pr) (r : Int × Int × Int × Bool) : Prop := ∃ s0 s1 s2, PI (lcmF m) (TT (lcmF m) p m 0 p.length) p.length s0 ∧ PI (lcmF m) (TT (lcmF m) p m 1 p.length) p.length s1 ∧ PI (lcmF m) (TT (lcmF m) p m 2 p.length) p.length s2 ∧ CutR s0 s1 s2 r
section
variable {p : List Sd} {m : List Pr} {H : Hp} {vp vm : Sl}
theorem lcm_ok (hp : SL H vp p) (hm : SL H vm m) (h : okP p m) : 0 < lcmF m ∧ ∀ f ∈ m, f.2 ∣ lcmF m := by
  obtain ⟨r, H', _, _, L, rfl, h1, h2, _⟩ := r31_ok hp hm h.2.1 h.1.1.2 h.1.2.1 h.2.2
  exact ⟨h1, h2⟩
theorem r77_is (hp : SL H vp p) (hm : SL H vm m) (h : okP p m) : Ok (r77 vp vm H) fun r H' => Gr H H' ∧ CutIs p m r := by
  obtain ⟨h1, h2⟩ := lcm_ok hp hm h
  exact (r77_ok h1 hp hm h.2.1 h.1.1.2 h.1.2.1 h.2.2 h2).mono fun r H' hh => hh
/-- Cut -/
theorem r27_ok {k : Nat} (hp : SL H vp p) (hm : SL H vm m) (hb : p.length ≤ 1000) (hb2 : m.length ≤ 1000) : Ok (r27 (appA (k + 1)) vp vm H) fun r H' => Gr H H' ∧ if okP p m then (∃ q, CutIs p m q ∧ r = if q.2.2.2 = true then (q.1, q.2.1, q.2.2.1, 0) else (0, 0, 0, 4)) else r = (0, 0, 0, 2) := by
  unfold r27
  have gp := Gr.push H (.cells [.int .i64 0, .int .i64 0, .int .i64 0] false)
  have g0 : (H.push (.cells [.int .i64 0, .int .i64 0, .int .i64 0] false)).get H.n = some (.cells [.int .i64 0, .int .i64 0, .int .i64 0] false) := Hp.get_push_new _ _
  generalize H.push (.cells [.int .i64 0, .int .i64 0, .int .i64 0] false) = A at *
  refine Ok.lt (Ok.bind (r76_ok (hp.gr gp) (hm.gr gp) hb hb2) fun b B ⟨gB, hbb⟩ => ?_)
  subst hbb
  have gX := gp.trans gB
  have b0 : B.get H.n = some (.cells [.int .i64 0, .int .i64 0, .int .i64 0] false) := by rw [gB.2 _ (Hp.get_lt g0)]; exact g0
  have mk : ∀ (D : Hp) (x y z : Int), Gr H D → D.get H.n = some (.cells [.int .i64 0, .int .i64 0, .int .i64 0] false) → ∃ E, D.sts H.n 0 [.int .i64 x, .int .i64 y, .int .i64 z] = some E ∧ E.get H.n = some (.cells [.int .i64 x, .int .i64 y, .int .i64 z] false) ∧ Gr H E := fun D x y z g h2 => by
    obtain ⟨E, e1, e2, e3, e4⟩ := sts_blk [.int .i64 x, .int .i64 y, .int .i64 z] 0 D _ h2 (by simp)
    exact ⟨E, e1, e2, by rw [e3]; exact g.1, fun q hq => by rw [e4 q (by omega)]; exact g.2 q hq⟩
  by_cases ho : okP p m
  · rw [decide_eq_true (show plateP p ∧ m.length = p.length ∧ mulP m from ho)]
    simp only [if_pos ho]
    refine Ok.pos (by simp) (Ok.bind (r77_is (hp.gr gX) (hm.gr gX) ho) fun q C ⟨gC, hq⟩ => ?_)
    obtain ⟨D, hD, hD', gD, nD⟩ := sts3 C (.int .i64 q.1) (.int .i64 q.2.1) (.int .i64 q.2.2.1) (.int .i64 0) (.int .i64 0) (.int .i64 0)
    have gY := gX.trans (gC.trans gD)
    have d0 : D.get H.n = some (.cells [.int .i64 0, .int .i64 0, .int .i64 0] false) := by rw [(gC.trans gD).2 _ (Hp.get_lt b0)]; exact b0
    refine Ok.ld hD (Ok.ite (fun c => ?_) fun c => ?_)
    · obtain ⟨E, e1, e2, e3⟩ := mk D q.1 q.2.1 q.2.2.1 gY d0
      exact Ok.ld (ldI_get hD' rfl) (Ok.ld (ldI_get hD' rfl) (Ok.ld (ldI_get hD' rfl) (Ok.ld e1 (Ok.ld (ldI_get e2 rfl) (Ok.ld (ldI_get e2 rfl) (Ok.ld (ldI_get e2 rfl) (Ok.ret ⟨e3, q, hq, by rw [if_pos c]⟩)))))))
    · obtain ⟨E, e1, e2, e3⟩ := mk D 0 0 0 gY d0
      exact Ok.ld e1 (Ok.ld (ldI_get e2 rfl) (Ok.ld (ldI_get e2 rfl) (Ok.ld (ldI_get e2 rfl) (Ok.ret ⟨e3, q, hq, by rw [if_neg c]⟩))))
  · rw [decide_eq_false (show ¬ (plateP p ∧ m.length = p.length ∧ mulP m) from ho)]
    simp only [if_neg ho]
    obtain ⟨E, e1, e2, e3⟩ := mk B 0 0 0 gX b0
    exact Ok.neg (by simp) (Ok.ld e1 (Ok.ld (ldI_get e2 rfl) (Ok.ld (ldI_get e2 rfl) (Ok.ld (ldI_get e2 rfl) (Ok.ret ⟨e3, rfl⟩)))))
/-- CheckCut -/
theorem r29_ok {k : Nat} (hp : SL H vp p) (hm : SL H vm m) (hb : p.length ≤ 1000) (hb2 : m.length ≤ 1000) (a b c : Int) : Ok (r29 (appA (k + 1)) vp vm a b c H) fun r H' => Gr H H' ∧ if okP p m then (∃ q, CutIs p m q ∧ r = (decide (q.2.2.2 = true ∧ q.1 = a ∧ q.2.1 = b ∧ q.2.2.1 ≤ c), 0)) else r = (false, 2) := by
  unfold r29
  have gp := Gr.push H (.cells [.int .i64 a, .int .i64 b, .int .i64 c] false)
  have g0 : (H.push (.cells [.int .i64 a, .int .i64 b, .int .i64 c] false)).get H.n = some (.cells [.int .i64 a, .int .i64 b, .int .i64 c] false) := Hp.get_push_new _ _
  generalize H.push (.cells [.int .i64 a, .int .i64 b, .int .i64 c] false) = A at *
  refine Ok.lt (Ok.bind (r76_ok (hp.gr gp) (hm.gr gp) hb hb2) fun b2 B ⟨gB, hbb⟩ => ?_)
  subst hbb
  have gX := gp.trans gB
  have b0 : B.get H.n = some (.cells [.int .i64 a, .int .i64 b, .int .i64 c] false) := by rw [gB.2 _ (Hp.get_lt g0)]; exact g0
  by_cases ho : okP p m
  · rw [decide_eq_true (show plateP p ∧ m.length = p.length ∧ mulP m from ho)]
    simp only [if_pos ho]
    refine Ok.pos (by simp) (Ok.bind (r77_is (hp.gr gX) (hm.gr gX) ho) fun q C ⟨gC, hq⟩ => ?_)
    obtain ⟨D, hD, hD', gD, nD⟩ := sts3 C (.int .i64 q.1) (.int .i64 q.2.1) (.int .i64 q.2.2.1) (.int .i64 0) (.int .i64 0) (.int .i64 0)
    have gY := gX.trans (gC.trans gD)
    have d0 : D.get H.n = some (.cells [.int .i64 a, .int .i64 b, .int .i64 c] false) := by rw [(gC.trans gD).2 _ (Hp.get_lt b0)]; exact b0
    have no : ¬ (q.2.2.2 = true ∧ q.1 = a ∧ q.2.1 = b ∧ q.2.2.1 ≤ c) → Ok (some ((false, 0), D)) fun r H' => Gr H H' ∧ ∃ q, CutIs p m q ∧ r = (decide (q.2.2.2 = true ∧ q.1 = a ∧ q.2.1 = b ∧ q.2.2.1 ≤ c), (0 : Int)) := fun hno => Ok.ret ⟨gY, q, hq, by rw [decide_eq_false hno]⟩
    refine Ok.ld hD (Ok.ite (fun c0 => Ok.ld (ldI_get hD' rfl) (Ok.ld (ldI_get d0 rfl) (Ok.ite (fun c1 => Ok.ld (ldI_get hD' rfl) (Ok.ld (ldI_get d0 rfl) (Ok.ite (fun c2 => Ok.ld (ldI_get hD' rfl) (Ok.ld (ldI_get d0 rfl) (Ok.ret ⟨gY, q, hq, ?_⟩))) fun c2 => no fun w => c2 w.2.2.1))) fun c1 => no fun w => c1 w.2.1))) fun c0 => no fun w => c0 w.1)
    have : (q.2.2.1 ≤ c) ↔ (q.2.2.2 = true ∧ q.1 = a ∧ q.2.1 = b ∧ q.2.2.1 ≤ c) := ⟨fun w => ⟨c0, c1, c2, w⟩, fun w => w.2.2.2⟩
    rw [decide_eq_decide.2 this]
  · rw [decide_eq_false (show ¬ (plateP p ∧ m.length = p.length ∧ mulP m) from ho)]
    simp only [if_neg ho]
    exact Ok.neg (by simp) (Ok.ret ⟨gX, rfl⟩)
end
theorem ok9 {p : List Sd} {m : List Pr} : okP (p.take 9) (m.take 9) ↔ okP p m := by
  by_cases h1 : p.length ≤ 9
  · rw [List.take_of_length_le h1]
    by_cases h2 : m.length ≤ 9
    · rw [List.take_of_length_le h2]
    · constructor
      · intro c; have a := c.2.1; have b := c.1.1.2; rw [List.length_take] at a; omega
      · intro c; have a := c.2.1; have b := c.1.1.2; omega
  · constructor
    · intro c; have b := c.1.1.2; rw [List.length_take] at b; omega
    · intro c; have b := c.1.1.2; omega
theorem cutsLaw {H : Hp} {vp vm : Sl} {p : List Sd} {m : List Pr} (hp : SL H vp p) (hm : SL H vm m) (hb : p.length < 9223372036854775808) (hb2 : m.length < 9223372036854775808) (a b c : Int) : Ok (r5 (appA 20) vp vm a b c H) fun r _ => r = true := by
  unfold r5
  have hpl := hp.len
  have l1 : (p.take 9).length ≤ 1000 := by rw [List.length_take]; omega
  have l2 : (m.take 9).length ≤ 1000 := by rw [List.length_take]; omega
  have gp := Gr.push H (.cells [.int .i64 a, .int .i64 b, .int .i64 c] false)
  have g0 : (H.push (.cells [.int .i64 a, .int .i64 b, .int .i64 c] false)).get H.n = some (.cells [.int .i64 a, .int .i64 b, .int .i64 c] false) := Hp.get_push_new _ _
  generalize H.push (.cells [.int .i64 a, .int .i64 b, .int .i64 c] false) = A at *
  refine Ok.lt (Ok.bind (r18_ok (hp.gr gp) hb) fun w1 B ⟨gB, hw1⟩ => ?_)
  refine Ok.bind (r28_ok (hm.gr (gp.trans gB)) hb2) fun w2 C ⟨gC, hw2⟩ => ?_
  refine Ok.bind (r27_ok (k := 19) (hw1.gr gC) hw2 l1 l2) fun x D ⟨gD, hx⟩ => ?_
  obtain ⟨E, hE, hE', gE, nE⟩ := sts3 D (.int .i64 x.1) (.int .i64 x.2.1) (.int .i64 x.2.2.1) (.int .i64 0) (.int .i64 0) (.int .i64 0)
  refine Ok.ld hE ?_
  have gAE := gB.trans (gC.trans (gD.trans gE))
  refine Ok.bind (r18_ok (hp.gr (gp.trans gAE)) hb) fun w3 F ⟨gF, hw3⟩ => ?_
  have gAF := gAE.trans gF
  refine Ok.bind (r28_ok (hm.gr (gp.trans gAF)) hb2) fun w4 G ⟨gG, hw4⟩ => ?_
  have gAG := gAF.trans gG
  have at0 : ∀ X, Gr A X → X.get H.n = some (.cells [.int .i64 a, .int .i64 b, .int .i64 c] false) := fun X g => by rw [g.2 _ (Hp.get_lt g0)]; exact g0
  refine Ok.ld (ldI_get (at0 G gAG) rfl) (Ok.ld (ldI_get (at0 G gAG) rfl) (Ok.ld (ldI_get (at0 G gAG) rfl) ?_))
  refine Ok.bind (r29_ok (k := 19) (hw3.gr gG) hw4 l1 l2 a b c) fun y I ⟨gI, hy⟩ => ?_
  refine Ok.ck (ldI_get (at0 E gAE) rfl) (Ok.ck (ldI_get (at0 E gAE) rfl) (Ok.ck (ldI_get (at0 E gAE) rfl) (Ok.ck (ldI_get (at0 F gAF) rfl) (Ok.ck (ldI_get (at0 F gAF) rfl) (Ok.ck (ldI_get (at0 F gAF) rfl) ?_)))))
  have gAI := gAG.trans gI
  refine Ok.bind (r19_ok (hp.gr (gp.trans gAI))) fun z J ⟨gJ, hz⟩ => ?_
  subst hz
  have gAJ := gAI.trans gJ
  have gEJ := gF.trans (gG.trans (gI.trans gJ))
  simp only [ok9] at hx hy
  have bad : ∀ X, Gr E X → ¬ okP p m → Ok (r5_j1 (appA 20) vp vm H.n D.n x.2.2.2 y.1 y.2 true X) fun r _ => r = true := fun X gX hno => by
    rw [if_neg hno] at hx hy
    subst hx; subst hy
    have e0 : X.get D.n = some (.cells [.int .i64 0, .int .i64 0, .int .i64 0] false) := by rw [gX.2 _ (Hp.get_lt hE')]; exact hE'
    unfold r5_j1
    exact Ok.pos rfl (Ok.ld (ldI_get e0 rfl) (Ok.ld (ldI_get e0 rfl) (Ok.ld (ldI_get e0 rfl) (Ok.pos rfl (Ok.neg (by simp) (Ok.pos rfl (Ok.pos rfl (Ok.ld (awakeB 20 _) (Ok.ld rfl (Ok.ret rfl))))))))))
  by_cases h1 : plateP p
  · rw [decide_eq_true h1]
    refine Ok.pos rfl ?_
    rw [hpl]
    refine Ok.bind (r30_ok (hm.gr (gp.trans gAJ)) hb2 p.length) fun z K ⟨gK, hz⟩ => ?_
    subst hz
    have gAK := gAJ.trans gK
    by_cases h2 : m.length = p.length ∧ mulP m
    · rw [decide_eq_true h2]
      have ho : okP p m := ⟨h1, h2⟩
      have h6 := h1.1.2
      have hl := h2.1
      rw [if_pos ho, List.take_of_length_le (by omega), List.take_of_length_le (by omega)] at hx hy
      obtain ⟨q, hq, hx⟩ := hx
      obtain ⟨q', hq', hy⟩ := hy
      unfold r5_j1
      refine Ok.neg (by simp) (Ok.bind (r31_ok (hp.gr (gp.trans gAK)) (hm.gr (gp.trans gAK)) h2.1 h6 h1.2.1 h2.2) fun t M ⟨gM, L, hL, hL0, hLd, hR⟩ => ?_)
      subst hL
      obtain ⟨s0, s1, s2, i0, i1, i2, hC⟩ := hq
      obtain ⟨t0, t1, t2, j0, j1, j2, hC'⟩ := hq'
      obtain ⟨et, eq0⟩ := cut_same hL0 i0 i1 i2 hC hR
      obtain ⟨et', eq0'⟩ := cut_same hL0 j0 j1 j2 hC' hR
      have hqq : q = q' := by
        rw [et] at et'
        obtain ⟨a1, a2, a3, a4⟩ := q
        obtain ⟨b1, b2, b3, b4⟩ := q'
        simp only [Prod.mk.injEq] at et' ⊢
        obtain ⟨u1, u2, u3, u4⟩ := et'
        refine ⟨u1, u2, u3, ?_⟩
        cases a4 <;> cases b4 <;> simp at u4 ⊢
      subst hqq
      obtain ⟨N, hN, hN', gN, nN⟩ := sts3 M (.int .i64 t.1) (.int .i64 t.2.1) (.int .i64 t.2.2.1) (.int .i64 0) (.int .i64 0) (.int .i64 0)
      refine Ok.ld hN ?_
      have gAN := gAK.trans (gM.trans gN)
      have n0 := at0 N gAN
      have nE' : N.get D.n = some (.cells [.int .i64 x.1, .int .i64 x.2.1, .int .i64 x.2.2.1] false) := by rw [(gEJ.trans (gK.trans (gM.trans gN))).2 _ (Hp.get_lt hE')]; exact hE'
      have fin : ∀ f, f = decide (q.2.2.2 = true ∧ q.1 = a ∧ q.2.1 = b ∧ q.2.2.1 ≤ c) → Ok (r5_j0 (appA 20) D.n x.2.2.2 y.1 y.2 M.n t.2.2.2 f N) fun r _ => r = true := fun f hf => by
        unfold r5_j0
        refine Ok.ld (ldI_get nE' rfl) (Ok.ld (ldI_get nE' rfl) (Ok.ld (ldI_get nE' rfl) (Ok.ld (ldI_get hN' rfl) (Ok.ld (ldI_get hN' rfl) (Ok.ld (ldI_get hN' rfl) ?_)))))
        have hxt : x = t := by
          rw [hx, et]
          by_cases w : q.2.2.2 = true
          · rw [if_pos w, if_pos w]
          · rw [if_neg w, if_neg w]
            have := eq0 (by simpa using w)
            rw [this]
        subst hxt
        subst hy
        refine Ok.pos (by simp) (Ok.pos rfl (Ok.pos (by rw [hf]; simp) (Ok.pos rfl (Ok.ld (awakeB 20 _) (Ok.ld rfl (Ok.ret rfl))))))
      have ht1 : t.1 = q.1 := by rw [et]
      have ht2 : t.2.1 = q.2.1 := by rw [et]
      have ht3 : t.2.2.1 = q.2.2.1 := by rw [et]
      have ht4 : t.2.2.2 = 0 ↔ q.2.2.2 = true := by
        rw [et]
        dsimp only
        by_cases w : q.2.2.2 = true
        · simp [w]
        · simp [w]
      have no : ¬ (q.2.2.2 = true ∧ q.1 = a ∧ q.2.1 = b ∧ q.2.2.1 ≤ c) → Ok (r5_j0 (appA 20) D.n x.2.2.2 y.1 y.2 M.n t.2.2.2 false N) fun r _ => r = true := fun hno => fin false (by rw [decide_eq_false hno])
      refine Ok.ite (fun c0 => Ok.ld (ldI_get hN' rfl) (Ok.ld (ldI_get n0 rfl) (Ok.ite (fun c1 => Ok.ld (ldI_get hN' rfl) (Ok.ld (ldI_get n0 rfl) (Ok.ite (fun c2 => Ok.ld (ldI_get hN' rfl) (Ok.ld (ldI_get n0 rfl) (fin _ ?_))) fun c2 => no fun w => c2 (by rw [ht2]; exact w.2.2.1)))) fun c1 => no fun w => c1 (by rw [ht1]; exact w.2.1)))) fun c0 => no fun w => c0 (ht4.2 w.1)
      rw [ht3]
      exact decide_eq_decide.2 ⟨fun w => ⟨ht4.1 c0, by rw [← ht1]; exact c1, by rw [← ht2]; exact c2, w⟩, fun w => w.2.2.2⟩
    · rw [decide_eq_false h2]
      exact bad K (gEJ.trans gK) (fun w => h2 w.2)
  · rw [decide_eq_false h1]
    exact Ok.neg (by simp) (bad J gEJ (fun w => h1 w.1))
theorem lawCall5 (H : Hp) (xs : List AV) (_ : NoOwn H) (h : RdAs H [.sl (.pair (.int .i64) (.pair (.int .i64) (.pair (.int .i64) .unit))), .sl (.pair (.int .i64) (.pair (.int .i64) .unit)), .pair (.int .i64) (.pair (.int .i64) (.pair (.int .i64) .unit))] xs) : ∃ H1, CallSim Try.prog 5 xs H (.bool true) H1 := by
  obtain ⟨x, _, rfl, hx, y, _, rfl, hy, z, _, rfl, hz, rfl⟩ := h
  obtain ⟨v, l, rfl, hv, hb⟩ := rd_sl (enc_pair enc_int (enc_pair enc_int (enc_unit enc_int))) hx
  obtain ⟨w, m, rfl, hw, hb2⟩ := rd_sl (enc_pair enc_int (enc_unit enc_int)) hy
  obtain ⟨zs, rfl, hz⟩ : ∃ zs, z = .agg zs ∧ Rd H (.pair (.int .i64) (.pair (.int .i64) (.pair (.int .i64) .unit))) zs := hz
  obtain ⟨⟨a, b, c⟩, rfl⟩ := (enc_pair enc_int (enc_pair enc_int (enc_unit enc_int))).2 H zs hz
  obtain ⟨r, H1, h1, rfl⟩ := cutsLaw hv hw (by unfold maxLen at hb; omega) (by unfold maxLen at hb2; omega) a b c
  exact ⟨H1, sim5 (happ := appASim 20) h1⟩
end Go.Lt.P2
