/- PLAIN LAWS OF WHAT IS COMPUTED, for the statement 'TopTail'. Nothing is asked of the input. -/
import Derived.Test.YtopildlfbhfghaaGreatDoorU3CSl
set_option linter.unusedVariables false
set_option linter.unusedSimpArgs false
set_option maxHeartbeats 4000000
namespace Go.Lt.P10
/-! ### sums of numbers, hinges, and what is less uneven -/
def hin (t : Int) : List Int → Int
 | [] => 0
 | a :: l => (if t < a then a - t else 0) + hin t l
def sp1 : ByteArray := ByteArray.mk #[32]
theorem Lb_join (w : ByteArray) (l : List ByteArray) : Lb (joinA (w :: l) sp1) = Lb w ++ (l.map fun x => (32 : UInt8) :: Lb x).flatten := by
 unfold joinA Lb sp1
 simp only [List.map_cons, Lib.join_cons, Lib.joinTail, List.map_map]
 congr 1
theorem join_two (w x : ByteArray) : joinA [w, x] sp1 = w ++ (sp1 ++ x) := by
 apply Lb_inj
 rw [Lb_join, Lb_app, Lb_app]
 simp [sp1]
 rfl
structure L2 (H : Hp) (r : Sl) (a b : Int) : Prop where
 len : r.len = 2
 e0 : H.ldI .i64 r.b (r.o + 0) = some a
 e1 : H.ldI .i64 r.b (r.o + 1) = some b
theorem L2.of {H : Hp} {r : Sl} {a b : Int} (h : SL H r [a, b]) : L2 H r a b := ⟨h.len, h.ldI (i := 0) (j := 0) (n := a) (by simp) rfl, h.ldI (i := 1) (j := 0) (n := b) (by simp) rfl⟩
structure T2 (H : Hp) (v r0 r1 : Sl) (a b c d : Int) : Prop where
 len : v.len = 2
 e0 : H.ldSl v.b (v.o + 0) = some r0
 e1 : H.ldSl v.b (v.o + 1) = some r1
 s0 : SL H r0 [a, b]
 s1 : SL H r1 [c, d]
theorem ldSl_gr {H A : Hp} (g : Gr H A) {b o : Nat} {v : Sl} (h : H.ldSl b o = some v) : A.ldSl b o = some v := by
 unfold Hp.ldSl at h ⊢
 cases e : H.ld b o with
 | none => rw [e] at h; cases h
 | some x => rw [g.ld e]; rw [e] at h; exact h
theorem T2.gr {H A : Hp} {v r0 r1 : Sl} {a b c d : Int} (h : T2 H v r0 r1 a b c d) (g : Gr H A) : T2 A v r0 r1 a b c d := ⟨h.len, ldSl_gr g h.e0, ldSl_gr g h.e1, h.s0.gr g, h.s1.gr g⟩
def In16 (a b c d : Int) : Prop := 0 ≤ a ∧ 0 ≤ b ∧ 0 ≤ c ∧ 0 ≤ d ∧ a + b + c + d ≤ 16
theorem w1 : w64 1 = 1 := by decide
theorem w2 : w64 2 = 2 := by decide
theorem FUEL3 : ∃ m, FUEL = m + 3 := ⟨18446744073709551613, rfl⟩
theorem r12_row {kt : Sl → Int → Sl → Int → Int → Hp → Option (Bool × Hp)} {H : Hp} {v1 v3 r : Sl} {v2 v4 v5 a b : Int} (h : L2 H r a b) (ha : 0 ≤ a ∧ a ≤ 16) (hb : 0 ≤ b ∧ b ≤ 16) :
  r12_l2 kt FUEL v1 v2 v3 v4 v5 r 2 0 H = kt v1 (w64 (w64 (v2 + a) + b)) v3 v4 (w64 (v5 + 1)) H := by
 obtain ⟨m, hm⟩ := FUEL3
 rw [hm]
 have e0 := h.e0; have e1 := h.e1; have hl := h.len
 have a1 : ¬ a < 0 := by omega
 have a2 : ¬ 16 < a := by omega
 have b1 : ¬ b < 0 := by omega
 have b2 : ¬ 16 < b := by omega
 simp only [Nat.add_zero] at e0
 simp [r12_l2, r12_j3, ck, hl, e0, e1, a1, a2, b1, b2, w1, w2]
theorem r12_ok {H : Hp} {v r0 r1 : Sl} {a b c d : Int} (h : T2 H v r0 r1 a b c d) (hi : In16 a b c d) : r12 v H = some (true, H) := by
 unfold r12
 obtain ⟨h0, h1, h2, h3, h4⟩ := hi
 have s0 := L2.of h.s0; have s1 := L2.of h.s1
 have e0 := h.e0; have e1 := h.e1
 simp only [Nat.add_zero] at e0
 have n0 : (r0.len : Int) = 2 := by rw [s0.len]; rfl
 have n1 : (r1.len : Int) = 2 := by rw [s1.len]; rfl
 have hv : (v.len : Int) = 2 := by rw [h.len]; rfl
 have es : w64 (w64 (w64 (w64 a + b) + c) + d) = a + b + c + d := by
  rw [w64_id (n := a) (by omega) (by omega), w64_id (n := a + b) (by omega) (by omega), w64_id (n := a + b + c) (by omega) (by omega), w64_id (by omega) (by omega)]
 obtain ⟨m, hm⟩ := FUEL3
 have hm' := hm
 rw [hm]
 rw [hv]
 have k0 := fun kt v2 v4 v5 v3 => r12_row (kt := kt) (v1 := v) (v2 := v2) (v3 := v3) (v4 := v4) (v5 := v5) s0 ⟨by omega, by omega⟩ ⟨by omega, by omega⟩
 have k1 := fun kt v2 v4 v5 v3 => r12_row (kt := kt) (v1 := v) (v2 := v2) (v3 := v3) (v4 := v4) (v5 := v5) s1 ⟨by omega, by omega⟩ ⟨by omega, by omega⟩
 simp [r12_l0, r12_j1, ck, hv, h.len, e0, e1, n0, n1, k0, k1, w1, w2, es, h4]
/-! ### what is weighed -/
def chL : Nat → Int → Int → Int → Int × Int
 | 0, r, n, _ => (r, n)
 | m + 1, r, n, i => chL m (w64 (Int.tdiv (w64 (r * w64 (n + 1))) i)) (w64 (n + 1)) (w64 (i + 1))
def chS (a b : Int) : Int := (chL b.toNat (chL a.toNat 1 0 1).1 (chL a.toNat 1 0 1).2 1).1
theorem r59_l1_eq (kt : Int → Int → Sl → Int → Int → Hp → Option (Int × Hp)) (x : Nat) (hx : x ≤ 16) (v5 : Sl) (v6 v7 : Int) (H : Hp) : ∀ (m i K : Nat) (r n : Int), i + m = x + 1 → 1 ≤ i → m < K → r59_l1 kt K r n (x : Int) (i : Int) v5 v6 v7 H = kt (chL m r n i).1 (chL m r n i).2 v5 v6 (w64 (v7 + 1)) H := by
 intro m
 induction m with
 | zero =>
  intro i K r n h1 h2 h3
  obtain ⟨K, rfl⟩ : ∃ k, K = k + 1 := ⟨K - 1, by omega⟩
  rw [r59_l1, if_neg (by omega)]; rfl
 | succ m ih =>
  intro i K r n h1 h2 h3
  obtain ⟨K, rfl⟩ : ∃ k, K = k + 1 := ⟨K - 1, by omega⟩
  rw [r59_l1, if_pos (by omega)]
  have e : w64 ((i : Int) + 1) = ((i + 1 : Nat) : Int) := w64_succ (by omega)
  unfold ck
  rw [if_pos (by omega), e, ih (i + 1) K _ _ (by omega) (by omega) (by omega), chL, e]
theorem r59_ok {H : Hp} {r : Sl} {a b : Int} (h : L2 H r a b) (ha : 0 ≤ a ∧ a ≤ 16) (hb : 0 ≤ b ∧ b ≤ 16) : r59 r H = some (chS a b, H) := by
 obtain ⟨x, rfl⟩ := Int.eq_ofNat_of_zero_le ha.1
 obtain ⟨y, rfl⟩ := Int.eq_ofNat_of_zero_le hb.1
 have e0 := h.e0; have e1 := h.e1
 have hl : (r.len : Int) = 2 := by rw [h.len]; rfl
 simp only [Nat.add_zero] at e0
 unfold r59
 rw [hl]
 have k0 := fun kt v6 v7 rr n => r59_l1_eq kt x (by omega) r v6 v7 H x 1 FUEL rr n (by omega) (by omega) (by unfold FUEL; omega)
 have k1 := fun kt v6 v7 rr n => r59_l1_eq kt y (by omega) r v6 v7 H y 1 FUEL rr n (by omega) (by omega) (by unfold FUEL; omega)
 obtain ⟨m, hm⟩ := FUEL3
 have one : ((1 : Nat) : Int) = 1 := rfl
 rw [one] at k0 k1
 rw [hm]
 simp [r59_l0, ck, hl, e0, e1, k0, k1, w1, w2, chS]
def wtS (a b c d : Int) : Int := w64 (w64 (chS a b) * chS c d)
theorem r55_ok {H : Hp} {v r0 r1 : Sl} {a b c d : Int} (h : T2 H v r0 r1 a b c d) (hi : 0 ≤ a ∧ a ≤ 16 ∧ 0 ≤ b ∧ b ≤ 16 ∧ 0 ≤ c ∧ c ≤ 16 ∧ 0 ≤ d ∧ d ≤ 16) : r55 v H = some (wtS a b c d, H) := by
 obtain ⟨h0, h1, h2, h3, h4, h5, h6, h7⟩ := hi
 have k0 := r59_ok (L2.of h.s0) ⟨h0, h1⟩ ⟨h2, h3⟩
 have k1 := r59_ok (L2.of h.s1) ⟨h4, h5⟩ ⟨h6, h7⟩
 have e0 := h.e0; have e1 := h.e1
 simp only [Nat.add_zero] at e0
 have hl : (v.len : Int) = 2 := by rw [h.len]; rfl
 unfold r55
 rw [hl]
 obtain ⟨m, hm⟩ := FUEL3
 rw [hm]
 simp [r55_l0, ck, hl, e0, e1, k0, k1, w1, w2, wtS]
theorem r91_ok {H : Hp} {r : Sl} {a b : Int} (h : L2 H r a b) (ha : 0 ≤ a ∧ a ≤ 16) (hb : 0 ≤ b ∧ b ≤ 16) (hs : a + b ≤ 16) : r91 r H = some (true, H) := by
 have e0 := h.e0; have e1 := h.e1
 simp only [Nat.add_zero] at e0
 have hl : (r.len : Int) = 2 := by rw [h.len]; rfl
 unfold r91
 rw [hl]
 obtain ⟨m, hm⟩ := FUEL3
 rw [hm]
 have a1 : ¬ a < 0 := by omega
 have a2 : ¬ 16 < a := by omega
 have b1 : ¬ b < 0 := by omega
 have b2 : ¬ 16 < b := by omega
 have es : w64 (w64 a + b) = a + b := by rw [w64_id (n := a) (by omega) (by omega), w64_id (by omega) (by omega)]
 simp [r91_l0, r91_j1, ck, hl, e0, e1, a1, a2, b1, b2, w1, w2, es, hs]
theorem r54_row {kt : Sl → Int → Sl → Int → Int → Hp → Option (Bool × Hp)} {H : Hp} {v1 v3 r : Sl} {v2 v4 v5 a b : Int} (h : L2 H r a b) :
  r54_l3 kt FUEL v1 v2 v3 v4 v5 r 2 0 H = kt v1 (w64 (w64 (v2 + a) + b)) v3 v4 (w64 (v5 + 1)) H := by
 obtain ⟨m, hm⟩ := FUEL3
 rw [hm]
 have e0 := h.e0; have e1 := h.e1; have hl := h.len
 simp only [Nat.add_zero] at e0
 simp [r54_l3, ck, hl, e0, e1, w1, w2]
theorem r54_ok {H : Hp} {v r0 r1 : Sl} {a b c d : Int} (h : T2 H v r0 r1 a b c d) (hi : In16 a b c d) : r54 v H = some (true, H) := by
 unfold r54
 obtain ⟨h0, h1, h2, h3, h4⟩ := hi
 have s0 := L2.of h.s0; have s1 := L2.of h.s1
 have e0 := h.e0; have e1 := h.e1
 simp only [Nat.add_zero] at e0
 have n0 : (r0.len : Int) = 2 := by rw [s0.len]; rfl
 have n1 : (r1.len : Int) = 2 := by rw [s1.len]; rfl
 have hv : (v.len : Int) = 2 := by rw [h.len]; rfl
 have es : w64 (w64 (w64 (w64 a + b) + c) + d) = a + b + c + d := by
  rw [w64_id (n := a) (by omega) (by omega), w64_id (n := a + b) (by omega) (by omega), w64_id (n := a + b + c) (by omega) (by omega), w64_id (by omega) (by omega)]
 have q0 := r91_ok s0 ⟨by omega, by omega⟩ ⟨by omega, by omega⟩ (by omega)
 have q1 := r91_ok s1 ⟨by omega, by omega⟩ ⟨by omega, by omega⟩ (by omega)
 obtain ⟨m, hm⟩ := FUEL3
 unfold r54_j0
 rw [hm]
 rw [hv]
 have k0 := fun kt v2 v4 v5 v3 => r54_row (kt := kt) (v1 := v) (v2 := v2) (v3 := v3) (v4 := v4) (v5 := v5) s0
 have k1 := fun kt v2 v4 v5 v3 => r54_row (kt := kt) (v1 := v) (v2 := v2) (v3 := v3) (v4 := v4) (v5 := v5) s1
 simp [r54_l1, r54_j2, ck, hv, h.len, e0, e1, n0, n1, q0, q1, k0, k1, w1, w2, es, h4]
theorem slKeep {T : Type} [El T] {A B : Hp} {v : Sl} {l : List T} (h : SL A v l) (e : B.get v.b = A.get v.b) : SL B v l := ⟨⟨h.cs.1, (lds_same e).trans h.cs.2⟩, h.cap, h.opn, h.nil⟩
theorem stX {α : Type} {Q : α → Hp → Prop} {D : Hp} {c o : Nat} {cs : List AV} {x : AV} {f : Hp → Option (α × Hp)} (hc : D.get c = some (.cells cs false)) (ho : o < cs.length)
  (k : ∀ E, E.get c = some (.cells (cs.set o x) false) → E.n = D.n → (∀ b, b ≠ c → E.get b = D.get b) → Lt.Ok (f E) Q) : Lt.Ok ((D.st c o x).bind f) Q := by
 refine Lt.Ok.st hc ho fun E e he => k E he (by rw [e]; simp) fun b hb => by rw [e, Hp.get_set_other _ _ hb]
theorem stsX {α : Type} {Q : α → Hp → Prop} {D : Hp} {c : Nat} {cs vs : List AV} {f : Hp → Option (α × Hp)} (hc : D.get c = some (.cells cs false)) (hl : vs.length = cs.length)
  (k : ∀ E, E.get c = some (.cells vs false) → E.n = D.n → (∀ b, b ≠ c → E.get b = D.get b) → Lt.Ok (f E) Q) : Lt.Ok ((D.sts c 0 vs).bind f) Q := by
 obtain ⟨E, e, h1, h2, h3⟩ := sts_blk vs 0 D cs hc (by omega)
 exact Lt.Ok.ld e (k E (by simpa [hl] using h1) h2 h3)
theorem Gr.at {H D E : Hp} {c : Nat} (g : Gr H D) (hc : H.n ≤ c) (n : E.n = D.n) (o : ∀ b, b ≠ c → E.get b = D.get b) : Gr H E := ⟨by rw [n]; exact g.1, fun b hb => by rw [o b (by omega)]; exact g.2 b hb⟩
theorem r92_row {kt : Sl → Sl → Sl → Int → Int → Hp → Option ((Sl × Sl) × Hp)} {Q : Sl × Sl → Hp → Prop} {H D : Hp} {c : Nat} {v1 v4 r : Sl} {v5 v6 x y p q : Int} (g : Gr H D) (hn : H.n ≤ c) (hc : D.get c = some (.cells [.int .i64 x, .int .i64 y] false)) (h : SL H r [p, q])
  (hx : 0 ≤ x ∧ x ≤ 16 ∧ 0 ≤ y ∧ y ≤ 16) (hp : 0 ≤ p ∧ p ≤ 16 ∧ 0 ≤ q ∧ q ≤ 16)
  (k : ∀ E, Gr H E → E.n = D.n → (∀ b, b ≠ c → E.get b = D.get b) → E.get c = some (.cells [.int .i64 (x + p), .int .i64 (y + q)] false) → Lt.Ok ((E.apN 1 v1 [.int .i64 (p + q)] 1).bind fun x8 => kt x8.1 ⟨false, c, 0, 2, 2, 0⟩ v4 v5 (w64 (v6 + 1)) x8.2) Q) :
  Lt.Ok (r92_l1 kt FUEL v1 ⟨false, c, 0, 2, 2, 0⟩ 0 v4 v5 v6 r 2 0 D) Q := by
 obtain ⟨m, hm⟩ := FUEL3
 have hl := (L2.of h).len
 rw [hm, r92_l1]
 refine Lt.Ok.pos (by decide) (Lt.Ok.ck (by omega) (Lt.Ok.ld (L2.of (h.gr g)).e0 (Lt.Ok.ck (by simp) (Lt.Ok.ld (ldI_get hc rfl) (Lt.Ok.ck (by simp) ?_)))))
 refine stX hc (by simp) fun E1 e1 n1 o1 => ?_
 have g1 := Gr.at g hn n1 o1
 rw [show w64 (0 + 1) = 1 from by decide, r92_l1]
 refine Lt.Ok.pos (by decide) (Lt.Ok.ck (by omega) (Lt.Ok.ld (L2.of (h.gr g1)).e1 (Lt.Ok.ck (by simp) (Lt.Ok.ld (ldI_get e1 rfl) (Lt.Ok.ck (by simp) ?_)))))
 refine stX e1 (by simp) fun E2 e2 n2 o2 => ?_
 have g2 := Gr.at g1 hn n2 o2
 rw [show w64 (1 + 1) = 2 from by decide, r92_l1]
 refine Lt.Ok.neg (by decide) ?_
 have es : w64 (w64 (0 + p) + q) = p + q := by rw [w64_id (n := 0 + p) (by omega) (by omega), w64_id (by omega) (by omega)]; omega
 rw [es]
 refine k E2 g2 (n2.trans n1) (fun b hb => (o2 b hb).trans (o1 b hb)) ?_
 rw [e2, w64_id (n := x + p) (by omega) (by omega), w64_id (n := y + q) (by omega) (by omega)]
 rfl
theorem r92_ok {H : Hp} {v r0 r1 : Sl} {a b c d : Int} (h : T2 H v r0 r1 a b c d) (hi : In16 a b c d) : Lt.Ok (r92 v H) fun r A => Gr H A ∧ SL A r.1 [a + b, c + d] ∧ SL A r.2 [a + c, b + d] ∧ H.n ≤ r.1.b ∧ H.n ≤ r.2.b := by
 unfold r92
 obtain ⟨h0, h1, h2, h3, h4⟩ := hi
 have hl := h.len
 have l0 := (L2.of h.s0).len
 have l1 := (L2.of h.s1).len
 refine Lt.Ok.ck (by omega) (Lt.Ok.ld h.e0 (Lt.Ok.ck (by omega) (Lt.Ok.lt ?_)))
 rw [l0, hl]
 have g0 := Gr.push H (.cells (zerosA [.int .i64 0] (((2 : Nat) : Int).toNat * 1)) false)
 have hg : (H.push (.cells (zerosA [.int .i64 0] (((2 : Nat) : Int).toNat * 1)) false)).get H.n = some (.cells [.int .i64 0, .int .i64 0] false) := Hp.get_push_new _ _
 have hn1 : (H.push (.cells (zerosA [.int .i64 0] (((2 : Nat) : Int).toNat * 1)) false)).n = H.n + 1 := by simp
 generalize H.push (.cells (zerosA [.int .i64 0] (((2 : Nat) : Int).toNat * 1)) false) = D at *
 show Lt.Ok (r92_l0 FUEL ⟨true, 0, 0, 0, 0, 0⟩ ⟨false, H.n, 0, 2, 2, 0⟩ v 2 0 D) _
 obtain ⟨m, hm⟩ := FUEL3
 have hm2 : FUEL = (m + 2) + 1 := hm
 rw [hm2, r92_l0]
 refine Lt.Ok.pos (by decide) (Lt.Ok.ck (by omega) (Lt.Ok.ld (h.gr g0).e0 ?_))
 rw [l0, show (((2 : Nat) : Int)) = 2 from rfl]
 refine r92_row g0 (Nat.le_refl _) hg h.s0 (by omega) (by omega) fun E gE nE oE hE => ?_
 refine Lt.Ok.bind (AccN.push (n0 := H.n + 1) (l := ([] : List Int)) ⟨AccL.nilS, fun _ => rfl⟩ (by omega) (a + b) rfl rfl (by simp)) fun w1 F ⟨a1, u1, _, _⟩ => ?_
 dsimp only
 have oF : ∀ b, b < E.n → F.get b = E.get b := fun b hb => u1.2 b hb fun e => by simp at e
 have gF : Gr H F := ⟨Nat.le_trans gE.1 u1.1, fun b hb => by rw [oF b (by have := gE.1; omega)]; exact gE.2 b hb⟩
 have hF : F.get H.n = some (.cells [.int .i64 (0 + a), .int .i64 (0 + b)] false) := by rw [oF _ (by omega)]; exact hE
 rw [show w64 (0 + 1) = 1 from by decide, r92_l0]
 refine Lt.Ok.pos (by decide) (Lt.Ok.ck (by omega) (Lt.Ok.ld (h.gr gF).e1 ?_))
 rw [l1, show (((2 : Nat) : Int)) = 2 from rfl]
 refine r92_row gF (Nat.le_refl _) hF h.s1 (by omega) (by omega) fun G gG nG oG hG => ?_
 have a1G : AccN (H.n + 1) G w1 ([] ++ [a + b]) := a1.keep fun e => by
  have := Acc.ge a1.1 e
  rw [oG _ (by omega)]
 refine Lt.Ok.bind (AccN.push (n0 := H.n + 1) a1G (by have := u1.1; omega) (c + d) rfl rfl (by simp)) fun w2 K ⟨a2, u2, _, nl2⟩ => ?_
 dsimp only
 rw [show w64 (1 + 1) = 2 from by decide, r92_l0]
 refine Lt.Ok.neg (by decide) ?_
 have oK : K.get H.n = G.get H.n := u2.2 _ (by have := gG.1; have := u1.1; omega) fun e he => by
  have := Acc.ge a1G.1 e; omega
 have gK : Gr H K := ⟨Nat.le_trans gG.1 u2.1, fun b hb => by
  rw [u2.2 b (by have := gG.1; omega) fun e he => by have := Acc.ge a1G.1 e; omega]; exact gG.2 b hb⟩
 refine Lt.Ok.ret ⟨gK, a2.1.sl, ?_, Nat.le_of_succ_le (Acc.ge a2.1 nl2), Nat.le_refl _⟩
 rw [Int.zero_add, Int.zero_add] at hG
 exact .of_get (ro := false) (oK.trans hG) rfl rfl (Nat.le_refl _) (.inl rfl) rfl
theorem r56_ok {H : Hp} {v r0 r1 : Sl} {a b c d : Int} (h : T2 H v r0 r1 a b c d) (hi : In16 a b c d) : Lt.Ok (r56 v H) fun r A => Gr H A ∧ SL A r.1 [a + b, c + d] ∧ SL A r.2 [a + c, b + d] ∧ H.n ≤ r.1.b ∧ H.n ≤ r.2.b := by
 unfold r56
 refine Lt.Ok.lt ?_
 have g0 := Gr.push H (.cells [.sl ⟨true, 0, 0, 0, 0, 0⟩, .sl ⟨true, 0, 0, 0, 0, 0⟩] false)
 have hg := Hp.get_push_new H (.cells [.sl ⟨true, 0, 0, 0, 0, 0⟩, .sl ⟨true, 0, 0, 0, 0, 0⟩] false)
 have hn1 : (H.push (.cells [.sl ⟨true, 0, 0, 0, 0, 0⟩, .sl ⟨true, 0, 0, 0, 0, 0⟩] false)).n = H.n + 1 := by simp
 generalize H.push (.cells [.sl ⟨true, 0, 0, 0, 0, 0⟩, .sl ⟨true, 0, 0, 0, 0, 0⟩] false) = D at *
 refine Lt.Ok.bind (r92_ok (h.gr g0) hi) fun r A ⟨gA, s1, s2, b1, b2⟩ => ?_
 dsimp only
 obtain ⟨u, w⟩ := r
 dsimp only at *
 have hA : A.get H.n = _ := (gA.2 _ (by omega)).trans hg
 have gHA := g0.trans gA
 refine stsX hA rfl fun E hE nE oE => ?_
 have gE := Gr.at gHA (Nat.le_refl _) nE oE
 refine Lt.Ok.ld (ldSl_get hE rfl) (Lt.Ok.ld (ldSl_get hE rfl) (Lt.Ok.ret ⟨gE, ?_, ?_, by dsimp only; omega, by dsimp only; omega⟩))
 ·exact slKeep s1 (oE _ (by dsimp only; omega))
 ·exact slKeep s2 (oE _ (by dsimp only; omega))
/-! ### fractions -/
def gcL : Nat → Int → Int → Int
 | 0, x, _ => x
 | k + 1, x, y => if y = 0 then (if x < w64 (0 - x) then w64 (0 - x) else x) else gcL k y (Int.tmod x y)
def gcS (x y : Int) : Int := gcL (y.natAbs + 1) x y
theorem r96_l0_eq (H : Hp) : ∀ (k K : Nat) (x y : Int), y.natAbs < k → k ≤ K → r96_l0 K x y H = some (gcL k x y, H) := by
 intro k
 induction k with
 | zero => intro K x y h1 h2; omega
 | succ k ih =>
  intro K x y h1 h2
  obtain ⟨K, rfl⟩ : ∃ j, K = j + 1 := ⟨K - 1, by omega⟩
  rw [r96_l0, gcL]
  by_cases hy : y = 0
  ·rw [if_neg (by omega), if_pos hy]
  ·rw [if_pos hy, if_neg hy]
   unfold ck
   rw [if_pos hy]
   have : (Int.tmod x y).natAbs < y.natAbs := by rw [Int.natAbs_tmod]; exact Nat.mod_lt _ (by omega)
   exact ih K y (Int.tmod x y) (by omega) (by omega)
theorem gcL_ne : ∀ (k : Nat) (x y : Int), y.natAbs < k → (x ≠ 0 ∨ y ≠ 0) → -9223372036854775808 ≤ x ∧ x ≤ 9223372036854775807 → -9223372036854775808 ≤ y ∧ y ≤ 9223372036854775807 → gcL k x y ≠ 0 := by
 intro k
 induction k with
 | zero => intro x y h1; omega
 | succ k ih =>
  intro x y h1 h2 h3 h4
  rw [gcL]
  by_cases hy : y = 0
  ·rw [if_pos hy]
   by_cases hm : x = -9223372036854775808
   ·subst hm; decide
   ·rw [w64_id (by omega) (by omega)]
    split <;> omega
  ·rw [if_neg hy]
   have : (Int.tmod x y).natAbs < y.natAbs := by rw [Int.natAbs_tmod]; exact Nat.mod_lt _ (by omega)
   exact ih y (Int.tmod x y) (by omega) (.inl hy) h4 (by omega)
def frS (x y : Int) : Int × Int := (w64 (Int.tdiv x (gcS x y)), w64 (Int.tdiv y (gcS x y)))
theorem r58_ok {H : Hp} {x y : Int} (hx : -9223372036854775808 ≤ x ∧ x ≤ 9223372036854775807) (hy : 1 ≤ y ∧ y ≤ 1000000) : Lt.Ok (r58 x y H) fun r A => Gr H A ∧ r = frS x y := by
 unfold r58
 refine Lt.Ok.lt ?_
 have g0 := Gr.push H (.cells [.int .i64 0, .int .i64 0] false)
 have hg := Hp.get_push_new H (.cells [.int .i64 0, .int .i64 0] false)
 generalize H.push (.cells [.int .i64 0, .int .i64 0] false) = D at *
 have hne : gcS x y ≠ 0 := gcL_ne _ x y (by omega) (.inr (by omega)) hx (by omega)
 have e96 : r96 x y D = some (gcS x y, D) := by unfold r96; exact r96_l0_eq D (y.natAbs + 1) FUEL x y (by omega) (by unfold FUEL; omega)
 refine Lt.Ok.ld e96 (Lt.Ok.ck hne (Lt.Ok.ck hne ?_))
 refine stsX hg rfl fun E hE nE oE => ?_
 exact Lt.Ok.ld (ldI_get hE rfl) (Lt.Ok.ld (ldI_get hE rfl) (Lt.Ok.ret ⟨Gr.at g0 (Nat.le_refl _) nE oE, rfl⟩))
theorem r94_two {H : Hp} {v : Sl} {a b : Int} (h : L2 H v a b) : r94 v H = some (if a < b then b else a, H) := by
 obtain ⟨m, hm⟩ := FUEL3
 have hl : (v.len : Int) = 2 := by rw [h.len]; rfl
 have e0 := h.e0; have e1 := h.e1
 simp only [Nat.add_zero] at e0
 unfold r94
 rw [hm]
 simp [r94_l0, ck, h.len, e0, e1, w1, w2]
theorem r95_ok {H : Hp} {v r0 r1 : Sl} {a b c d : Int} (h : T2 H v r0 r1 a b c d) : Lt.Ok (r95 v H) fun w A => Gr H A ∧ ∃ q0 q1, T2 A w q0 q1 a b c d := by
 unfold r95
 have hl := h.len
 rw [hl]
 have e18 : ∀ v H, r18 v H = cloneR 1 v H := fun _ _ => rfl
 obtain ⟨m, hm⟩ := FUEL3
 have hm2 : FUEL = (m + 2) + 1 := hm
 rw [hm2, r95_l0]
 refine Lt.Ok.pos (by omega) (Lt.Ok.ck (by omega) (Lt.Ok.ld h.e0 ?_))
 rw [e18]
 refine Lt.Ok.bind (clone_ok h.s0 (by simp) rfl) fun q0 A ⟨gA, s0, n0, o0⟩ => ?_
 dsimp only
 refine Lt.Ok.bind (AccS.push (T := Int) (H0 := A) AccS.nilS (.refl _) (w := q0) (l := [a, b]) (s0.hide fun e => by cases e) (by simp)) fun w1 B ⟨a1, gB, _, _⟩ => ?_
 dsimp only
 rw [show w64 (0 + 1) = 1 from by decide, r95_l0]
 have gHB := gA.trans gB
 refine Lt.Ok.pos (by omega) (Lt.Ok.ck (by omega) (Lt.Ok.ld (h.gr gHB).e1 ?_))
 rw [e18]
 refine Lt.Ok.bind (clone_ok (h.s1.gr gHB) (by simp) rfl) fun q1 C ⟨gC, s1, n1, o1⟩ => ?_
 dsimp only
 have o1 := o1 (h.s1.nonnil (by simp))
 refine Lt.Ok.bind (AccS.push (T := Int) (H0 := A) (a1.gr gC) (gB.trans gC) (w := q1) (l := [c, d]) (s1.hide fun e _ => by have := a1.1.lt e; omega) (by simp)) fun w2 D ⟨a2, gD, _, _⟩ => ?_
 dsimp only
 rw [show w64 (1 + 1) = 2 from by decide, r95_l0]
 refine Lt.Ok.neg (by omega) (Lt.Ok.ret ⟨gA.trans gD, q0, q1, ?_⟩)
 have hS := a2.sll
 exact ⟨hS.len, hS.ldSl (i := 0) (by simp), hS.ldSl (i := 1) (by simp), hS.get (i := 0) (by simp), hS.get (i := 1) (by simp)⟩
/-! ### all the tables with the same margins -/
structure Gs where
 a : Int
 b : Int
 c : Int
 d : Int
 k0 : Int
 k1 : Int
 acc : Int
def Gs.put (s : Gs) : Nat → Nat → Int → Gs
 | 0, 0, v => { s with a := v }
 | 0, _, v => { s with b := v }
 | _, 0, v => { s with c := v }
 | _, _, v => { s with d := v }
def Gs.kk (s : Gs) : Nat → Int
 | 0 => s.k0
 | _ => s.k1
def Gs.sk (s : Gs) : Nat → Int → Gs
 | 0, v => { s with k0 := v }
 | _, v => { s with k1 := v }
def Gs.In (s : Gs) : Prop := (0 ≤ s.a ∧ s.a ≤ 16 ∧ 0 ≤ s.b ∧ s.b ≤ 16 ∧ 0 ≤ s.c ∧ s.c ≤ 16 ∧ 0 ≤ s.d ∧ s.d ≤ 16) ∧ (0 ≤ s.k0 ∧ s.k0 ≤ 16 ∧ 0 ≤ s.k1 ∧ s.k1 ≤ 16) ∧ -9223372036854775808 ≤ s.acc ∧ s.acc ≤ 9223372036854775807
def yS (w0 : Int) (s : Gs) : Gs := if 0 < (if s.k0 < s.k1 then s.k1 else s.k0) then s else if wtS s.a s.b s.c s.d ≤ w0 then { s with acc := w64 (s.acc + wtS s.a s.b s.c s.d) } else s
def lpS (f : Int → Gs → Gs) : Nat → Int → Gs → Gs
 | 0, _, s => s
 | m + 1, v, s => lpS f m (v + 1) (f v s)
def glS (i j : Nat) (f : Int → Gs → Gs) (l : Int) (s : Gs) : Gs :=
 lpS (fun v s' => (f (l - v) ((s'.put i j v).sk j (s.kk j - v))).sk j (s.kk j)) ((if s.kk j < l then s.kk j else l) + 1).toNat 0 s
def g0S (w0 : Int) (_ : Int) (s : Gs) : Gs := yS w0 s
def g1S (w0 l : Int) (s : Gs) : Gs := if 0 < l then s else g0S w0 0 s
def g3S (w0 : Int) : Int → Gs → Gs := glS 1 0 (glS 1 1 (g1S w0))
def g4S (w0 r1 l : Int) (s : Gs) : Gs := if 0 < l then s else g3S w0 r1 s
def g6S (w0 r1 : Int) : Int → Gs → Gs := glS 0 0 (glS 0 1 (g4S w0 r1))
structure GP where
 H0 : Hp
 B : Nat
 q : Nat
 e : Nat
 bw : Nat
 ba : Nat
 vr : Sl
 vc : Sl
 w : Sl
 w0 : Int
 r0 : Int
 r1 : Int
def capsG (P : GP) : List AV := [.ptr (P.B + 2) 0, .ptr P.e 0, .ptr (P.B + 3) 0, .ptr (P.B + 5) 0, .ptr (P.e + 1) 0]
structure Gb (P : GP) (H : Hp) : Prop where
 n : P.e + 2 ≤ H.n
 old : ∀ b, b < P.H0.n → H.get b = P.H0.get b
 lo : P.H0.n ≤ P.bw ∧ P.bw < P.ba ∧ P.ba < P.vr.b ∧ P.vr.b < P.B ∧ P.B + 8 ≤ P.q ∧ P.q < P.e
 hw : H.get P.bw = some (.cells [.int .i64 P.w0] false)
 df : H.get P.B = some .dfr
 lp : H.get (P.B + 1) = some (.loop .ready none 0 32 [(4, .ptr P.bw 0), (5, .ptr P.ba 0)])
 mg : H.get (P.B + 2) = some (.cells [.sl P.vr, .sl P.vc] false)
 sr : SL H P.vr [P.r0, P.r1]
 lc : P.vc.len = 2
 yd : H.get (P.B + 3) = some (.cells [.yld (P.B + 1)] false)
 tb : H.get (P.B + 4) = some (.cells [.sl ⟨false, P.B + 6, 0, 2, 2, 0⟩, .sl ⟨false, P.B + 7, 0, 2, 2, 0⟩] false)
 tv : H.get (P.B + 5) = some (.cells [.sl ⟨false, P.B + 4, 0, 2, 2, 0⟩] false)
 cv : H.get P.e = some (.cells [.sl P.w] false)
 wb : P.w.b = P.q ∧ P.w.o = 0 ∧ P.w.len = 2 ∧ P.w.len ≤ P.w.cap ∧ (P.w.opn = 0 ∨ P.w.opn = 1) ∧ P.w.nil = false
 gv : H.get (P.e + 1) = some (.cells [.fn 93 [] (capsG P)] false)
 r16 : 0 ≤ P.r1 ∧ P.r1 ≤ 16
structure Gm (P : GP) (H : Hp) (s : Gs) : Prop where
 ha : H.get P.ba = some (.cells [.int .i64 s.acc] false)
 c0 : H.get (P.B + 6) = some (.cells [.int .i64 s.a, .int .i64 s.b] false)
 c1 : H.get (P.B + 7) = some (.cells [.int .i64 s.c, .int .i64 s.d] false)
 cl : H.get P.q = some (.cells [.int .i64 s.k0, .int .i64 s.k1] false)
def Gd (P : GP) (H : Hp) (s : Gs) : Prop := Gb P H ∧ Gm P H s
theorem Gb.keep {P : GP} {H E : Hp} (h : Gb P H) (hn : H.n ≤ E.n) (o : ∀ b, b < H.n → b ≠ P.ba → b ≠ P.B + 6 → b ≠ P.B + 7 → b ≠ P.q → E.get b = H.get b) : Gb P E := by
 have l := h.lo
 have n := h.n
 have k : ∀ b, b < H.n → b ≠ P.ba → b ≠ P.B + 6 → b ≠ P.B + 7 → b ≠ P.q → ∀ x, H.get b = some x → E.get b = some x := fun b h1 h2 h3 h4 h5 x e => (o b h1 h2 h3 h4 h5).trans e
 exact ⟨by omega, fun b hb => (o b (by omega) (by omega) (by omega) (by omega) (by omega)).trans (h.old b hb), l, k _ (by omega) (by omega) (by omega) (by omega) (by omega) _ h.hw, k _ (by omega) (by omega) (by omega) (by omega) (by omega) _ h.df, k _ (by omega) (by omega) (by omega) (by omega) (by omega) _ h.lp, k _ (by omega) (by omega) (by omega) (by omega) (by omega) _ h.mg, slKeep h.sr (o _ (by omega) (by omega) (by omega) (by omega) (by omega)), h.lc, k _ (by omega) (by omega) (by omega) (by omega) (by omega) _ h.yd, k _ (by omega) (by omega) (by omega) (by omega) (by omega) _ h.tb, k _ (by omega) (by omega) (by omega) (by omega) (by omega) _ h.tv, k _ (by omega) (by omega) (by omega) (by omega) (by omega) _ h.cv, h.wb, k _ (by omega) (by omega) (by omega) (by omega) (by omega) _ h.gv, h.r16⟩
theorem Gd.gr {P : GP} {H E : Hp} {s : Gs} (h : Gd P H s) (g : Gr H E) : Gd P E s := by
 have l := h.1.lo
 have n := h.1.n
 exact ⟨h.1.keep g.1 fun b hb _ _ _ _ => g.2 b hb, ⟨(g.2 _ (by omega)).trans h.2.ha, (g.2 _ (by omega)).trans h.2.c0, (g.2 _ (by omega)).trans h.2.c1, (g.2 _ (by omega)).trans h.2.cl⟩⟩
theorem Gd.put {P : GP} {H : Hp} {s : Gs} (h : Gd P H s) {i j : Nat} (hi : i < 2) (hj : j < 2) (v : Int) {α : Type} {Q : α → Hp → Prop} {f : Hp → Option (α × Hp)} (k : ∀ E, Gd P E (s.put i j v) → E.n = H.n → Lt.Ok (f E) Q) : Lt.Ok ((H.st (P.B + 6 + i) j (.int .i64 v)).bind f) Q := by
 have l := h.1.lo
 have n := h.1.n
 match i, j, hi, hj with
 | 0, 0, _, _ =>
  exact stX h.2.c0 (by simp) fun E e1 e2 e3 => k E ⟨h.1.keep (by omega) fun b _ _ h6 _ _ => e3 b (by omega), ⟨(e3 _ (by omega)).trans h.2.ha, e1, (e3 _ (by omega)).trans h.2.c1, (e3 _ (by omega)).trans h.2.cl⟩⟩ e2
 | 0, 1, _, _ =>
  exact stX h.2.c0 (by simp) fun E e1 e2 e3 => k E ⟨h.1.keep (by omega) fun b _ _ h6 _ _ => e3 b (by omega), ⟨(e3 _ (by omega)).trans h.2.ha, e1, (e3 _ (by omega)).trans h.2.c1, (e3 _ (by omega)).trans h.2.cl⟩⟩ e2
 | 1, 0, _, _ =>
  exact stX h.2.c1 (by simp) fun E e1 e2 e3 => k E ⟨h.1.keep (by omega) fun b _ _ _ h7 _ => e3 b (by omega), ⟨(e3 _ (by omega)).trans h.2.ha, (e3 _ (by omega)).trans h.2.c0, e1, (e3 _ (by omega)).trans h.2.cl⟩⟩ e2
 | 1, 1, _, _ =>
  exact stX h.2.c1 (by simp) fun E e1 e2 e3 => k E ⟨h.1.keep (by omega) fun b _ _ _ h7 _ => e3 b (by omega), ⟨(e3 _ (by omega)).trans h.2.ha, (e3 _ (by omega)).trans h.2.c0, e1, (e3 _ (by omega)).trans h.2.cl⟩⟩ e2
theorem Gd.sk {P : GP} {H : Hp} {s : Gs} (h : Gd P H s) {j : Nat} (hj : j < 2) (v : Int) {α : Type} {Q : α → Hp → Prop} {f : Hp → Option (α × Hp)} (k : ∀ E, Gd P E (s.sk j v) → E.n = H.n → Lt.Ok (f E) Q) : Lt.Ok ((H.st P.q j (.int .i64 v)).bind f) Q := by
 have l := h.1.lo
 have n := h.1.n
 match j, hj with
 | 0, _ =>
  exact stX h.2.cl (by simp) fun E e1 e2 e3 => k E ⟨h.1.keep (by omega) fun b _ _ _ _ h5 => e3 b h5, ⟨(e3 _ (by omega)).trans h.2.ha, (e3 _ (by omega)).trans h.2.c0, (e3 _ (by omega)).trans h.2.c1, e1⟩⟩ e2
 | 1, _ =>
  exact stX h.2.cl (by simp) fun E e1 e2 e3 => k E ⟨h.1.keep (by omega) fun b _ _ _ _ h5 => e3 b h5, ⟨(e3 _ (by omega)).trans h.2.ha, (e3 _ (by omega)).trans h.2.c0, (e3 _ (by omega)).trans h.2.c1, e1⟩⟩ e2
theorem Gd.kk {P : GP} {H : Hp} {s : Gs} (h : Gd P H s) {j : Nat} (hj : j < 2) : H.ldI .i64 P.q j = some (s.kk j) := by
 match j, hj with
 | 0, _ => exact ldI_get h.2.cl rfl
 | 1, _ => exact ldI_get h.2.cl rfl
theorem Gd.tab {P : GP} {H : Hp} {s : Gs} (h : Gd P H s) : T2 H ⟨false, P.B + 4, 0, 2, 2, 0⟩ ⟨false, P.B + 6, 0, 2, 2, 0⟩ ⟨false, P.B + 7, 0, 2, 2, 0⟩ s.a s.b s.c s.d :=
 ⟨rfl, ldSl_get h.1.tb rfl, ldSl_get h.1.tb rfl, .of_get (ro := false) h.2.c0 rfl rfl (Nat.le_refl _) (.inl rfl) rfl, .of_get (ro := false) h.2.c1 rfl rfl (Nat.le_refl _) (.inl rfl) rfl⟩
theorem T2.sub {H A : Hp} {v r0 r1 : Sl} {a b c d : Int} (h : T2 H v r0 r1 a b c d) (g : Sub H A) : T2 A v r0 r1 a b c d := by
 have k : ∀ {b o : Nat} {v : Sl}, H.ldSl b o = some v → A.ldSl b o = some v := fun {b o v} h => by
  unfold Hp.ldSl at h ⊢
  cases e : H.ld b o with
  | none => rw [e] at h; cases h
  | some x => rw [g.ld e]; rw [e] at h; exact h
 exact ⟨h.len, k h.e0, k h.e1, h.s0.sub g, h.s1.sub g⟩
theorem w64_in (n : Int) : -9223372036854775808 ≤ w64 n ∧ w64 n ≤ 9223372036854775807 := by
 simp only [w64, IntKind.wrap, IntKind.signed, IntKind.bits]
 simp
 split <;> omega
theorem put_k (s : Gs) (i j : Nat) (v : Int) : (s.put i j v).k0 = s.k0 ∧ (s.put i j v).k1 = s.k1 := by unfold Gs.put; split <;> exact ⟨rfl, rfl⟩
theorem put_kk (s : Gs) (i j : Nat) (v : Int) (t : Nat) : (s.put i j v).kk t = s.kk t := by
 unfold Gs.kk; split
 ·exact (put_k s i j v).1
 ·exact (put_k s i j v).2
theorem sk_kk (s : Gs) (j : Nat) (v : Int) : (s.sk j v).kk j = v := by cases j <;> rfl
theorem kk_of {s t : Gs} (h0 : s.k0 = t.k0) (h1 : s.k1 = t.k1) (j : Nat) : s.kk j = t.kk j := by cases j <;> first | exact h0 | exact h1
theorem In_put {s : Gs} (h : s.In) (i j : Nat) {v : Int} (hv : 0 ≤ v ∧ v ≤ 16) : (s.put i j v).In := by
 unfold Gs.put Gs.In at *; split <;> (dsimp only at *; omega)
theorem In_sk {s : Gs} (h : s.In) (j : Nat) {v : Int} (hv : 0 ≤ v ∧ v ≤ 16) : (s.sk j v).In := by
 unfold Gs.sk Gs.In at *; split <;> (dsimp only at *; omega)
theorem In_kk {s : Gs} (h : s.In) (j : Nat) : 0 ≤ s.kk j ∧ s.kk j ≤ 16 := by
 unfold Gs.kk Gs.In at *; split <;> omega
def Says (P : GP) (k : Nat) (i j : Int) (f : Int → Gs → Gs) : Prop :=
 ∀ D s l, Gd P D s → s.In → 0 ≤ l ∧ l ≤ 16 → Lt.Ok (r93 (appA k) i j l (P.B + 2) P.e (P.B + 3) (P.B + 5) (P.e + 1) D) fun r E => r = true ∧ Gd P E (f l s) ∧ (f l s).k0 = s.k0 ∧ (f l s).k1 = s.k1 ∧ (f l s).In
theorem app93 (P : GP) (k : Nat) (i j l : Int) (H : Hp) : callv (appA (k + 1)) (.fn 93 [] (capsG P)) [.int .i64 i, .int .i64 j, .int .i64 l] H = (r93 (appA k) i j l (P.B + 2) P.e (P.B + 3) (P.B + 5) (P.e + 1) H).map fun p => (.bool p.1, p.2) := rfl
theorem Says.call {P : GP} {k : Nat} {i j : Int} {f : Int → Gs → Gs} (h : Says P k i j f) {D : Hp} {s : Gs} {l : Int} (hd : Gd P D s) (hs : s.In) (hl : 0 ≤ l ∧ l ≤ 16) {α : Type} {Q : α → Hp → Prop} {g : Bool × Hp → Option (α × Hp)} (kk : ∀ E, Gd P E (f l s) → (f l s).k0 = s.k0 → (f l s).k1 = s.k1 → (f l s).In → Lt.Ok (g (true, E)) Q) :
  Lt.Ok ((callv (appA (k + 1)) (.fn 93 [] (capsG P)) [.int .i64 i, .int .i64 j, .int .i64 l] D).bind fun p => p.1.asB.bind fun x => g (x, p.2)) Q := by
 obtain ⟨r, E, e, h1, h2, h3, h4, h5⟩ := h D s l hd hs hl
 rw [app93, e]
 subst h1
 exact kk E h2 h3 h4 h5
theorem Gd.grow {P : GP} {D : Hp} {s : Gs} (h : Gd P D s) : D.ldV (P.e + 1) 0 = some (.fn 93 [] (capsG P)) := by simp [Hp.ldV, ld_of_get h.1.gv, AV.isU]
theorem yld_ok {P : GP} {k : Nat} {E : Hp} {s : Gs} {w q0 q1 : Sl} (h : Gd P E s) (hs : s.In) (hT : T2 E w q0 q1 s.a s.b s.c s.d) :
  Lt.Ok (callv (appA (k + 1)) (.yld (P.B + 1)) [.sl w] E) fun r A => r = .bool true ∧ Gd P A (if wtS s.a s.b s.c s.d ≤ P.w0 then { s with acc := w64 (s.acc + wtS s.a s.b s.c s.d) } else s) := by
 show Lt.Ok (ydisp (appA k) (P.B + 1) [.sl w] E) _
 unfold ydisp
 rw [h.1.lp]
 simp only
 have L := h.1.lo
 have n := h.1.n
 refine Lt.Ok.bind (P := fun r A => r = none ∧ A.n = E.n ∧ A.get (P.B + 1) = some (.loop .busy none 0 32 [(4, .ptr P.bw 0), (5, .ptr P.ba 0)]) ∧ (∀ b, b ≠ P.B + 1 → b ≠ P.ba → A.get b = E.get b) ∧ A.get P.ba = some (.cells [.int .i64 (if wtS s.a s.b s.c s.d ≤ P.w0 then w64 (s.acc + wtS s.a s.b s.c s.d) else s.acc)] false)) ?_ ?_
 ·unfold r13q0
  have hbeg : E.lbegin (P.B + 1) = some (E.set (P.B + 1) (.loop .busy none 0 32 [(4, .ptr P.bw 0), (5, .ptr P.ba 0)])) := by unfold Hp.lbegin; rw [h.1.lp]
  refine Lt.Ok.ld hbeg ?_
  have oF : ∀ b, b ≠ P.B + 1 → (E.set (P.B + 1) (.loop .busy none 0 32 [(4, .ptr P.bw 0), (5, .ptr P.ba 0)])).get b = E.get b := fun b hb => Hp.get_set_other _ _ hb
  have sF : (E.set (P.B + 1) (.loop .busy none 0 32 [(4, .ptr P.bw 0), (5, .ptr P.ba 0)])).get (P.B + 1) = some (.loop .busy none 0 32 [(4, .ptr P.bw 0), (5, .ptr P.ba 0)]) := Hp.get_set_same _ _ (by omega)
  have nF : (E.set (P.B + 1) (.loop .busy none 0 32 [(4, .ptr P.bw 0), (5, .ptr P.ba 0)])).n = E.n := by simp
  generalize E.set (P.B + 1) (.loop .busy none 0 32 [(4, .ptr P.bw 0), (5, .ptr P.ba 0)]) = F at *
  have sub : Sub E F := fun b cs ro e => by
   by_cases hb : b = P.B + 1
   ·rw [hb, h.1.lp] at e; cases e
   ·rw [oF b hb]; exact e
  refine Lt.Ok.ld (r55_ok (hT.sub sub) hs.1) (Lt.Ok.ld (ldI_get ((oF _ (by omega)).trans h.1.hw) rfl) ?_)
  have haF := (oF P.ba (by omega)).trans h.2.ha
  refine Lt.Ok.ite (fun hc => ?_) fun hc => ?_
  ·refine Lt.Ok.ld (ldI_get haF rfl) ?_
   refine stX haF (by simp) fun G e1 e2 e3 => Lt.Ok.ret ⟨rfl, e2.trans nF, (e3 _ (by omega)).trans sF, fun b h1 h2 => (e3 b h2).trans (oF b h1), ?_⟩
   rw [e1, if_pos hc]; rfl
  ·refine Lt.Ok.ret ⟨rfl, nF, sF, fun b h1 _ => oF b h1, ?_⟩
   rw [haF, if_neg hc]
 ·rintro r A ⟨rfl, nA, lA, oA, aA⟩
  have hnx : A.lnext (P.B + 1) 0 none = some (A.set (P.B + 1) (.loop .ready none 0 32 [(4, .ptr P.bw 0), (5, .ptr P.ba 0)])) := by unfold Hp.lnext; rw [lA]; rfl
  dsimp only
  rw [hnx]
  have oG : ∀ b, b ≠ P.B + 1 → (A.set (P.B + 1) (.loop .ready none 0 32 [(4, .ptr P.bw 0), (5, .ptr P.ba 0)])).get b = A.get b := fun b hb => Hp.get_set_other _ _ hb
  have sG : (A.set (P.B + 1) (.loop .ready none 0 32 [(4, .ptr P.bw 0), (5, .ptr P.ba 0)])).get (P.B + 1) = some (.loop .ready none 0 32 [(4, .ptr P.bw 0), (5, .ptr P.ba 0)]) := Hp.get_set_same _ _ (by omega)
  have nG : (A.set (P.B + 1) (.loop .ready none 0 32 [(4, .ptr P.bw 0), (5, .ptr P.ba 0)])).n = A.n := by simp
  generalize A.set (P.B + 1) (.loop .ready none 0 32 [(4, .ptr P.bw 0), (5, .ptr P.ba 0)]) = G at *
  have all : ∀ b, b ≠ P.ba → G.get b = E.get b := fun b hb => by
   by_cases hB : b = P.B + 1
   ·rw [hB, sG, h.1.lp]
   ·rw [oG b hB, oA b hB hb]
  have haG := (oG P.ba (by omega)).trans aA
  refine Lt.Ok.ret ⟨rfl, h.1.keep (by omega) fun b _ hb _ _ _ => all b hb, ?_⟩
  split
  ·rename_i hc
   rw [if_pos hc] at haG
   exact ⟨haG, (all _ (by omega)).trans h.2.c0, (all _ (by omega)).trans h.2.c1, (all _ (by omega)).trans h.2.cl⟩
  ·rename_i hc
   rw [if_neg hc] at haG
   exact ⟨haG, (all _ (by omega)).trans h.2.c0, (all _ (by omega)).trans h.2.c1, (all _ (by omega)).trans h.2.cl⟩
theorem says_y (P : GP) (k : Nat) : Says P (k + 1) 2 0 (g0S P.w0) := by
 intro D s l h hs hl
 unfold r93
 have hv := (L2.of h.1.sr).len
 obtain ⟨b1, b2, b3, b4, b5, b6⟩ := h.1.wb
 have hw : L2 D P.w s.k0 s.k1 := L2.of (.of_get (ro := false) (by rw [b1]; exact h.2.cl) b2 b3 b4 b5 b6)
 refine Lt.Ok.ld (ldSl_get h.1.mg rfl) (Lt.Ok.pos (by omega) (Lt.Ok.ld (ldSl_get h.1.cv rfl) (Lt.Ok.ld (r94_two hw) ?_)))
 unfold g0S yS
 refine Lt.Ok.ite (fun hc => ?_) fun hc => ?_
 ·rw [if_pos hc]
  exact Lt.Ok.ret ⟨rfl, h, rfl, rfl, hs⟩
 ·rw [if_neg hc]
  have ev : D.ldV (P.B + 3) 0 = some (.yld (P.B + 1)) := by simp [Hp.ldV, ld_of_get h.1.yd, AV.isU]
  refine Lt.Ok.ld ev (Lt.Ok.ld (ldSl_get h.1.tv rfl) ?_)
  refine Lt.Ok.bind (r95_ok h.tab) fun w E ⟨gE, q0, q1, hT⟩ => ?_
  have hE := h.gr gE
  refine Lt.Ok.bind (yld_ok (k := k) hE hs hT) fun r A ⟨hr, hA⟩ => ?_
  subst hr
  refine Lt.Ok.ld rfl (Lt.Ok.ck (by simp [Hp.isV, ld_of_get h.1.yd, AV.eqb]) (Lt.Ok.ck (by simp [Hp.isV, ld_of_get hE.1.yd, AV.eqb]) (Lt.Ok.ret ⟨rfl, hA, ?_, ?_, ?_⟩)))
  all_goals split
  all_goals first | rfl | exact hs | exact ⟨hs.1, hs.2.1, w64_in _⟩
theorem says_end1 {P : GP} {k : Nat} (h0 : Says P k 2 0 (g0S P.w0)) : Says P (k + 1) 1 2 (g1S P.w0) := by
 intro D s l h hs hl
 unfold r93
 have hv := (L2.of h.1.sr).len
 have hc := h.1.lc
 refine Lt.Ok.ld (ldSl_get h.1.mg rfl) (Lt.Ok.neg (by omega) (Lt.Ok.ld (ldSl_get h.1.mg rfl) (Lt.Ok.pos (by omega) ?_)))
 unfold g1S
 refine Lt.Ok.ite (fun hc => ?_) fun hc => ?_
 ·rw [if_pos hc]; exact Lt.Ok.ret ⟨rfl, h, rfl, rfl, hs⟩
 ·rw [if_neg hc]
  refine Lt.Ok.ld (ldSl_get h.1.mg rfl) ?_
  rw [show w64 (1 + 1) = 2 from by decide]
  refine Lt.Ok.pos (by omega) (Lt.Ok.ld h.grow ?_)
  exact h0.call h hs (by omega) (g := fun p => some (p.1, p.2)) fun E k1 k2 k3 k4 => Lt.Ok.ret ⟨rfl, k1, k2, k3, k4⟩
theorem says_end0 {P : GP} {k : Nat} (h0 : Says P k 1 0 (g3S P.w0)) : Says P (k + 1) 0 2 (g4S P.w0 P.r1) := by
 intro D s l h hs hl
 unfold r93
 have hv := (L2.of h.1.sr).len
 have hc := h.1.lc
 refine Lt.Ok.ld (ldSl_get h.1.mg rfl) (Lt.Ok.neg (by omega) (Lt.Ok.ld (ldSl_get h.1.mg rfl) (Lt.Ok.pos (by omega) ?_)))
 unfold g4S
 refine Lt.Ok.ite (fun hc => ?_) fun hc => ?_
 ·rw [if_pos hc]; exact Lt.Ok.ret ⟨rfl, h, rfl, rfl, hs⟩
 ·rw [if_neg hc]
  refine Lt.Ok.ld (ldSl_get h.1.mg rfl) ?_
  rw [show w64 (0 + 1) = 1 from by decide]
  refine Lt.Ok.neg (by omega) (Lt.Ok.ld h.grow (Lt.Ok.ld (ldSl_get h.1.mg rfl) (Lt.Ok.ck (by omega) (Lt.Ok.ld (L2.of h.1.sr).e1 ?_))))
  exact h0.call h hs h.1.r16 (g := fun p => some (p.1, p.2)) fun E k1 k2 k3 k4 => Lt.Ok.ret ⟨rfl, k1, k2, k3, k4⟩
theorem says_loop {P : GP} {k : Nat} {i j : Nat} (hi : i < 2) (hj : j < 2) {f : Int → Gs → Gs} (h0 : Says P k (i : Int) ((j + 1 : Nat) : Int) f) : Says P (k + 1) (i : Int) (j : Int) (glS i j f) := by
 intro D s l h hs hl
 unfold r93
 have hv := (L2.of h.1.sr).len
 have hc := h.1.lc
 obtain ⟨b1, b2, b3, b4, b5, b6⟩ := h.1.wb
 have kb := In_kk hs j
 have ew : ∀ {D s}, Gd P D s → D.ldI .i64 P.w.b (P.w.o + (j : Int).toNat * 1) = some (s.kk j) := fun {D s} h => by
  rw [b1, b2, Int.toNat_natCast, Nat.mul_one, Nat.zero_add]; exact h.kk hj
 refine Lt.Ok.ld (ldSl_get h.1.mg rfl) (Lt.Ok.neg (by omega) (Lt.Ok.ld (ldSl_get h.1.mg rfl) (Lt.Ok.neg (by omega) (Lt.Ok.ld (ldSl_get h.1.cv rfl) (Lt.Ok.ck (by omega) (Lt.Ok.ld (ew h) ?_))))))
 unfold glS
 generalize hM : ((if s.kk j < l then s.kk j else l) + 1).toNat = M
 have hM2 : w64 ((if s.kk j < l then s.kk j else l) + 1) = (M : Int) ∧ (M : Int) ≤ s.kk j + 1 ∧ (M : Int) ≤ l + 1 := by
  split at hM
  ·rename_i h; rw [if_pos h, w64_id (by omega) (by omega)]; omega
  ·rename_i h; rw [if_neg h, w64_id (by omega) (by omega)]; omega
 rw [hM2.1]
 generalize hF : (fun v s' => (f (l - v) ((Gs.put s' i j v).sk j (s.kk j - v))).sk j (s.kk j)) = F
 refine Lt.Ok.loop (L := fun K (v : Int) D => r93_l0 (appA (k + 1)) K (i : Int) (j : Int) l P.e (P.B + 5) (P.e + 1) (M : Int) v D) (fun m v D => ∃ u : Nat, v = (u : Int) ∧ u + m = M ∧ ∃ s', Gd P D s' ∧ s'.k0 = s.k0 ∧ s'.k1 = s.k1 ∧ s'.In ∧ lpS F m v s' = lpS F M 0 s) ?_ FUEL M 0 D (by unfold FUEL; omega) ⟨0, rfl, by omega, s, h, rfl, rfl, hs, rfl⟩
 rintro K m v D ⟨u, rfl, hum, s', h', e0, e1, hs', hfin⟩ ih
 rw [r93_l0]
 by_cases hlt : u < M
 ·have hrow : D.ldSl (P.B + 4) (0 + (i : Int).toNat * 1) = some ⟨false, P.B + 6 + i, 0, 2, 2, 0⟩ := by
   match i, hi with
   | 0, _ => exact h'.tab.e0
   | 1, _ => exact h'.tab.e1
  refine Lt.Ok.pos (by omega) (Lt.Ok.ld (ldSl_get h'.1.tv rfl) (Lt.Ok.ck ⟨by omega, by dsimp only; omega⟩ (Lt.Ok.ld hrow (Lt.Ok.ck ⟨by omega, by dsimp only; omega⟩ ?_))))
  dsimp only
  rw [Int.toNat_natCast, Nat.mul_one, Nat.zero_add]
  have kj : s'.kk j = s.kk j := kk_of e0 e1 j
  refine h'.put hi hj (u : Int) fun E hE nE => ?_
  have ewE := ew hE
  rw [Int.toNat_natCast, Nat.mul_one, put_kk, kj] at ewE
  refine Lt.Ok.ld (ldSl_get hE.1.cv rfl) (Lt.Ok.ck (by omega) (Lt.Ok.ld ewE (Lt.Ok.ck (by omega) ?_)))
  rw [b1, b2, Nat.zero_add, w64_id (n := s.kk j - (u : Int)) (by omega) (by omega)]
  refine hE.sk hj (s.kk j - (u : Int)) fun G hG nG => ?_
  refine Lt.Ok.ld hG.grow ?_
  rw [w64_succ (by omega), w64_id (n := l - (u : Int)) (by omega) (by omega)]
  have in2 : ((s'.put i j (u : Int)).sk j (s.kk j - (u : Int))).In := In_sk (In_put hs' i j (by omega)) j (by omega)
  refine h0.call hG in2 (by omega) (g := fun p => (p.2.ldSl P.e 0).bind fun x15 => ck ((0 : Int) ≤ (j : Int) ∧ (j : Int) < (x15.len : Int)) ((p.2.ldI .i64 x15.b (x15.o + j)).bind fun x17 => ck ((0 : Int) ≤ (j : Int) ∧ (j : Int) < (x15.len : Int)) ((p.2.st x15.b (x15.o + j) (.int .i64 (w64 (x17 + (u : Int))))).bind fun H19 => if p.1 = true then r93_l0 (appA (k + 1)) K (i : Int) (j : Int) l P.e (P.B + 5) (P.e + 1) (M : Int) (w64 ((u : Int) + 1)) H19 else some (false, H19)))) fun A hA k1 k2 k3 => ?_
  have ewA := ew hA
  rw [Int.toNat_natCast, Nat.mul_one, kk_of k1 k2, sk_kk] at ewA
  refine Lt.Ok.ld (ldSl_get hA.1.cv rfl) (Lt.Ok.ck (by omega) (Lt.Ok.ld ewA (Lt.Ok.ck (by omega) ?_)))
  rw [b1, b2, Nat.zero_add, show s.kk j - (u : Int) + (u : Int) = s.kk j by omega, w64_id (n := s.kk j) (by omega) (by omega)]
  refine hA.sk hj (s.kk j) fun Z hZ nZ => ?_
  refine Lt.Ok.pos rfl ?_
  rw [w64_succ (by omega)]
  refine ih (m - 1) _ Z (by omega) ⟨u + 1, rfl, by omega, _, hZ, ?_, ?_, In_sk k3 j kb, ?_⟩
  ·cases j
   ·rfl
   ·exact k1.trans ((put_k s' i _ _).1.trans e0)
  ·cases j
   ·exact k2.trans ((put_k s' i _ _).2.trans e1)
   ·rfl
  ·obtain ⟨m, rfl⟩ : ∃ t, m = t + 1 := ⟨m - 1, by omega⟩
   rw [← hfin, lpS, ← hF]
   rfl
 ·have hu : u = M := by omega
  have : m = 0 := by omega
  subst this; subst hu
  refine Lt.Ok.neg (by omega) (Lt.Ok.ret ?_)
  rw [← hfin]
  exact ⟨rfl, h', e0, e1, hs'⟩
theorem says_all (P : GP) (k : Nat) : Says P (k + 7) 0 0 (g6S P.w0 P.r1) :=
 says_loop (i := 0) (j := 0) (by omega) (by omega) (says_loop (i := 0) (j := 1) (by omega) (by omega) (says_end0 (says_loop (i := 1) (j := 0) (by omega) (by omega) (says_loop (i := 1) (j := 1) (by omega) (by omega) (says_end1 (says_y P k))))))
theorem push1 (H : Hp) (x : Blk) : ∃ D, H.push x = D ∧ D.get H.n = some x ∧ D.n = H.n + 1 ∧ Gr H D := ⟨_, rfl, Hp.get_push_new _ _, by simp, Gr.push _ _⟩
theorem push2 (H : Hp) (x y : Blk) : ∃ D, (H.push x).push y = D ∧ D.get H.n = some x ∧ D.get (H.n + 1) = some y ∧ D.n = H.n + 2 ∧ Gr H D ∧ (H.push x).n = H.n + 1 :=
 ⟨_, rfl, (Hp.get_push_old _ _ (by simp)).trans (Hp.get_push_new _ _), by have := Hp.get_push_new (H.push x) y; simpa using this, by simp, (Gr.push _ _).trans (Gr.push _ _), by simp⟩
theorem r57_row {α : Type} {Q : α → Hp → Prop} {f : Hp → Option (α × Hp)} {D : Hp} {t : Nat} {x y : AV} {i : Nat} (hi : i < 2) (ht : D.get t = some (.cells [x, y] false))
  (k : ∀ E, E.get t = some (.cells ([x, y].set i (.sl ⟨false, D.n, 0, 2, 2, 0⟩)) false) → E.get D.n = some (.cells [.int .i64 0, .int .i64 0] false) → E.n = D.n + 1 → (∀ b, b < D.n → b ≠ t → E.get b = D.get b) → Lt.Ok (f E) Q) :
  Lt.Ok (((D.push (.cells (zerosA [.int .i64 0] (((2 : Nat) : Int).toNat * 1)) false)).st t i (.sl ⟨false, D.n, 0, ((2 : Nat) : Int).toNat, ((2 : Nat) : Int).toNat, 0⟩)).bind f) Q := by
 obtain ⟨E, hE, e1, e2, e3⟩ := push1 D (.cells (zerosA [.int .i64 0] (((2 : Nat) : Int).toNat * 1)) false)
 rw [hE]
 have lt := Hp.get_lt ht
 refine stX ((e3.2 _ lt).trans ht) (by simpa using hi) fun F f1 f2 f3 => k F f1 ?_ (f2.trans e2) fun b h1 h2 => (f3 b h2).trans (e3.2 b h1)
 rw [f3 _ (by omega), e1]; rfl
theorem r57_ok {k : Nat} {A H0 : Hp} {B bw ba : Nat} {vr vc : Sl} {w0 r0 r1 c0 c1 : Int} (hn : A.n = B + 2) (hold : ∀ b, b < H0.n → A.get b = H0.get b) (lo : H0.n ≤ bw ∧ bw < ba ∧ ba < vr.b ∧ vr.b < B)
  (hw : A.get bw = some (.cells [.int .i64 w0] false)) (ha : A.get ba = some (.cells [.int .i64 0] false)) (hd : A.get B = some .dfr) (hl : A.get (B + 1) = some (.loop .ready none 0 32 [(4, .ptr bw 0), (5, .ptr ba 0)]))
  (sr : SL A vr [r0, r1]) (sc : SL A vc [c0, c1]) (b16 : 0 ≤ r0 ∧ r0 ≤ 16 ∧ 0 ≤ r1 ∧ r1 ≤ 16 ∧ 0 ≤ c0 ∧ c0 ≤ 16 ∧ 0 ≤ c1 ∧ c1 ≤ 16) :
  Lt.Ok (r57 (appA (k + 8)) vr vc (.yld (B + 1)) A) fun _ E => ∃ P : GP, P.H0 = H0 ∧ P.B = B ∧ P.bw = bw ∧ P.ba = ba ∧ Gd P E (g6S w0 r1 r0 ⟨0, 0, 0, 0, c0, c1, 0⟩) ∧ (g6S w0 r1 r0 ⟨0, 0, 0, 0, c0, c1, 0⟩).In := by
 unfold r57
 have lr := sr.len
 have lc := sc.len
 simp only [List.length_cons, List.length_nil] at lr lc
 refine Lt.Ok.ck rfl (Lt.Ok.lt ?_)
 obtain ⟨D, hD, d1, d2, d3, d4, d5⟩ := push2 A (.cells [.sl vr, .sl vc] false) (.cells [.yld (B + 1)] false)
 rw [hD, d5, hn]
 rw [hn] at d1 d2 d3
 refine Lt.Ok.ld (ldSl_get d1 rfl) (Lt.Ok.ck (by omega) ?_)
 rw [lr]
 obtain ⟨E, hE, e1, e2, e3, e4, e5⟩ := push2 D (.cells (zerosA [.sl ⟨true, 0, 0, 0, 0, 0⟩] (((0 + 1 + 1 : Nat) : Int).toNat * 1)) false) (.cells [.sl ⟨true, 0, 0, 0, 0, 0⟩] false)
 rw [hE, e5, d3]
 rw [d3] at e1 e2 e3
 refine stX e2 (by simp) fun F f1 f2 f3 => ?_
 have oF : ∀ b, b < B + 5 → F.get b = E.get b := fun b hb => f3 b (by omega)
 have tF : F.get (B + 4) = some (.cells [.sl ⟨true, 0, 0, 0, 0, 0⟩, .sl ⟨true, 0, 0, 0, 0, 0⟩] false) := (oF _ (by omega)).trans e1
 have mF : F.get (B + 2) = some (.cells [.sl vr, .sl vc] false) := (oF _ (by omega)).trans ((e4.2 _ (by omega)).trans d1)
 have yF : F.get (B + 3) = some (.cells [.yld (B + 1)] false) := (oF _ (by omega)).trans ((e4.2 _ (by omega)).trans d2)
 have nF : F.n = B + 6 := by omega
 have aF : ∀ b, b < B + 2 → F.get b = A.get b := fun b hb => (oF _ (by omega)).trans ((e4.2 _ (by omega)).trans (d4.2 _ (by omega)))
 refine Lt.Ok.ld (ldSl_get f1 rfl) ?_
 have f1' : F.get (B + 5) = some (.cells [.sl ⟨false, B + 4, 0, 2, 2, 0⟩] false) := f1
 clear f1 f2 f3 oF e1 e2 e3 e4 e5 hE hD d1 d2 d3 d4 d5
 show Lt.Ok (r57_l0 (appA (k + 8)) FUEL (B + 2) (B + 3) (B + 5) 2 0 F) _
 obtain ⟨m, hm⟩ := FUEL3
 have hm2 : FUEL = (m + 2) + 1 := hm
 rw [hm2, r57_l0]
 refine Lt.Ok.pos (by decide) (Lt.Ok.ld (ldSl_get f1' rfl) (Lt.Ok.ld (ldSl_get mF rfl) (Lt.Ok.ck (by omega) (Lt.Ok.ck (by simp) ?_))))
 rw [lc]
 refine r57_row (t := B + 4) (i := 0) (by omega) tF fun G g1 g2 g3 g4 => ?_
 rw [nF] at g1 g2 g3 g4
 obtain ⟨F', hF', _, _, gF'⟩ := push1 F (.cells (zerosA [.int .i64 0] (((0 + 1 + 1 : Nat) : Int).toNat * 1)) false)
 rw [hF']
 refine Lt.Ok.ck (ldSl_get ((gF'.2 _ (by omega)).trans f1') rfl) ?_
 clear hF' gF'
 rw [show w64 (0 + 1) = 1 from by decide, r57_l0]
 have f1G := (g4 _ (by omega) (by omega)).trans f1'
 have mG := (g4 (B + 2) (by omega) (by omega)).trans mF
 refine Lt.Ok.pos (by decide) (Lt.Ok.ld (ldSl_get f1G rfl) (Lt.Ok.ld (ldSl_get mG rfl) (Lt.Ok.ck (by omega) (Lt.Ok.ck (by simp) ?_))))
 rw [lc]
 refine r57_row (t := B + 4) (i := 1) (by omega) g1 fun I i1 i2 i3 i4 => ?_
 rw [g3] at i1 i2 i3 i4
 obtain ⟨F', hF', _, _, gF'⟩ := push1 G (.cells (zerosA [.int .i64 0] (((0 + 1 + 1 : Nat) : Int).toNat * 1)) false)
 rw [hF']
 refine Lt.Ok.ck (ldSl_get ((gF'.2 _ (by omega)).trans f1G) rfl) ?_
 clear hF' gF'
 rw [show w64 (1 + 1) = 2 from by decide, r57_l0]
 have mI := (i4 (B + 2) (by omega) (by omega)).trans mG
 have yI := (i4 (B + 3) (by omega) (by omega)).trans ((g4 _ (by omega) (by omega)).trans yF)
 have vI := (i4 (B + 5) (by omega) (by omega)).trans f1G
 have rI := (i4 (B + 6) (by omega) (by omega)).trans g2
 have aI : ∀ b, b < B + 2 → I.get b = A.get b := fun b hb => (i4 _ (by omega) (by omega)).trans ((g4 _ (by omega) (by omega)).trans (aF b hb))
 refine Lt.Ok.neg (by decide) (Lt.Ok.ld (ldSl_get mI rfl) ?_)
 have e18 : ∀ v H, r18 v H = cloneR 1 v H := fun _ _ => rfl
 rw [e18]
 have scI : SL I vc [c0, c1] := slKeep sc (aI _ (by have := SL.lt sc (by simp); omega))
 refine Lt.Ok.bind (clone_ok scI (by simp) rfl) fun w J ⟨gJ, _, _, hw2⟩ => ?_
 obtain ⟨ow, wge⟩ := hw2 (sc.nonnil (by simp))
 dsimp only
 have gJn := gJ.1
 have wlt := Hp.get_lt ow.get
 obtain ⟨K, hK, k1, k2, k3⟩ := push1 J (.cells [.sl ⟨true, 0, 0, 0, 0, 0⟩] false)
 rw [hK]
 refine stX k1 (by simp) fun L l1 l2 l3 => ?_
 refine Lt.Ok.lt ?_
 obtain ⟨M, hM, m1, m2, m3⟩ := push1 L (.cells [.nilfn] false)
 rw [hM]
 refine stX m1 (by simp) fun N n1 n2 n3 => ?_
 have nL : L.n = J.n + 1 := l2.trans k2
 rw [nL] at n1 n3 m1 m2
 have all : ∀ b, b < J.n → N.get b = J.get b := fun b hb => (n3 b (by omega)).trans ((m3.2 b (by omega)).trans ((l3 b (by omega)).trans (k3.2 b hb)))
 have allI : ∀ b, b < B + 8 → N.get b = I.get b := fun b hb => (all b (by omega)).trans (gJ.2 b (by omega))
 have cN : N.get J.n = some (.cells [.sl w] false) := (n3 _ (by omega)).trans ((m3.2 _ (by omega)).trans l1)
 obtain ⟨o1, o2, o3, o4, o5, o6⟩ := ow
 have hG : Gd ⟨H0, B, w.b, J.n, bw, ba, vr, vc, w, w0, r0, r1⟩ N ⟨0, 0, 0, 0, c0, c1, 0⟩ := by
  have aN : ∀ b, b < B + 2 → N.get b = A.get b := fun b hb => (allI b (by omega)).trans (aI b hb)
  refine ⟨⟨by dsimp only; omega, fun b hb => (aN b (by dsimp only at hb; omega)).trans (hold b hb), ⟨lo.1, lo.2.1, lo.2.2.1, lo.2.2.2, by dsimp only; omega, wlt⟩, (aN _ (by dsimp only; omega)).trans hw, (aN _ (by dsimp only; omega)).trans hd, (aN _ (by dsimp only; omega)).trans hl, (allI _ (by dsimp only; omega)).trans mI, slKeep sr (aN _ (by dsimp only; omega)), lc, (allI _ (by dsimp only; omega)).trans yI, (allI _ (by dsimp only; omega)).trans i1, (allI _ (by dsimp only; omega)).trans vI, cN, ⟨rfl, o2, o3, o4, o5, o1⟩, n1, ⟨b16.2.2.1, b16.2.2.2.1⟩⟩, ⟨(aN _ (by dsimp only; omega)).trans ha, (allI _ (by dsimp only; omega)).trans rI, (allI _ (by dsimp only; omega)).trans i2, (all _ (by dsimp only; omega)).trans o6⟩⟩
 rw [nL]
 refine Lt.Ok.ld hG.grow (Lt.Ok.ld (ldSl_get hG.1.mg rfl) (Lt.Ok.ck (by dsimp only; omega) (Lt.Ok.ld (L2.of hG.1.sr).e0 ?_)))
 refine (says_all _ k).call hG ⟨by dsimp only; omega, by dsimp only; omega, by dsimp only; omega⟩ ⟨b16.1, b16.2.1⟩ (g := fun p => some ((), p.2)) fun E h1 _ _ h4 => Lt.Ok.ret ⟨_, rfl, rfl, rfl, rfl, h1, h4⟩
theorem chS_rng : ∀ x y : Nat, x ≤ 16 → y ≤ 16 → x + y ≤ 16 → 1 ≤ chS (x : Int) (y : Int) ∧ chS (x : Int) (y : Int) ≤ 1000000 := by
 have key : ∀ x : Nat, x < 17 → ∀ y : Nat, y < 17 → x + y ≤ 16 → 1 ≤ chS (x : Int) (y : Int) ∧ chS (x : Int) (y : Int) ≤ 1000000 := by decide +kernel
 exact fun x y h1 h2 h3 => key x (by omega) y (by omega) h3
theorem chS_in {x y : Int} (hx : 0 ≤ x) (hy : 0 ≤ y) (h : x + y ≤ 16) : 1 ≤ chS x y ∧ chS x y ≤ 1000000 := by
 obtain ⟨a, rfl⟩ := Int.eq_ofNat_of_zero_le hx
 obtain ⟨b, rfl⟩ := Int.eq_ofNat_of_zero_le hy
 exact chS_rng a b (by omega) (by omega) (by omega)
def tailS (a b c d : Int) : Int × Int := frS (g6S (wtS a b c d) (c + d) (a + b) ⟨0, 0, 0, 0, a + c, b + d, 0⟩).acc (chS (a + c) (b + d))
theorem pushI {α : Type} {Q : α → Hp → Prop} {f : Hp → Option (α × Hp)} {H : Hp} {x : Int} (k : ∀ D, D.get H.n = some (.cells [.int .i64 x] false) → D.n = H.n + 1 → Gr H D → Lt.Ok (f D) Q) : Lt.Ok (((H.push (.cells [.int .i64 0] false)).st H.n 0 (.int .i64 x)).bind f) Q := by
 obtain ⟨D, hD, d1, d2, d3⟩ := push1 H (.cells [.int .i64 0] false)
 rw [hD]
 exact stX d1 (by simp) fun E e1 e2 e3 => k E e1 (e2.trans d2) (Gr.at d3 (Nat.le_refl _) e2 e3)
theorem r13_ok {k : Nat} {H : Hp} {v u0 u1 : Sl} {a b c d : Int} (h : T2 H v u0 u1 a b c d) (hi : In16 a b c d) : Lt.Ok (r13 (appA (k + 9)) v H) fun r A => Gr H A ∧ r = ((tailS a b c d).1, (tailS a b c d).2, 0) := by
 obtain ⟨h0, h1, h2, h3, h4⟩ := hi
 have hi : In16 a b c d := ⟨h0, h1, h2, h3, h4⟩
 unfold r13
 refine Lt.Ok.lt ?_
 obtain ⟨D, hD, d1, d2, d3⟩ := push1 H (.cells [.int .i64 0, .int .i64 0] false)
 rw [hD]
 have hTD := h.gr d3
 refine Lt.Ok.ld (r54_ok hTD hi) (Lt.Ok.pos rfl (Lt.Ok.ld (r55_ok hTD (by omega)) ?_))
 dsimp only
 refine pushI fun E e1 e2 gE => ?_
 refine pushI fun F f1 f2 gF => ?_
 have gDF := gE.trans gF
 refine Lt.Ok.bind (r56_ok (hTD.gr gDF) hi) fun p C ⟨gC, s1, s2, b1, b2⟩ => ?_
 obtain ⟨vr, vc⟩ := p
 dsimp only at s1 s2 b1 b2 ⊢
 have l1 := SL.lt s1 (by simp)
 have gCn := gC.1
 obtain ⟨A, hA, a1, a2, a3, a4, _⟩ := push2 C .dfr (.loop .ready none 0 32 [(4, .ptr D.n 0), (5, .ptr E.n 0)])
 rw [hA]
 have gDC := gDF.trans gC
 have gDA := gDC.trans a4
 have bwA : A.get D.n = some (.cells [.int .i64 (wtS a b c d)] false) := ((gF.trans (gC.trans a4)).2 _ (by omega)).trans e1
 have baA : A.get E.n = some (.cells [.int .i64 0] false) := ((gC.trans a4).2 _ (by omega)).trans f1
 have hcall := r57_ok (k := k) (A := A) (H0 := D) (B := C.n) (bw := D.n) (ba := E.n) (vr := vr) (vc := vc) (w0 := wtS a b c d) (r0 := a + b) (r1 := c + d) (c0 := a + c) (c1 := b + d) a3 gDA.2 ⟨Nat.le_refl _, by omega, by omega, l1⟩ bwA baA a1 a2 (s1.gr a4) (s2.gr a4) (by omega)
 obtain ⟨x, G, ex, P, hP0, hPB, hPw, hPa, hG, hIn⟩ := hcall
 have e57 : callr (appA (k + 9)) (.fn 57 [.agg [.sl vr, .sl vc]] []) (C.n + 1) A = some (.tup [], G) := by
  show (r57 (appA (k + 8)) vr vc (.yld (C.n + 1)) A).map _ = _
  rw [ex]; rfl
 refine Lt.Ok.ld e57 ?_
 have L := hG.1.lo
 have nG := hG.1.n
 have lp := hG.1.lp
 have df := hG.1.df
 have ha := hG.2.ha
 have old := hG.1.old
 rw [hPB] at lp df
 rw [hPa] at ha
 rw [hP0] at old
 have hend : G.lend (C.n + 1) = some (none, G.set (C.n + 1) .dead) := by unfold Hp.lend; rw [lp]
 have oI : ∀ b, b ≠ C.n + 1 → (G.set (C.n + 1) .dead).get b = G.get b := fun b hb => Hp.get_set_other _ _ hb
 have nI : (G.set (C.n + 1) .dead).n = G.n := by simp
 refine Lt.Ok.ld hend (Lt.Ok.pos rfl ?_)
 dsimp only
 generalize G.set (C.n + 1) .dead = I at *
 have gDCn := gDC.1
 have gDI : Gr D I := ⟨by omega, fun b hb => (oI b (by omega)).trans (old b hb)⟩
 have haI := (oI E.n (by omega)).trans ha
 refine Lt.Ok.ld (ldI_get haI rfl) ?_
 refine Lt.Ok.bind (r56_ok (hTD.gr gDI) hi) fun p J ⟨gJ, _, t2, _, _⟩ => ?_
 dsimp only
 refine Lt.Ok.ld (r59_ok (L2.of t2) (by omega) (by omega)) ?_
 dsimp only
 refine Lt.Ok.bind (r58_ok hIn.2.2 (chS_in (by omega) (by omega) (by omega))) fun q K ⟨gK, hq⟩ => ?_
 have hI1 := gJ.1
 have hK1 := gK.1
 have haJ := (gJ.2 E.n (by omega)).trans haI
 have gIK := gJ.trans gK
 have retK : K.get H.n = some (.cells [.int .i64 0, .int .i64 0] false) := (gIK.2 _ (by omega)).trans ((gDI.2 _ (by omega)).trans d1)
 dsimp only
 refine stsX retK rfl fun M m1 m2 m3 => ?_
 have dfM : M.get C.n = some .dfr := (m3 _ (by omega)).trans ((gIK.2 _ (by omega)).trans ((oI _ (by omega)).trans df))
 refine Lt.Ok.ck (ldI_get haJ rfl) (Lt.Ok.ck (ldI_get haJ rfl) (Lt.Ok.ld (ldI_get m1 rfl) (Lt.Ok.ld (ldI_get m1 rfl) (Lt.Ok.ck (by simp [dfrB, Hp.isDfr, dfM]) (Lt.Ok.ret ⟨⟨?_, fun x hx => ?_⟩, ?_⟩)))))
 ·rw [kill_n]; omega
 ·rw [kill_get (by simp; omega), m3 _ (by omega), gIK.2 _ (by omega), gDI.2 _ (by omega), d3.2 _ hx]
 ·rw [hq]; rfl
end Go.Lt.P10
