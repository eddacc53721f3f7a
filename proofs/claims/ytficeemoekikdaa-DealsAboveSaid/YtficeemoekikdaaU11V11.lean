/- PLAIN LAWS OF WHAT IS COMPUTED, for the statement 'DealsAbove'. Nothing is asked of the input. -/
import Derived.Test.YtficeemoekikdaaU11VNt
import Derived.Test.YtficeemoekikdaaLB
set_option linter.unusedVariables false
set_option linter.unusedSimpArgs false
namespace Go.Lt.P5
open Go Go.Lt Go.Proofs
theorem awakeA (k : Nat) (H : Hp) : appA k 19 [] H = some (.bool true, H) := rfl
theorem wrapUA {n : Int} : 0 ≤ IntKind.wrap .u64 n := by
  unfold IntKind.wrap
  simp [IntKind.signed, IntKind.bits]
  omega
section
variable {l : List Pr} {d : Pr} {p : Rat × Rat} {e : Rat}
theorem above_half (h : IsHalf l d p) (he : 0 < e) : ¬ reg l (p.1 + e) (p.2 + e) := fun hr => by
  obtain ⟨m, h1, rfl⟩ := h
  have := (h1 (m + e)).1 (by rw [Rat.mul_one]; exact hr.down (by dsimp only; grind) (by dsimp only; grind))
  grind
theorem above_best (h : IsBest l d p) (hrm : roomP l d) (he : 0 < e) : ¬ reg l (p.1 + e) (p.2 + e) := fun hr => by
  obtain ⟨a, b, m, h1, h2, h3, rfl⟩ := h
  have ha := h1.pos hrm (by decide) (by decide)
  have hb := h2.pos hrm (by decide) (by decide)
  have hw : 0 < a + b := by grind
  have e0 : e / (a + b) * (a + b) = e := Rat.div_mul_cancel (by grind)
  have es : 0 < e / (a + b) := by
    by_cases c : 0 < e / (a + b)
    · exact c
    · have := Rat.mul_le_mul_of_nonneg_right (show e / (a + b) ≤ 0 by grind) (Rat.le_of_lt hw)
      grind
  generalize e / (a + b) = s at *
  have p1 := Rat.mul_pos es ha
  have p2 := Rat.mul_pos es hb
  have := (h3 (m + s)).1 (hr.down (by dsimp only; grind) (by dsimp only; grind))
  grind
theorem above_prod (h : IsProd l d p) {e' : Rat} (he : 0 ≤ e) (he' : 0 ≤ e') (hs : 0 < e + e') : ¬ reg l (p.1 + e) (p.2 + e') := fun hr => by
  have hx := h.x
  have hy := h.y
  have := h.max _ _ hr (by grind) (by grind)
  have u : 0 < p.1 - d.1 := by grind
  have v : 0 < p.2 - d.2 := by grind
  have e1 : p.1 + e - d.1 = (p.1 - d.1) + e := by grind
  have e2 : p.2 + e' - d.2 = (p.2 - d.2) + e' := by grind
  rw [e1, e2] at this
  generalize p.1 - (d.1 : Rat) = u at *
  generalize p.2 - (d.2 : Rat) = v at *
  have m1 := Rat.mul_nonneg (Rat.le_of_lt u) he'
  have m2 := Rat.mul_nonneg he (Rat.le_of_lt v)
  have m3 := Rat.mul_nonneg he he'
  by_cases c : 0 < e
  · have := Rat.mul_pos c v
    grind
  · have := Rat.mul_pos u (show 0 < e' by grind)
    grind
end
/-- a bit above a point -/
theorem up_q {x : Rat} {k : Int} (hk : 1 ≤ k ∧ k ≤ 1000) (h1 : (fq x).2 ≤ 97200000) (h2 : 0 ≤ (fq x).1) (h3 : (fq x).1 ≤ 30 * (fq x).2) : Ok (r43 (w64 ((w64 ((fq x).1 * k)) + (fq x).2)) (w64 ((fq x).2 * k)) H0) fun r _ => r = fq (x + dv 1 k) := by
  have hp := fq_pos x
  have m1 := mul_bd (A := 3000000000) (B := 1000) (x := (fq x).1) (y := k) (by omega) (by omega) (by omega) (by omega)
  have m2 := mul_bd (A := 97200000) (B := 1000) (x := (fq x).2) (y := k) (by omega) (by omega) (by omega) (by omega)
  have m3 := Int.mul_pos hp (show 0 < k by omega)
  rw [w64_id (n := (fq x).1 * k) (by omega) (by omega), w64_id (by omega) (by omega), w64_id (by omega) (by omega)]
  have e : dv ((fq x).1 * k + (fq x).2) ((fq x).2 * k) = x + dv 1 k := by
    have := dv_add (a := (fq x).1) (b := (fq x).2) (c := 1) (d := k) hp (by omega)
    rw [Int.one_mul, dv_fq] at this
    exact this
  have := r43_q (a := (fq x).1 * k + (fq x).2) (b := (fq x).2 * k) (by omega) m3 (by omega) H0
  rw [e] at this
  exact this
theorem dv_pos {k : Int} (hk : 1 ≤ k) : 0 < dv 1 k := by
  have := (@dv_lt_iff 0 1 1 k (by decide) (by omega)).2 (by omega)
  rw [dv_int] at this
  exact this
section
variable {l : List Pr} {d : Pr} {v : Sl} {HH : Hp} {k : Int} {b3 : Nat} {x1 x2 x3 x4 x5 x6 x7 x8 x9 x10 x11 x12 : Int} {i : Nat} {q : Rat × Rat}
  {kt0 : Sl → Int → Nat → Int → Int → Int → Int → Int → Int → Int → Int → Int → Int → Int → Int → Int → Hp → Option (Bool × Hp)}
/-- no step in one direction alone -/
theorem r11_l5_ok {H : Hp} {w : Sl} {L : List (Pr × Pr)} (hv : SL HH v l) (ho : offP l) (hL : L.length = 2) (hno : ∀ y ∈ L, ∃ z : Rat × Rat, y = (fq z.1, fq z.2) ∧ ¬ reg l z.1 z.2) (hw : SL H w L) (c : Cx HH H [(b3, pc d)])
    (hk : ∀ H', Cx HH H' [(b3, pc d)] → Ok (kt0 v k b3 x1 x2 x3 x4 x5 x6 x7 x8 x9 x10 x11 x12 (w64 ((i : Int) + 1)) H') fun r _ => r = true) :
    Ok (r11_l5 (appA 20) kt0 FUEL v k b3 x1 x2 x3 x4 x5 x6 x7 x8 x9 x10 x11 x12 i w 2 0 H) fun r _ => r = true := by
  have hwl := hw.len
  refine Ok.loop (L := fun K (s : Int) H2 => r11_l5 (appA 20) kt0 K v k b3 x1 x2 x3 x4 x5 x6 x7 x8 x9 x10 x11 x12 i w 2 s H2) (fun m s H' => ∃ j : Nat, s = j ∧ j + m = 2 ∧ Cx HH H' [(b3, pc d)] ∧ SL H' w L) ?_ FUEL 2 0 H (by unfold FUEL; omega) ⟨0, rfl, rfl, c, hw⟩
  rintro K m s H1 ⟨j, rfl, hm, c, hw⟩ ih
  try dsimp only at *
  rw [r11_l5]
  by_cases h : j < 2
  · have hj : j < L.length := by omega
    obtain ⟨z, hz, hnr⟩ := hno _ (List.getElem_mem hj)
    have M0 := hw.ldI (i := j) (j := 0) hj rfl
    have M1 := hw.ldI (i := j) (j := 1) hj rfl
    have M2 := hw.ldI (i := j) (j := 2) hj rfl
    have M3 := hw.ldI (i := j) (j := 3) hj rfl
    rw [hz] at M0 M1 M2 M3
    refine Ok.pos (by omega) (Ok.ck (by omega) (Ok.ld M0 (Ok.ld M1 (Ok.ld M2 (Ok.ld M3 (Ok.alo c fun A gA c => ?_))))))
    have cA := c
    refine Ok.bind (r24_ok (hv.gr c.g) (by have := ho.2.1; omega)) fun u B ⟨gB, hu, _⟩ => ?_
    rw [take11 ho] at hu
    have c := c.gr gB
    have hw := hw.gr (gA.trans gB)
    repeat (refine Ok.cld c (.head _) rfl ?_)
    refine Ok.bind (r23_reg (k := 18) (p := z) hu ho) fun r C ⟨gC, hr⟩ => ?_
    have c := c.gr gC
    repeat (refine Ok.cck cA (.head _) rfl ?_)
    have go : Ok (r11_j6 (appA 20) (fun v1_ v2_ v3_ v4_ v5_ v6_ v7_ v8_ v9_ v10_ v11_ v12_ v13_ v14_ v15_ v16_ v17_ v18_ v19_ H_ => r11_l5 (appA 20) kt0 K v1_ v2_ v3_ v4_ v5_ v6_ v7_ v8_ v9_ v10_ v11_ v12_ v13_ v14_ v15_ v16_ v17_ v18_ v19_ H_) v k b3 x1 x2 x3 x4 x5 x6 x7 x8 x9 x10 x11 x12 i w 2 j false C) fun r _ => r = true := by
      unfold r11_j6
      refine Ok.neg (by simp) ?_
      rw [w64_succ (by omega)]
      exact ih (m - 1) _ C (by omega) ⟨j + 1, rfl, by omega, c.weak (.cons _ (.refl _)), hw.gr gC⟩
    rcases hr with ⟨_, _, ⟨rfl, hreg⟩ | ⟨rfl, hreg⟩⟩ | ⟨_, rfl⟩
    · exact absurd hreg hnr
    · exact Ok.neg (by simp) (Ok.neg (by simp) go)
    · exact Ok.neg (by simp) (Ok.pos (show (2 : Int) ≠ 0 by decide) go)
  · exact Ok.neg (by omega) (hk H1 c)
/-- above a deal -/
theorem r11_j4_ok {H : Hp} {b5 : Nat} (hv : SL HH v l) (ho : offP l) (hk1 : 1 ≤ k ∧ k ≤ 1000) (hq : bdP q) (hab : ∀ e : Rat, 0 < e → ¬ reg l (q.1 + e) (q.2 + e)) (hab0 : i = 0 → ∀ e : Rat, 0 < e → ¬ reg l (q.1 + e) q.2 ∧ ¬ reg l q.1 (q.2 + e)) (c : Cx HH H [(b5, bst4 (some q)), (b3, pc d)])
    (hk : ∀ H', Cx HH H' [(b3, pc d)] → Ok (kt0 v k b3 x1 x2 x3 x4 x5 x6 x7 x8 x9 x10 x11 x12 (w64 ((i : Int) + 1)) H') fun r _ => r = true) :
    Ok (r11_j4 (appA 20) kt0 v k b3 i b5 x1 x2 x3 x4 x5 x6 x7 x8 x9 x10 x11 x12 i false H) fun r _ => r = true := by
  obtain ⟨⟨a1, a2, a3⟩, b1, b2, b3'⟩ := hq
  have he := dv_pos hk1.1
  unfold r11_j4
  refine Ok.neg (by simp) (Ok.cld c (.head _) rfl (Ok.cld c (.head _) rfl (Ok.cld c (.head _) rfl (Ok.own (up_q hk1 a1 a2 a3) fun X => ?_))))
  refine Ok.cld c (.head _) rfl (Ok.cld c (.head _) rfl (Ok.cld c (.head _) rfl (Ok.own (up_q hk1 b1 b2 b3') fun X => ?_)))
  generalize dv 1 k = e at *
  have c := (c.push [.int .i64 0, .int .i64 0]).push [.int .i64 0, .int .i64 0]
  refine Ok.cst c 1 rfl rfl fun A _ _ c => Ok.cst c 0 rfl rfl fun B _ _ c => ?_
  have c : Cx HH B [((H.push (.cells [.int .i64 0, .int .i64 0] false)).n, fc (q.2 + e)), (H.n, fc (q.1 + e)), (b5, bst4 (some q)), (b3, pc d)] := c
  have cB := c
  refine Ok.bind (r24_ok (hv.gr c.g) (by have := ho.2.1; omega)) fun u C ⟨gC, hu, _⟩ => ?_
  rw [take11 ho] at hu
  have c := c.gr gC
  refine Ok.cld c (.tail _ (.head _)) rfl (Ok.cld c (.tail _ (.head _)) rfl (Ok.cld c (.head _) rfl (Ok.cld c (.head _) rfl ?_)))
  refine Ok.bind (r23_reg (k := 18) (p := (q.1 + e, q.2 + e)) hu ho) fun r D ⟨gD, hr⟩ => ?_
  have c := c.gr gD
  refine Ok.cck cB (.tail _ (.head _)) rfl (Ok.cck cB (.tail _ (.head _)) rfl (Ok.cck cB (.head _) rfl (Ok.cck cB (.head _) rfl ?_)))
  have go : Ok (r11_j3 (appA 20) kt0 v k b3 i b5 H.n ((H.push (.cells [.int .i64 0, .int .i64 0] false)).n) x1 x2 x3 x4 x5 x6 x7 x8 x9 x10 x11 x12 i false D) fun r _ => r = true := by
    unfold r11_j3
    refine Ok.neg (by simp) ?_
    by_cases hi : i = 0
    · obtain ⟨n1, n2⟩ := hab0 hi e he
      refine Ok.neg (by omega) (Ok.cld c (.tail _ (.head _)) rfl (Ok.cld c (.tail _ (.head _)) rfl (Ok.cld c (.tail _ (.tail _ (.head _))) rfl (Ok.cld c (.tail _ (.tail _ (.head _))) rfl (Ok.cld c (.tail _ (.tail _ (.head _))) rfl (Ok.cld c (.tail _ (.tail _ (.head _))) rfl (Ok.cld c (.head _) rfl (Ok.cld c (.head _) rfl (Ok.box c fun M gM c => ?_)))))))))
      have hs : SL (T := Pr × Pr) M ⟨false, D.n, 0, 2, 2, 0⟩ [(fq (q.1 + e), fq q.2), (fq q.1, fq (q.2 + e))] := .of_get (ro := false) (c.e _ (.head _)) rfl rfl (Nat.le_refl _) (.inl rfl) rfl
      refine r11_l5_ok hv ho rfl (fun y hy => ?_) hs (c.weak (.cons _ (.cons _ (.cons _ (.cons _ (.refl _)))))) hk
      rcases List.mem_cons.1 hy with rfl | hy
      · exact ⟨(q.1 + e, q.2), rfl, n1⟩
      · rw [List.mem_singleton] at hy
        subst hy
        exact ⟨(q.1, q.2 + e), rfl, n2⟩
    · exact Ok.pos (by omega) (hk D (c.weak (.cons _ (.cons _ (.cons _ (.refl _))))))
  rcases hr with ⟨_, _, ⟨rfl, hreg⟩ | ⟨rfl, hreg⟩⟩ | ⟨_, rfl⟩
  · exact absurd hreg (hab e he)
  · exact Ok.neg (by simp) (Ok.neg (by simp) go)
  · exact Ok.neg (by simp) (Ok.pos (show (2 : Int) ≠ 0 by decide) go)
/-- a deal is one -/
theorem r11_j2_ok {H : Hp} {b5 : Nat} (hv : SL HH v l) (ho : offP l) (hk1 : 1 ≤ k ∧ k ≤ 1000) (hq : bdP q) (hreg : reg l q.1 q.2) (hab : ∀ e : Rat, 0 < e → ¬ reg l (q.1 + e) (q.2 + e)) (hab0 : i = 0 → ∀ e : Rat, 0 < e → ¬ reg l (q.1 + e) q.2 ∧ ¬ reg l q.1 (q.2 + e)) (c : Cx HH H [(b5, bst4 (some q)), (b3, pc d)])
    (hk : ∀ H', Cx HH H' [(b3, pc d)] → Ok (kt0 v k b3 x1 x2 x3 x4 x5 x6 x7 x8 x9 x10 x11 x12 (w64 ((i : Int) + 1)) H') fun r _ => r = true) :
    Ok (r11_j2 (appA 20) kt0 v k b3 i b5 x1 x2 x3 x4 x5 x6 x7 x8 x9 x10 x11 x12 i false H) fun r _ => r = true := by
  unfold r11_j2
  have cH := c
  refine Ok.neg (by simp) (Ok.bind (r24_ok (hv.gr c.g) (by have := ho.2.1; omega)) fun u A ⟨gA, hu, _⟩ => ?_)
  rw [take11 ho] at hu
  have c := c.gr gA
  repeat (refine Ok.cld c (.head _) rfl ?_)
  refine Ok.bind (r23_reg (k := 18) (p := q) hu ho) fun r B ⟨gB, hr⟩ => ?_
  have c := c.gr gB
  repeat (refine Ok.cck cH (.head _) rfl ?_)
  have go := r11_j4_ok (i := i) hv ho hk1 hq hab hab0 c hk
  refine Ok.cld c (.head _) rfl (Ok.ite (fun c1 => Ok.cld c (.head _) rfl (Ok.ite (fun c2 => ?_) fun _ => go)) fun _ => go)
  have hf1 : fr (fq q.1) := fr_fq.2 ⟨c1, hq.1.2⟩
  have hf2 : fr (fq q.2) := fr_fq.2 ⟨c2, hq.2.2⟩
  rcases hr with ⟨_, _, ⟨rfl, _⟩ | ⟨_, hn⟩⟩ | ⟨hn, _⟩
  · exact Ok.pos rfl go
  · exact absurd hreg hn
  · exact absurd ⟨hf1, hf2⟩ hn
end
theorem num_lt {x : Rat} {a : Int} (h : (a : Rat) < x) (ha : 0 ≤ a ∧ a ≤ 30) (h1 : (fq x).2 ≤ 97200000) : ¬ (fq x).1 ≤ w64 (a * (fq x).2) := by
  have hp := fq_pos x
  have m1 := mul_bd (A := 30) (B := 97200000) (x := a) (y := (fq x).2) (by omega) (by omega) (by omega) (by omega)
  rw [w64_id (by omega) (by omega)]
  have := (@fq_lt (a : Rat) x).2 h
  rw [fq_int] at this
  dsimp only at this
  omega
theorem aboveLaw {H : Hp} {v : Sl} {l : List Pr} (hv : SL H v l) (hb : l.length < 9223372036854775808) (d : Pr) (k0 : Int) : Ok (r11 (appA 20) v d.1 d.2 k0 H) fun r _ => r = true := by
  unfold r11
  refine Ok.box (.nil H) fun A gA c => Ok.cld c (.head _) rfl (Ok.cld c (.head _) rfl (Ok.bind (r39_ok (k := 17) (d := d) (hv.gr gA) hb) fun r B ⟨gB, hr⟩ => ?_))
  have c := c.gr gB
  rcases hr with ⟨ho, hd, hrm, p, b, h, hp, hpd, hbt, hh, hpb, hbb, hhb, rfl⟩ | ⟨hno, rfl⟩
  · refine Ok.alo c fun C gC c => Ok.pos rfl ?_
    have c : Cx H C [(B.n, pt12 p b h), (H.n, pc d)] := c
    show Ok (r11_j1 (appA 20) v k0 H.n B.n true false C) _
    unfold r11_j1
    refine Ok.neg (by simp) ?_
    repeat (refine Ok.cld c (.head _) rfl ?_)
    have hkk : 1 ≤ w64 (1 + w64 (Int.tmod (IntKind.wrap .u64 k0) 1000)) ∧ w64 (1 + w64 (Int.tmod (IntKind.wrap .u64 k0) 1000)) ≤ 1000 := by
      have h1 := Int.tmod_nonneg 1000 (@wrapUA k0)
      have h2 := Int.tmod_lt_of_pos (IntKind.wrap .u64 k0) (show (0 : Int) < 1000 by decide)
      rw [w64_id (n := Int.tmod _ _) (by omega) (by omega), w64_id (by omega) (by omega)]
      omega
    generalize w64 (1 + w64 (Int.tmod (IntKind.wrap .u64 k0) 1000)) = kk at *
    have hd' := hd
    unfold num at hd'
    refine Ok.loop (L := fun K (s : Int) H2 => r11_l0 (appA 20) K v kk H.n (fq p.1).1 (fq p.1).2 (fq p.2).1 (fq p.2).2 (fq b.1).1 (fq b.1).2 (fq b.2).1 (fq b.2).2 (fq h.1).1 (fq h.1).2 (fq h.2).1 (fq h.2).2 s H2) (fun m s H' => ∃ i : Nat, s = i ∧ i + m = 3 ∧ Cx H H' [(H.n, pc d)]) ?_ FUEL 3 0 C (by unfold FUEL; omega) ⟨0, rfl, rfl, c.weak (.cons _ (.refl _))⟩
    rintro K m s H1 ⟨i, rfl, hm, c⟩ ih
    try dsimp only at *
    rw [r11_l0]
    by_cases hi : i < 3
    · obtain ⟨q, q1, q2, q3, qa, _⟩ := nth3 (p := p) (b := b) (h := h) hi
      have qa : apart true 4 [.int .i64 (fq p.1).1, .int .i64 (fq p.1).2, .int .i64 (fq p.2).1, .int .i64 (fq p.2).2, .int .i64 (fq b.1).1, .int .i64 (fq b.1).2, .int .i64 (fq b.2).1, .int .i64 (fq b.2).2, .int .i64 (fq h.1).1, .int .i64 (fq h.1).2, .int .i64 (fq h.2).1, .int .i64 (fq h.2).2] (i * 4) = some (.agg [.int .i64 (fq q.1).1, .int .i64 (fq q.1).2, .int .i64 (fq q.2).1, .int .i64 (fq q.2).2]) := qa
      have hqq : bdP q ∧ (reg l q.1 q.2 ∧ (d.1 : Rat) < q.1 ∧ (d.2 : Rat) < q.2) ∧ (∀ e : Rat, 0 < e → ¬ reg l (q.1 + e) (q.2 + e)) ∧ (i = 0 → ∀ e : Rat, 0 < e → ¬ reg l (q.1 + e) q.2 ∧ ¬ reg l q.1 (q.2 + e)) := by
        rcases (show i = 0 ∨ i = 1 ∨ i = 2 by omega) with cc | cc | cc
        · rw [q1 cc]
          refine ⟨hpb, ⟨hp.reg, hp.x, hp.y⟩, fun e he => above_prod hp (by grind) (by grind) (by grind), fun _ e he => ⟨fun z => above_prod hp (e := e) (e' := 0) (by grind) (by grind) (by grind) (by rw [Rat.add_zero]; exact z), fun z => above_prod hp (e := 0) (e' := e) (by grind) (by grind) (by grind) (by rw [Rat.add_zero]; exact z)⟩⟩
        · rw [q2 cc]
          exact ⟨hbb, hbt.deal hrm, fun e he => above_best hbt hrm he, fun z => by omega⟩
        · rw [q3 cc]
          exact ⟨hhb, hh.deal hrm, fun e he => above_half hh he, fun z => by omega⟩
      obtain ⟨hqb, ⟨hreg, hqx, hqy⟩, hab, hab0⟩ := hqq
      rw [Int.toNat_natCast]
      refine Ok.pos (by omega) (Ok.ck (by omega) (Ok.ld (b := .agg [.int .i64 (fq q.1).1, .int .i64 (fq q.1).2, .int .i64 (fq q.2).1, .int .i64 (fq q.2).2]) qa (Ok.ld rfl (Ok.ck rfl (Ok.ld rfl (Ok.ld rfl (Ok.ld rfl (Ok.ld rfl (Ok.ld rfl (Ok.ld rfl (Ok.ld rfl (Ok.ld rfl (Ok.alo c fun E gE c => ?_)))))))))))))
      refine Ok.cld c (.head _) rfl (Ok.cld c (.tail _ (.head _)) rfl (Ok.cld c (.head _) rfl (Ok.neg (num_lt hqx ⟨hd'.1, hd'.2.1⟩ hqb.1.1) ?_)))
      refine Ok.cld c (.head _) rfl (Ok.cld c (.tail _ (.head _)) rfl (Ok.cld c (.head _) rfl ?_))
      rw [decide_eq_false (num_lt hqy ⟨hd'.2.2.1, hd'.2.2.2⟩ hqb.2.1)]
      refine r11_j2_ok (i := i) (q := q) hv ho hkk hqb hreg hab hab0 c fun H' c => ?_
      rw [w64_succ (by omega)]
      exact ih (m - 1) _ H' (by omega) ⟨i + 1, rfl, by omega, c⟩
    · exact Ok.neg (by omega) (Ok.ld (awakeA 20 _) (Ok.ld rfl (Ok.ret rfl)))
  · refine Ok.alo c fun C gC c => Ok.pos rfl ?_
    show Ok (r11_j1 (appA 20) v k0 H.n B.n true true C) _
    unfold r11_j1
    exact Ok.pos rfl (Ok.pos rfl (Ok.ld (awakeA 20 _) (Ok.ld rfl (Ok.ret rfl))))
theorem lawCall11 (H : Hp) (xs : List AV) (_ : NoOwn H) (h : RdAs H [.sl (.rep 2 (.int .i64)), .rep 2 (.int .i64), .int .i64] xs) : ∃ H1, CallSim Try.prog 11 xs H (.bool true) H1 := by
  obtain ⟨x, _, rfl, hx, y, _, rfl, hy, z, _, rfl, hz, rfl⟩ := h
  obtain ⟨v, l, rfl, hv, hb⟩ := rd_sl (enc_rep2 enc_int) hx
  obtain ⟨ys, rfl, hy⟩ : ∃ ys, y = .agg ys ∧ Rd H (.rep 2 (.int .i64)) ys := hy
  obtain ⟨⟨a, b⟩, rfl⟩ := (enc_rep2 enc_int).2 H ys hy
  obtain ⟨n, hn, _⟩ := hz
  injection hn with hn
  subst hn
  obtain ⟨r, H1, h1, rfl⟩ := aboveLaw hv (by unfold maxLen at hb; omega) (a, b) n
  exact ⟨H1, sim11 (happ := appASim 20) h1⟩
end Go.Lt.P5
