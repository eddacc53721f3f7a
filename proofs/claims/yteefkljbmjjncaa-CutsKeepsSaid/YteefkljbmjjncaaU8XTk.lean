/- PLAIN LAWS OF WHAT IS COMPUTED, for the statement 'CutsKeeps'. Nothing is asked of the input. -/
import Derived.Test.YteefkljbmjjncaaU8XGd
import Derived.Test.YteefkljbmjjncaaLB
set_option linter.unusedVariables false
set_option linter.unusedSimpArgs false
namespace Go.Lt
theorem Cb.trans {H0 H H' : Hp} {E E' : List (Nat × Blk)} (c : Cb H0 H E) (d : Cb H H' E') (hk : E'.map (·.1) = E.map (·.1)) : Cb H0 H' E' := ⟨Nat.le_trans c.n d.n, fun b h1 h2 => by
    rw [d.g b (Nat.lt_of_lt_of_le h1 c.n) h2]
    refine c.g b h1 fun p hp => ?_
    have : p.1 ∈ E'.map (·.1) := by rw [hk]; exact List.mem_map.2 ⟨p, hp, rfl⟩
    obtain ⟨q, hq, e⟩ := List.mem_map.1 this
    rw [← e]; exact h2 q hq, d.e, d.nd⟩
end Go.Lt
namespace Go.Lt.P2
open Go Go.Lt Go.Proofs
/-- a consumer with blocks of its own -/
theorem mkYd {T : Type} {a : App} {yv : AV} {arg : T → List AV} {dom : T → Prop} {ks : List Nat} (E E' : List T → List (Nat × Blk)) (hk : ∀ q, (E q).map (·.1) = ks) (Gn Sp : List T → Prop) {B Hs : Hp} (gB : Gr B Hs) (hks : ∀ k ∈ ks, B.n ≤ k)
    (step : ∀ q x H, Cb H H (E q) → Gn q → dom x → Ok (callv a yv (arg x) H) fun r H' => (r = .bool true ∧ Cb H H' (E (q ++ [x])) ∧ Gn (q ++ [x])) ∨ (r = .bool false ∧ Cb H H' (E' (q ++ [x])) ∧ Sp (q ++ [x])))
    (hk' : ∀ q, (E' q).map (·.1) = ks) : Yd a yv arg dom B (fun P q H => Cb Hs H (E q) ∧ Gn q ∧ ∀ b, P b → b ∉ ks) (fun q H => Cb Hs H (E' q) ∧ Sp q) where
  grow := fun {P P' q H H'} h g hP => ⟨h.1.gr g, h.2.1, fun b hb hk2 => by
    rcases hP b hb with h1 | h1
    · exact h.2.2 b h1 hk2
    · rw [← hk q] at hk2
      obtain ⟨p, hp, e⟩ := List.mem_map.1 hk2
      have := h.1.lt hp
      omega⟩
  base := fun {P q H} h => ⟨Nat.le_trans gB.1 h.1.n, fun b hb => by
    rw [h.1.g b (Nat.lt_of_lt_of_le hb gB.1) fun p hp e => ?_]
    · exact gB.2 b hb
    · have : p.1 ∈ ks := by rw [← hk q]; exact List.mem_map.2 ⟨p, hp, rfl⟩
      have := hks _ this
      omega⟩
  step := fun {P q H x} h hx => by
    have c : Cb H H (E q) := .start h.1.e h.1.nd
    refine Ok.mono (step q x H c h.2.1 hx) fun r H' h' => ?_
    rcases h' with ⟨hr, c', g'⟩ | ⟨hr, c', g'⟩
    · refine ⟨c'.n, .inl ⟨hr, ⟨h.1.trans c' (by rw [hk, hk]), g', h.2.2⟩, fun b hb hP => c'.g b hb fun p hp e => h.2.2 b hP ?_⟩⟩
      rw [← hk (q ++ [x]), ← e]
      exact List.mem_map.2 ⟨p, hp, rfl⟩
    · exact ⟨c'.n, .inr ⟨hr, h.1.trans c' (by rw [hk, hk']), g'⟩⟩
/-! ### arrows between those of two sides -/
def btw (s t : Sd) (a b : Int) : Prop := if crI s t < 0 then (0 ≤ -(a * t.2.1 - b * t.1) ∧ 0 ≤ -(s.1 * b - s.2.1 * a)) ∧ -(a * t.2.1 - b * t.1) ≤ -crI s t ∧ -(s.1 * b - s.2.1 * a) ≤ -crI s t else (0 ≤ a * t.2.1 - b * t.1 ∧ 0 ≤ s.1 * b - s.2.1 * a) ∧ a * t.2.1 - b * t.1 ≤ crI s t ∧ s.1 * b - s.2.1 * a ≤ crI s t
instance (s t : Sd) (a b : Int) : Decidable (btw s t a b) := by unfold btw; infer_instance
def bts (s t : Sd) (lo hi a : Int) : List Pr := ((ints lo hi).filter fun b => decide (btw s t a b)).map fun b => (a, b)
def bt (s t : Sd) : List Pr := (ints (-8) 8).flatMap (bts s t (-8) 8)
theorem bts_snoc {s t : Sd} {lo hi a : Int} (h : lo ≤ hi) : bts s t lo hi a = bts s t lo (hi - 1) a ++ if btw s t a hi then [(a, hi)] else [] := by
  unfold bts
  rw [ints_snoc h, List.filter_append, List.map_append]
  congr 1
  by_cases hk : btw s t a hi
  · rw [if_pos hk, List.filter_cons, if_pos (by exact decide_eq_true hk)]; rfl
  · rw [if_neg hk, List.filter_cons, if_neg (by rw [decide_eq_false hk]; simp)]; rfl
theorem mem_bt {s t : Sd} {p : Pr} : p ∈ bt s t ↔ ((-8 ≤ p.1 ∧ p.1 ≤ 8) ∧ -8 ≤ p.2 ∧ p.2 ≤ 8) ∧ btw s t p.1 p.2 := by
  unfold bt bts
  rw [List.mem_flatMap]
  constructor
  · rintro ⟨x, hx, h⟩
    obtain ⟨y, hy, rfl⟩ := List.mem_map.1 h
    obtain ⟨hy, hk⟩ := List.mem_filter.1 hy
    exact ⟨⟨mem_ints.1 hx, mem_ints.1 hy⟩, of_decide_eq_true hk⟩
  · rintro ⟨⟨hx, hy⟩, hk⟩
    exact ⟨p.1, mem_ints.2 hx, List.mem_map.2 ⟨p.2, List.mem_filter.2 ⟨mem_ints.2 hy, decide_eq_true hk⟩, rfl⟩⟩
theorem bt_pre {s t : Sd} {a b : Int} (ha : -8 ≤ a ∧ a ≤ 8) (hb : -9 ≤ b ∧ b ≤ 8) : (ints (-8) (a - 1)).flatMap (bts s t (-8) 8) ++ bts s t (-8) b a <+: bt s t := by
  have h1 : ∀ n : Nat, n ≤ 16 → ∀ b : Int, b = 8 - n → bts s t (-8) b a <+: bts s t (-8) 8 a := by
    intro n
    induction n with
    | zero => intro _ b e; rw [show b = 8 by omega]; exact List.prefix_rfl
    | succ n ih =>
      intro hn b e
      refine List.IsPrefix.trans ?_ (ih (by omega) (b + 1) (by omega))
      rw [bts_snoc (show (-8 : Int) ≤ b + 1 by omega), show b + 1 - 1 = b by omega]
      exact List.prefix_append _ _
  have h1' : bts s t (-8) b a <+: bts s t (-8) 8 a := by
    by_cases h9 : b = -9
    · subst h9
      have : bts s t (-8) (-9) a = [] := by unfold bts; rw [ints_nil (by omega)]; rfl
      rw [this]; exact List.nil_prefix
    · exact h1 (8 - b).toNat (by omega) b (by omega)
  have h2 : ∀ n : Nat, n ≤ 16 → ∀ a : Int, a = 8 - n → (ints (-8) a).flatMap (bts s t (-8) 8) <+: bt s t := by
    intro n
    induction n with
    | zero => intro _ a e; rw [show a = 8 by omega]; exact List.prefix_rfl
    | succ n ih =>
      intro hn a e
      refine List.IsPrefix.trans ?_ (ih (by omega) (a + 1) (by omega))
      rw [ints_snoc (show (-8 : Int) ≤ a + 1 by omega), show a + 1 - 1 = a by omega, List.flatMap_append]
      exact List.prefix_append _ _
  refine List.IsPrefix.trans ((List.prefix_append_right_inj _).2 h1') ?_
  have := h2 (8 - a).toNat (by omega) a (by omega)
  rw [ints_snoc (show (-8 : Int) ≤ a by omega), List.flatMap_append, List.flatMap_singleton] at this
  exact this
def argB (p : Pr) : List AV := [.int .i64 p.1, .int .i64 p.2]
section
variable {a : App} {yv : AV} {B : Hp} {I : (Nat → Prop) → List Pr → Hp → Prop} {St : List Pr → Hp → Prop} {P : Nat → Prop} {s t : Sd} {x1 x2 x3 x4 : Int}
/-- between -/
theorem r67_ok (Y : Yd a yv argB (· ∈ bt s t) B I St) (hs : sideP s) (ht : sideP t) {H : Hp} (hI : I P [] H) :
    Ok (r67 a x1 x2 x3 x4 s.1 s.2.1 s.2.2 t.1 t.2.1 t.2.2 yv H) fun _ H' => I P (bt s t) H' ∨ ∃ q, q <+: bt s t ∧ St q H' := by
  have bd := meet_bd hs ht
  have hs' := hs
  have ht' := ht
  unfold sideP at hs' ht'
  unfold r67
  refine Ok.box (.nil H) fun A gA c => ?_
  refine Ok.cld c (.head _) rfl (Ok.cld c (.head _) rfl (Ok.cld c (.head _) rfl (Ok.cld c (.head _) rfl (Ok.own (r97_ok (by omega) (by omega) (by omega) (by omega)) fun X => ?_))))
  show Ok (r67_l0 a FUEL yv H.n (crI s t) (-8) A) _
  have hIA := Y.grow hI gA (P' := fun b => P b ∨ b = H.n) fun b hb => hb.elim .inl fun e => .inr (by omega)
  have hcA := c.e _ (.head _)
  clear c hI
  have hmax : (if crI s t < w64 (0 - crI s t) then w64 (0 - crI s t) else crI s t) = if crI s t < 0 then -crI s t else crI s t := by
    rw [w64_id (by omega) (by omega)]
    split <;> split <;> omega
  refine Ok.loop (L := fun K (u : Int) H2 => r67_l0 a K yv H.n (crI s t) u H2) (fun m u H' => (-8 ≤ u ∧ u ≤ 9) ∧ m = (9 - u).toNat ∧ I (fun b => P b ∨ b = H.n) ((ints (-8) (u - 1)).flatMap (bts s t (-8) 8)) H' ∧ H'.get H.n = A.get H.n) ?_ FUEL 17 (-8) A (by unfold FUEL; omega) ⟨by omega, rfl, by rw [ints_nil (by omega)]; exact hIA, rfl⟩
  rintro K m u H1 ⟨hu, rfl, hI1, hc1⟩ ih
  try dsimp only at *
  rw [r67_l0]
  by_cases h : u ≤ 8
  · refine Ok.pos h ?_
    refine Ok.loop (L := fun K' (w : Int) H2 => r67_l1 a (fun v1_ v2_ v3_ v4_ H_ => r67_l0 a K v1_ v2_ v3_ v4_ H_) K' yv H.n (crI s t) u w H2) (fun m w H' => (-8 ≤ w ∧ w ≤ 9) ∧ m = (9 - w).toNat ∧ I (fun b => P b ∨ b = H.n) ((ints (-8) (u - 1)).flatMap (bts s t (-8) 8) ++ bts s t (-8) (w - 1) u) H' ∧ H'.get H.n = A.get H.n) ?_ FUEL 17 (-8) H1 (by unfold FUEL; omega) ⟨by omega, rfl, by
      have : bts s t (-8) (-8 - 1) u = [] := by unfold bts; rw [ints_nil (by omega)]; rfl
      rw [this, List.append_nil]; exact hI1, hc1⟩
    rintro K' m' w H2 ⟨hw, rfl, hI2, hc2⟩ ih'
    try dsimp only at *
    rw [r67_l1]
    have hc2' := hc2.trans hcA
    by_cases h2 : w ≤ 8
    · refine Ok.pos h2 (Ok.ld (ldI_get hc2' rfl) (Ok.ld (ldI_get hc2' rfl) (Ok.own (r97_ok (by omega) (by omega) (by omega) (by omega)) fun _ => Ok.ld (ldI_get hc2' rfl) (Ok.ld (ldI_get hc2' rfl) (Ok.own (r97_ok (by omega) (by omega) (by omega) (by omega)) fun _ => ?_)))))
      dsimp only
      have m1 : -32 ≤ u * t.2.1 ∧ u * t.2.1 ≤ 32 := mul_bd (A := 8) (B := 4) (by omega) (by omega) (by omega) (by omega)
      have m2 : -32 ≤ w * t.1 ∧ w * t.1 ≤ 32 := mul_bd (A := 8) (B := 4) (by omega) (by omega) (by omega) (by omega)
      have m3 : -32 ≤ s.1 * w ∧ s.1 * w ≤ 32 := mul_bd (A := 4) (B := 8) (by omega) (by omega) (by omega) (by omega)
      have m4 : -32 ≤ s.2.1 * u ∧ s.2.1 * u ≤ 32 := mul_bd (A := 4) (B := 8) (by omega) (by omega) (by omega) (by omega)
      have esn := bts_snoc (s := s) (t := t) (a := u) (show (-8 : Int) ≤ w by omega)
      have skip : ¬ btw s t u w → Ok (r67_j2 a (fun v1_ v2_ v3_ v4_ v5_ H_ => r67_l1 a (fun v1_ v2_ v3_ v4_ H_ => r67_l0 a K v1_ v2_ v3_ v4_ H_) K' v1_ v2_ v3_ v4_ v5_ H_) yv H.n (crI s t) u w false H2) fun _ H' => I P (bt s t) H' ∨ ∃ q, q <+: bt s t ∧ St q H' := fun hn => by
        unfold r67_j2
        rw [w64_id (n := w + 1) (by omega) (by omega)]
        refine Ok.neg (by simp) (ih' (9 - (w + 1)).toNat (w + 1) H2 (by omega) ⟨by omega, rfl, ?_, hc2⟩)
        rw [show w + 1 - 1 = w by omega, esn, if_neg hn, List.append_nil]
        exact hI2
      have step : btw s t u w → Ok ((callv a yv [.int .i64 u, .int .i64 w] H2).bind fun p5 => (p5.1.asB).bind fun x6 => r67_j2 a (fun v1_ v2_ v3_ v4_ v5_ H_ => r67_l1 a (fun v1_ v2_ v3_ v4_ H_ => r67_l0 a K v1_ v2_ v3_ v4_ H_) K' v1_ v2_ v3_ v4_ v5_ H_) yv H.n (crI s t) u w (!x6) p5.2) fun _ H' => I P (bt s t) H' ∨ ∃ q, q <+: bt s t ∧ St q H' := fun hn => by
        have hpre := bt_pre (s := s) (t := t) (a := u) (b := w) (by omega) (by omega)
        rw [esn, if_pos hn, ← List.append_assoc] at hpre
        refine Ok.bind (Y.step (x := (u, w)) hI2 (mem_bt.2 ⟨⟨by omega, by omega⟩, hn⟩)) fun r G ⟨nG, hG⟩ => ?_
        rcases hG with ⟨rfl, hIG, kG⟩ | ⟨rfl, hSt⟩
        · refine Ok.ld rfl ?_
          unfold r67_j2
          rw [w64_id (n := w + 1) (by omega) (by omega)]
          refine Ok.neg (by simp) (ih' (9 - (w + 1)).toNat (w + 1) G (by omega) ⟨by omega, rfl, ?_, by rw [kG _ (Hp.get_lt hc2') (.inr rfl)]; exact hc2⟩)
          rw [show w + 1 - 1 = w by omega, esn, if_pos hn, ← List.append_assoc]
          exact hIG
        · refine Ok.ld rfl ?_
          unfold r67_j2
          exact Ok.pos (by simp) (Ok.ret (.inr ⟨_, hpre, hSt⟩))
      have fin : ∀ u' w' : Int, (btw s t u w ↔ ((0 ≤ u' ∧ 0 ≤ w') ∧ u' ≤ (if crI s t < 0 then -crI s t else crI s t) ∧ w' ≤ (if crI s t < 0 then -crI s t else crI s t))) → Ok (r67_j3 a (fun v1_ v2_ v3_ v4_ v5_ H_ => r67_l1 a (fun v1_ v2_ v3_ v4_ H_ => r67_l0 a K v1_ v2_ v3_ v4_ H_) K' v1_ v2_ v3_ v4_ v5_ H_) yv H.n (crI s t) u w u' w' H2) fun _ H' => I P (bt s t) H' ∨ ∃ q, q <+: bt s t ∧ St q H' := fun u' w' hiff => by
        unfold r67_j3
        rw [hmax]
        refine Ok.ite (fun k1 => Ok.ite (fun k2 => Ok.ite (fun k3 => Ok.ite (fun k4 => step (hiff.2 ⟨⟨k1, k2⟩, k3, k4⟩)) fun k => skip fun q => k (hiff.1 q).2.2) fun k => skip fun q => k (hiff.1 q).2.1) fun k => skip fun q => k (hiff.1 q).1.2) fun k => skip fun q => k (hiff.1 q).1.1
      refine Ok.ite (fun hneg => ?_) fun hneg => ?_
      · rw [w64_id (n := 0 - (u * t.2.1 - w * t.1)) (by omega) (by omega), w64_id (n := 0 - (s.1 * w - s.2.1 * u)) (by omega) (by omega)]
        refine fin _ _ ?_
        unfold btw
        rw [if_pos hneg, if_pos hneg, Int.zero_sub, Int.zero_sub]
      · refine fin _ _ ?_
        unfold btw
        rw [if_neg hneg, if_neg hneg]
    · refine Ok.neg h2 ?_
      rw [w64_id (n := u + 1) (by omega) (by omega)]
      refine ih (9 - (u + 1)).toNat (u + 1) H2 (by omega) ⟨by omega, rfl, ?_, hc2⟩
      rw [show w - 1 = 8 by omega] at hI2
      rw [show u + 1 - 1 = u by omega, ints_snoc (show (-8 : Int) ≤ u by omega), List.flatMap_append, List.flatMap_singleton]
      exact hI2
  · refine Ok.neg h (Ok.ret (.inl ?_))
    rw [show u - 1 = 8 by omega] at hI1
    exact Y.grow hI1 (.refl _) fun b hb => .inl (.inl hb)
end
end Go.Lt.P2

namespace Go.Lt.P2
open Go Go.Lt Go.Proofs
/-! ### arguments of InRound -/
def frP (f : Pr) : Prop := (1 ≤ f.2 ∧ f.2 ≤ 100) ∧ (-100 * f.2 ≤ f.1 ∧ f.1 ≤ 100 * f.2) ∧ Nat.gcd f.1.natAbs f.2.natAbs = 1
instance (f : Pr) : Decidable (frP f) := by unfold frP; infer_instance
theorem frP_fq {f : Pr} (h : frP f) : fq (dv f.1 f.2) = f := fq_dv (by unfold frP at h; omega) h.2.2
theorem frP_qb {f : Pr} (h : frP f) : qb 10000 100 (dv f.1 f.2) := by
  unfold frP at h
  exact qb_dv (by omega) (by omega) (by omega) (by omega)
/-- isFrac -/
theorem r64_ok {f : Pr} : Ok (r64 f.1 f.2 (-100) 100 H0) fun r _ => r = decide (frP f) := by
  have no : ∀ {A : Hp}, ¬ frP f → Ok (some (false, A)) fun r _ => r = decide (frP f) := fun hn => Ok.ret (by rw [decide_eq_false hn])
  unfold r64
  refine Ok.box (.nil H0) fun A _ c => Ok.cld c (.head _) rfl (Ok.ite (fun h1 => Ok.cld c (.head _) rfl (Ok.ite (fun h2 => Ok.cld c (.head _) rfl (Ok.cld c (.head _) rfl ?_)) fun h => no fun q => h q.1.2)) fun h => no fun q => h q.1.1)
  rw [w64_id (n := -100 * f.2) (by omega) (by omega)]
  refine Ok.ite (fun h3 => Ok.cld c (.head _) rfl (Ok.cld c (.head _) rfl ?_)) fun h => no fun q => h q.2.1.1
  rw [w64_id (n := 100 * f.2) (by omega) (by omega)]
  refine Ok.ite (fun h4 => Ok.cld c (.head _) rfl (Ok.cld c (.head _) rfl ?_)) fun h => no fun q => h q.2.1.2
  refine Ok.own (b := (Nat.gcd f.1.natAbs f.2.natAbs : Int)) ⟨_, _, gcdI FUEL f.1 f.2 (by unfold FUEL; omega) (by omega) (by omega), rfl⟩ fun X => Ok.ret ?_
  refine decide_eq_decide.2 ?_
  unfold frP
  dsimp only
  omega
end Go.Lt.P2

namespace Go.Lt.P2
open Go Go.Lt Go.Proofs
theorem floor_bd2 {q : Rat} {N D : Int} (h : qb N D q) (hN : 0 ≤ N) : -N - 1 ≤ q.floor ∧ q.floor ≤ N := by
  obtain ⟨h1, h2, h3⟩ := h
  have hp := fq_pos q
  have := (floor_iff (f := q.floor) (n := (fq q).1) hp).1 (by rw [dv_fq])
  generalize q.floor = f at *
  generalize (fq q).1 = n at *
  generalize (fq q).2 = d at *
  constructor
  · refine Classical.byContradiction fun hc => ?_
    have : (f + 1) * d ≤ (-N - 1) * 1 := by
      have h4 : 0 ≤ (-N - 1 - (f + 1)) * d := Int.mul_nonneg (by omega) (by omega)
      have h5 : 0 ≤ (N + 1) * (d - 1) := Int.mul_nonneg (by omega) (by omega)
      grind
    omega
  · refine Classical.byContradiction fun hc => ?_
    have : (N + 1) * 1 ≤ f * d := by
      have h4 : 0 ≤ (f - (N + 1)) * d := Int.mul_nonneg (by omega) (by omega)
      have h5 : 0 ≤ (N + 1) * (d - 1) := Int.mul_nonneg (by omega) (by omega)
      grind
    omega
/-- a point keeps the cut with a, b at a corner -/
def rk (c p : Pq) (w : Pr) : Prop := lqs (w.1, w.2, (atq w.1 w.2 c).floor) p
instance (c p : Pq) (w : Pr) : Decidable (rk c p w) := by unfold rk; infer_instance
def rkC (p : Pq) (c : Cn) : Prop := ∀ w ∈ bt c.2.1 c.2.2, rk c.1 p w
def rndP (l : List Sd) (p : Pq) : Prop := ∀ c ∈ cs l, rkC p c
section
variable {l2 d eb rb xb : Nat} {p : Pq}
def F2 (xb rb eb : Nat) : Fr := [(3, .ptr xb 0), (4, .ptr rb 0), (5, .ptr eb 0)]
def F3 (xb rb eb y : Nat) : Fr := [(3, .ptr xb 0), (4, .ptr rb 0), (5, .ptr eb 0), (7, .ptr y 0)]
def restE (d eb rb xb : Nat) (p : Pq) : List (Nat × Blk) := [(d, .dfr), (eb, cel [.int .i64 0]), (rb, cel [.bool false]), (xb, cel (pc4 p))]
def outE (l2 d eb rb xb : Nat) (p : Pq) (ls : LoopState) (pe : Option Code) : List (Nat × Blk) := (l2, .loop ls pe 2 51 (F2 xb rb eb)) :: restE d eb rb xb p
def tenC (c : Cn) : List AV := [.int .i64 (fq c.1.1).1, .int .i64 (fq c.1.1).2, .int .i64 (fq c.1.2).1, .int .i64 (fq c.1.2).2, .int .i64 c.2.1.1, .int .i64 c.2.1.2.1, .int .i64 c.2.1.2.2, .int .i64 c.2.2.1, .int .i64 c.2.2.2.1, .int .i64 c.2.2.2.2]
def inE (l3 y l2 d eb rb xb : Nat) (p : Pq) (c : Cn) (ls : LoopState) (pe : Option Code) : List (Nat × Blk) := (l3, .loop ls pe 3 51 (F3 xb rb eb y)) :: (y, cel (tenC c)) :: outE l2 d eb rb xb p .busy none
/-- a round of the inner loop -/
theorem rnd3 {k l3 y : Nat} {H : Hp} {c : Cn} {w : Pr} (cb : Cb H H (inE l3 y l2 d eb rb xb p c .ready none)) (hc : qp c.1) (hp : qp p) (hw : (-8 ≤ w.1 ∧ w.1 ≤ 8) ∧ -8 ≤ w.2 ∧ w.2 ≤ 8) :
    Ok (callv (app (k + 1)) (.yld l3) (argB w) H) fun r H' => (r = .bool true ∧ Cb H H' (inE l3 y l2 d eb rb xb p c .ready none) ∧ rk c.1 p w) ∨ (r = .bool false ∧ Cb H H' (inE l3 y l2 d eb rb xb p c .done (some .ret)) ∧ ¬ rk c.1 p w) := by
  show Ok (ydisp (app k) l3 (argB w) H) _
  unfold ydisp
  have hl : H.get l3 = _ := cb.e (l3, .loop .ready none 3 51 (F3 xb rb eb y)) (.head _)
  rw [hl]
  unfold F3
  have hq := atq_qb (a := w.1) (b := w.2) (p := c.1) (by omega) (by omega) hc
  have hfl := floor_bd2 hq (by decide)
  refine Ok.bind (P := fun r H' => (r = none ∧ Cb H H' (inE l3 y l2 d eb rb xb p c .busy none) ∧ rk c.1 p w) ∨ (r = some .ret ∧ Cb H H' (inE l3 y l2 d eb rb xb p c .busy none) ∧ ¬ rk c.1 p w)) ?_ ?_
  · unfold r17q3
    refine Ok.kbeg cb 0 rfl fun A nA _ cb => Ok.kalo cb fun B gB cb => ?_
    refine Ok.kld cb (.head _) rfl (Ok.kld cb (.head _) rfl (Ok.kld cb (.head _) rfl (Ok.kld cb (.tail _ (.tail _ (.head _))) rfl (Ok.kld cb (.tail _ (.tail _ (.head _))) rfl (Ok.kld cb (.tail _ (.tail _ (.head _))) rfl (Ok.kld cb (.tail _ (.tail _ (.head _))) rfl ?_))))))
    refine Ok.own (r69_q (p := c.1) (by omega) (by omega) hc) fun _ => Ok.own (r68_q hq (by decide) (by decide)) fun _ => ?_
    refine Ok.kst1 cb 0 rfl (by show _ < 3; decide) fun C nC _ cb => ?_
    refine Ok.kld cb (.head _) rfl (Ok.kld cb (.head _) rfl (Ok.kld cb (.head _) rfl ?_))
    refine Ok.kld cb (.tail _ (.tail _ (.tail _ (.tail _ (.tail _ (.tail _ (.tail _ (.head _)))))))) rfl (Ok.kld cb (.tail _ (.tail _ (.tail _ (.tail _ (.tail _ (.tail _ (.tail _ (.head _)))))))) rfl (Ok.kld cb (.tail _ (.tail _ (.tail _ (.tail _ (.tail _ (.tail _ (.tail _ (.head _)))))))) rfl (Ok.kld cb (.tail _ (.tail _ (.tail _ (.tail _ (.tail _ (.tail _ (.tail _ (.head _)))))))) rfl ?_)))
    refine Ok.own (r70_q (p := p) (by omega) (by omega) (by omega) hp) fun _ => ?_
    have hlo : H.n ≤ A.n := by rw [nA]; exact Nat.le_refl _
    refine Ok.ite (fun h => Ok.ret (.inl ⟨rfl, cb.tl rfl hlo, of_decide_eq_true h⟩)) fun h => ?_
    refine Ok.kst1 cb 6 rfl (by show _ < 1; decide) fun D nD _ cb => Ok.kst1 cb 5 rfl (by show _ < 1; decide) fun E nE _ cb => Ok.ret (.inr ⟨rfl, cb.tl rfl hlo, fun q => h (decide_eq_true q)⟩)
  · rintro r H' (⟨rfl, cb, hk⟩ | ⟨rfl, cb, hk⟩)
    · exact Ok.knext cb 0 rfl fun A _ _ cb => .inl ⟨rfl, cb, hk⟩
    · exact Ok.knext cb 0 rfl fun A _ _ cb => .inr ⟨rfl, cb, hk⟩
/-- a round of the outer loop -/
theorem rnd2 {k : Nat} {H : Hp} {l : List Sd} {c : Cn} (cb : Cb H H (outE l2 d eb rb xb p .ready none)) (hs : ∀ s ∈ l, sideP s) (hc : c ∈ cs l) (hp : qp p) :
    Ok (callv (app (k + 3)) (.yld l2) (argC c) H) fun r H' => (r = .bool true ∧ Cb H H' (outE l2 d eb rb xb p .ready none) ∧ rkC p c) ∨ (r = .bool false ∧ Cb H H' (outE l2 d eb rb xb p .done (some .ret)) ∧ ¬ rkC p c) := by
  have hm := cs_mem hc
  have hcq : qp c.1 := by rw [hm.2.2.2.1]; exact meet_qp (hs _ hm.1) (hs _ hm.2.1) hm.2.2.1
  show Ok (ydisp (app (k + 2)) l2 (argC c) H) _
  unfold ydisp
  have hl : H.get l2 = _ := cb.e (l2, .loop .ready none 2 51 (F2 xb rb eb)) (.head _)
  rw [hl]
  unfold F2
  refine Ok.bind (P := fun r H' => (r = none ∧ Cb H H' (outE l2 d eb rb xb p .busy none) ∧ rkC p c) ∨ (r = some .ret ∧ Cb H H' (outE l2 d eb rb xb p .busy none) ∧ ¬ rkC p c)) ?_ ?_
  · unfold r17q2
    refine Ok.kalo cb fun A gA cb => Ok.kbeg cb 1 rfl fun B nB _ cb => ?_
    refine Ok.kld cb (.head _) rfl (Ok.kld cb (.head _) rfl (Ok.kld cb (.head _) rfl (Ok.kld cb (.head _) rfl (Ok.kld cb (.head _) rfl (Ok.kld cb (.head _) rfl (Ok.kld cb (.head _) rfl (Ok.kld cb (.head _) rfl (Ok.kld cb (.head _) rfl (Ok.kld cb (.head _) rfl ?_)))))))))
    have hl2 : B.get l2 = _ := cb.e (l2, .loop .busy none 2 51 (F2 xb rb eb)) (.tail _ (.head _))
    refine Ok.ck (by unfold Hp.isLoop; rw [hl2]) ?_
    have cb3 := cb.push (.loop .ready none 3 51 (F3 xb rb eb H.n))
    have gA1 := gA.1
    have hHB : H.n ≤ B.n := by omega
    show Ok ((callr (app (k + 2)) (.fn 67 [.agg (tenC c)] []) B.n (B.push (.loop .ready none 3 51 (F3 xb rb eb H.n)))).bind _) _
    generalize hC : B.push (.loop .ready none 3 51 (F3 xb rb eb H.n)) = C at *
    have cb3 : Cb H C (inE B.n H.n l2 d eb rb xb p c .ready none) := cb3
    have hnd := cb3.nd
    have Y := mkYd (a := app (k + 1)) (yv := .yld B.n) (arg := argB) (dom := (· ∈ bt c.2.1 c.2.2)) (ks := [B.n, H.n, l2, d, eb, rb, xb]) (fun _ => inE B.n H.n l2 d eb rb xb p c .ready none) (fun _ => inE B.n H.n l2 d eb rb xb p c .done (some .ret)) (fun _ => rfl) (fun q => ∀ w ∈ q, rk c.1 p w) (fun q => ∃ w ∈ q, ¬ rk c.1 p w) (B := H0) (Hs := C) ⟨Nat.zero_le _, fun b hb => absurd hb (Nat.not_lt_zero _)⟩ (fun _ _ => Nat.zero_le _)
      (fun q x H2 cbq hG hx => by
        refine Ok.mono (rnd3 (k := k) cbq hcq hp (mem_bt.1 hx).1) fun r H' h => ?_
        rcases h with ⟨hr, h1, h2⟩ | ⟨hr, h1, h2⟩
        · refine .inl ⟨hr, h1, fun w hw => ?_⟩
          rcases List.mem_append.1 hw with hw | hw
          · exact hG w hw
          · rw [List.mem_singleton] at hw; subst hw; exact h2
        · exact .inr ⟨hr, h1, x, by simp, h2⟩) (fun _ => rfl)
    refine Ok.bind (P := fun _ H' => (Cb H H' (inE B.n H.n l2 d eb rb xb p c .ready none) ∧ rkC p c) ∨ (Cb H H' (inE B.n H.n l2 d eb rb xb p c .done (some .ret)) ∧ ¬ rkC p c)) ?_ ?_
    · show Ok ((r67 (app (k + 1)) (fq c.1.1).1 (fq c.1.1).2 (fq c.1.2).1 (fq c.1.2).2 c.2.1.1 c.2.1.2.1 c.2.1.2.2 c.2.2.1 c.2.2.2.1 c.2.2.2.2 (.yld B.n) C).map fun p => (AV.tup [], p.2)) _
      have h1 := r67_ok (a := app (k + 1)) (x1 := (fq c.1.1).1) (x2 := (fq c.1.1).2) (x3 := (fq c.1.2).1) (x4 := (fq c.1.2).2) Y (hs _ hm.1) (hs _ hm.2.1) (H := C) (P := fun _ => False) ⟨Cb.start cb3.e hnd, fun _ h => (by cases h), fun _ h => h.elim⟩
      obtain ⟨r, H', e, h⟩ := h1
      rw [e]
      refine Ok.ret ?_
      rcases h with ⟨h1, h2, _⟩ | ⟨q, hq, h1, w, hw, h2⟩
      · exact .inl ⟨cb3.trans h1 rfl, h2⟩
      · exact .inr ⟨cb3.trans h1 rfl, fun hk => h2 (hk w (hq.subset hw))⟩
    · rintro r D (⟨cb, hk⟩ | ⟨cb, hk⟩)
      · refine Ok.kend cb 0 rfl (.inl rfl) fun E _ _ cb => Ok.pos rfl (Ok.ret (.inl ⟨rfl, ?_, hk⟩))
        exact (cb.tl rfl hHB).tl rfl (Nat.le_refl _)
      · refine Ok.kend cb 0 rfl (.inr rfl) fun E _ _ cb => Ok.neg (by simp [jmp]) (Ok.pos rfl (Ok.ret (.inr ⟨rfl, ?_, hk⟩)))
        exact (cb.tl rfl hHB).tl rfl (Nat.le_refl _)
  · rintro r H' (⟨rfl, cb, hk⟩ | ⟨rfl, cb, hk⟩)
    · exact Ok.knext cb 0 rfl fun A _ _ cb => .inl ⟨rfl, cb, hk⟩
    · exact Ok.knext cb 0 rfl fun A _ _ cb => .inr ⟨rfl, cb, hk⟩
end
end Go.Lt.P2

namespace Go.Lt.P2
open Go Go.Lt Go.Proofs
/-- a point as it is given -/
abbrev Pa := Pr × Pr
def ptP (x : Pa) : Prop := frP x.1 ∧ frP x.2
instance (x : Pa) : Decidable (ptP x) := by unfold ptP; infer_instance
def paq (x : Pa) : Pq := (dv x.1.1 x.1.2, dv x.2.1 x.2.2)
theorem paq_qp {x : Pa} (h : ptP x) : qp (paq x) := ⟨frP_qb h.1, frP_qb h.2⟩
theorem paq_pc {x : Pa} (h : ptP x) : pc4 (paq x) = [.int .i64 x.1.1, .int .i64 x.1.2, .int .i64 x.2.1, .int .i64 x.2.2] := by
  unfold pc4 paq
  dsimp only
  rw [frP_fq h.1, frP_fq h.2]
/-- InRound -/
theorem r17_ok {k : Nat} {H : Hp} {v : Sl} {l : List Sd} {x : Pa} (hv : SL H v l) (hb : l.length ≤ 1000) : Ok (r17 (appA (k + 4)) v x.1.1 x.1.2 x.2.1 x.2.2 H) fun r H' => Gr H H' ∧ (plateP l ∧ ptP x → (r.1 = true ↔ inP l (paq x) ∧ rndP l (paq x)) ∧ r.2 = 0) ∧ (¬ (plateP l ∧ ptP x) → r = (false, 2)) := by
  unfold r17
  refine Ok.lt ?_
  have c0 : Cb H H [] := .start (fun _ h => by cases h) .nil
  have c := ((c0.push (cel [.int .i64 x.1.1, .int .i64 x.1.2, .int .i64 x.2.1, .int .i64 x.2.2])).push (cel [.bool false])).push (cel [.int .i64 0])
  have gA := ((Gr.push H (cel [.int .i64 x.1.1, .int .i64 x.1.2, .int .i64 x.2.1, .int .i64 x.2.2])).trans (Gr.push _ (cel [.bool false]))).trans (Gr.push _ (cel [.int .i64 0]))
  simp only [Hp.n_push] at c ⊢
  generalize ((H.push (cel [.int .i64 x.1.1, .int .i64 x.1.2, .int .i64 x.2.1, .int .i64 x.2.2])).push (cel [.bool false])).push (cel [.int .i64 0]) = A at *
  have toG : ∀ {D : Hp} {E : List (Nat × Blk)}, Cb H D E → (∀ p ∈ E, H.n ≤ p.1) → Gr H D := fun {D E} cb h => ⟨cb.n, fun b hb => cb.g b hb fun p hp e => by have := h p hp; omega⟩
  have bad : ∀ {B : Hp}, ¬ (plateP l ∧ ptP x) → Cb H B [(H.n + 1 + 1, cel [.int .i64 0]), (H.n + 1, cel [.bool false]), (H.n, cel [.int .i64 x.1.1, .int .i64 x.1.2, .int .i64 x.2.1, .int .i64 x.2.2])] → Ok (r17_j0 (appA (k + 4)) H.n (H.n + 1) (H.n + 1 + 1) v true B) fun r H' => Gr H H' ∧ (plateP l ∧ ptP x → (r.1 = true ↔ inP l (paq x) ∧ rndP l (paq x)) ∧ r.2 = 0) ∧ (¬ (plateP l ∧ ptP x) → r = (false, 2)) := fun {B} hn c => by
    unfold r17_j0
    refine Ok.pos rfl (Ok.kst1 c 1 rfl (by show _ < 1; decide) fun D nD _ c => Ok.kst1 c 0 rfl (by show _ < 1; decide) fun E nE _ c => Ok.kldB c (.tail _ (.head _)) rfl (Ok.kld c (.head _) rfl (Ok.ret ⟨toG c ?_, fun h => absurd h hn, fun _ => rfl⟩)))
    simp only [List.set, List.mem_cons, List.not_mem_nil, or_false]
    rintro p (rfl | rfl | rfl) <;> dsimp only <;> omega
  refine Ok.bind (r63_ok (k := k + 3) (hv.gr gA) hb) fun b B ⟨gB, hbb⟩ => ?_
  subst hbb
  have c := c.gr gB
  have gHB := gA.trans gB
  by_cases hpl : plateP l
  case neg =>
    rw [decide_eq_false hpl]
    exact Ok.neg (by simp) (bad (fun q => hpl q.1) c)
  rw [decide_eq_true hpl]
  refine Ok.pos rfl (Ok.kld c (.tail _ (.tail _ (.head _))) rfl (Ok.kld c (.tail _ (.tail _ (.head _))) rfl (Ok.own (r64_ok (f := x.1)) fun _ => ?_)))
  by_cases h1 : frP x.1
  case neg =>
    rw [decide_eq_false h1]
    exact Ok.neg (by simp) (bad (fun q => h1 q.2.1) c)
  rw [decide_eq_true h1]
  refine Ok.pos rfl (Ok.kld c (.tail _ (.tail _ (.head _))) rfl (Ok.kld c (.tail _ (.tail _ (.head _))) rfl (Ok.own (r64_ok (f := x.2)) fun _ => ?_)))
  by_cases h2 : frP x.2
  case neg =>
    rw [decide_eq_false h2]
    exact bad (fun q => h2 q.2.2) c
  rw [decide_eq_true h2]
  have hx : ptP x := ⟨h1, h2⟩
  have hq := paq_qp hx
  have epc := paq_pc hx
  rw [← epc] at c
  have tt : plateP l ∧ ptP x := ⟨hpl, hx⟩
  unfold r17_j0
  refine Ok.neg (by simp) (Ok.kld c (.tail _ (.tail _ (.head _))) rfl (Ok.kld c (.tail _ (.tail _ (.head _))) rfl (Ok.kld c (.tail _ (.tail _ (.head _))) rfl (Ok.kld c (.tail _ (.tail _ (.head _))) rfl ?_))))
  refine Ok.bind (r65_ok (a95A (k + 3)) (p := paq x) (hv.gr gHB) hb hpl.2.1 hq) fun r D ⟨gD, hr⟩ => ?_
  subst hr
  have c := c.gr gD
  have gHD := gHB.trans gD
  by_cases hin : inP l (paq x)
  case neg =>
    rw [decide_eq_false hin]
    refine Ok.neg (by simp) (Ok.kst1 c 1 rfl (by show _ < 1; decide) fun E nE _ c => Ok.kst1 c 0 rfl (by show _ < 1; decide) fun F nF _ c => Ok.kldB c (.tail _ (.head _)) rfl (Ok.kld c (.head _) rfl (Ok.ret ⟨toG c ?_, fun _ => ⟨⟨fun h => (by cases h), fun h => absurd h.1 hin⟩, rfl⟩, fun h => absurd tt h⟩)))
    simp only [List.set, List.mem_cons, List.not_mem_nil, or_false]
    rintro p (rfl | rfl | rfl) <;> dsimp only <;> omega
  rw [decide_eq_true hin]
  refine Ok.pos rfl ?_
  have c := (c.push .dfr).push (.loop .ready none 2 51 (F2 H.n (H.n + 1) (H.n + 1 + 1)))
  have nHD := gHD.1
  have gE := (Gr.push D .dfr).trans (Gr.push _ (.loop .ready none 2 51 (F2 H.n (H.n + 1) (H.n + 1 + 1))))
  show Ok ((callr (appA (k + 4)) (.fn 66 [.sl v] []) (D.n + 1) ((D.push .dfr).push (.loop .ready none 2 51 (F2 H.n (H.n + 1) (H.n + 1 + 1))))).bind _) _
  simp only [Hp.n_push] at c ⊢
  generalize (D.push .dfr).push (.loop .ready none 2 51 (F2 H.n (H.n + 1) (H.n + 1 + 1))) = E at *
  have c : Cb H E (outE (D.n + 1) D.n (H.n + 1 + 1) (H.n + 1) H.n (paq x) .ready none) := c
  have hkeys : ∀ p ∈ outE (D.n + 1) D.n (H.n + 1 + 1) (H.n + 1) H.n (paq x) .ready none, H.n ≤ p.1 := by
    unfold outE restE
    simp only [List.mem_cons, List.not_mem_nil, or_false]
    rintro p (rfl | rfl | rfl | rfl | rfl) <;> dsimp only <;> omega
  have gHE := toG c hkeys
  have hks : ∀ kk ∈ [D.n + 1, D.n, H.n + 1 + 1, H.n + 1, H.n], H.n ≤ kk := by
    simp only [List.mem_cons, List.not_mem_nil, or_false]
    rintro p (rfl | rfl | rfl | rfl | rfl) <;> omega
  have Y := mkYd (a := app (k + 3)) (yv := .yld (D.n + 1)) (arg := argC) (dom := (· ∈ cs l)) (ks := [D.n + 1, D.n, H.n + 1 + 1, H.n + 1, H.n]) (fun _ => outE (D.n + 1) D.n (H.n + 1 + 1) (H.n + 1) H.n (paq x) .ready none) (fun _ => outE (D.n + 1) D.n (H.n + 1 + 1) (H.n + 1) H.n (paq x) .done (some .ret)) (fun _ => rfl) (fun q => ∀ w ∈ q, rkC (paq x) w) (fun q => ∃ w ∈ q, ¬ rkC (paq x) w) (B := H) (Hs := E) gHE hks
    (fun q y H2 cbq hG hy => by
      refine Ok.mono (rnd2 (k := k) cbq hpl.2.1 hy hq) fun r H' h => ?_
      rcases h with ⟨hr, h1, h2⟩ | ⟨hr, h1, h2⟩
      · refine .inl ⟨hr, h1, fun w hw => ?_⟩
        rcases List.mem_append.1 hw with hw | hw
        · exact hG w hw
        · rw [List.mem_singleton] at hw; subst hw; exact h2
      · exact .inr ⟨hr, h1, y, by simp, h2⟩) (fun _ => rfl)
  refine Ok.bind (P := fun _ H' => (Cb H H' (outE (D.n + 1) D.n (H.n + 1 + 1) (H.n + 1) H.n (paq x) .ready none) ∧ rndP l (paq x)) ∨ (Cb H H' (outE (D.n + 1) D.n (H.n + 1 + 1) (H.n + 1) H.n (paq x) .done (some .ret)) ∧ ¬ rndP l (paq x))) ?_ ?_
  · show Ok ((r66 (app (k + 3)) v (.yld (D.n + 1)) E).map fun p => (AV.tup [], p.2)) _
    have h1 := r66_ok (a := app (k + 3)) (a95 (k + 2)) Y hv hb hpl.2.1 (H := E) (P := fun _ => False) ⟨Cb.start c.e c.nd, fun _ h => (by cases h), fun _ h => h.elim⟩
    obtain ⟨r, H', e, h⟩ := h1
    rw [e]
    refine Ok.ret ?_
    rcases h with ⟨h1, h2, _⟩ | ⟨q, hq, h1, w, hw, h2⟩
    · exact .inl ⟨c.trans h1 rfl, h2⟩
    · exact .inr ⟨c.trans h1 rfl, fun hk => h2 (hk w (hq.subset hw))⟩
  · rintro r G (⟨cb, hk⟩ | ⟨cb, hk⟩)
    · refine Ok.kend cb 0 rfl (.inl rfl) fun I nI _ cb => Ok.pos rfl ?_
      refine Ok.kst1 cb 3 rfl (by show _ < 1; decide) fun J nJ _ cb => Ok.kst1 cb 2 rfl (by show _ < 1; decide) fun L nL _ cb => Ok.kldB cb (.tail _ (.tail _ (.tail _ (.head _)))) rfl (Ok.kld cb (.tail _ (.tail _ (.head _))) rfl (Ok.kdfr cb (.tail _ (.head _)) (Ok.ret ⟨toG (cb.kill 1 rfl) ?_, fun _ => ⟨⟨fun _ => ⟨hin, hk⟩, fun _ => rfl⟩, rfl⟩, fun h => absurd tt h⟩)))
      simp only [outE, restE, List.set, List.mem_cons, List.not_mem_nil, or_false]
      rintro p (rfl | rfl | rfl | rfl | rfl) <;> dsimp only <;> omega
    · refine Ok.kend cb 0 rfl (.inr rfl) fun I nI _ cb => Ok.neg (by simp [jmp]) (Ok.pos rfl ?_)
      refine Ok.kldB cb (.tail _ (.tail _ (.tail _ (.head _)))) rfl (Ok.kld cb (.tail _ (.tail _ (.head _))) rfl (Ok.kdfr cb (.tail _ (.head _)) (Ok.ret ⟨toG (cb.kill 1 rfl) ?_, fun _ => ⟨⟨fun h => (by cases h), fun h => absurd h.2 hk⟩, rfl⟩, fun h => absurd tt h⟩)))
      simp only [outE, restE, List.set, List.mem_cons, List.not_mem_nil, or_false]
      rintro p (rfl | rfl | rfl | rfl | rfl) <;> dsimp only <;> omega
end Go.Lt.P2

namespace Go.Lt.P2
open Go Go.Lt Go.Proofs
/-! ### what keeps the sides keeps a cut -/
theorem mq_nn {m : List Pr} {j : Nat} (h : frM (atF m j)) : 0 ≤ mq m j ∧ mq m j ≤ 100 := by
  unfold mq
  unfold frM at h
  constructor
  · have := (dv_le_iff (a := 0) (b := 1) (c := (atF m j).1) (d := (atF m j).2) (by decide) (by omega)).2 (by omega)
    rw [dv_int] at this; exact this
  · have := (dv_le_iff (a := (atF m j).1) (b := (atF m j).2) (c := 100) (d := 1) (by omega) (by decide)).2 (by omega)
    rw [dv_int] at this; exact this
theorem sm_keeps {p : List Sd} {m : List Pr} {x : Pq} (hin : inP p x) (hlen : m.length = p.length) (hf : mulP m) : ∀ i, i ≤ p.length → sm p m 0 i * x.1 + sm p m 1 i * x.2 ≤ sm p m 2 i := by
  intro i
  induction i with
  | zero => intro _; show (0 : Rat) * x.1 + 0 * x.2 ≤ 0; grind
  | succ i ih =>
    intro hi
    have h1 := ih (by omega)
    have h2 : lqs (atS p i) x := by rw [← atS_eq (show i < p.length by omega)]; exact hin _ (List.getElem_mem _)
    have h3 := (mq_nn (by rw [← atF_eq (show i < m.length by omega)]; exact hf _ (List.getElem_mem _))).1
    unfold lqs atq at h2
    have e0 : comp (atS p i) 0 = (atS p i).1 := rfl
    have e1 : comp (atS p i) 1 = (atS p i).2.1 := rfl
    have e2 : comp (atS p i) 2 = (atS p i).2.2 := rfl
    show (sm p m 0 i + (comp (atS p i) 0 : Rat) * mq m i) * x.1 + (sm p m 1 i + (comp (atS p i) 1 : Rat) * mq m i) * x.2 ≤ sm p m 2 i + (comp (atS p i) 2 : Rat) * mq m i
    rw [e0, e1, e2]
    have h4 := Rat.mul_nonneg h3 (show 0 ≤ (((atS p i).2.2 : Int) : Rat) - (((atS p i).1 : Rat) * x.1 + ((atS p i).2.1 : Rat) * x.2) by grind)
    grind
theorem sm_bd {p : List Sd} {m : List Pr} {k : Nat} {c : Int} (hc : ∀ s ∈ p, -c ≤ comp s k ∧ comp s k ≤ c) (hc0 : 0 ≤ c) (hlen : m.length = p.length) (hf : mulP m) : ∀ i, i ≤ p.length → ((-(c * 100 * i) : Int) : Rat) ≤ sm p m k i ∧ sm p m k i ≤ ((c * 100 * i : Int) : Rat) := by
  intro i
  induction i with
  | zero => intro _; rw [show (c * 100 * ((0 : Nat) : Int)) = 0 by simp]; exact ⟨by show ((-0 : Int) : Rat) ≤ 0; decide, by show (0 : Rat) ≤ ((0 : Int) : Rat); decide⟩
  | succ i ih =>
    intro hi
    have h1 := ih (by omega)
    have h2 := hc _ (List.getElem_mem (show i < p.length by omega))
    rw [atS_eq (show i < p.length by omega)] at h2
    have h3 := mq_nn (m := m) (j := i) (by rw [← atF_eq (show i < m.length by omega)]; exact hf _ (List.getElem_mem _))
    have b1 : ((-c : Int) : Rat) ≤ (comp (atS p i) k : Rat) := castLe.2 h2.1
    have b2 : (comp (atS p i) k : Rat) ≤ (c : Rat) := castLe.2 h2.2
    have hc0' : (0 : Rat) ≤ (c : Rat) := castLe.2 hc0
    have q1 := Rat.mul_nonneg h3.1 (show 0 ≤ (c : Rat) - (comp (atS p i) k : Rat) by grind)
    have q2 := Rat.mul_nonneg h3.1 (show 0 ≤ (comp (atS p i) k : Rat) + (c : Rat) by push_cast at b1; grind)
    have q3 := Rat.mul_nonneg hc0' (show 0 ≤ 100 - mq m i by grind)
    show _ ≤ sm p m k i + (comp (atS p i) k : Rat) * mq m i ∧ sm p m k i + (comp (atS p i) k : Rat) * mq m i ≤ _
    push_cast at h1 ⊢
    constructor <;> grind
theorem cutR_some {s0 s1 s2 : Rat} (h : (cutR s0 s1 s2).2.2.2 = true) : (((cutR s0 s1 s2).1 : Int) : Rat) = s0 ∧ (((cutR s0 s1 s2).2.1 : Int) : Rat) = s1 ∧ (cutR s0 s1 s2).2.2.1 = s2.floor := by
  unfold cutR at *
  split at h
  · cases h
  · rename_i hc
    rw [if_neg hc]
    have h0 : (fq s0).2 = 1 := Classical.byContradiction fun q => hc (.inl q)
    have h1 : (fq s1).2 = 1 := Classical.byContradiction fun q => hc (.inr (.inl q))
    refine ⟨?_, ?_, rfl⟩
    · have := dv_fq s0; rw [h0, dv_int] at this; exact this
    · have := dv_fq s1; rw [h1, dv_int] at this; exact this
/-- a cut's numbers -/
theorem cut_bd {p : List Sd} {m : List Pr} (h : okP p m) (hc : (cutQ p m).2.2.2 = true) : (-2400 ≤ (cutQ p m).1 ∧ (cutQ p m).1 ≤ 2400) ∧ (-2400 ≤ (cutQ p m).2.1 ∧ (cutQ p m).2.1 ≤ 2400) ∧ -24000 ≤ (cutQ p m).2.2.1 ∧ (cutQ p m).2.2.1 ≤ 24000 := by
  have k := cutR_some hc
  have h6 := h.1.1.2
  have hsd := h.1.2.1
  have b0 := sm_bd (p := p) (m := m) (k := 0) (c := 4) (fun s hs => by have := hsd s hs; unfold sideP at this; show -4 ≤ s.1 ∧ s.1 ≤ 4; omega) (by decide) h.2.1 h.2.2 _ (Nat.le_refl _)
  have b1 := sm_bd (p := p) (m := m) (k := 1) (c := 4) (fun s hs => by have := hsd s hs; unfold sideP at this; show -4 ≤ s.2.1 ∧ s.2.1 ≤ 4; omega) (by decide) h.2.1 h.2.2 _ (Nat.le_refl _)
  have b2 := sm_bd (p := p) (m := m) (k := 2) (c := 40) (fun s hs => by have := hsd s hs; unfold sideP at this; show -40 ≤ s.2.2 ∧ s.2.2 ≤ 40; omega) (by decide) h.2.1 h.2.2 _ (Nat.le_refl _)
  unfold cutQ at *
  rw [← k.1] at b0
  rw [← k.2.1] at b1
  have c0 := castLe.1 b0.1
  have c0' := castLe.1 b0.2
  have c1 := castLe.1 b1.1
  have c1' := castLe.1 b1.2
  have c2 := Rat.le_floor_iff.2 b2.1
  have c2' : (sm p m 2 p.length).floor ≤ 40 * 100 * (p.length : Int) := by
    have := Rat.floor_monotone b2.2
    rw [Rat.floor_intCast] at this
    exact this
  rw [k.2.2]
  omega
/-- a whole point of the plate keeps a cut -/
theorem cut_whole {p : List Sd} {m : List Pr} (h : okP p m) (hc : (cutQ p m).2.2.2 = true) {x y : Int} (hin : inP p ((x : Rat), (y : Rat))) : (cutQ p m).1 * x + (cutQ p m).2.1 * y ≤ (cutQ p m).2.2.1 := by
  have k := cutR_some hc
  have hs := sm_keeps hin h.2.1 h.2.2 _ (Nat.le_refl _)
  unfold cutQ at *
  rw [k.2.2]
  refine Rat.le_floor_iff.2 ?_
  rw [Rat.intCast_add, Rat.intCast_mul, Rat.intCast_mul, k.1, k.2.1]
  exact hs
/-! ### what is between two sides says no more than they -/
theorem btw_le {s t : Sd} {a b : Int} (h0 : crI s t ≠ 0) (hb : btw s t a b) {p : Pq} (hs : lqs s p) (ht : lqs t p) : atq a b p ≤ atq a b (meetq s t) := by
  have on := meet_on h0
  unfold lqs atq at *
  generalize meetq s t = c at *
  have e : ((crI s t : Int) : Rat) = (s.1 : Rat) * t.2.1 - (s.2.1 : Rat) * t.1 := by unfold crI; push_cast; rfl
  have eu : ((a * t.2.1 - b * t.1 : Int) : Rat) = (a : Rat) * t.2.1 - (b : Rat) * t.1 := by push_cast; rfl
  have ev : ((s.1 * b - s.2.1 * a : Int) : Rat) = (s.1 : Rat) * b - (s.2.1 : Rat) * a := by push_cast; rfl
  have key : ∀ (D u v : Rat), 0 < D → 0 ≤ u → 0 ≤ v → D * ((a : Rat)) = u * s.1 + v * t.1 → D * (b : Rat) = u * s.2.1 + v * t.2.1 → (a : Rat) * p.1 + (b : Rat) * p.2 ≤ (a : Rat) * c.1 + (b : Rat) * c.2 := fun D u v hD hu hv ea eb => by
    have q1 := Rat.mul_nonneg hu (show 0 ≤ (s.2.2 : Rat) - ((s.1 : Rat) * p.1 + (s.2.1 : Rat) * p.2) by grind)
    have q2 := Rat.mul_nonneg hv (show 0 ≤ (t.2.2 : Rat) - ((t.1 : Rat) * p.1 + (t.2.1 : Rat) * p.2) by grind)
    have f : ∀ z : Pq, D * ((a : Rat) * z.1 + (b : Rat) * z.2) = u * ((s.1 : Rat) * z.1 + (s.2.1 : Rat) * z.2) + v * ((t.1 : Rat) * z.1 + (t.2.1 : Rat) * z.2) := fun z => by
      rw [show D * ((a : Rat) * z.1 + (b : Rat) * z.2) = (D * (a : Rat)) * z.1 + (D * (b : Rat)) * z.2 by grind, ea, eb]
      grind
    have q3 : D * ((a : Rat) * p.1 + (b : Rat) * p.2) ≤ D * ((a : Rat) * c.1 + (b : Rat) * c.2) := by
      rw [f p, f c, on.1, on.2]
      grind
    exact Rat.le_of_mul_le_mul_left q3 hD
  unfold btw at hb
  split at hb
  · rename_i hneg
    have hD : (0 : Rat) < ((-crI s t : Int) : Rat) := castLt.2 (show (0 : Int) < -crI s t by omega)
    have hu : (0 : Rat) ≤ ((-(a * t.2.1 - b * t.1) : Int) : Rat) := castLe.2 hb.1.1
    have hv : (0 : Rat) ≤ ((-(s.1 * b - s.2.1 * a) : Int) : Rat) := castLe.2 hb.1.2
    rw [Rat.intCast_neg] at hD hu hv
    rw [e] at hD
    rw [eu] at hu
    rw [ev] at hv
    exact key _ _ _ hD hu hv (by grind) (by grind)
  · rename_i hneg
    have hD : (0 : Rat) < ((crI s t : Int) : Rat) := castLt.2 (show (0 : Int) < crI s t by omega)
    have hu : (0 : Rat) ≤ ((a * t.2.1 - b * t.1 : Int) : Rat) := castLe.2 hb.1.1
    have hv : (0 : Rat) ≤ ((s.1 * b - s.2.1 * a : Int) : Rat) := castLe.2 hb.1.2
    rw [e] at hD
    rw [eu] at hu
    rw [ev] at hv
    exact key _ _ _ hD hu hv (by grind) (by grind)
/-- a whole point of the plate is one of its round -/
theorem whole_rnd {l : List Sd} {x y : Int} (hin : inP l ((x : Rat), (y : Rat))) : rndP l ((x : Rat), (y : Rat)) := fun c hc w hw => by
  have hm := cs_mem hc
  have hb := (mem_bt.1 hw).2
  have h1 := btw_le hm.2.2.1 hb (hin _ hm.1) (hin _ hm.2.1)
  rw [← hm.2.2.2.1] at h1
  unfold rk
  rw [lqs_int]
  dsimp only
  refine Rat.le_floor_iff.2 ?_
  rw [Rat.intCast_add, Rat.intCast_mul, Rat.intCast_mul]
  exact h1
end Go.Lt.P2

namespace Go.Lt.P2
open Go Go.Lt Go.Proofs
def flp (p : Pq) : Pr := (p.1.floor, p.2.floor)
def bup (st : Bst) (c : Cn) : Bst := ((up1 (up0 st (flp c.1)) (flp c.1)).1, (up1 (up0 st (flp c.1)) (flp c.1)).2.1, true)
def bxs (q : List Cn) : Bst := q.foldl bup ((0, 0), (0, 0), false)
theorem rnd0 {k n : Nat} {H : Hp} {st : Bst} {x : Cn} (c : Cb H H (bxE n st .ready)) (hx : qb 320 32 x.1.1 ∧ qb 320 32 x.1.2) : Ok (callv (app (k + 1)) (.yld (n + 4)) (argC x) H) fun r H' => r = .bool true ∧ Cb H H' (bxE n (bup st x) .ready) := by
  show Ok (ydisp (app k) (n + 4) (argC x) H) _
  unfold ydisp
  have hl : H.get (n + 4) = _ := c.e (n + 4, .loop .ready none 0 59 [(2, .ptr n 0), (3, .ptr (n + 1) 0), (4, .ptr (n + 2) 0)]) (by unfold bxE; simp)
  rw [hl]
  refine Ok.bind (P := fun r H' => r = none ∧ Cb H H' (bxE n (bup st x) .busy)) ?_ ?_
  · unfold r101q0
    refine Ok.kalo c fun A gA c => Ok.kbeg c 5 rfl fun B nB _ c => ?_
    have gA1 := gA.1
    refine Ok.kld c (.head _) rfl (Ok.kld c (.head _) rfl (Ok.own (r68_q hx.1 (by decide) (by decide)) fun X => ?_))
    refine Ok.kld c (.head _) rfl (Ok.kld c (.head _) rfl (Ok.own (r68_q hx.2 (by decide) (by decide)) fun X => ?_))
    refine Ok.kalo c fun C _ c => ?_
    have hF : FUEL = (FUEL - 3) + 3 := by unfold FUEL; omega
    rw [hF]
    have c : Cb H C ((B.n, cel [.int .i64 (flp x.1).1, .int .i64 (flp x.1).2]) :: (H.n, _) :: bxE n st .busy) := c
    refine it0 c fun D nD c => it1 c fun E nE c => ?_
    rw [r101q0_l0]
    refine Ok.neg (by decide) (Ok.kst1 c 4 rfl (by show _ < 1; decide) fun F nF _ c => Ok.ret ⟨rfl, ?_⟩)
    have c : Cb H F ((B.n, cel [.int .i64 (flp x.1).1, .int .i64 (flp x.1).2]) :: (H.n, _) :: bxE n (bup st x) .busy) := c
    exact (c.tl rfl (by show H.n ≤ B.n; omega)).tl rfl (Nat.le_refl _)
  · rintro r H' ⟨rfl, c⟩
    exact Ok.knext c 4 rfl fun A _ _ c => ⟨rfl, c⟩
/-- box's rounds -/
def bxI (B : Hp) (P : Nat → Prop) (q : List Cn) (H : Hp) : Prop := Gr B H ∧ (∀ p ∈ bxE B.n (bxs q) .ready, H.get p.1 = some p.2) ∧ ∀ b, P b → b < B.n ∨ B.n + 5 ≤ b
theorem bxE_nd (n : Nat) (st : Bst) (ls : LoopState) : (bxE n st ls).Pairwise fun p q => p.1 ≠ q.1 := by unfold bxE; simp
theorem bxE_key {n : Nat} {st : Bst} {ls : LoopState} {p : Nat × Blk} (h : p ∈ bxE n st ls) : n ≤ p.1 ∧ p.1 < n + 5 := by
  unfold bxE at h
  simp only [List.mem_cons, List.not_mem_nil, or_false] at h
  rcases h with rfl | rfl | rfl | rfl | rfl <;> dsimp only <;> omega
theorem bxY {k : Nat} {l : List Sd} (hs : ∀ s ∈ l, sideP s) (B : Hp) : Yd (app (k + 1)) (.yld (B.n + 4)) argC (· ∈ cs l) B (bxI B) (fun _ _ => False) where
  grow := fun {P P' q H H'} h g hP => ⟨h.1.trans g, fun p hp => by rw [g.2 _ (Hp.get_lt (h.2.1 p hp))]; exact h.2.1 p hp, fun b hb => by
    rcases hP b hb with h1 | h1
    · exact h.2.2 b h1
    · have : B.n + 4 < H.n := Hp.get_lt (h.2.1 (B.n + 4, .loop .ready none 0 59 [(2, .ptr B.n 0), (3, .ptr (B.n + 1) 0), (4, .ptr (B.n + 2) 0)]) (by unfold bxE; simp))
      omega⟩
  base := fun h => h.1
  step := fun {P q H x} h hx => by
    have hm := cs_mem hx
    have c : Cb H H (bxE B.n (bxs q) .ready) := .start h.2.1 (bxE_nd _ _ _)
    refine Ok.mono (rnd0 (k := k) c (by rw [hm.2.2.2.1]; exact meet_qb (hs _ hm.1) (hs _ hm.2.1) hm.2.2.1)) fun r H' ⟨hr, c'⟩ => ⟨c'.n, .inl ⟨hr, ⟨⟨Nat.le_trans h.1.1 c'.n, fun b hb => ?_⟩, ?_, h.2.2⟩, fun b hb hP => ?_⟩⟩
    · rw [c'.g b (Nat.lt_of_lt_of_le hb h.1.1) fun p hp => by have := bxE_key hp; omega]
      exact h.1.2 b hb
    · have : bxs (q ++ [x]) = bup (bxs q) x := by unfold bxs; rw [List.foldl_append]; rfl
      rw [this]
      exact c'.e
    · exact c'.g b hb fun p hp => by have := bxE_key hp; have := h.2.2 b hP; omega
/-- box -/
theorem r101_ok {k : Nat} {H : Hp} {v : Sl} {l : List Sd} (hv : SL H v l) (hb : l.length ≤ 1000) (hs : ∀ s ∈ l, sideP s) : Ok (r101 (appA (k + 2)) v H) fun r H' => Gr H H' ∧ r = ((bxs (cs l)).1.1, (bxs (cs l)).1.2, (bxs (cs l)).2.1.1, (bxs (cs l)).2.1.2, (bxs (cs l)).2.2) := by
  unfold r101
  refine Ok.lt ?_
  have c0 : Cb H H [] := .start (fun _ h => by cases h) .nil
  have c := (((c0.push (cel [.int .i64 0, .int .i64 0])).push (cel [.int .i64 0, .int .i64 0])).push (cel [.bool false])).push .dfr
  have c := c.push (.loop .ready none 0 59 [(2, .ptr H.n 0), (3, .ptr (H.n + 1) 0), (4, .ptr (H.n + 2) 0)])
  simp only [Hp.n_push] at c ⊢
  generalize ((((H.push (cel [.int .i64 0, .int .i64 0])).push (cel [.int .i64 0, .int .i64 0])).push (cel [.bool false])).push .dfr).push (.loop .ready none 0 59 [(2, .ptr H.n 0), (3, .ptr (H.n + 1) 0), (4, .ptr (H.n + 2) 0)]) = A at *
  have gA : Gr H A := ⟨c.n, fun b hb => c.g b hb fun p hp => by simp only [List.mem_cons, List.not_mem_nil, or_false] at hp; rcases hp with rfl | rfl | rfl | rfl | rfl <;> dsimp only <;> omega⟩
  have hI : bxI H (fun _ => False) [] A := ⟨gA, fun p hp => c.e p (by
    unfold bxE bxs at hp
    simp only [List.mem_cons, List.not_mem_nil, or_false, List.foldl_nil] at hp ⊢
    rcases hp with rfl | rfl | rfl | rfl | rfl <;> simp), fun _ h => h.elim⟩
  refine Ok.bind (P := fun _ H' => bxI H (fun _ => False) (cs l) H') ?_ fun r D hD => ?_
  · show Ok ((r66 (app (k + 1)) v (.yld (H.n + 4)) A).map fun p => (AV.tup [], p.2)) _
    have h1 : Ok (r66 (app (k + 1)) v (.yld (H.n + 4)) A) fun _ H' => bxI H (fun _ => False) (cs l) H' := by
      refine Ok.mono (r66_ok (a95 k) (bxY hs H) hv hb hs hI) fun _ H' h => ?_
      rcases h with h | ⟨_, _, h⟩
      · exact h
      · exact h.elim
    obtain ⟨r, H', e, h⟩ := h1
    rw [e]
    exact Ok.ret h
  · obtain ⟨g, hE, _⟩ := hD
    generalize bxs (cs l) = st at *
    have c : Cb D D (bxE H.n st .ready) := .start hE (bxE_nd _ _ _)
    refine Ok.kend c 4 rfl (.inl rfl) fun E nE _ c => Ok.pos rfl ?_
    refine Ok.kld c (.head _) rfl (Ok.kld c (.head _) rfl (Ok.kld c (.tail _ (.head _)) rfl (Ok.kld c (.tail _ (.head _)) rfl (Ok.kldB c (.tail _ (.tail _ (.head _))) rfl ?_))))
    refine Ok.kst c 0 rfl rfl fun F nF _ c => ?_
    have c1 := c
    refine Ok.kst c 1 rfl rfl fun G nG _ c => ?_
    have c2 := c
    refine Ok.kst1 c 2 rfl (by show _ < 1; decide) fun I nI _ c => ?_
    refine Ok.kck c1 (.tail _ (.head _)) rfl (Ok.kck c1 (.tail _ (.head _)) rfl (Ok.kckB c1 (.tail _ (.tail _ (.head _))) rfl (Ok.kck c2 (.tail _ (.head _)) rfl (Ok.kck c2 (.tail _ (.head _)) rfl (Ok.kckB c2 (.tail _ (.tail _ (.head _))) rfl ?_)))))
    refine Ok.kld c (.head _) rfl (Ok.kld c (.head _) rfl (Ok.kld c (.tail _ (.head _)) rfl (Ok.kld c (.tail _ (.head _)) rfl (Ok.kldB c (.tail _ (.tail _ (.head _))) rfl ?_))))
    refine Ok.kdfr c (.tail _ (.tail _ (.tail _ (.head _)))) (Ok.ret ⟨⟨?_, fun b hb => ?_⟩, rfl⟩)
    · have := (c.kill 3 rfl).n
      exact Nat.le_trans g.1 this
    · have c := c.kill 3 rfl
      have hb' : b < D.n := Nat.lt_of_lt_of_le hb g.1
      rw [c.g b hb' fun p hp => ?_]
      · exact g.2 b hb
      · simp only [bxE, List.set, List.mem_cons, List.not_mem_nil, or_false] at hp
        rcases hp with rfl | rfl | rfl | rfl | rfl <;> dsimp only <;> omega
end Go.Lt.P2

namespace Go.Lt.P2
open Go Go.Lt Go.Proofs
theorem AccL.lo {T : Type} [El T] {n0 n1 : Nat} {H : Hp} {v : Sl} {l : List T} (h : AccL n0 H v l) (hn : n1 ≤ n0) : AccL n1 H v l := by
  rcases h with h | ⟨a, b, c, d, e, f⟩
  · exact .inl h
  · exact .inr ⟨a, b, c, d, Nat.le_trans hn e, f⟩
/-- all floors of corners are near -/
theorem floor_bd {q : Rat} {N D : Int} (h : qb N D q) (hN : 0 ≤ N) : -N - 1 ≤ q.floor ∧ q.floor ≤ N := by
  obtain ⟨h1, h2, h3⟩ := h
  have hp := fq_pos q
  have := (floor_iff (f := q.floor) (n := (fq q).1) hp).1 (by rw [dv_fq])
  generalize q.floor = f at *
  generalize (fq q).1 = n at *
  generalize (fq q).2 = d at *
  constructor
  · refine Classical.byContradiction fun hc => ?_
    have : (f + 1) * d ≤ (-N - 1) * 1 := by
      have h4 : 0 ≤ (-N - 1 - (f + 1)) * d := Int.mul_nonneg (by omega) (by omega)
      have h5 : 0 ≤ (N + 1) * (d - 1) := Int.mul_nonneg (by omega) (by omega)
      grind
    omega
  · refine Classical.byContradiction fun hc => ?_
    have : (N + 1) * 1 ≤ f * d := by
      have h4 : 0 ≤ (f - (N + 1)) * d := Int.mul_nonneg (by omega) (by omega)
      have h5 : 0 ≤ (N + 1) * (d - 1) := Int.mul_nonneg (by omega) (by omega)
      grind
    omega
def bbd (st : Bst) : Prop := ((-1000 ≤ st.1.1 ∧ st.1.1 ≤ 1000) ∧ -1000 ≤ st.1.2 ∧ st.1.2 ≤ 1000) ∧ (-1000 ≤ st.2.1.1 ∧ st.2.1.1 ≤ 1000) ∧ -1000 ≤ st.2.1.2 ∧ st.2.1.2 ≤ 1000
theorem bup_bd {st : Bst} {c : Cn} (h : bbd st) (hc : qb 320 32 c.1.1 ∧ qb 320 32 c.1.2) : bbd (bup st c) := by
  have h1 := floor_bd hc.1 (by decide)
  have h2 := floor_bd hc.2 (by decide)
  unfold bbd bup up1 up0 nlo nhi flp at *
  dsimp only
  refine ⟨⟨?_, ?_⟩, ?_, ?_⟩ <;> split <;> omega
theorem bxs_bd {l : List Sd} (hs : ∀ s ∈ l, sideP s) : bbd (bxs (cs l)) := by
  have key : ∀ (q : List Cn) (st : Bst), bbd st → (∀ c ∈ q, c ∈ cs l) → bbd (q.foldl bup st) := by
    intro q
    induction q with
    | nil => intro st h _; exact h
    | cons c q ih =>
      intro st h hm
      have hc := cs_mem (hm c (.head _))
      exact ih _ (bup_bd h (by rw [hc.2.2.2.1]; exact meet_qb (hs _ hc.1) (hs _ hc.2.1) hc.2.2.1)) fun x hx => hm x (.tail _ hx)
  exact key (cs l) _ (by unfold bbd; dsimp only; omega) fun _ h => h
def pts (l : List Sd) : List Pr := if (bxs (cs l)).2.2 = true then grid l (bxs (cs l)).1 (bxs (cs l)).2.1 else []
theorem pts_len {l : List Sd} (hs : ∀ s ∈ l, sideP s) : (pts l).length ≤ 4100000 := by
  unfold pts
  split
  · have h := grid_len l (bxs (cs l)).1 (bxs (cs l)).2.1
    have b := bxs_bd hs
    unfold bbd at b
    have : ((bxs (cs l)).2.1.1 + 1 - (bxs (cs l)).1.1).toNat * ((bxs (cs l)).2.1.2 + 1 - (bxs (cs l)).1.2).toNat ≤ 2001 * 2001 := Nat.mul_le_mul (by omega) (by omega)
    omega
  · simp
theorem row_bd {l : List Sd} {lo hi x : Int} (h : -1000 ≤ lo) (h2 : hi ≤ 1000) : (row l lo hi x).length ≤ 2001 := by
  have := row_len l lo hi x
  omega
theorem keep_in {l : List Sd} {x y : Int} : inP l ((x : Rat), (y : Rat)) ↔ ∀ s ∈ l, kp (x, y) s := by
  unfold inP kp
  constructor <;> intro h s hs
  · exact lqs_int.1 (h s hs)
  · exact lqs_int.2 (h s hs)
section
variable {a : App}
theorem r71_l1_ok (ha : A95 a) {A H : Hp} {v w : Sl} {l : List Sd} (hv : SL A v l) (hb : l.length ≤ 1000) (hs : ∀ s ∈ l, sideP s) {n1 n2 : Nat} {hi : Pr} {lo2 x : Int} (h2 : A.get n2 = some (.cells [.int .i64 hi.1, .int .i64 hi.2] false)) (g : Gr A H) {q : List Pr} (hacc : AccL A.n H w q) (hq : q.length ≤ 4100000)
    (hx : -1000 ≤ x ∧ x ≤ 1000) (hlo : -1000 ≤ lo2 ∧ lo2 ≤ 1000) (hhi : -1000 ≤ hi.2 ∧ hi.2 ≤ 1000) {kt : Sl → Nat → Nat → Sl → Int → Hp → Option (Sl × Hp)} {Q : Sl → Hp → Prop} (kN : ∀ w' H', Gr A H' → AccL A.n H' w' (q ++ row l lo2 hi.2 x) → Ok (kt v n1 n2 w' (x + 1) H') Q) :
    Ok (r71_l1 a kt FUEL v n1 n2 w x lo2 H) Q := by
  refine Ok.loop (L := fun K (s : Sl × Int) H2 => r71_l1 a kt K v n1 n2 s.1 x s.2 H2) (fun m s H' => Gr A H' ∧ (lo2 ≤ s.2 ∧ (s.2 ≤ hi.2 + 1 ∨ s.2 = lo2)) ∧ m = (hi.2 + 1 - s.2).toNat ∧ AccL A.n H' s.1 (q ++ row l lo2 (s.2 - 1) x)) ?_ FUEL (hi.2 + 1 - lo2).toNat (w, lo2) H (by unfold FUEL; omega) ⟨g, ⟨by simp, .inr rfl⟩, rfl, by
    have : row l lo2 (lo2 - 1) x = [] := by unfold row; rw [ints_nil (by omega)]; rfl
    rw [this, List.append_nil]; exact hacc⟩
  rintro K m ⟨w, y⟩ H1 ⟨g1, hy, hm, hacc⟩ ih
  try dsimp only at *
  rw [r71_l1]
  have h2' : H1.get n2 = some (.cells [.int .i64 hi.1, .int .i64 hi.2] false) := by rw [g1.2 _ (Hp.get_lt h2)]; exact h2
  refine Ok.ld (ldI_get h2' rfl) ?_
  by_cases h : y ≤ hi.2
  · refine Ok.pos h (Ok.own (r80_q (by omega) (by omega)) fun X => Ok.bind (r65_ok ha (p := ((x : Rat), (y : Rat))) (hv.gr g1) hb hs (qp_int (by omega) (by omega))) fun r D ⟨gD, hr⟩ => ?_)
    subst hr
    rw [w64_id (n := y + 1) (by omega) (by omega)]
    have er := row_snoc (l := l) (x := x) (show lo2 ≤ y by omega)
    have hlen := row_bd (l := l) (x := x) (lo := lo2) (hi := y - 1) (by omega) (by omega)
    by_cases hk : ∀ s ∈ l, kp (x, y) s
    · rw [decide_eq_true (keep_in.2 hk)]
      rw [if_pos hk] at er
      refine Ok.pos rfl (Ok.bind ((hacc.gr gD).push (g1.trans gD) (x, y) rfl rfl (by rw [List.length_append]; omega)) fun w' E ⟨ha', gE, _⟩ => ?_)
      refine ih (m - 1) (w', y + 1) E (by omega) ⟨gE, by omega, by omega, ?_⟩
      dsimp only
      rw [show y + 1 - 1 = y by omega, er, ← List.append_assoc]
      exact ha'
    · rw [decide_eq_false (fun q => hk (keep_in.1 q))]
      rw [if_neg hk, List.append_nil] at er
      refine Ok.neg (by simp) (ih (m - 1) (w, y + 1) D (by omega) ⟨g1.trans gD, by omega, by omega, ?_⟩)
      dsimp only
      rw [show y + 1 - 1 = y by omega, er]
      exact hacc.gr gD
  · refine Ok.neg h ?_
    rw [w64_id (n := x + 1) (by omega) (by omega)]
    refine kN w H1 g1 ?_
    have : row l lo2 (y - 1) x = row l lo2 hi.2 x := by
      by_cases h3 : y ≤ hi.2 + 1
      · rw [show y - 1 = hi.2 by omega]
      · unfold row; rw [ints_nil (by omega), ints_nil (by omega)]
    rw [← this]; exact hacc
/-- points -/
theorem r71_ok {k : Nat} {H : Hp} {v : Sl} {l : List Sd} (hv : SL H v l) (hb : l.length ≤ 1000) (hs : ∀ s ∈ l, sideP s) : Ok (r71 (appA (k + 2)) v H) fun w H' => Gr H H' ∧ AccL H.n H' w (pts l) := by
  unfold r71
  refine Ok.bind (r101_ok hv hb hs) fun r A ⟨gA, hr⟩ => ?_
  subst hr
  have bd := bxs_bd hs
  unfold pts
  generalize bxs (cs l) = st at *
  obtain ⟨lo, hi, ok⟩ := st
  unfold bbd at bd
  dsimp only at bd ⊢
  have c0 : Cx A A [] := .nil A
  have c := (c0.push [.int .i64 0, .int .i64 0]).push [.int .i64 0, .int .i64 0]
  refine Ok.cst c 1 rfl rfl fun B _ _ c => Ok.cst c 0 rfl rfl fun C _ _ c => ?_
  have gC := gA.trans c.g
  by_cases hok : ok = true
  · simp only [if_pos hok]
    refine Ok.cld c (.tail _ (.head _)) rfl ?_
    have h1 := c.e _ (.tail _ (.head _))
    have h2 := c.e _ (.head _)
    have hvC := hv.gr gC
    refine Ok.mono (P := fun w H' => Gr C H' ∧ AccL C.n H' w (grid l lo hi)) ?_ fun w H' h => ⟨gC.trans h.1, AccL.lo h.2 gC.1⟩
    refine Ok.loop (L := fun K (s : Sl × Int) H2 => r71_l0 (appA (k + 2)) K v A.n _ s.1 s.2 H2) (fun m s H' => Gr C H' ∧ (lo.1 ≤ s.2 ∧ (s.2 ≤ hi.1 + 1 ∨ s.2 = lo.1)) ∧ m = (hi.1 + 1 - s.2).toNat ∧ AccL C.n H' s.1 ((ints lo.1 (s.2 - 1)).flatMap (row l lo.2 hi.2))) ?_ FUEL (hi.1 + 1 - lo.1).toNat (⟨true, 0, 0, 0, 0, 0⟩, lo.1) C (by unfold FUEL; omega) ⟨.refl _, ⟨by simp, .inr rfl⟩, rfl, by dsimp only; rw [ints_nil (by omega)]; exact AccL.nilS⟩
    rintro K m ⟨w, x⟩ H1 ⟨g1, hx, hm, hacc⟩ ih
    try dsimp only at *
    rw [r71_l0]
    have h1' := h1
    have h2' := h2
    rw [← g1.2 _ (Hp.get_lt h1)] at h1'
    rw [← g1.2 _ (Hp.get_lt h2)] at h2'
    refine Ok.ld (ldI_get h2' rfl) ?_
    by_cases h : x ≤ hi.1
    · refine Ok.pos h (Ok.ld (ldI_get h1' rfl) ?_)
      have hlen : ((ints lo.1 (x - 1)).flatMap (row l lo.2 hi.2)).length ≤ 4100000 := by
        have := grid_len l lo (x - 1, hi.2)
        have h3 : ((x - 1 : Int) + 1 - lo.1).toNat * (hi.2 + 1 - lo.2).toNat ≤ 2001 * 2001 := Nat.mul_le_mul (by omega) (by omega)
        unfold grid at this
        dsimp only at this
        omega
      refine r71_l1_ok (a95A _) hvC hb hs h2 g1 hacc hlen (by omega) bd.1.2 bd.2.2 fun w' H' g' hacc' => ?_
      refine ih (m - 1) (w', x + 1) H' (by omega) ⟨g', by omega, by omega, ?_⟩
      dsimp only
      rw [show x + 1 - 1 = x by omega, ints_snoc (show lo.1 ≤ x by omega), List.flatMap_append, List.flatMap_singleton]
      exact hacc'
    · refine Ok.neg h (Ok.ret ⟨g1, ?_⟩)
      unfold grid
      by_cases h3 : x ≤ hi.1 + 1
      · rw [show hi.1 = x - 1 by omega]; exact hacc
      · rw [ints_nil (by omega)] at hacc ⊢; exact hacc
  · simp only [if_neg hok]
    exact Ok.ret ⟨gC, AccL.nilS⟩
/-- Points -/
theorem r40_ok {k : Nat} {H : Hp} {v : Sl} {l : List Sd} (hv : SL H v l) (hb : l.length ≤ 1000) : Ok (r40 (appA (k + 2)) v H) fun r H' => Gr H H' ∧ if plateP l then AccL H.n H' r.1 (pts l) ∧ r.2 = 0 else r = (⟨true, 0, 0, 0, 0, 0⟩, 2) := by
  unfold r40
  refine Ok.bind (r63_ok (k := k + 1) hv hb) fun b A ⟨gA, hbb⟩ => ?_
  subst hbb
  by_cases hp : plateP l
  · rw [decide_eq_true hp]
    simp only [if_pos hp]
    exact Ok.pos (by simp) (Ok.bind (r71_ok (hv.gr gA) hb hp.2.1) fun w B ⟨gB, hw⟩ => Ok.ret ⟨gA.trans gB, AccL.lo hw gA.1, rfl⟩)
  · rw [decide_eq_false hp]
    simp only [if_neg hp]
    exact Ok.neg (by simp) (Ok.ret ⟨gA, rfl⟩)
end
end Go.Lt.P2

namespace Go.Lt.P2
open Go Go.Lt Go.Proofs
/-! ### chains -/
def lft (a b c : Pr) : Int := (b.1 - a.1) * (c.2 - b.2) - (b.2 - a.2) * (c.1 - b.1)
theorem lft_eq (a b c : Pr) : (b.1 - a.1) * (c.2 - a.2) - (b.2 - a.2) * (c.1 - a.1) = lft a b c := by unfold lft; grind
def near3 (p : Pr) : Prop := (-1000 ≤ p.1 ∧ p.1 ≤ 1000) ∧ -1000 ≤ p.2 ∧ p.2 ≤ 1000
/-- what is left of a stack, the last one first -/
def pp (x : Pr) : List Pr → List Pr
  | b :: a :: r => if lft a b x ≤ 0 then pp x (a :: r) else b :: a :: r
  | s => s
def stk (l : List Pr) : List Pr := l.foldl (fun st x => x :: pp x st) []
def chn (l : List Pr) : List Pr := (stk l).reverse
theorem stk_snoc (l : List Pr) (x : Pr) : stk (l ++ [x]) = x :: pp x (stk l) := by unfold stk; rw [List.foldl_append]; rfl
theorem pp_sub (x : Pr) : ∀ (s : List Pr), ∀ p ∈ pp x s, p ∈ s
  | [], _, h => h
  | [_], _, h => h
  | b :: a :: r, p, h => by
    rw [pp] at h
    split at h
    · exact .tail _ (pp_sub x (a :: r) p h)
    · exact h
theorem pp_len (x : Pr) : ∀ (s : List Pr), (pp x s).length ≤ s.length
  | [] => Nat.le_refl _
  | [_] => Nat.le_refl _
  | b :: a :: r => by
    rw [pp]
    split
    · have := pp_len x (a :: r); simp only [List.length_cons] at *; omega
    · exact Nat.le_refl _
theorem pp_last (x d : Pr) : ∀ (s : List Pr), (pp x s).getLastD d = s.getLastD d
  | [] => rfl
  | [_] => rfl
  | b :: a :: r => by
    rw [pp]
    split
    · rw [pp_last x d (a :: r)]; simp
    · rfl
theorem pp_ne (x : Pr) : ∀ {s : List Pr}, s ≠ [] → pp x s ≠ []
  | [], h => absurd rfl h
  | [_], h => h
  | b :: a :: r, _ => by
    rw [pp]
    split
    · exact pp_ne x (by simp)
    · simp
theorem stk_sub : ∀ (l : List Pr), ∀ p ∈ stk l, p ∈ l := by
  have key : ∀ n (l : List Pr), l.length = n → ∀ p ∈ stk l, p ∈ l := by
    intro n
    induction n with
    | zero => intro l hl p hp; rw [List.length_eq_zero_iff.1 hl] at hp; exact absurd hp (by simp [stk])
    | succ n ih =>
      intro l hl p hp
      have hne : l ≠ [] := by rintro rfl; simp at hl
      rw [← List.dropLast_concat_getLast hne, stk_snoc] at hp
      rcases List.mem_cons.1 hp with rfl | hp
      · exact List.getLast_mem hne
      · exact List.dropLast_subset l (ih _ (by simp [hl]) p (pp_sub _ _ p hp))
  exact fun l => key _ l rfl
theorem stk_len : ∀ (l : List Pr), (stk l).length ≤ l.length := by
  have key : ∀ n (l : List Pr), l.length = n → (stk l).length ≤ l.length := by
    intro n
    induction n with
    | zero => intro l hl; rw [List.length_eq_zero_iff.1 hl]; simp [stk]
    | succ n ih =>
      intro l hl
      have hne : l ≠ [] := by rintro rfl; simp at hl
      have h1 := ih l.dropLast (by simp [hl])
      rw [← List.dropLast_concat_getLast hne, stk_snoc]
      have h2 := pp_len (l.getLast hne) (stk l.dropLast)
      simp only [List.length_cons, List.length_append, List.length_singleton]
      omega
  exact fun l => key _ l rfl
def hul (l : List Pr) : List Pr := (chn l).dropLast ++ (chn l.reverse).dropLast
theorem But.grB {T : Type} [El T] {H0 H H' : Hp} {v : Sl} {l : List T} (h : But v H H') (b : Buf H0.n H v l) (g : Gr H0 H) : Gr H0 H' :=
  ⟨Nat.le_trans g.1 h.1, fun x hx => by rw [h.2 x (Nat.lt_of_lt_of_le hx g.1) fun hn => by have := (b.lt hn).2; omega]; exact g.2 x hx⟩
/-- the two last ones of a stack -/
theorem rd2 {H : Hp} {v : Sl} {pre r : List Pr} {a b : Pr} {n : Nat} (h : SL H v (pre ++ (b :: a :: r).reverse)) (hn : n = v.len) :
    (H.ldI .i64 v.b (v.o + (n - 2) * 2) = some a.1 ∧ H.ldI .i64 v.b (v.o + (n - 2) * 2 + 1) = some a.2) ∧ H.ldI .i64 v.b (v.o + (n - 1) * 2) = some b.1 ∧ H.ldI .i64 v.b (v.o + (n - 1) * 2 + 1) = some b.2 := by
  have hl := h.len
  have e : pre ++ (b :: a :: r).reverse = (pre ++ r.reverse) ++ [a, b] := by simp
  rw [e] at h hl
  have hlen : ((pre ++ r.reverse) ++ [a, b]).length = (pre ++ r.reverse).length + 2 := by rw [List.length_append]; rfl
  have i1 : n - 2 < ((pre ++ r.reverse) ++ [a, b]).length := by omega
  have i2 : n - 1 < ((pre ++ r.reverse) ++ [a, b]).length := by omega
  have e1 : ((pre ++ r.reverse) ++ [a, b])[n - 2] = a := by
    have hd : n - 2 - (pre ++ r.reverse).length = 0 := by omega
    rw [List.getElem_append_right (by omega)]; simp only [hd]; rfl
  have e2 : ((pre ++ r.reverse) ++ [a, b])[n - 1] = b := by
    have hd : n - 1 - (pre ++ r.reverse).length = 1 := by omega
    rw [List.getElem_append_right (by omega)]; simp only [hd]; rfl
  exact ⟨⟨h.ldI (i := n - 2) (j := 0) i1 (by rw [e1]; rfl), h.ldI (i := n - 2) (j := 1) i1 (by rw [e1]; rfl)⟩, h.ldI (i := n - 1) (j := 0) i2 (by rw [e2]; rfl), h.ldI (i := n - 1) (j := 1) i2 (by rw [e2]; rfl)⟩
/-- append behind a slice without room -/
theorem SL.app0 {T : Type} [El T] {H : Hp} {v : Sl} {l x : List T} (h : SL H v l) (hc : v.cap = v.len) (ho : v.opn = 0) {es k : Nat} {cs : List AV} (hes : es = El.sz T) (hcs : cs = encs x) (hk : k = x.length) (hb : l.length + x.length ≤ 4294967296) : Ok (H.app es v cs k) fun w H' => Gr H H' ∧ SL H' w (l ++ x) := by
  subst hes; subst hcs; subst hk
  have hlen := h.len
  unfold Hp.app
  rw [if_pos (by omega)]
  by_cases h0 : x = []
  · subst h0
    rw [if_pos (by simp; omega), List.append_nil]
    refine Ok.ite (fun hn => Ok.ret ⟨.refl _, h⟩) fun hn => ?_
    simp only [encs, List.flatMap_nil, Hp.sts, Option.map_some]
    have : (⟨false, v.b, v.o, v.len + ([] : List T).length, v.cap, v.opn⟩ : Sl) = v := by
      cases v; simp at hn ⊢; exact hn
    rw [this]
    exact Ok.ret ⟨.refl _, h⟩
  · have hp := List.length_pos_iff.2 h0
    rw [if_neg (by omega), h.lds]
    simp only [Option.bind_some]
    rw [if_pos ho]
    refine Ok.ret ⟨.push _ _, .of_get (ro := false) ?_ rfl (by rw [List.length_append]; dsimp only; omega) (Nat.le_refl _) (.inr rfl) rfl⟩
    rw [encs_append]
    exact Hp.get_push_new _ _
end Go.Lt.P2

namespace Go.Lt.P2
open Go Go.Lt Go.Proofs
theorem pts_near {l : List Sd} (hs : ∀ s ∈ l, sideP s) : ∀ p ∈ pts l, near3 p := fun p hp => by
  unfold pts at hp
  have b := bxs_bd hs
  unfold bbd at b
  split at hp
  · have := (mem_grid.1 hp).1
    unfold near3
    omega
  · cases hp
end Go.Lt.P2

namespace Go.Lt.P2
open Go Go.Lt Go.Proofs
theorem wrapU {n : Int} : 0 ≤ IntKind.wrap .u64 n := by
  unfold IntKind.wrap
  simp [IntKind.signed, IntKind.bits]
  omega
theorem wrapU_id {n : Int} (h0 : 0 ≤ n) (h : n < 9223372036854775808) : IntKind.wrap .u64 n = n := by
  unfold IntKind.wrap
  simp [IntKind.signed, IntKind.bits]
  omega
/-- the place in a slice -/
theorem at_mod {k : Int} {n : Nat} (hn : 0 < n) (hb : n < 9223372036854775808) : ∃ j : Nat, j < n ∧ w64 (Int.tmod (IntKind.wrap .u64 k) (IntKind.wrap .u64 (n : Int))) = j := by
  rw [wrapU_id (n := (n : Int)) (by omega) (by omega)]
  have h1 := Int.tmod_nonneg (n : Int) (wrapU (n := k))
  have h2 := Int.tmod_lt_of_pos (IntKind.wrap .u64 k) (show (0 : Int) < n by omega)
  exact ⟨(Int.tmod (IntKind.wrap .u64 k) n).toNat, by omega, by rw [w64_id (by omega) (by omega)]; omega⟩
/-- whole of the law -/
theorem r41_ok {x y : Int} : Ok (r41 x y H0) fun r _ => r = (x, 1, y, 1) := by
  unfold r41
  refine Ok.box2 (.nil H0) fun A _ c => Ok.cld c (.tail _ (.head _)) rfl (Ok.cld c (.tail _ (.head _)) rfl (Ok.cst c 0 rfl rfl fun B _ _ c => ?_))
  exact Ok.cld c (.head _) rfl (Ok.cld c (.head _) rfl (Ok.cld c (.head _) rfl (Ok.cld c (.head _) rfl (Ok.ret rfl))))
end Go.Lt.P2

namespace Go.Lt.P2
open Go Go.Lt Go.Proofs
def apR (l : List Sd) (x : Pr) : Int × Int × Int × Int := if plateP l ∧ ((-100 ≤ x.1 ∧ x.1 ≤ 100) ∧ -100 ≤ x.2 ∧ x.2 ≤ 100) then apt x l else (0, 0, 0, 2)
/-- Apart -/
theorem r32_ok {k : Nat} {H : Hp} {v : Sl} {l : List Sd} {x : Pr} (hv : SL H v l) (hb : l.length ≤ 1000) : Ok (r32 (appA (k + 1)) v x.1 x.2 H) fun r H' => Gr H H' ∧ r = apR l x := by
  unfold r32
  refine Ok.box2 (.nil H) fun A gA c => ?_
  have bad : ∀ {B : Hp}, ¬ (plateP l ∧ ((-100 ≤ x.1 ∧ x.1 ≤ 100) ∧ -100 ≤ x.2 ∧ x.2 ≤ 100)) → Cx H B [((H.push (.cells [.int .i64 x.1, .int .i64 x.2] false)).n, [.int .i64 0, .int .i64 0, .int .i64 0]), (H.n, [.int .i64 x.1, .int .i64 x.2])] → Ok (r32_j1 (appA (k + 1)) v H.n ((H.push (.cells [.int .i64 x.1, .int .i64 x.2] false)).n) true B) fun r H' => Gr H H' ∧ r = apR l x := fun {B} hn c => by
    unfold r32_j1
    refine Ok.pos rfl (Ok.cst c 0 rfl rfl fun D _ _ c => ?_)
    refine Ok.cld c (.head _) rfl (Ok.cld c (.head _) rfl (Ok.cld c (.head _) rfl (Ok.ret ⟨c.g, ?_⟩)))
    unfold apR
    rw [if_neg hn]
  have hvA := hv.gr gA
  refine Ok.bind (r63_ok hvA hb) fun b B ⟨gB, hbb⟩ => ?_
  subst hbb
  have cB := c.gr gB
  by_cases hp : plateP l
  · rw [decide_eq_true hp]
    refine Ok.pos rfl ?_
    have hs : SL (T := Int) B ⟨false, H.n, 0 + (0 : Int).toNat * 1, (((2 : Nat) : Int) : Int).toNat - (0 : Int).toNat, 2 - (0 : Int).toNat, 0⟩ [x.1, x.2] := .of_get (ro := false) (cB.e _ (.tail _ (.head _))) rfl rfl (Nat.le_refl _) (.inl rfl) rfl
    refine Ok.bind (r79_ok (k := k) (c := 100) (by omega) hs (by simp)) fun r C ⟨gC, hr⟩ => ?_
    subst hr
    have cC := cB.gr gC
    rw [Bool.not_not]
    by_cases h1 : ∃ y ∈ [x.1, x.2], y < -100 ∨ 100 < y
    · rw [decide_eq_true h1]
      refine bad (fun hn => ?_) cC
      obtain ⟨y, hy, h2⟩ := h1
      simp only [List.mem_cons, List.not_mem_nil, or_false] at hy
      rcases hy with rfl | rfl <;> omega
    · rw [decide_eq_false h1]
      have q1 : ¬ (x.1 < -100 ∨ 100 < x.1) := fun q => h1 ⟨x.1, by simp, q⟩
      have q2 : ¬ (x.2 < -100 ∨ 100 < x.2) := fun q => h1 ⟨x.2, by simp, q⟩
      have e : apR l x = apt x l := by unfold apR; rw [if_pos ⟨hp, by omega, by omega, by omega⟩]
      rw [e]
      unfold r32_j1
      refine Ok.neg (by simp) ?_
      have hlen := hv.len
      rw [hlen]
      refine Ok.loop (L := fun K (s : Int) H2 => r32_l0 (appA (k + 1)) K H.n _ v l.length s H2) (fun m s H' => Cx H H' [((H.push (.cells [.int .i64 x.1, .int .i64 x.2] false)).n, [.int .i64 0, .int .i64 0, .int .i64 0]), (H.n, [.int .i64 x.1, .int .i64 x.2])] ∧ ∃ i : Nat, s = i ∧ i + m = l.length ∧ apt x l = apt x (l.drop i)) ?_ FUEL l.length 0 C (by unfold FUEL; omega) ⟨cC, 0, rfl, by omega, rfl⟩
      rintro K m s H1 ⟨c, i, rfl, hm, ht⟩ ih
      try dsimp only at *
      rw [r32_l0]
      by_cases h : i < l.length
      · have hg := hv.gr c.g
        have hx := hp.2.1 _ (List.getElem_mem h)
        have hx' := hx
        unfold sideP at hx'
        rw [List.drop_eq_getElem_cons h, apt] at ht
        refine Ok.pos (by omega) (Ok.ck (by omega) (Ok.ld (hg.ldI (i := i) (j := 0) h rfl) (Ok.ld (hg.ldI (i := i) (j := 1) h rfl) (Ok.ld (hg.ldI (i := i) (j := 2) h rfl) (Ok.alo c fun D gD c => ?_)))))
        refine Ok.cld c (.head _) rfl (Ok.cld c (.head _) rfl (Ok.cld c (.head _) rfl (Ok.cld c (.tail _ (.tail _ (.head _))) rfl (Ok.cld c (.tail _ (.tail _ (.head _))) rfl ?_))))
        refine Ok.own (r80_q (by omega) (by omega)) fun X => Ok.own (r70_q (by omega) (by omega) (by omega) (qp_int (by omega) (by omega))) fun X => ?_
        have e2 : lqs (l[i].1, l[i].2.1, l[i].2.2) ((x.1 : Rat), (x.2 : Rat)) ↔ kp x l[i] := lqs_int
        refine Ok.ite (fun hc => ?_) fun hc => ?_
        · have hk := e2.1 (of_decide_eq_true hc)
          rw [if_pos hk] at ht
          rw [w64_succ (by omega)]
          exact ih (m - 1) _ D (by omega) ⟨c.weak (.cons _ (.refl _)), i + 1, rfl, by omega, ht⟩
        · have hk : ¬ kp x l[i] := fun q => hc (decide_eq_true (e2.2 q))
          rw [if_neg hk] at ht
          refine Ok.cld c (.head _) rfl (Ok.cld c (.head _) rfl (Ok.cld c (.head _) rfl (Ok.cst c 1 rfl rfl fun F _ _ c => ?_)))
          refine Ok.cld c (.tail _ (.head _)) rfl (Ok.cld c (.tail _ (.head _)) rfl (Ok.cld c (.tail _ (.head _)) rfl (Ok.ret ⟨c.g, ht.symm⟩)))
      · rw [List.drop_of_length_le (by omega)] at ht
        refine Ok.neg (by omega) (Ok.cst c 0 rfl rfl fun D _ _ c => ?_)
        exact Ok.cld c (.head _) rfl (Ok.cld c (.head _) rfl (Ok.cld c (.head _) rfl (Ok.ret ⟨c.g, ht.symm⟩)))
  · rw [decide_eq_false hp]
    exact Ok.neg (by simp) (bad (fun q => hp q.1) cB)
end Go.Lt.P2

namespace Go.Lt.P2
open Go Go.Lt Go.Proofs
/-- fracs -/
theorem r28_ok {H : Hp} {v : Sl} {l : List Pr} (hv : SL H v l) (hb : l.length < 9223372036854775808) : Ok (r28 v H) fun w H' => Gr H H' ∧ SL H' w (l.take 9) := by
  unfold r28
  have h1 := hv.len
  have hc := hv.cap
  have ho := hv.opn
  have e : (if 9 < (v.len : Int) then (9 : Int) else (v.len : Int)) = ((min 9 l.length : Nat) : Int) := by
    by_cases h : 9 < (v.len : Int)
    · rw [if_pos h]; omega
    · rw [if_neg h]; omega
  rw [e]
  refine Ok.ck ⟨by omega, ho⟩ ?_
  rw [Int.toNat_natCast]
  have hs := hv.cut (lo := 0) (hi := min 9 l.length) (by omega) (by omega)
  have hl : (l.drop 0).take (min 9 l.length - 0) = l.take 9 := by
    rw [List.drop_zero, Nat.sub_zero]
    by_cases h : 9 ≤ l.length
    · rw [Nat.min_eq_left h]
    · rw [Nat.min_eq_right (by omega), List.take_of_length_le (by omega), List.take_of_length_le (by omega)]
  rw [hl] at hs
  show Ok ((cloneR 2 _ H).bind fun p2 => some (p2.1, p2.2)) _
  exact Ok.bind (clone_ok hs (by simp; omega) rfl) fun w H2 ⟨g2, a, b, hw⟩ => Ok.ret ⟨g2, a⟩
end Go.Lt.P2

namespace Go.Lt.P2
open Go Go.Lt Go.Proofs
/-- Of -/
theorem r18_ok {H : Hp} {v : Sl} {l : List Sd} (hv : SL H v l) (hb : l.length < 9223372036854775808) : Ok (r18 v H) fun w H' => Gr H H' ∧ SL H' w (l.take 9) := by
  unfold r18
  have hlen := hv.len
  rw [hlen]
  refine Ok.loop (L := fun K (s : Sl × Int) H2 => r18_l0 K s.1 v l.length s.2 H2) (fun m s H' => Gr H H' ∧ ∃ i : Nat, s.2 = i ∧ i + m = l.length ∧ AccL H.n H' s.1 ((l.take i).take 9)) ?_ FUEL l.length (⟨true, 0, 0, 0, 0, 0⟩, 0) H (by unfold FUEL; omega) ⟨.refl _, 0, rfl, by omega, by simpa using AccL.nilS⟩
  rintro K m ⟨w, s⟩ H1 ⟨g1, i, rfl, hm, ha⟩ ih
  try dsimp only at *
  rw [r18_l0]
  by_cases h : i < l.length
  · have hg := hv.gr g1
    obtain ⟨E, hE, hE', gE, nE⟩ := sts3 H1 (.int .i64 l[i].1) (.int .i64 l[i].2.1) (.int .i64 l[i].2.2) (.int .i64 0) (.int .i64 0) (.int .i64 0)
    have gB := g1.trans gE
    refine Ok.pos (by omega) (Ok.ck (by omega) (Ok.ld (hg.ldI (i := i) (j := 0) h rfl) (Ok.ld (hg.ldI (i := i) (j := 1) h rfl) (Ok.ld (hg.ldI (i := i) (j := 2) h rfl) (Ok.ld hE ?_)))))
    refine Ok.ite (fun c => Ok.ld (ldI_get hE' rfl) (Ok.ld (ldI_get hE' rfl) (Ok.ld (ldI_get hE' rfl) ?_))) fun c => ?_
    · have ha' := ha.gr gE
      rw [List.take_of_length_le (by rw [List.length_take]; omega)] at ha'
      refine Ok.bind (ha'.push gB l[i] rfl rfl (by rw [List.length_take]; omega)) fun w2 H3 ⟨ha3, g3, _⟩ => ?_
      rw [w64_succ (by omega)]
      refine ih (m - 1) (w2, _) H3 (by omega) ⟨g3, i + 1, rfl, by omega, ?_⟩
      rw [List.take_succ_eq_append_getElem h, List.take_of_length_le (by simp; omega)]
      exact ha3
    · rw [w64_succ (by omega)]
      refine ih (m - 1) (w, _) E (by omega) ⟨gB, i + 1, rfl, by omega, ?_⟩
      rw [List.take_take, Nat.min_eq_left (by omega)] at ha ⊢
      exact ha.gr gE
  · have hi : i = l.length := by omega
    subst hi
    rw [List.take_length] at ha
    exact Ok.neg (by omega) (Ok.ret ⟨g1, ha.sl⟩)
end Go.Lt.P2

namespace Go.Lt.P2
open Go Go.Lt Go.Proofs
def onP (l : List Sd) (s : Sd) (g : Int) : Prop := ∀ t ∈ l, g * (t.2.1 * s.1 - t.1 * s.2.1) ≤ 0
instance (l : List Sd) (s : Sd) (g : Int) : Decidable (onP l s g) := by unfold onP; infer_instance
theorem onP_one {l : List Sd} {s : Sd} : ¬ onP l s 1 ↔ dirP l (-s.2.1, s.1) := by
  unfold onP dirP
  simp only [Classical.not_forall]
  constructor
  · rintro ⟨t, ht, h⟩
    refine ⟨t, ht, ?_⟩
    try dsimp only
    rw [Int.mul_neg]
    omega
  · rintro ⟨t, ht, h⟩
    refine ⟨t, ht, ?_⟩
    try dsimp only at h
    rw [Int.mul_neg] at h
    omega
theorem onP_neg {l : List Sd} {s : Sd} : ¬ onP l s (-1) ↔ dirP l (s.2.1, -s.1) := by
  unfold onP dirP
  simp only [Classical.not_forall]
  constructor
  · rintro ⟨t, ht, h⟩
    refine ⟨t, ht, ?_⟩
    try dsimp only
    rw [Int.mul_neg]
    omega
  · rintro ⟨t, ht, h⟩
    refine ⟨t, ht, ?_⟩
    try dsimp only at h
    rw [Int.mul_neg] at h
    omega
section
variable {Q : Bool → Hp → Prop}
theorem r19_l5_ok {H : Hp} {v vv : Sl} {l : List Sd} {sb : Nat} {s : Sd} {g ln iv : Int} (hv : SL H v l) (hb : l.length ≤ 6) (hs : ∀ s ∈ l, sideP s) (hss : sideP s) (hg : g = 1 ∨ g = -1) (hsb : H.get sb = some (.cells [.int .i64 s.1, .int .i64 s.2.1, .int .i64 s.2.2] false))
    {kt4 : Sl → Nat → Int → Sl → Int → Int → Hp → Option (Bool × Hp)} (kf : ∀ H', Gr H H' → onP l s g → Q false H') (k : ∀ H', Gr H H' → ¬ onP l s g → Ok (kt4 v sb (w64 (g + 2)) vv ln iv H') Q) : Ok (r19_l5 kt4 FUEL v sb g true vv ln iv v l.length 0 H) Q := by
  have hlen := hv.len
  refine Ok.loop (L := fun K (t : Bool × Int) H2 => r19_l5 kt4 K v sb g t.1 vv ln iv v l.length t.2 H2) (fun m t H' => ∃ i : Nat, t.2 = i ∧ i + m = l.length ∧ Gr H H' ∧ t.1 = decide (onP (l.take i) s g)) ?_ FUEL l.length (true, 0) H (by unfold FUEL; omega) ⟨0, rfl, by omega, .refl _, by simp [onP]⟩
  rintro K m ⟨b, t⟩ H1 ⟨i, rfl, hm, g1, hbb⟩ ih
  try dsimp only at *
  subst hbb
  rw [r19_l5]
  by_cases h : i < l.length
  · have hgl := hv.gr g1
    have hx := hs _ (List.getElem_mem h)
    obtain ⟨E, hE, hE', gE, nE⟩ := sts3 H1 (.int .i64 l[i].1) (.int .i64 l[i].2.1) (.int .i64 l[i].2.2) (.int .i64 0) (.int .i64 0) (.int .i64 0)
    have gB := g1.trans gE
    have hsE : E.get sb = some (.cells [.int .i64 s.1, .int .i64 s.2.1, .int .i64 s.2.2] false) := by rw [gB.2 _ (Hp.get_lt hsb)]; exact hsb
    have ek : onP (l.take (i + 1)) s g ↔ onP (l.take i) s g ∧ g * (l[i].2.1 * s.1 - l[i].1 * s.2.1) ≤ 0 := by
      unfold onP
      constructor
      · intro q
        rw [List.take_succ_eq_append_getElem h] at q
        exact ⟨fun t ht => q t (List.mem_append_left _ ht), q _ (List.mem_append_right _ (List.mem_singleton.2 rfl))⟩
      · rintro ⟨q1, q2⟩
        exact forall_take h q1 q2
    refine Ok.pos (by omega) (Ok.ck (by omega) (Ok.ld (hgl.ldI (i := i) (j := 0) h rfl) (Ok.ld (hgl.ldI (i := i) (j := 1) h rfl) (Ok.ld (hgl.ldI (i := i) (j := 2) h rfl) (Ok.ld hE ?_)))))
    by_cases c : onP (l.take i) s g
    · rw [decide_eq_true c]
      refine Ok.pos rfl (Ok.ld (ldI_get hE' rfl) (Ok.ld (ldI_get hsE rfl) (Ok.ld (ldI_get hE' rfl) (Ok.ld (ldI_get hsE rfl) ?_))))
      unfold sideP at hss hx
      have b1 := mul_bd (A := 4) (B := 4) (x := l[i].2.1) (y := s.1) (by omega) (by omega) (by omega) (by omega)
      have b2 := mul_bd (A := 4) (B := 4) (x := l[i].1) (y := s.2.1) (by omega) (by omega) (by omega) (by omega)
      rw [w64_id (n := l[i].2.1 * s.1) (by omega) (by omega), w64_id (n := l[i].1 * s.2.1) (by omega) (by omega), w64_id (n := l[i].2.1 * s.1 - l[i].1 * s.2.1) (by omega) (by omega), w64_id (n := g * (l[i].2.1 * s.1 - l[i].1 * s.2.1)) (by rcases hg with rfl | rfl <;> omega) (by rcases hg with rfl | rfl <;> omega), w64_succ (by omega)]
      exact ih (m - 1) (_, _) E (by omega) ⟨i + 1, rfl, by omega, gB, decide_eq_decide.2 (by rw [ek]; exact ⟨fun q => ⟨c, q⟩, fun q => q.2⟩)⟩
    · rw [decide_eq_false c]
      refine Ok.neg (by simp) ?_
      rw [w64_succ (by omega)]
      exact ih (m - 1) (_, _) E (by omega) ⟨i + 1, rfl, by omega, gB, (decide_eq_false (fun q => c (ek.1 q).1)).symm⟩
  · rw [List.take_of_length_le (by omega)]
    refine Ok.neg (by omega) ?_
    by_cases c : onP l s g
    · rw [decide_eq_true c]; exact Ok.pos rfl (Ok.ret (kf H1 g1 c))
    · rw [decide_eq_false c]; exact Ok.neg (by simp) (k H1 g1 c)
end
/-- the directions -/
theorem r19_l3_ok {H0' H : Hp} {v : Sl} {l : List Sd} (hv : SL H v l) (hb : l.length ≤ 6) (hs : ∀ s ∈ l, sideP s) (g : Gr H0' H) : Ok (r19_l3 FUEL v v l.length 0 H) fun r H' => Gr H0' H' ∧ r = decide (∀ s ∈ l, dirP l (-s.2.1, s.1) ∧ dirP l (s.2.1, -s.1)) := by
  have hlen := hv.len
  refine Ok.loop (L := fun K (s : Int) H2 => r19_l3 K v v l.length s H2) (fun m s H' => Gr H H' ∧ ∃ i : Nat, s = i ∧ i + m = l.length ∧ ∀ s ∈ l.take i, dirP l (-s.2.1, s.1) ∧ dirP l (s.2.1, -s.1)) ?_ FUEL l.length 0 H (by unfold FUEL; omega) ⟨.refl _, 0, rfl, by omega, by simp⟩
  rintro K m s H1 ⟨g1, i, rfl, hm, ht⟩ ih
  try dsimp only at *
  rw [r19_l3]
  by_cases h : i < l.length
  · have hg := hv.gr g1
    have hmem : l[i] ∈ l := List.getElem_mem h
    have hsd := hs _ hmem
    obtain ⟨E, hE, hE', gE, nE⟩ := sts3 H1 (.int .i64 l[i].1) (.int .i64 l[i].2.1) (.int .i64 l[i].2.2) (.int .i64 0) (.int .i64 0) (.int .i64 0)
    refine Ok.pos (by omega) (Ok.ck (by omega) (Ok.ld (hg.ldI (i := i) (j := 0) h rfl) (Ok.ld (hg.ldI (i := i) (j := 1) h rfl) (Ok.ld (hg.ldI (i := i) (j := 2) h rfl) (Ok.ld hE ?_)))))
    have gB := g1.trans gE
    have bad : ∀ H', Gr E H' → ¬ (dirP l (-l[i].2.1, l[i].1) ∧ dirP l (l[i].2.1, -l[i].1)) → Gr H0' H' ∧ false = decide (∀ s ∈ l, dirP l (-s.2.1, s.1) ∧ dirP l (s.2.1, -s.1)) := fun H' gH hno => ⟨g.trans (gB.trans gH), by rw [decide_eq_false (fun q => hno (q _ hmem))]⟩
    rw [show FUEL = 18446744073709551613 + 1 + 1 + 1 from rfl, r19_l4]
    refine Ok.pos (by decide) ?_
    rw [hlen]
    refine r19_l5_ok (hv.gr gB) hb hs hsd (.inr rfl) hE' (fun H' gH hon => bad H' gH fun q => (onP_neg.2 q.2) hon) fun H2 g2 hn1 => ?_
    rw [show w64 (-1 + 2) = 1 by decide +kernel, r19_l4]
    refine Ok.pos (by decide) ?_
    rw [hlen]
    refine r19_l5_ok (hv.gr (gB.trans g2)) hb hs hsd (.inl rfl) (by rw [g2.2 _ (Hp.get_lt hE')]; exact hE') (fun H' gH hon => bad H' (g2.trans gH) fun q => (onP_one.2 q.1) hon) fun H3 g3 hn2 => ?_
    rw [show w64 (1 + 2) = 3 by decide +kernel, r19_l4]
    refine Ok.neg (by decide) ?_
    rw [w64_succ (by omega)]
    exact ih (m - 1) _ H3 (by omega) ⟨gB.trans (g2.trans g3), i + 1, rfl, by omega, forall_take h ht ⟨onP_one.1 hn2, onP_neg.1 hn1⟩⟩
  · rw [List.take_of_length_le (by omega)] at ht
    exact Ok.neg (by omega) (Ok.ret ⟨g.trans g1, by rw [decide_eq_true ht]⟩)
/-- Plate of the reference -/
theorem r19_ok {H : Hp} {v : Sl} {l : List Sd} (hv : SL H v l) : Ok (r19 v H) fun r H' => Gr H H' ∧ r = decide (plateP l) := by
  unfold r19
  have hlen := hv.len
  by_cases h3 : l.length < 3
  · refine Ok.pos (by omega) ?_
    unfold r19_j0
    exact Ok.pos rfl (Ok.ret ⟨.refl _, by rw [decide_eq_false (fun h => by have := h.1.1; omega)]⟩)
  · refine Ok.neg (by omega) ?_
    unfold r19_j0
    by_cases h6 : 6 < l.length
    · exact Ok.pos (by rw [decide_eq_true_iff]; omega) (Ok.ret ⟨.refl _, by rw [decide_eq_false (fun h => by have := h.1.2; omega)]⟩)
    · refine Ok.neg (by rw [decide_eq_true_iff]; omega) ?_
      rw [hlen]
      refine Ok.loop (L := fun K (s : Int) H2 => r19_l1 K v v l.length s H2) (fun m s H' => Gr H H' ∧ ∃ i : Nat, s = i ∧ i + m = l.length ∧ ∀ s ∈ l.take i, sideP s) ?_ FUEL l.length 0 H (by unfold FUEL; omega) ⟨.refl _, 0, rfl, by omega, by simp⟩
      rintro K m s H1 ⟨g1, i, rfl, hm, ht⟩ ih
      try dsimp only at *
      rw [r19_l1]
      by_cases h : i < l.length
      · have hg := hv.gr g1
        have hmem : l[i] ∈ l := List.getElem_mem h
        obtain ⟨E, hE, hE', gE, nE⟩ := sts3 H1 (.int .i64 l[i].1) (.int .i64 l[i].2.1) (.int .i64 l[i].2.2) (.int .i64 0) (.int .i64 0) (.int .i64 0)
        have gB := g1.trans gE
        have j2 : ∀ b, b = !decide (sideP l[i]) → Ok (r19_j2 (fun v1_ v2_ v3_ v4_ H_ => r19_l1 K v1_ v2_ v3_ v4_ H_) v v l.length i b E) fun r H' => Gr H H' ∧ r = decide (plateP l) := fun b hbb => by
          subst hbb
          unfold r19_j2
          by_cases c : sideP l[i]
          · rw [decide_eq_true c]
            refine Ok.neg (by simp) ?_
            rw [w64_succ (by omega)]
            exact ih (m - 1) _ E (by omega) ⟨gB, i + 1, rfl, by omega, forall_take h ht c⟩
          · rw [decide_eq_false c]
            exact Ok.pos rfl (Ok.ret ⟨gB, by rw [decide_eq_false (fun q => c (q.2.1 _ hmem))]⟩)
        have no : ¬ sideP l[i] → true = !decide (sideP l[i]) := fun q => by rw [decide_eq_false q]; rfl
        refine Ok.pos (by omega) (Ok.ck (by omega) (Ok.ld (hg.ldI (i := i) (j := 0) h rfl) (Ok.ld (hg.ldI (i := i) (j := 1) h rfl) (Ok.ld (hg.ldI (i := i) (j := 2) h rfl) (Ok.ld hE (Ok.ld (ldI_get hE' rfl) ?_))))))
        refine Ok.ite (fun c => j2 _ (no fun q => by unfold sideP at q; omega)) fun c1 => Ok.ld (ldI_get hE' rfl) ?_
        refine Ok.ite (fun c => j2 _ (no fun q => by unfold sideP at q; omega)) fun c2 => Ok.ld (ldI_get hE' rfl) ?_
        refine Ok.ite (fun c => j2 _ (no fun q => by unfold sideP at q; omega)) fun c3 => Ok.ld (ldI_get hE' rfl) ?_
        refine Ok.ite (fun c => j2 _ (no fun q => by unfold sideP at q; omega)) fun c4 => Ok.ld (ldI_get hE' rfl) ?_
        have last : ¬ (l[i].1 = 0 ∧ l[i].2.1 = 0) → Ok (if l[i].2.2 < -40 then r19_j2 (fun v1_ v2_ v3_ v4_ H_ => r19_l1 K v1_ v2_ v3_ v4_ H_) v v l.length i true E else (E.ldI .i64 H1.n (0 + 2)).bind fun x => r19_j2 (fun v1_ v2_ v3_ v4_ H_ => r19_l1 K v1_ v2_ v3_ v4_ H_) v v l.length i (decide (40 < x)) E) fun r H' => Gr H H' ∧ r = decide (plateP l) := fun hne => by
          refine Ok.ite (fun c => j2 _ (no fun q => by unfold sideP at q; omega)) fun c5 => Ok.ld (ldI_get hE' rfl) (j2 _ ?_)
          refine Bool.eq_iff_iff.2 ?_
          rw [Bool.not_eq_true', decide_eq_false_iff_not, decide_eq_true_iff]
          unfold sideP
          constructor
          · intro q w; omega
          · intro q
            by_cases w : 40 < l[i].2.2
            · exact w
            · exact absurd ⟨⟨by omega, by omega⟩, ⟨by omega, by omega⟩, hne, by omega, by omega⟩ q
        refine Ok.ite (fun c0 => Ok.ld (ldI_get hE' rfl) (Ok.ite (fun c5 => j2 _ (no fun q => q.2.2.1 ⟨c0, c5⟩)) fun c5 => Ok.ld (ldI_get hE' rfl) (last fun q => c5 q.2))) fun c0 => Ok.ld (ldI_get hE' rfl) (last fun q => c0 q.1)
      · rw [List.take_of_length_le (by omega)] at ht
        refine Ok.neg (by omega) ?_
        rw [hlen]
        refine (r19_l3_ok (hv.gr g1) (by omega) ht g1).mono fun r H' hh => ⟨hh.1, ?_⟩
        rw [hh.2]
        exact decide_eq_decide.2 ⟨fun q => ⟨⟨by omega, by omega⟩, ht, q⟩, fun q => q.2.2⟩
end Go.Lt.P2

namespace Go.Lt.P2
open Go Go.Lt Go.Proofs
theorem plate_take {p : List Sd} : plateP (p.take 9) ↔ plateP p := by
  by_cases h : p.length ≤ 9
  · rw [List.take_of_length_le h]
  · constructor
    · intro c; have b := c.1.2; rw [List.length_take] at b; omega
    · intro c; have b := c.1.2; omega
theorem plate_eq {p : List Sd} (h : plateP p) : p.take 9 = p := List.take_of_length_le (by have := h.1.2; omega)
theorem awk (k : Nat) (H : Hp) : appA k 21 [] H = some (.bool true, H) := rfl
end Go.Lt.P2
