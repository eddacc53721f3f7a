/- PLAIN LAWS OF WHAT IS COMPUTED, for the statement 'CutsInside'. Nothing is asked of the input. -/
import Derived.Test.YteefkljbmjjncaaU7XBx
import Derived.Test.YteefkljbmjjncaaU7XMu
set_option linter.unusedVariables false
set_option linter.unusedSimpArgs false
namespace Go.Lt.P2
open Go Go.Lt Go.Proofs
def comp (x : Sd) (k : Nat) : Int := if k = 0 then x.1 else if k = 1 then x.2.1 else x.2.2
def atS (p : List Sd) (j : Nat) : Sd := p.getD j (0, 0, 0)
def atF (m : List Pr) (j : Nat) : Pr := m.getD j (0, 1)
theorem atS_eq {p : List Sd} {j : Nat} (h : j < p.length) : p[j] = atS p j := by
  unfold atS; rw [List.getD_eq_getElem?_getD, List.getElem?_eq_getElem h]; rfl
theorem atF_eq {p : List Pr} {j : Nat} (h : j < p.length) : p[j] = atF p j := by
  unfold atF; rw [List.getD_eq_getElem?_getD, List.getElem?_eq_getElem h]; rfl
theorem comp_bd {s : Sd} (h : sideP s) (k : Nat) : -40 ≤ comp s k ∧ comp s k ≤ 40 := by
  unfold sideP at h
  unfold comp
  split
  · omega
  · split <;> omega
theorem apart3 (x : Sd) {k : Nat} (h : k < 3) : (apart false 1 [.int .i64 x.1, .int .i64 x.2.1, .int .i64 x.2.2] (k * 1)) = some (.int .i64 (comp x k)) := by
  rcases (show k = 0 ∨ k = 1 ∨ k = 2 by omega) with rfl | rfl | rfl <;> rfl
theorem getElem_set3 {q : List Pr} {k j : Nat} (x : Pr) (hj : j < (q.set k x).length) : (q.set k x)[j] = if k = j then x else q[j]'(by simpa using hj) := List.getElem_set _
def mq (m : List Pr) (j : Nat) : Rat := dv (atF m j).1 (atF m j).2
/-- the sums -/
def sm (p : List Sd) (m : List Pr) (k : Nat) : Nat → Rat
  | 0 => 0
  | i + 1 => sm p m k i + (comp (atS p i) k : Rat) * mq m i
def sbN (i : Nat) : Int := 4000 * i * 100 ^ i
def sbD (i : Nat) : Int := 100 ^ i
theorem sb_step (i : Nat) : sbN i * 100 + 400000 * sbD i = sbN (i + 1) ∧ sbD i * 100 = sbD (i + 1) := by
  unfold sbN sbD
  constructor
  · rw [Int.pow_succ]; push_cast; grind
  · rw [Int.pow_succ]
theorem sb_small {i : Nat} (h : i ≤ 6) : (0 ≤ sbN i ∧ sbN i ≤ 24000000000000000) ∧ 0 ≤ sbD i ∧ sbD i ≤ 1000000000000 := by
  rcases (show i = 0 ∨ i = 1 ∨ i = 2 ∨ i = 3 ∨ i = 4 ∨ i = 5 ∨ i = 6 by omega) with rfl | rfl | rfl | rfl | rfl | rfl | rfl <;> decide
theorem sb_small5 {i : Nat} (h : i < 6) : (0 ≤ sbN i ∧ sbN i ≤ 200000000000000) ∧ 0 ≤ sbD i ∧ sbD i ≤ 10000000000 := by
  rcases (show i = 0 ∨ i = 1 ∨ i = 2 ∨ i = 3 ∨ i = 4 ∨ i = 5 by omega) with rfl | rfl | rfl | rfl | rfl | rfl <;> decide
def SI (p : List Sd) (m : List Pr) (k i : Nat) (s : Pr) : Prop := s = fq (sm p m k i) ∧ qb (sbN i) (sbD i) (sm p m k i)
theorem SI.zero {p : List Sd} {m : List Pr} {k : Nat} : SI p m k 0 (0, 1) := by
  refine ⟨?_, ?_⟩
  · exact (fq_int 0).symm
  · exact qb_int (a := 0) (by decide) (by decide) (by decide)
section
variable {Q : Int × Int × Int × Bool → Hp → Prop}
theorem r77_l1_ok {n0 H : Hp} {vm z : Sl} {p : List Sd} {m : List Pr} {q : List Pr} {i v2 v3 : Nat} {ln iv : Int} {x : Sd} (hm : SL n0 vm m) (hi : i < m.length) (hi6 : i < 6) (hxe : atS p i = x) (hx : sideP x) (hf : frM (atF m i)) (hz : z = ⟨false, v3, 0, 3, 3, 0⟩) (hv3 : n0.n ≤ v3) (g : Gr n0 H) (ho : Own H z q) (hq : q.length = 3) (hSI : ∀ k (h : k < q.length), SI p m k i q[k])
    {vp2 : Sl} {kt0 : Sl → Nat → Nat → Sl → Int → Int → Hp → Option ((Int × Int × Int × Bool) × Hp)} (kk : ∀ q' H', Own H' z q' → q'.length = 3 → (∀ k (h : k < q'.length), SI p m k (i + 1) q'[k]) → Only v3 H H' → Gr n0 H' → Ok (kt0 vm v2 v3 vp2 ln (w64 (iv + 1)) H') Q) : Ok (r77_l1 kt0 FUEL vm v2 v3 i vp2 ln iv x.1 x.2.1 x.2.2 0 H) Q := by
  refine Ok.loop (L := fun K (s : Int) H2 => r77_l1 kt0 K vm v2 v3 i vp2 ln iv x.1 x.2.1 x.2.2 s H2) (fun mm s H' => ∃ k : Nat, s = k ∧ k + mm = 3 ∧ Gr n0 H' ∧ Only v3 H H' ∧ ∃ q', Own H' z q' ∧ q'.length = 3 ∧ ∀ j (h : j < q'.length), if j < k then SI p m j (i + 1) q'[j] else SI p m j i q'[j]) ?_ FUEL 3 0 H (by unfold FUEL; omega) ⟨0, rfl, rfl, g, .refl _ _, q, ho, hq, fun j h => by rw [if_neg (by omega)]; exact hSI j h⟩
  rintro K mm s H1 ⟨k, rfl, hk, g1, on, q', o1, hq1, hP⟩ ih
  try dsimp only at *
  rw [r77_l1]
  by_cases h : k < 3
  · have hs := o1.sl
    have hm1 := hm.gr g1
    have hkq : k < q'.length := by omega
    have hzb : z.b = v3 := by rw [hz]
    have hzo : z.o = 0 := by rw [hz]
    have hml := hm.len
    have hpk := hP k hkq
    rw [if_neg (by omega)] at hpk
    obtain ⟨pk1, pk2⟩ := hpk
    have L1 : H1.ldI .i64 v3 (0 + k * 2) = some (fq (sm p m k i)).1 := by
      have := hs.ldI (i := k) (j := 0) hkq (n := (fq (sm p m k i)).1) (by rw [pk1]; rfl)
      rw [hzb, hzo] at this; exact this
    have L2 : H1.ldI .i64 v3 ((0 + k * 2) + 1) = some (fq (sm p m k i)).2 := by
      have := hs.ldI (i := k) (j := 1) hkq (n := (fq (sm p m k i)).2) (by rw [pk1]; rfl)
      rw [hzb, hzo] at this; exact this
    have ef := frM_fq hf
    have M1 : H1.ldI .i64 vm.b (vm.o + i * 2) = some (fq (mq m i)).1 := by
      unfold mq
      rw [ef, ← atF_eq hi]; exact hm1.ldI (i := i) (j := 0) hi rfl
    have M2 : H1.ldI .i64 vm.b ((vm.o + i * 2) + 1) = some (fq (mq m i)).2 := by
      unfold mq
      rw [ef, ← atF_eq hi]; exact hm1.ldI (i := i) (j := 1) hi rfl
    have hxk := comp_bd hx k
    have hqm : qb 10000 100 (mq m i) := frM_qb hf
    have hbt : qb 400000 100 ((comp x k : Rat) * mq m i) := ((qb_int (a := comp x k) (N := 40) (D := 1) (by omega) (by omega) (by omega)).mul hqm).mono (by decide) (by decide)
    have b5 := sb_small5 hi6
    have est := sb_step i
    refine Ok.pos (by omega) (Ok.ck (by omega) ?_)
    simp only [Int.toNat_natCast]
    refine Ok.ld (apart3 x h) (Ok.ld rfl (Ok.ck (by omega) (Ok.ld L1 (Ok.ld L2 (Ok.ck (by omega) (Ok.ld M1 (Ok.ld M2 (Ok.own (r99_q (K := 40) hxk hqm (by decide) (by decide)) fun _ => Ok.own (r98_q pk2 hbt (by omega) (by omega) (by omega)) fun _ => Ok.ck (by omega) ?_))))))))
    dsimp only
    rw [← hzb]
    refine o1.put (j := k) hkq (fq (sm p m k i + (comp x k : Rat) * mq m i) : Pr) (by rw [hzo]; rfl) rfl fun H2 o2 on2 n2' => ?_
    rw [w64_succ (by omega)]
    rw [hzb] at on2 ⊢
    refine ih (mm - 1) _ H2 (by omega) ⟨k + 1, rfl, by omega, on2.gr g1 hv3, on.trans on2, _, o2, by simp [hq1], fun j hj => ?_⟩
    rw [getElem_set3]
    have hj' : j < q'.length := by simpa using hj
    have hpj := hP j hj'
    by_cases c : k = j
    · subst c
      rw [if_pos (by omega), if_pos rfl]
      refine ⟨?_, ?_⟩
      · show _ = fq (sm p m k i + _)
        rw [hxe]
      · show qb _ _ (sm p m k i + _)
        rw [hxe, ← est.1, ← est.2]
        exact pk2.add hbt
    · rw [if_neg c]
      by_cases c2 : j < k
      · rw [if_pos (by omega)]; rw [if_pos c2] at hpj; exact hpj
      · rw [if_neg (by omega)]; rw [if_neg c2] at hpj; exact hpj
  · refine Ok.neg (by omega) (kk q' H1 o1 hq1 (fun j hj => ?_) on g1)
    have := hP j hj
    rw [if_pos (by omega)] at this
    exact this
end
/-- what cut says, out of the sums -/
def cutR (s0 s1 s2 : Rat) : Int × Int × Int × Bool := if (fq s0).2 ≠ 1 ∨ (fq s1).2 ≠ 1 ∨ ((fq s0).1 = 0 ∧ (fq s1).1 = 0) then (0, 0, 0, false) else ((fq s0).1, (fq s1).1, s2.floor, true)
def cutQ (p : List Sd) (m : List Pr) : Int × Int × Int × Bool := cutR (sm p m 0 p.length) (sm p m 1 p.length) (sm p m 2 p.length)
/-- cut -/
theorem r77_ok {H : Hp} {vp vm : Sl} {p : List Sd} {m : List Pr} (hp : SL H vp p) (hm : SL H vm m) (hlen : m.length = p.length) (h6 : p.length ≤ 6) (hs : ∀ s ∈ p, sideP s) (hf : ∀ f ∈ m, frM f) :
    Ok (r77 vp vm H) fun r H' => Gr H H' ∧ r = cutQ p m := by
  unfold r77
  refine Ok.box (.nil H) fun A gA c => ?_
  have e0 : fq (0 : Rat) = (0, 1) := fq_int 0
  have r0 := r100_int (a := 0) (by decide) H0
  rw [show (((0 : Int) : Rat)) = 0 from rfl, e0] at r0
  refine Ok.own r0 fun _ => Ok.own r0 fun _ => Ok.own r0 fun _ => Ok.alo c fun B gB cB => ?_
  have hown : Own (T := Pr) B ⟨false, A.n, 0, 3, 3, 0⟩ [(0, 1), (0, 1), (0, 1)] := ⟨rfl, rfl, rfl, Nat.le_refl _, .inl rfl, cB.e _ (.head _)⟩
  have hpA := hp.gr gA
  have hmA := hm.gr gA
  have hpl := hp.len
  rw [hpl]
  refine Ok.loop (L := fun K (s : Int) H2 => r77_l0 K vm H.n A.n vp p.length s H2) (fun mm s H' => ∃ i : Nat, s = i ∧ i + mm = p.length ∧ Gr A H' ∧ ∃ q, Own H' ⟨false, A.n, 0, 3, 3, 0⟩ q ∧ q.length = 3 ∧ ∀ k (h : k < q.length), SI p m k i q[k]) ?_ FUEL p.length 0 B (by unfold FUEL; omega) ⟨0, rfl, by omega, gB, _, hown, rfl, fun k h => ?_⟩
  rotate_left
  · have e : ([(0, 1), (0, 1), (0, 1)] : List Pr)[k] = (0, 1) := by
      rcases (show k = 0 ∨ k = 1 ∨ k = 2 by simp at h; omega) with rfl | rfl | rfl <;> rfl
    rw [e]
    exact SI.zero
  rintro K mm s H1 ⟨i, rfl, hmm, g1, q, o1, hq, hP⟩ ih
  try dsimp only at *
  rw [r77_l0]
  by_cases h : i < p.length
  · have hg := hpA.gr g1
    have hi : i < m.length := by omega
    have hx := hs _ (List.getElem_mem h)
    have c1 : Cx H1 H1 [] := .nil H1
    refine Ok.pos (by omega) (Ok.ck (by omega) (Ok.ld (hg.ldI (i := i) (j := 0) h rfl) (Ok.ld (hg.ldI (i := i) (j := 1) h rfl) (Ok.ld (hg.ldI (i := i) (j := 2) h rfl) (Ok.alo c1 fun D gD c1 => Ok.cld c1 (.head _) rfl (Ok.cld c1 (.head _) rfl (Ok.cld c1 (.head _) rfl ?_)))))))
    have hfm := hf _ (List.getElem_mem hi)
    rw [atF_eq hi] at hfm
    refine r77_l1_ok (n0 := A) (p := p) (x := p[i]) hmA hi (by omega) (atS_eq h).symm hx hfm rfl (Nat.le_refl _) (g1.trans gD) (o1.gr gD) hq hP fun q' H2 o2 hq2 hP2 on2 g2 => ?_
    rw [w64_succ (by omega)]
    exact ih (mm - 1) _ H2 (by omega) ⟨i + 1, rfl, by omega, g2, q', o2, hq2, hP2⟩
  · have hi : i = p.length := by omega
    subst hi
    match q, hq, hP, o1 with
    | [s0, s1, s2], _, hP, o1 =>
      have P0 := hP 0 (show 0 < 3 by decide)
      have P1 := hP 1 (show 1 < 3 by decide)
      have P2 := hP 2 (show 2 < 3 by decide)
      have E0 : s0 = fq (sm p m 0 p.length) := P0.1
      have E1 : s1 = fq (sm p m 1 p.length) := P1.1
      have E2 : s2 = fq (sm p m 2 p.length) := P2.1
      have B2 : qb (sbN p.length) (sbD p.length) (sm p m 2 p.length) := P2.2
      subst E0 E1 E2
      have h3 : H1.get A.n = some (.cells (encs [fq (sm p m 0 p.length), fq (sm p m 1 p.length), fq (sm p m 2 p.length)]) false) := o1.get
      have c := c.gr g1
      have bsm := sb_small h6
      have fin : ∀ fl : Bool, (fl = true ↔ ((fq (sm p m 0 p.length)).2 ≠ 1 ∨ (fq (sm p m 1 p.length)).2 ≠ 1 ∨ ((fq (sm p m 0 p.length)).1 = 0 ∧ (fq (sm p m 1 p.length)).1 = 0))) → Ok (r77_j2 H.n A.n fl H1) fun r H' => Gr H H' ∧ r = cutQ p m := fun fl hfl => by
        unfold r77_j2 cutQ cutR
        refine Ok.ite (fun hc => ?_) fun hc => ?_
        · rw [if_pos (hfl.1 hc)]
          exact Ok.cst c 0 rfl rfl fun D _ _ c => Ok.cld c (.head _) rfl (Ok.cld c (.head _) rfl (Ok.cld c (.head _) rfl (Ok.ret ⟨c.g, rfl⟩)))
        · rw [if_neg (fun q => hc (hfl.2 q))]
          refine Ok.ld (ldI_get h3 rfl) (Ok.ld (ldI_get h3 rfl) (Ok.ld (ldI_get h3 rfl) (Ok.ld (ldI_get h3 rfl) (Ok.own (r68_q B2 (by omega) (by omega)) fun _ => ?_))))
          exact Ok.cst c 0 rfl rfl fun D _ _ c => Ok.cld c (.head _) rfl (Ok.cld c (.head _) rfl (Ok.cld c (.head _) rfl (Ok.ret ⟨c.g, rfl⟩)))
      refine Ok.neg (by omega) (Ok.ld (ldI_get h3 rfl) (Ok.ite (fun k1 => fin _ ⟨fun _ => .inl k1, fun _ => rfl⟩) fun k1 => Ok.ld (ldI_get h3 rfl) (Ok.ite (fun k2 => fin _ ⟨fun _ => .inr (.inl k2), fun _ => rfl⟩) fun k2 => Ok.ld (ldI_get h3 rfl) (Ok.ite (fun k3 => Ok.ld (ldI_get h3 rfl) (fin _ ?_)) fun k3 => fin _ ⟨fun q => (by cases q), fun q => ?_⟩))))
      · rw [decide_eq_true_iff]
        exact ⟨fun q => .inr (.inr ⟨k3, q⟩), fun q => by
          rcases q with q | q | q
          · exact absurd q k1
          · exact absurd q k2
          · exact q.2⟩
      · rcases q with q | q | q
        · exact absurd q k1
        · exact absurd q k2
        · exact absurd q.1 k3
def okP (p : List Sd) (m : List Pr) : Prop := plateP p ∧ m.length = p.length ∧ mulP m
instance (p : List Sd) (m : List Pr) : Decidable (okP p m) := by unfold okP; infer_instance
/-- Cut -/
theorem r27_ok {k : Nat} {H : Hp} {vp vm : Sl} {p : List Sd} {m : List Pr} (hp : SL H vp p) (hm : SL H vm m) (hb : p.length ≤ 1000) (hb2 : m.length ≤ 1000) : Ok (r27 (appA (k + 1)) vp vm H) fun r H' => Gr H H' ∧ r = if okP p m then (if (cutQ p m).2.2.2 = true then ((cutQ p m).1, (cutQ p m).2.1, (cutQ p m).2.2.1, 0) else (0, 0, 0, 4)) else (0, 0, 0, 2) := by
  unfold r27
  refine Ok.box (.nil H) fun A gA c => Ok.bind (r76_ok (hp.gr gA) (hm.gr gA) hb hb2) fun r B ⟨gB, hr⟩ => ?_
  subst hr
  have c := c.gr gB
  by_cases h : okP p m
  · rw [decide_eq_true (show plateP p ∧ m.length = p.length ∧ mulP m from h)]
    simp only [if_pos h]
    refine Ok.pos trivial (Ok.bind (r77_ok (hp.gr c.g) (hm.gr c.g) h.2.1 h.1.1.2 h.1.2.1 h.2.2) fun q C ⟨gC, hq⟩ => ?_)
    subst hq
    have c := c.gr gC
    refine Ok.alo c fun D gD c => Ok.ite (fun h1 => ?_) fun h1 => ?_
    · simp only [if_pos h1]
      exact Ok.cld c (.head _) rfl (Ok.cld c (.head _) rfl (Ok.cld c (.head _) rfl (Ok.cst c 1 rfl rfl fun E _ _ c => Ok.cld c (.tail _ (.head _)) rfl (Ok.cld c (.tail _ (.head _)) rfl (Ok.cld c (.tail _ (.head _)) rfl (Ok.ret ⟨c.g, rfl⟩))))))
    · simp only [if_neg h1]
      exact Ok.cst c 1 rfl rfl fun E _ _ c => Ok.cld c (.tail _ (.head _)) rfl (Ok.cld c (.tail _ (.head _)) rfl (Ok.cld c (.tail _ (.head _)) rfl (Ok.ret ⟨c.g, rfl⟩)))
  · rw [decide_eq_false (show ¬ (plateP p ∧ m.length = p.length ∧ mulP m) from h)]
    simp only [if_neg h]
    exact Ok.neg (by simp) (Ok.cst c 0 rfl rfl fun E _ _ c => Ok.cld c (.head _) rfl (Ok.cld c (.head _) rfl (Ok.cld c (.head _) rfl (Ok.ret ⟨c.g, rfl⟩))))
end Go.Lt.P2

namespace Go.Lt.P2
open Go Go.Lt Go.Proofs
/-! ### what keeps the sides keeps a cut -/
theorem mq_nn {m : List Pr} {j : Nat} (h : frM (atF m j)) : 0 ≤ mq m j ∧ mq m j ≤ 100 := by
  unfold mq
  unfold frM at h
  constructor
  · have := (dv_le_iff (a := 0) (b := 1) (c := (atF m j).1) (d := (atF m j).2) (by decide) (by omega)).2 (by omega)
    rw [dv_int] at this; exact this
  · have := (dv_le_iff (a := (atF m j).1) (b := (atF m j).2) (c := 100) (d := 1) (by omega) (by decide)).2 (by omega)
    rw [dv_int] at this; exact this
theorem sm_keeps {p : List Sd} {m : List Pr} {x : Pq} (hin : inP p x) (hlen : m.length = p.length) (hf : mulP m) : ∀ i, i ≤ p.length → sm p m 0 i * x.1 + sm p m 1 i * x.2 ≤ sm p m 2 i := by
  intro i
  induction i with
  | zero => intro _; show (0 : Rat) * x.1 + 0 * x.2 ≤ 0; grind
  | succ i ih =>
    intro hi
    have h1 := ih (by omega)
    have h2 : lqs (atS p i) x := by rw [← atS_eq (show i < p.length by omega)]; exact hin _ (List.getElem_mem _)
    have h3 := (mq_nn (by rw [← atF_eq (show i < m.length by omega)]; exact hf _ (List.getElem_mem _))).1
    unfold lqs atq at h2
    have e0 : comp (atS p i) 0 = (atS p i).1 := rfl
    have e1 : comp (atS p i) 1 = (atS p i).2.1 := rfl
    have e2 : comp (atS p i) 2 = (atS p i).2.2 := rfl
    show (sm p m 0 i + (comp (atS p i) 0 : Rat) * mq m i) * x.1 + (sm p m 1 i + (comp (atS p i) 1 : Rat) * mq m i) * x.2 ≤ sm p m 2 i + (comp (atS p i) 2 : Rat) * mq m i
    rw [e0, e1, e2]
    have h4 := Rat.mul_nonneg h3 (show 0 ≤ (((atS p i).2.2 : Int) : Rat) - (((atS p i).1 : Rat) * x.1 + ((atS p i).2.1 : Rat) * x.2) by grind)
    grind
theorem sm_bd {p : List Sd} {m : List Pr} {k : Nat} {c : Int} (hc : ∀ s ∈ p, -c ≤ comp s k ∧ comp s k ≤ c) (hc0 : 0 ≤ c) (hlen : m.length = p.length) (hf : mulP m) : ∀ i, i ≤ p.length → ((-(c * 100 * i) : Int) : Rat) ≤ sm p m k i ∧ sm p m k i ≤ ((c * 100 * i : Int) : Rat) := by
  intro i
  induction i with
  | zero => intro _; rw [show (c * 100 * ((0 : Nat) : Int)) = 0 by simp]; exact ⟨by show ((-0 : Int) : Rat) ≤ 0; decide, by show (0 : Rat) ≤ ((0 : Int) : Rat); decide⟩
  | succ i ih =>
    intro hi
    have h1 := ih (by omega)
    have h2 := hc _ (List.getElem_mem (show i < p.length by omega))
    rw [atS_eq (show i < p.length by omega)] at h2
    have h3 := mq_nn (m := m) (j := i) (by rw [← atF_eq (show i < m.length by omega)]; exact hf _ (List.getElem_mem _))
    have b1 : ((-c : Int) : Rat) ≤ (comp (atS p i) k : Rat) := castLe.2 h2.1
    have b2 : (comp (atS p i) k : Rat) ≤ (c : Rat) := castLe.2 h2.2
    have hc0' : (0 : Rat) ≤ (c : Rat) := castLe.2 hc0
    have q1 := Rat.mul_nonneg h3.1 (show 0 ≤ (c : Rat) - (comp (atS p i) k : Rat) by grind)
    have q2 := Rat.mul_nonneg h3.1 (show 0 ≤ (comp (atS p i) k : Rat) + (c : Rat) by push_cast at b1; grind)
    have q3 := Rat.mul_nonneg hc0' (show 0 ≤ 100 - mq m i by grind)
    show _ ≤ sm p m k i + (comp (atS p i) k : Rat) * mq m i ∧ sm p m k i + (comp (atS p i) k : Rat) * mq m i ≤ _
    push_cast at h1 ⊢
    constructor <;> grind
theorem cutR_some {s0 s1 s2 : Rat} (h : (cutR s0 s1 s2).2.2.2 = true) : (((cutR s0 s1 s2).1 : Int) : Rat) = s0 ∧ (((cutR s0 s1 s2).2.1 : Int) : Rat) = s1 ∧ (cutR s0 s1 s2).2.2.1 = s2.floor := by
  unfold cutR at *
  split at h
  · cases h
  · rename_i hc
    rw [if_neg hc]
    have h0 : (fq s0).2 = 1 := Classical.byContradiction fun q => hc (.inl q)
    have h1 : (fq s1).2 = 1 := Classical.byContradiction fun q => hc (.inr (.inl q))
    refine ⟨?_, ?_, rfl⟩
    · have := dv_fq s0; rw [h0, dv_int] at this; exact this
    · have := dv_fq s1; rw [h1, dv_int] at this; exact this
/-- a cut's numbers -/
theorem cut_bd {p : List Sd} {m : List Pr} (h : okP p m) (hc : (cutQ p m).2.2.2 = true) : (-2400 ≤ (cutQ p m).1 ∧ (cutQ p m).1 ≤ 2400) ∧ (-2400 ≤ (cutQ p m).2.1 ∧ (cutQ p m).2.1 ≤ 2400) ∧ -24000 ≤ (cutQ p m).2.2.1 ∧ (cutQ p m).2.2.1 ≤ 24000 := by
  have k := cutR_some hc
  have h6 := h.1.1.2
  have hsd := h.1.2.1
  have b0 := sm_bd (p := p) (m := m) (k := 0) (c := 4) (fun s hs => by have := hsd s hs; unfold sideP at this; show -4 ≤ s.1 ∧ s.1 ≤ 4; omega) (by decide) h.2.1 h.2.2 _ (Nat.le_refl _)
  have b1 := sm_bd (p := p) (m := m) (k := 1) (c := 4) (fun s hs => by have := hsd s hs; unfold sideP at this; show -4 ≤ s.2.1 ∧ s.2.1 ≤ 4; omega) (by decide) h.2.1 h.2.2 _ (Nat.le_refl _)
  have b2 := sm_bd (p := p) (m := m) (k := 2) (c := 40) (fun s hs => by have := hsd s hs; unfold sideP at this; show -40 ≤ s.2.2 ∧ s.2.2 ≤ 40; omega) (by decide) h.2.1 h.2.2 _ (Nat.le_refl _)
  unfold cutQ at *
  rw [← k.1] at b0
  rw [← k.2.1] at b1
  have c0 := castLe.1 b0.1
  have c0' := castLe.1 b0.2
  have c1 := castLe.1 b1.1
  have c1' := castLe.1 b1.2
  have c2 := Rat.le_floor_iff.2 b2.1
  have c2' : (sm p m 2 p.length).floor ≤ 40 * 100 * (p.length : Int) := by
    have := Rat.floor_monotone b2.2
    rw [Rat.floor_intCast] at this
    exact this
  rw [k.2.2]
  omega
/-- a whole point of the plate keeps a cut -/
theorem cut_whole {p : List Sd} {m : List Pr} (h : okP p m) (hc : (cutQ p m).2.2.2 = true) {x y : Int} (hin : inP p ((x : Rat), (y : Rat))) : (cutQ p m).1 * x + (cutQ p m).2.1 * y ≤ (cutQ p m).2.2.1 := by
  have k := cutR_some hc
  have hs := sm_keeps hin h.2.1 h.2.2 _ (Nat.le_refl _)
  unfold cutQ at *
  rw [k.2.2]
  refine Rat.le_floor_iff.2 ?_
  rw [Rat.intCast_add, Rat.intCast_mul, Rat.intCast_mul, k.1, k.2.1]
  exact hs
end Go.Lt.P2

namespace Go.Lt.P2
open Go Go.Lt Go.Proofs
/-- a point of the round keeps every cut -/
theorem inside_cut {l : List Sd} {m : List Pr} (h : okP l m) (hc : (cutQ l m).2.2.2 = true) {x : Pq} (hin : inP l x) (hr : rndP l x) : lqs ((cutQ l m).1, (cutQ l m).2.1, (cutQ l m).2.2.1) x := by
  have k := cutR_some hc
  obtain ⟨mx, ⟨⟨z, hz, e⟩, _⟩, hle⟩ := rnd_ref h.1 hin hr (cutQ l m).1 (cutQ l m).2.1
  have hs := sm_keeps (rcs_inP z hz) h.2.1 h.2.2 _ (Nat.le_refl _)
  unfold lqs
  dsimp only
  unfold cutQ at *
  have e2 : mx ≤ sm l m 2 l.length := by
    rw [← e]
    unfold atq
    rw [k.1, k.2.1]
    exact hs
  have := castLe.2 (Rat.floor_monotone e2)
  rw [k.2.2]
  grind
end Go.Lt.P2

namespace Go.Lt.P2
open Go Go.Lt Go.Proofs
/-- CheckCut -/
theorem r29_ok {k : Nat} {H : Hp} {vp vm : Sl} {p : List Sd} {m : List Pr} {s : Sd} (hp : SL H vp p) (hm : SL H vm m) (hb : p.length ≤ 1000) (hb2 : m.length ≤ 1000) : Ok (r29 (appA (k + 1)) vp vm s.1 s.2.1 s.2.2 H) fun r H' => Gr H H' ∧ r = if okP p m then (decide ((cutQ p m).2.2.2 = true ∧ (cutQ p m).1 = s.1 ∧ (cutQ p m).2.1 = s.2.1 ∧ (cutQ p m).2.2.1 ≤ s.2.2), 0) else (false, 2) := by
  unfold r29
  refine Ok.box (.nil H) fun A gA c => Ok.bind (r76_ok (hp.gr gA) (hm.gr gA) hb hb2) fun r B ⟨gB, hr⟩ => ?_
  subst hr
  have c := c.gr gB
  by_cases h : okP p m
  · rw [decide_eq_true (show plateP p ∧ m.length = p.length ∧ mulP m from h)]
    simp only [if_pos h]
    refine Ok.pos trivial (Ok.bind (r77_ok (hp.gr c.g) (hm.gr c.g) h.2.1 h.1.1.2 h.1.2.1 h.2.2) fun q C ⟨gC, hq⟩ => ?_)
    subst hq
    have c := c.gr gC
    refine Ok.alo c fun D gD c => ?_
    have no : ¬ ((cutQ p m).2.2.2 = true ∧ (cutQ p m).1 = s.1 ∧ (cutQ p m).2.1 = s.2.1 ∧ (cutQ p m).2.2.1 ≤ s.2.2) → Ok (some ((false, (0 : Int)), D)) fun r H' => Gr H H' ∧ r = (decide ((cutQ p m).2.2.2 = true ∧ (cutQ p m).1 = s.1 ∧ (cutQ p m).2.1 = s.2.1 ∧ (cutQ p m).2.2.1 ≤ s.2.2), 0) := fun hn => Ok.ret ⟨c.g, by rw [decide_eq_false hn]⟩
    refine Ok.ite (fun h1 => Ok.cld c (.head _) rfl (Ok.cld c (.tail _ (.head _)) rfl (Ok.ite (fun h2 => Ok.cld c (.head _) rfl (Ok.cld c (.tail _ (.head _)) rfl (Ok.ite (fun h3 => Ok.cld c (.head _) rfl (Ok.cld c (.tail _ (.head _)) rfl (Ok.ret ⟨c.g, ?_⟩))) fun q => no fun w => q w.2.2.1))) fun q => no fun w => q w.2.1))) fun q => no fun w => q w.1
    refine Prod.ext (decide_eq_decide.2 ⟨fun w => ⟨h1, h2, h3, w⟩, fun w => w.2.2.2⟩) rfl
  · rw [decide_eq_false (show ¬ (plateP p ∧ m.length = p.length ∧ mulP m) from h)]
    simp only [if_neg h]
    exact Ok.neg (by simp) (Ok.ret ⟨c.g, rfl⟩)
end Go.Lt.P2

namespace Go.Lt.P2
open Go Go.Lt Go.Proofs
theorem r56_l0_q {x y : Int} (hx : x.natAbs < 9223372036854775808) (hy0 : 0 < y) (hy : y < 9223372036854775808) {c : Nat} {E : List (Nat × List AV)} {u w : AV} {H1 H : Hp} (hc : Cx H1 H ((c, [u, w]) :: E)) : ∀ (K : Nat) (a b : Int), 0 ≤ a → 0 ≤ b → b.natAbs < K → Nat.gcd a.natAbs b.natAbs = Nat.gcd x.natAbs y.natAbs →
    Ok (r56_l0 K x y c a b H) fun r _ => r = fq (dv x y) := by
  intro K
  induction K with
  | zero => intro a b _ _ h; omega
  | succ K ih =>
    intro a b ha0 hb0 h hg
    have hpos : 0 < Nat.gcd x.natAbs y.natAbs := Nat.gcd_pos_of_pos_right _ (by omega)
    rw [r56_l0]
    by_cases h0 : b = 0
    · subst h0
      rw [Int.natAbs_zero, Nat.gcd_zero_right] at hg
      have ea : a = ((Nat.gcd x.natAbs y.natAbs : Nat) : Int) := by omega
      subst ea
      rw [tdivSmall hx, tdivSmall (by omega)]
      refine Ok.neg (by simp) (Ok.ck (by omega) (Ok.ck (by omega) (Ok.cst hc 0 rfl rfl fun D _ _ c => ?_)))
      refine Ok.cld c (.head _) rfl (Ok.cld c (.head _) rfl (Ok.ret ?_))
      rw [fq_gcdv hy0]
    · have hm := Nat.mod_lt a.natAbs (show 0 < b.natAbs by omega)
      have e := Int.natAbs_tmod a b
      have hn := Int.tmod_nonneg b ha0
      exact Ok.pos h0 (Ok.ck h0 (ih b (Int.tmod a b) hb0 hn (by omega) (by rw [e]; exact (gcd_step _ _).trans hg)))
/-- Frac -/
theorem r56_q {a b : Int} (ha : a.natAbs < 9223372036854775808) (hb : 0 < b) (hb2 : b < 9223372036854775808) (H : Hp) : Ok (r56 a b H) fun r _ => r = fq (dv a b) := by
  unfold r56
  refine Ok.box (.nil H) fun A _ c => Ok.neg (by omega) ?_
  unfold r56_j1
  rw [w64Abs ha]
  exact r56_l0_q ha hb hb2 c FUEL _ b (by omega) (by omega) (by unfold FUEL; omega) (by simp)
end Go.Lt.P2

namespace Go.Lt.P2
open Go Go.Lt Go.Proofs
theorem frP_iff {f : Pr} (h1 : 1 ≤ f.2 ∧ f.2 ≤ 100) (h2 : -100 * f.2 ≤ f.1 ∧ f.1 ≤ 100 * f.2) : frP f ↔ fq (dv f.1 f.2) = f := by
  constructor
  · exact frP_fq
  · intro h
    refine ⟨h1, h2, ?_⟩
    have := fq_gcd (dv f.1 f.2)
    rw [h] at this
    exact this
/-- IsPoint -/
theorem r20_ok {x : Pa} : Ok (r20 x.1.1 x.1.2 x.2.1 x.2.2 H0) fun r _ => r = decide (ptP x) := by
  unfold r20
  refine Ok.box (.nil H0) fun A gA c => Ok.cld c (.head _) rfl (Ok.cld c (.head _) rfl (Ok.cld c (.head _) rfl (Ok.cld c (.head _) rfl (Ok.box c fun B gB c => ?_))))
  have hv : SL (T := Pr) B ⟨false, A.n, 0, 2, 2, 0⟩ [x.1, x.2] := .of_get (ro := false) (c.e _ (.head _)) rfl rfl (Nat.le_refl _) (.inl rfl) rfl
  generalize A.n = an at *
  have hall : decide (ptP x) = decide (∀ f ∈ [x.1, x.2], frP f) := by
    refine decide_eq_decide.2 ?_
    unfold ptP; simp
  rw [hall]
  have hlen : [x.1, x.2].length = 2 := rfl
  generalize [x.1, x.2] = q at *
  show Ok (r20_l0 FUEL ⟨false, an, 0, 2, 2, 0⟩ 2 0 B) _
  refine Ok.loop (L := fun K (s : Int) H2 => r20_l0 K ⟨false, an, 0, 2, 2, 0⟩ 2 s H2) (fun m s H' => Gr B H' ∧ ∃ i : Nat, s = i ∧ i + m = 2 ∧ ∀ f ∈ q.take i, frP f) ?_ FUEL 2 0 B (by unfold FUEL; omega) ⟨.refl _, 0, rfl, rfl, by simp⟩
  rintro K m s H1 ⟨g1, i, rfl, hm, ht⟩ ih
  try dsimp only at *
  rw [r20_l0]
  by_cases h : i < 2
  · have hi : i < q.length := by omega
    have hg := hv.gr g1
    have hmem := List.getElem_mem hi
    have l0 := hg.ldI (i := i) (j := 0) hi rfl
    have l1 := hg.ldI (i := i) (j := 1) hi rfl
    have e2 := List.take_succ_eq_append_getElem hi
    generalize q[i] = f at *
    have c0 : Cx H1 H1 [] := .nil H1
    refine Ok.pos (by omega) (Ok.ck (by dsimp only; omega) (Ok.ld l0 (Ok.ld l1 (Ok.alo c0 fun E gE cx => ?_))))
    have j1 : ∀ b : Bool, (b = true ↔ ¬ frP f) → Ok (r20_j1 (fun v1_ v2_ v3_ H_ => r20_l0 K v1_ v2_ v3_ H_) ⟨false, an, 0, 2, 2, 0⟩ 2 i b E) fun r _ => r = decide (∀ f ∈ q, frP f) := fun b hb => by
      unfold r20_j1
      refine Ok.ite (fun hc => Ok.ret ?_) fun hc => ?_
      · symm; rw [decide_eq_false_iff_not]; exact fun k => hb.1 hc (k f hmem)
      · rw [w64_succ (by omega)]
        refine ih (m - 1) _ E (by omega) ⟨g1.trans gE, i + 1, rfl, by omega, fun y hy => ?_⟩
        rw [e2] at hy
        rcases List.mem_append.1 hy with hy | hy
        · exact ht y hy
        · rw [List.mem_singleton] at hy; subst hy
          exact Classical.byContradiction fun k => hc (hb.2 k)
    have no : ¬ frP f → ((true = true) ↔ ¬ frP f) := fun h => ⟨fun _ => h, fun _ => rfl⟩
    refine Ok.cld cx (.head _) rfl (Ok.ite (fun k => j1 _ (no fun q => by have := q.1.1; omega)) fun k1 => Ok.cld cx (.head _) rfl (Ok.ite (fun k => j1 _ (no fun q => by have := q.1.2; omega)) fun k2 => Ok.cld cx (.head _) rfl (Ok.cld cx (.head _) rfl ?_)))
    rw [w64_id (n := -100 * f.2) (by omega) (by omega)]
    refine Ok.ite (fun k => j1 _ (no fun q => by have := q.2.1.1; omega)) fun k3 => Ok.cld cx (.head _) rfl (Ok.cld cx (.head _) rfl ?_)
    rw [w64_id (n := 100 * f.2) (by omega) (by omega)]
    refine Ok.ite (fun k => j1 _ (no fun q => by have := q.2.1.2; omega)) fun k4 => Ok.cld cx (.head _) rfl (Ok.cld cx (.head _) rfl (Ok.own (r56_q (by omega) (by omega) (by omega) H0) fun _ => Ok.cld cx (.head _) rfl (Ok.cld cx (.head _) rfl (j1 _ ?_))))
    rw [frP_iff (by omega) (by omega), Bool.not_eq_true', Bool.and_eq_false_iff, beq_eq_false_iff_ne, beq_eq_false_iff_ne]
    constructor
    · rintro (k | k) e
      · exact k (by rw [e])
      · exact k (by rw [e])
    · intro k
      by_cases e : (fq (dv f.1 f.2)).1 = f.1
      · exact .inr fun e2 => k (Prod.ext e e2)
      · exact .inl e
  · rw [List.take_of_length_le (by omega)] at ht
    exact Ok.neg (by omega) (Ok.ret (by rw [decide_eq_true ht]))
theorem lqs_dv2 {u : Sd} {a b c d : Int} (hb : 0 < b) (hd : 0 < d) : lqs u (dv a b, dv c d) ↔ u.1 * a * d + u.2.1 * c * b ≤ u.2.2 * b * d := by
  have hbd := Int.mul_pos hb hd
  have e1 : dv a b = dv (a * d) (b * d) := (dv_eq_iff hb hbd).2 (by grind)
  have e2 : dv c d = dv (c * b) (b * d) := (dv_eq_iff hd hbd).2 (by grind)
  rw [e1, e2, lqs_dv hbd, ← Int.mul_assoc, ← Int.mul_assoc, ← Int.mul_assoc]
end Go.Lt.P2

namespace Go.Lt.P2
open Go Go.Lt Go.Proofs
theorem wrapU {n : Int} : 0 ≤ IntKind.wrap .u64 n := by
  unfold IntKind.wrap
  simp [IntKind.signed, IntKind.bits]
  omega
theorem wrapU_id {n : Int} (h0 : 0 ≤ n) (h : n < 9223372036854775808) : IntKind.wrap .u64 n = n := by
  unfold IntKind.wrap
  simp [IntKind.signed, IntKind.bits]
  omega
/-- the place in a slice -/
theorem at_mod {k : Int} {n : Nat} (hn : 0 < n) (hb : n < 9223372036854775808) : ∃ j : Nat, j < n ∧ w64 (Int.tmod (IntKind.wrap .u64 k) (IntKind.wrap .u64 (n : Int))) = j := by
  rw [wrapU_id (n := (n : Int)) (by omega) (by omega)]
  have h1 := Int.tmod_nonneg (n : Int) (wrapU (n := k))
  have h2 := Int.tmod_lt_of_pos (IntKind.wrap .u64 k) (show (0 : Int) < n by omega)
  exact ⟨(Int.tmod (IntKind.wrap .u64 k) n).toNat, by omega, by rw [w64_id (by omega) (by omega)]; omega⟩
end Go.Lt.P2

namespace Go.Lt.P2
open Go Go.Lt Go.Proofs
/-- fracs -/
theorem r28_ok {H : Hp} {v : Sl} {l : List Pr} (hv : SL H v l) (hb : l.length < 9223372036854775808) : Ok (r28 v H) fun w H' => Gr H H' ∧ SL H' w (l.take 9) := by
  unfold r28
  have h1 := hv.len
  have hc := hv.cap
  have ho := hv.opn
  have e : (if 9 < (v.len : Int) then (9 : Int) else (v.len : Int)) = ((min 9 l.length : Nat) : Int) := by
    by_cases h : 9 < (v.len : Int)
    · rw [if_pos h]; omega
    · rw [if_neg h]; omega
  rw [e]
  refine Ok.ck ⟨by omega, ho⟩ ?_
  rw [Int.toNat_natCast]
  have hs := hv.cut (lo := 0) (hi := min 9 l.length) (by omega) (by omega)
  have hl : (l.drop 0).take (min 9 l.length - 0) = l.take 9 := by
    rw [List.drop_zero, Nat.sub_zero]
    by_cases h : 9 ≤ l.length
    · rw [Nat.min_eq_left h]
    · rw [Nat.min_eq_right (by omega), List.take_of_length_le (by omega), List.take_of_length_le (by omega)]
  rw [hl] at hs
  show Ok ((cloneR 2 _ H).bind fun p2 => some (p2.1, p2.2)) _
  exact Ok.bind (clone_ok hs (by simp; omega) rfl) fun w H2 ⟨g2, a, b, hw⟩ => Ok.ret ⟨g2, a⟩
end Go.Lt.P2

namespace Go.Lt.P2
open Go Go.Lt Go.Proofs
/-- Of -/
theorem r18_ok {H : Hp} {v : Sl} {l : List Sd} (hv : SL H v l) (hb : l.length < 9223372036854775808) : Ok (r18 v H) fun w H' => Gr H H' ∧ SL H' w (l.take 9) := by
  unfold r18
  have hlen := hv.len
  rw [hlen]
  refine Ok.loop (L := fun K (s : Sl × Int) H2 => r18_l0 K s.1 v l.length s.2 H2) (fun m s H' => Gr H H' ∧ ∃ i : Nat, s.2 = i ∧ i + m = l.length ∧ AccL H.n H' s.1 ((l.take i).take 9)) ?_ FUEL l.length (⟨true, 0, 0, 0, 0, 0⟩, 0) H (by unfold FUEL; omega) ⟨.refl _, 0, rfl, by omega, by simpa using AccL.nilS⟩
  rintro K m ⟨w, s⟩ H1 ⟨g1, i, rfl, hm, ha⟩ ih
  try dsimp only at *
  rw [r18_l0]
  by_cases h : i < l.length
  · have hg := hv.gr g1
    obtain ⟨E, hE, hE', gE, nE⟩ := sts3 H1 (.int .i64 l[i].1) (.int .i64 l[i].2.1) (.int .i64 l[i].2.2) (.int .i64 0) (.int .i64 0) (.int .i64 0)
    have gB := g1.trans gE
    refine Ok.pos (by omega) (Ok.ck (by omega) (Ok.ld (hg.ldI (i := i) (j := 0) h rfl) (Ok.ld (hg.ldI (i := i) (j := 1) h rfl) (Ok.ld (hg.ldI (i := i) (j := 2) h rfl) (Ok.ld hE ?_)))))
    refine Ok.ite (fun c => Ok.ld (ldI_get hE' rfl) (Ok.ld (ldI_get hE' rfl) (Ok.ld (ldI_get hE' rfl) ?_))) fun c => ?_
    · have ha' := ha.gr gE
      rw [List.take_of_length_le (by rw [List.length_take]; omega)] at ha'
      refine Ok.bind (ha'.push gB l[i] rfl rfl (by rw [List.length_take]; omega)) fun w2 H3 ⟨ha3, g3, _⟩ => ?_
      rw [w64_succ (by omega)]
      refine ih (m - 1) (w2, _) H3 (by omega) ⟨g3, i + 1, rfl, by omega, ?_⟩
      rw [List.take_succ_eq_append_getElem h, List.take_of_length_le (by simp; omega)]
      exact ha3
    · rw [w64_succ (by omega)]
      refine ih (m - 1) (w, _) E (by omega) ⟨gB, i + 1, rfl, by omega, ?_⟩
      rw [List.take_take, Nat.min_eq_left (by omega)] at ha ⊢
      exact ha.gr gE
  · have hi : i = l.length := by omega
    subst hi
    rw [List.take_length] at ha
    exact Ok.neg (by omega) (Ok.ret ⟨g1, ha.sl⟩)
end Go.Lt.P2

namespace Go.Lt.P2
open Go Go.Lt Go.Proofs
def onP (l : List Sd) (s : Sd) (g : Int) : Prop := ∀ t ∈ l, g * (t.2.1 * s.1 - t.1 * s.2.1) ≤ 0
instance (l : List Sd) (s : Sd) (g : Int) : Decidable (onP l s g) := by unfold onP; infer_instance
theorem onP_one {l : List Sd} {s : Sd} : ¬ onP l s 1 ↔ dirP l (-s.2.1, s.1) := by
  unfold onP dirP
  simp only [Classical.not_forall]
  constructor
  · rintro ⟨t, ht, h⟩
    refine ⟨t, ht, ?_⟩
    try dsimp only
    rw [Int.mul_neg]
    omega
  · rintro ⟨t, ht, h⟩
    refine ⟨t, ht, ?_⟩
    try dsimp only at h
    rw [Int.mul_neg] at h
    omega
theorem onP_neg {l : List Sd} {s : Sd} : ¬ onP l s (-1) ↔ dirP l (s.2.1, -s.1) := by
  unfold onP dirP
  simp only [Classical.not_forall]
  constructor
  · rintro ⟨t, ht, h⟩
    refine ⟨t, ht, ?_⟩
    try dsimp only
    rw [Int.mul_neg]
    omega
  · rintro ⟨t, ht, h⟩
    refine ⟨t, ht, ?_⟩
    try dsimp only at h
    rw [Int.mul_neg] at h
    omega
section
variable {Q : Bool → Hp → Prop}
theorem r19_l5_ok {H : Hp} {v vv : Sl} {l : List Sd} {sb : Nat} {s : Sd} {g ln iv : Int} (hv : SL H v l) (hb : l.length ≤ 6) (hs : ∀ s ∈ l, sideP s) (hss : sideP s) (hg : g = 1 ∨ g = -1) (hsb : H.get sb = some (.cells [.int .i64 s.1, .int .i64 s.2.1, .int .i64 s.2.2] false))
    {kt4 : Sl → Nat → Int → Sl → Int → Int → Hp → Option (Bool × Hp)} (kf : ∀ H', Gr H H' → onP l s g → Q false H') (k : ∀ H', Gr H H' → ¬ onP l s g → Ok (kt4 v sb (w64 (g + 2)) vv ln iv H') Q) : Ok (r19_l5 kt4 FUEL v sb g true vv ln iv v l.length 0 H) Q := by
  have hlen := hv.len
  refine Ok.loop (L := fun K (t : Bool × Int) H2 => r19_l5 kt4 K v sb g t.1 vv ln iv v l.length t.2 H2) (fun m t H' => ∃ i : Nat, t.2 = i ∧ i + m = l.length ∧ Gr H H' ∧ t.1 = decide (onP (l.take i) s g)) ?_ FUEL l.length (true, 0) H (by unfold FUEL; omega) ⟨0, rfl, by omega, .refl _, by simp [onP]⟩
  rintro K m ⟨b, t⟩ H1 ⟨i, rfl, hm, g1, hbb⟩ ih
  try dsimp only at *
  subst hbb
  rw [r19_l5]
  by_cases h : i < l.length
  · have hgl := hv.gr g1
    have hx := hs _ (List.getElem_mem h)
    obtain ⟨E, hE, hE', gE, nE⟩ := sts3 H1 (.int .i64 l[i].1) (.int .i64 l[i].2.1) (.int .i64 l[i].2.2) (.int .i64 0) (.int .i64 0) (.int .i64 0)
    have gB := g1.trans gE
    have hsE : E.get sb = some (.cells [.int .i64 s.1, .int .i64 s.2.1, .int .i64 s.2.2] false) := by rw [gB.2 _ (Hp.get_lt hsb)]; exact hsb
    have ek : onP (l.take (i + 1)) s g ↔ onP (l.take i) s g ∧ g * (l[i].2.1 * s.1 - l[i].1 * s.2.1) ≤ 0 := by
      unfold onP
      constructor
      · intro q
        rw [List.take_succ_eq_append_getElem h] at q
        exact ⟨fun t ht => q t (List.mem_append_left _ ht), q _ (List.mem_append_right _ (List.mem_singleton.2 rfl))⟩
      · rintro ⟨q1, q2⟩
        exact forall_take h q1 q2
    refine Ok.pos (by omega) (Ok.ck (by omega) (Ok.ld (hgl.ldI (i := i) (j := 0) h rfl) (Ok.ld (hgl.ldI (i := i) (j := 1) h rfl) (Ok.ld (hgl.ldI (i := i) (j := 2) h rfl) (Ok.ld hE ?_)))))
    by_cases c : onP (l.take i) s g
    · rw [decide_eq_true c]
      refine Ok.pos rfl (Ok.ld (ldI_get hE' rfl) (Ok.ld (ldI_get hsE rfl) (Ok.ld (ldI_get hE' rfl) (Ok.ld (ldI_get hsE rfl) ?_))))
      unfold sideP at hss hx
      have b1 := mul_bd (A := 4) (B := 4) (x := l[i].2.1) (y := s.1) (by omega) (by omega) (by omega) (by omega)
      have b2 := mul_bd (A := 4) (B := 4) (x := l[i].1) (y := s.2.1) (by omega) (by omega) (by omega) (by omega)
      rw [w64_id (n := l[i].2.1 * s.1) (by omega) (by omega), w64_id (n := l[i].1 * s.2.1) (by omega) (by omega), w64_id (n := l[i].2.1 * s.1 - l[i].1 * s.2.1) (by omega) (by omega), w64_id (n := g * (l[i].2.1 * s.1 - l[i].1 * s.2.1)) (by rcases hg with rfl | rfl <;> omega) (by rcases hg with rfl | rfl <;> omega), w64_succ (by omega)]
      exact ih (m - 1) (_, _) E (by omega) ⟨i + 1, rfl, by omega, gB, decide_eq_decide.2 (by rw [ek]; exact ⟨fun q => ⟨c, q⟩, fun q => q.2⟩)⟩
    · rw [decide_eq_false c]
      refine Ok.neg (by simp) ?_
      rw [w64_succ (by omega)]
      exact ih (m - 1) (_, _) E (by omega) ⟨i + 1, rfl, by omega, gB, (decide_eq_false (fun q => c (ek.1 q).1)).symm⟩
  · rw [List.take_of_length_le (by omega)]
    refine Ok.neg (by omega) ?_
    by_cases c : onP l s g
    · rw [decide_eq_true c]; exact Ok.pos rfl (Ok.ret (kf H1 g1 c))
    · rw [decide_eq_false c]; exact Ok.neg (by simp) (k H1 g1 c)
end
/-- the directions -/
theorem r19_l3_ok {H0' H : Hp} {v : Sl} {l : List Sd} (hv : SL H v l) (hb : l.length ≤ 6) (hs : ∀ s ∈ l, sideP s) (g : Gr H0' H) : Ok (r19_l3 FUEL v v l.length 0 H) fun r H' => Gr H0' H' ∧ r = decide (∀ s ∈ l, dirP l (-s.2.1, s.1) ∧ dirP l (s.2.1, -s.1)) := by
  have hlen := hv.len
  refine Ok.loop (L := fun K (s : Int) H2 => r19_l3 K v v l.length s H2) (fun m s H' => Gr H H' ∧ ∃ i : Nat, s = i ∧ i + m = l.length ∧ ∀ s ∈ l.take i, dirP l (-s.2.1, s.1) ∧ dirP l (s.2.1, -s.1)) ?_ FUEL l.length 0 H (by unfold FUEL; omega) ⟨.refl _, 0, rfl, by omega, by simp⟩
  rintro K m s H1 ⟨g1, i, rfl, hm, ht⟩ ih
  try dsimp only at *
  rw [r19_l3]
  by_cases h : i < l.length
  · have hg := hv.gr g1
    have hmem : l[i] ∈ l := List.getElem_mem h
    have hsd := hs _ hmem
    obtain ⟨E, hE, hE', gE, nE⟩ := sts3 H1 (.int .i64 l[i].1) (.int .i64 l[i].2.1) (.int .i64 l[i].2.2) (.int .i64 0) (.int .i64 0) (.int .i64 0)
    refine Ok.pos (by omega) (Ok.ck (by omega) (Ok.ld (hg.ldI (i := i) (j := 0) h rfl) (Ok.ld (hg.ldI (i := i) (j := 1) h rfl) (Ok.ld (hg.ldI (i := i) (j := 2) h rfl) (Ok.ld hE ?_)))))
    have gB := g1.trans gE
    have bad : ∀ H', Gr E H' → ¬ (dirP l (-l[i].2.1, l[i].1) ∧ dirP l (l[i].2.1, -l[i].1)) → Gr H0' H' ∧ false = decide (∀ s ∈ l, dirP l (-s.2.1, s.1) ∧ dirP l (s.2.1, -s.1)) := fun H' gH hno => ⟨g.trans (gB.trans gH), by rw [decide_eq_false (fun q => hno (q _ hmem))]⟩
    rw [show FUEL = 18446744073709551613 + 1 + 1 + 1 from rfl, r19_l4]
    refine Ok.pos (by decide) ?_
    rw [hlen]
    refine r19_l5_ok (hv.gr gB) hb hs hsd (.inr rfl) hE' (fun H' gH hon => bad H' gH fun q => (onP_neg.2 q.2) hon) fun H2 g2 hn1 => ?_
    rw [show w64 (-1 + 2) = 1 by decide +kernel, r19_l4]
    refine Ok.pos (by decide) ?_
    rw [hlen]
    refine r19_l5_ok (hv.gr (gB.trans g2)) hb hs hsd (.inl rfl) (by rw [g2.2 _ (Hp.get_lt hE')]; exact hE') (fun H' gH hon => bad H' (g2.trans gH) fun q => (onP_one.2 q.1) hon) fun H3 g3 hn2 => ?_
    rw [show w64 (1 + 2) = 3 by decide +kernel, r19_l4]
    refine Ok.neg (by decide) ?_
    rw [w64_succ (by omega)]
    exact ih (m - 1) _ H3 (by omega) ⟨gB.trans (g2.trans g3), i + 1, rfl, by omega, forall_take h ht ⟨onP_one.1 hn2, onP_neg.1 hn1⟩⟩
  · rw [List.take_of_length_le (by omega)] at ht
    exact Ok.neg (by omega) (Ok.ret ⟨g.trans g1, by rw [decide_eq_true ht]⟩)
/-- Plate of the reference -/
theorem r19_ok {H : Hp} {v : Sl} {l : List Sd} (hv : SL H v l) : Ok (r19 v H) fun r H' => Gr H H' ∧ r = decide (plateP l) := by
  unfold r19
  have hlen := hv.len
  by_cases h3 : l.length < 3
  · refine Ok.pos (by omega) ?_
    unfold r19_j0
    exact Ok.pos rfl (Ok.ret ⟨.refl _, by rw [decide_eq_false (fun h => by have := h.1.1; omega)]⟩)
  · refine Ok.neg (by omega) ?_
    unfold r19_j0
    by_cases h6 : 6 < l.length
    · exact Ok.pos (by rw [decide_eq_true_iff]; omega) (Ok.ret ⟨.refl _, by rw [decide_eq_false (fun h => by have := h.1.2; omega)]⟩)
    · refine Ok.neg (by rw [decide_eq_true_iff]; omega) ?_
      rw [hlen]
      refine Ok.loop (L := fun K (s : Int) H2 => r19_l1 K v v l.length s H2) (fun m s H' => Gr H H' ∧ ∃ i : Nat, s = i ∧ i + m = l.length ∧ ∀ s ∈ l.take i, sideP s) ?_ FUEL l.length 0 H (by unfold FUEL; omega) ⟨.refl _, 0, rfl, by omega, by simp⟩
      rintro K m s H1 ⟨g1, i, rfl, hm, ht⟩ ih
      try dsimp only at *
      rw [r19_l1]
      by_cases h : i < l.length
      · have hg := hv.gr g1
        have hmem : l[i] ∈ l := List.getElem_mem h
        obtain ⟨E, hE, hE', gE, nE⟩ := sts3 H1 (.int .i64 l[i].1) (.int .i64 l[i].2.1) (.int .i64 l[i].2.2) (.int .i64 0) (.int .i64 0) (.int .i64 0)
        have gB := g1.trans gE
        have j2 : ∀ b, b = !decide (sideP l[i]) → Ok (r19_j2 (fun v1_ v2_ v3_ v4_ H_ => r19_l1 K v1_ v2_ v3_ v4_ H_) v v l.length i b E) fun r H' => Gr H H' ∧ r = decide (plateP l) := fun b hbb => by
          subst hbb
          unfold r19_j2
          by_cases c : sideP l[i]
          · rw [decide_eq_true c]
            refine Ok.neg (by simp) ?_
            rw [w64_succ (by omega)]
            exact ih (m - 1) _ E (by omega) ⟨gB, i + 1, rfl, by omega, forall_take h ht c⟩
          · rw [decide_eq_false c]
            exact Ok.pos rfl (Ok.ret ⟨gB, by rw [decide_eq_false (fun q => c (q.2.1 _ hmem))]⟩)
        have no : ¬ sideP l[i] → true = !decide (sideP l[i]) := fun q => by rw [decide_eq_false q]; rfl
        refine Ok.pos (by omega) (Ok.ck (by omega) (Ok.ld (hg.ldI (i := i) (j := 0) h rfl) (Ok.ld (hg.ldI (i := i) (j := 1) h rfl) (Ok.ld (hg.ldI (i := i) (j := 2) h rfl) (Ok.ld hE (Ok.ld (ldI_get hE' rfl) ?_))))))
        refine Ok.ite (fun c => j2 _ (no fun q => by unfold sideP at q; omega)) fun c1 => Ok.ld (ldI_get hE' rfl) ?_
        refine Ok.ite (fun c => j2 _ (no fun q => by unfold sideP at q; omega)) fun c2 => Ok.ld (ldI_get hE' rfl) ?_
        refine Ok.ite (fun c => j2 _ (no fun q => by unfold sideP at q; omega)) fun c3 => Ok.ld (ldI_get hE' rfl) ?_
        refine Ok.ite (fun c => j2 _ (no fun q => by unfold sideP at q; omega)) fun c4 => Ok.ld (ldI_get hE' rfl) ?_
        have last : ¬ (l[i].1 = 0 ∧ l[i].2.1 = 0) → Ok (if l[i].2.2 < -40 then r19_j2 (fun v1_ v2_ v3_ v4_ H_ => r19_l1 K v1_ v2_ v3_ v4_ H_) v v l.length i true E else (E.ldI .i64 H1.n (0 + 2)).bind fun x => r19_j2 (fun v1_ v2_ v3_ v4_ H_ => r19_l1 K v1_ v2_ v3_ v4_ H_) v v l.length i (decide (40 < x)) E) fun r H' => Gr H H' ∧ r = decide (plateP l) := fun hne => by
          refine Ok.ite (fun c => j2 _ (no fun q => by unfold sideP at q; omega)) fun c5 => Ok.ld (ldI_get hE' rfl) (j2 _ ?_)
          refine Bool.eq_iff_iff.2 ?_
          rw [Bool.not_eq_true', decide_eq_false_iff_not, decide_eq_true_iff]
          unfold sideP
          constructor
          · intro q w; omega
          · intro q
            by_cases w : 40 < l[i].2.2
            · exact w
            · exact absurd ⟨⟨by omega, by omega⟩, ⟨by omega, by omega⟩, hne, by omega, by omega⟩ q
        refine Ok.ite (fun c0 => Ok.ld (ldI_get hE' rfl) (Ok.ite (fun c5 => j2 _ (no fun q => q.2.2.1 ⟨c0, c5⟩)) fun c5 => Ok.ld (ldI_get hE' rfl) (last fun q => c5 q.2))) fun c0 => Ok.ld (ldI_get hE' rfl) (last fun q => c0 q.1)
      · rw [List.take_of_length_le (by omega)] at ht
        refine Ok.neg (by omega) ?_
        rw [hlen]
        refine (r19_l3_ok (hv.gr g1) (by omega) ht g1).mono fun r H' hh => ⟨hh.1, ?_⟩
        rw [hh.2]
        exact decide_eq_decide.2 ⟨fun q => ⟨⟨by omega, by omega⟩, ht, q⟩, fun q => q.2.2⟩
end Go.Lt.P2

namespace Go.Lt.P2
open Go Go.Lt Go.Proofs
theorem plate_take {p : List Sd} : plateP (p.take 9) ↔ plateP p := by
  by_cases h : p.length ≤ 9
  · rw [List.take_of_length_le h]
  · constructor
    · intro c; have b := c.1.2; rw [List.length_take] at b; omega
    · intro c; have b := c.1.2; omega
theorem plate_eq {p : List Sd} (h : plateP p) : p.take 9 = p := List.take_of_length_le (by have := h.1.2; omega)
theorem awk (k : Nat) (H : Hp) : appA k 21 [] H = some (.bool true, H) := rfl
end Go.Lt.P2
