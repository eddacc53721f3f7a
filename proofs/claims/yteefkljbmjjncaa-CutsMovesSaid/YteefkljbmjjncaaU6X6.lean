/- PLAIN LAWS OF WHAT IS COMPUTED, for the statement 'CutsMoves'. Nothing is asked of the input. -/
import Derived.Test.YteefkljbmjjncaaU6XRm
import Derived.Test.YteefkljbmjjncaaLB
set_option linter.unusedVariables false
set_option linter.unusedSimpArgs false
namespace Go.Lt.P2
open Go Go.Lt Go.Proofs
theorem movesLaw {H : Hp} {v : Sl} {p : List Sd} (hv : SL H v p) (hb : p.length < 9223372036854775808) (x : Pr) (a b : Int) : Ok (r6 (appA 20) v x.1 x.2 a b H) fun r _ => r = true := by
  unfold r6
  have l1 : (p.take 9).length ≤ 1000 := by rw [List.length_take]; omega
  refine Ok.box (.nil H) fun A gA c0 => ?_
  have c := c0
  refine Ok.bind (r18_ok (hv.gr gA) hb) fun w1 B ⟨gB, hw1⟩ => ?_
  have c := c.gr gB
  refine Ok.cld c (.head _) rfl (Ok.cld c (.head _) rfl (Ok.bind (r32_ok (k := 19) (x := x) hw1 l1) fun s C ⟨gC, hs⟩ => ?_))
  have c := c.gr gC
  refine Ok.alo c fun D gD c => Ok.cck c0 (.head _) rfl (Ok.cck c0 (.head _) rfl ?_)
  refine Ok.bind (r18_ok (hv.gr c.g) hb) fun w2 E ⟨gE, hw2⟩ => ?_
  have c := c.gr gE
  refine Ok.bind (r33_ok (k := 19) (u := a) (v := b) hw2 l1) fun mo F ⟨gF, hm1, hm2, _⟩ => ?_
  have c := c.gr gF
  refine Ok.bind (r18_ok (hv.gr c.g) hb) fun w3 G ⟨gG, hw3⟩ => ?_
  have c := c.gr gG
  refine Ok.bind (r34_ok (k := 19) hw3 l1) fun t I ⟨gI, ht⟩ => ?_
  have c := c.gr gI
  refine Ok.bind (r19_ok (hv.gr c.g)) fun z J ⟨gJ, hz⟩ => ?_
  subst hz
  have c := c.gr gJ
  have hm1 := hm1.gr (gG.trans (gI.trans gJ))
  by_cases hp : plateP p
  · rw [decide_eq_true hp]
    have h6 := hp.1.2
    rw [plate_eq hp] at hs hm1 hm2 ht
    rw [if_pos hp] at ht
    refine Ok.pos rfl (Ok.bind (r36_ok (ht.1.gr gJ) (by rw [List.length_map]; omega)) fun o K ⟨gK, ho⟩ => ?_)
    have c := c.gr gK
    refine Ok.bind (r37_ok (hv.gr c.g) (by omega) hp.2.1) fun o2 L ⟨gL, ho2⟩ => ?_
    have c := c.gr gL
    refine Ok.bind (r35_ok (ho.gr gL) ho2 (by rw [List.length_map]; omega)) fun q M ⟨hM, hq⟩ => ?_
    subst hM hq
    rw [decide_eq_true rfl]
    refine Ok.pos rfl (Ok.neg (by simp [ht.2]) (Ok.ld (awk 20 _) (Ok.ld rfl ?_)))
    have hm1 := hm1.gr (gK.trans gL)
    unfold r6_j0
    refine Ok.neg (by simp) ?_
    have fin1 : ∀ {N : Hp}, Gr M N → Ok (r6_j5 (appA 20) v a b mo.1 mo.2 N) fun r _ => r = true := fun {N} g => by
      have hv := hv.gr (c.g.trans g)
      have hm1 := hm1.gr g
      have out : ¬ ((-5 ≤ a ∧ a ≤ 5) ∧ -5 ≤ b ∧ b ≤ 5) → Ok (r6_j1 (appA 20) v a b mo.1 mo.2 true N) fun r _ => r = true := fun hn => by
        unfold mvR at hm1 hm2
        rw [if_neg (fun q => hn q.2)] at hm1 hm2
        have := hm1.len
        unfold r6_j1
        refine Ok.pos rfl (Ok.pos (by rw [this]; rfl) (Ok.ret ?_))
        rw [hm2]; rfl
      unfold r6_j5
      refine Ok.ite (fun h => out (by omega)) fun h1 => Ok.ite (fun h => out (by omega)) fun h2 => Ok.ite (fun h => out (by omega)) fun h3 => ?_
      by_cases h4 : 5 < b
      · rw [decide_eq_true h4]; exact out (by omega)
      · rw [decide_eq_false h4]
        unfold r6_j1
        refine Ok.neg (by simp) (Ok.bind (r39_ok hv (by omega) hp.2.1 (by omega) (by omega)) fun y O ⟨gO, hy1, hy2⟩ => ?_)
        unfold mvR at hm1 hm2
        rw [if_pos ⟨hp, by omega, by omega, by omega⟩] at hm1 hm2
        by_cases hk : ∀ s ∈ p, mvOk a b s
        · rw [if_pos hk] at hm1 hm2 hy1 hy2
          refine Ok.bind (r36_ok (hm1.gr gO) (by rw [List.length_map]; omega)) fun o3 P ⟨gP, ho3⟩ => ?_
          refine Ok.bind (r35_ok ho3 (hy1.gr gP) (by rw [List.length_map]; omega)) fun e Q ⟨hQ, he⟩ => ?_
          subst he
          rw [decide_eq_true rfl]
          refine Ok.pos rfl (Ok.ret ?_)
          rw [hm2, hy2]; rfl
        · rw [if_neg hk] at hm1 hm2 hy1 hy2
          refine Ok.bind (r36_ok (hm1.gr gO) (by simp)) fun o3 P ⟨gP, ho3⟩ => ?_
          refine Ok.bind (r35_ok ho3 (hy1.gr gP) (by simp)) fun e Q ⟨hQ, he⟩ => ?_
          subst he
          rw [decide_eq_true rfl]
          refine Ok.pos rfl (Ok.ret ?_)
          rw [hm2, hy2]; rfl
    have out : ¬ ((-100 ≤ x.1 ∧ x.1 ≤ 100) ∧ -100 ≤ x.2 ∧ x.2 ≤ 100) → Ok (r6_j3 (appA 20) v a b H.n C.n s.2.2.2 mo.1 mo.2 true M) fun r _ => r = true := fun hn => by
      unfold apR at hs
      rw [if_neg (fun q => hn q.2)] at hs
      subst hs
      unfold r6_j3
      refine Ok.pos rfl (Ok.cld c (.head _) rfl (Ok.cld c (.head _) rfl (Ok.cld c (.head _) rfl (Ok.pos rfl ?_))))
      unfold r6_j2
      exact Ok.neg (by simp) (fin1 (.refl _))
    refine Ok.cld c (.tail _ (.head _)) rfl (Ok.ite (fun h => out (by omega)) fun h1 => Ok.cld c (.tail _ (.head _)) rfl (Ok.ite (fun h => out (by omega)) fun h2 => Ok.cld c (.tail _ (.head _)) rfl (Ok.ite (fun h => out (by omega)) fun h3 => Ok.cld c (.tail _ (.head _)) rfl ?_)))
    by_cases h4 : 100 < x.2
    · rw [decide_eq_true h4]; exact out (by omega)
    · rw [decide_eq_false h4]
      have hin : (-100 ≤ x.1 ∧ x.1 ≤ 100) ∧ -100 ≤ x.2 ∧ x.2 ≤ 100 := ⟨by omega, by omega, by omega⟩
      unfold apR at hs
      rw [if_pos ⟨hp, hin⟩] at hs
      subst hs
      unfold r6_j3
      refine Ok.neg (by simp) (Ok.cld c (.tail _ (.head _)) rfl (Ok.cld c (.tail _ (.head _)) rfl ?_))
      refine Ok.bind (r38_ok (x := x) (hv.gr c.g) (by omega) hp.2.1 hin) fun y N ⟨gN, hy⟩ => ?_
      subst hy
      have c' := c.gr gN
      refine Ok.alo c' fun O gO c' => ?_
      refine Ok.cld c' (.tail _ (.head _)) rfl (Ok.cld c' (.tail _ (.head _)) rfl (Ok.cld c' (.tail _ (.head _)) rfl (Ok.cld c' (.head _) rfl (Ok.cld c' (.head _) rfl (Ok.cld c' (.head _) rfl (Ok.pos (by simp) ?_))))))
      unfold r6_j4
      exact Ok.neg (by simp) (fin1 (gN.trans gO))
  · rw [decide_eq_false hp]
    have hp9 : ¬ plateP (p.take 9) := fun q => hp (plate_take.1 q)
    unfold apR at hs
    unfold mvR at hm1 hm2
    rw [if_neg (fun q => hp9 q.1)] at hs hm1 hm2
    rw [if_neg hp9] at ht
    subst hs ht
    have hl := hm1.len
    refine Ok.neg (by simp) (Ok.cld c (.head _) rfl (Ok.cld c (.head _) rfl (Ok.cld c (.head _) rfl (Ok.pos rfl (Ok.pos (by rw [hl]; rfl) (Ok.pos rfl (Ok.pos hm2 (Ok.pos rfl (Ok.ld (awk 20 _) (Ok.ld rfl (Ok.ret rfl)))))))))))
theorem lawCall6 (H : Hp) (xs : List AV) (_ : NoOwn H) (h : RdAs H [.sl (.pair (.int .i64) (.pair (.int .i64) (.pair (.int .i64) .unit))), .rep 2 (.int .i64), .int .i64, .int .i64] xs) : ∃ H1, CallSim Try.prog 6 xs H (.bool true) H1 := by
  obtain ⟨x, _, rfl, hx, y, _, rfl, hy, z, _, rfl, hz, w, _, rfl, hw, rfl⟩ := h
  obtain ⟨v, l, rfl, hv, hb⟩ := rd_sl (enc_pair enc_int (enc_pair enc_int (enc_unit enc_int))) hx
  obtain ⟨ys, rfl, hy⟩ : ∃ ys, y = .agg ys ∧ Rd H (.rep 2 (.int .i64)) ys := hy
  obtain ⟨⟨a, b⟩, rfl⟩ := (enc_rep2 enc_int).2 H ys hy
  obtain ⟨n, hn, _⟩ := hz
  injection hn with hn
  subst hn
  obtain ⟨m, hm, _⟩ := hw
  injection hm with hm
  subst hm
  obtain ⟨r, H1, h1, rfl⟩ := movesLaw hv (by unfold maxLen at hb; omega) (a, b) n m
  exact ⟨H1, sim6 (happ := appASim 20) h1⟩
end Go.Lt.P2
