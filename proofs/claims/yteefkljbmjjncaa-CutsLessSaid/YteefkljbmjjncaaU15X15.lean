/- PLAIN LAWS OF WHAT IS COMPUTED, for the statement 'CutsLess'. Nothing is asked of the input. -/
import Derived.Test.YteefkljbmjjncaaU15XGd
import Derived.Test.YteefkljbmjjncaaU15XWl
import Derived.Test.YteefkljbmjjncaaU15XTk
import Derived.Test.YteefkljbmjjncaaLB
set_option linter.unusedVariables false
set_option linter.unusedSimpArgs false
namespace Go.Lt.P2
open Go Go.Lt Go.Proofs
theorem pts_in15 {l : List Sd} {x : Pr} (h : x ∈ pts l) : inP l ((x.1 : Rat), (x.2 : Rat)) := by
  unfold pts at h
  split at h
  · exact keep_in.2 (mem_grid.1 h).2
  · cases h
theorem lessLaw {H : Hp} {v : Sl} {p : List Sd} (hv : SL H v p) (hb : p.length < 9223372036854775808) (a b : Int) : Ok (r15 (appA 20) v a b H) fun r _ => r = true := by
  unfold r15
  have l1 : (p.take 9).length ≤ 1000 := by rw [List.length_take]; omega
  have awkt : ∀ (X : Hp), Ok ((appA 20 21 [] X).bind fun p => (p.1.asB).bind fun x => some (x, p.2)) fun r _ => r = true := fun X => Ok.ld (awk 20 _) (Ok.ld rfl (Ok.ret rfl))
  refine Ok.bind (r18_ok hv hb) fun w A ⟨gA, hw⟩ => Ok.bind (r42_ok (k := 18) (a := a) (b := b) hw l1) fun x B ⟨gB, hx1, hx2⟩ => ?_
  have g := gA.trans gB
  refine Ok.bind (r18_ok (hv.gr g) hb) fun w2 C ⟨gC, hw2⟩ => Ok.bind (r55_ok (k := 18) (a := a) (b := b) hw2 l1) fun y D ⟨gD, hy1, hy2⟩ => ?_
  have g := (g.trans gC).trans gD
  have c : Cx D D [] := .nil D
  refine Ok.alo c fun E gE c => Ok.bind (r19_ok (hv.gr (g.trans gE))) fun z F ⟨gF, hz⟩ => ?_
  subst hz
  have c := c.gr gF
  have bad : ¬ (plateP p ∧ near9 a b) → Ok (r15_j1 (appA 20) v x.1 x.2 D.n y.2.2 true F) fun r _ => r = true := fun hn => by
    have h9 : ¬ (plateP (p.take 9) ∧ near9 a b) := fun q => hn ⟨plate_take.1 q.1, q.2⟩
    have e1 := hx1 h9
    have e2 := hy1 h9
    subst e1 e2
    unfold r15_j1
    exact Ok.pos rfl (Ok.pos rfl (Ok.pos rfl (awkt _)))
  by_cases hp : plateP p
  case neg =>
    rw [decide_eq_false hp]
    exact Ok.neg (by simp) (bad fun q => hp q.1)
  rw [decide_eq_true hp]
  refine Ok.pos rfl (Ok.own r48_ok fun _ => ?_)
  by_cases h9 : near9 a b
  case neg =>
    rw [decide_eq_false h9]
    exact bad fun q => h9 q.2
  rw [decide_eq_true h9]
  rw [plate_eq hp] at hx2 hy2
  have hx := hx2 ⟨hp, h9⟩
  have hy := hy2 ⟨hp, h9⟩
  have hnr := pts_near hp.2.1
  have hrl : (rcs (cs p)).length ≤ 15 := Nat.le_trans (rcs_len _) (cs_len15 hp.1.2)
  have hqp : ∀ z ∈ rcs (cs p), qp z := rcs_qp hp.2.1 fun _ h => h
  have hpc : rcs (cs p) = [] → pts p = [] := fun h => by
    refine pts_nil (List.eq_nil_iff_forall_not_mem.2 fun d hd => ?_)
    have : d.1 ∈ rcs (cs p) := mem_rcs.2 ⟨d, hd, rfl⟩
    rw [h] at this; cases this
  have h9' := h9
  unfold near9 at h9'
  unfold r15_j1
  refine Ok.neg (by simp) (Ok.bind (r18_ok (hv.gr (g.trans c.g)) hb) fun w3 I ⟨gI, hw3⟩ => Ok.bind (r40_ok (k := 18) hw3 l1) fun pt1 J ⟨gJ, hpt⟩ => ?_)
  have c := (c.gr gI).gr gJ
  refine Ok.bind (r18_ok (hv.gr (g.trans c.g)) hb) fun w4 L ⟨gL, hw4⟩ => Ok.bind (r51_ok (k := 18) hw4 l1) fun co M ⟨gM, hco⟩ => ?_
  have c := (c.gr gL).gr gM
  rw [plate_eq hp, if_pos hp] at hpt hco
  have lp1 := AccL.len hpt.1
  have lco := hco.1.len
  refine Ok.neg (by rw [hpt.2]; simp) (Ok.neg (by rw [hco.2]; simp) ?_)
  dsimp only
  rw [lp1, lco]
  by_cases h0 : pts p = []
  · -- no whole point
    have ex := hx.1 h0
    subst ex
    rw [h0]
    refine Ok.pos (by simp) ?_
    by_cases hc0 : rcs (cs p) = []
    · have ey := hy.1 hc0
      subst ey
      rw [hc0]
      refine Ok.pos (by simp) (Ok.neg (by decide) ?_)
      unfold r15_j0
      exact Ok.neg (by simp) (Ok.pos (by simp) (Ok.pos rfl (Ok.pos rfl (awkt _))))
    · obtain ⟨mx, hmx, rfl⟩ := hy.2 hc0
      have hpos := List.length_pos_iff.2 hc0
      have hmq : qb 48000000 10000 mx := by
        obtain ⟨⟨z, hz, e⟩, _⟩ := hmx
        rw [← e]; exact atq_qb (by omega) (by omega) (hqp z hz)
      obtain ⟨q1, q2, q3⟩ := hmq
      have q0 := fq_pos mx
      refine Ok.pos (by simp; omega) (Ok.neg (by decide) ?_)
      unfold r15_j0
      refine Ok.neg (by simp) (Ok.neg (by simp) (Ok.cld c (.head _) rfl (Ok.neg (by dsimp only; omega) (Ok.cld c (.head _) rfl (Ok.neg (by dsimp only; omega) (Ok.cld c (.head _) rfl (Ok.neg (by dsimp only; omega) (Ok.cld c (.head _) rfl ?_))))))))
      dsimp only
      rw [decide_eq_false (show ¬ (fq mx).1 < -1000000000 by omega)]
      unfold r15_j2
      exact Ok.neg (by simp) (Ok.pos rfl (awkt _))
  · have hc0 : rcs (cs p) ≠ [] := fun h => h0 (hpc h)
    obtain ⟨m, hm, rfl⟩ := hx.2 h0
    obtain ⟨mx, hmx, rfl⟩ := hy.2 hc0
    have hpos := List.length_pos_iff.2 hc0
    have hpos1 := List.length_pos_iff.2 h0
    have hmq : qb 48000000 10000 mx := by
      obtain ⟨⟨z, hz, e⟩, _⟩ := hmx
      rw [← e]; exact atq_qb (by omega) (by omega) (hqp z hz)
    have hmq' := hmq
    obtain ⟨q1, q2, q3⟩ := hmq'
    have q0 := fq_pos mx
    refine Ok.pos (by simp; omega) (Ok.pos (by simp; omega) (Ok.pos rfl ?_))
    dsimp only
    rw [decide_eq_false (show ¬ ((0 : Int) ≠ 0) by decide)]
    unfold r15_j0
    refine Ok.neg (by simp) (Ok.neg (by simp) (Ok.cld c (.head _) rfl (Ok.neg (by dsimp only; omega) (Ok.cld c (.head _) rfl (Ok.neg (by dsimp only; omega) (Ok.cld c (.head _) rfl (Ok.neg (by dsimp only; omega) (Ok.cld c (.head _) rfl ?_))))))))
    dsimp only
    rw [decide_eq_false (show ¬ (fq mx).1 < -1000000000 by omega)]
    unfold r15_j2
    refine Ok.neg (by simp) (Ok.neg (by decide) (Ok.cld c (.head _) rfl (Ok.cld c (.head _) rfl (Ok.own (r61_q hmq (by decide) (by decide)) fun _ => ?_))))
    obtain ⟨⟨x0, hx0, ex0⟩, _⟩ := hm
    have bd := sum_bd h9 (hnr _ hx0)
    have hle : m ≤ mx.floor := by
      refine Rat.le_floor_iff.2 ?_
      obtain ⟨d, hd, hle⟩ := lp hp (pts_in15 hx0) a b
      have h2 := hmx.2 d.1 (mem_rcs.2 ⟨d, hd, rfl⟩)
      have h3 : ((m : Int) : Rat) = atq a b ((x0.1 : Rat), (x0.2 : Rat)) := by
        rw [← ex0]
        unfold sumI atq
        rw [Rat.intCast_add, Rat.intCast_mul, Rat.intCast_mul]
      rw [h3]
      grind
    exact Ok.pos hle (Ok.pos (by omega) (awkt _))
theorem lawCall15 (H : Hp) (xs : List AV) (_ : NoOwn H) (h : RdAs H [.sl (.pair (.int .i64) (.pair (.int .i64) (.pair (.int .i64) .unit))), .int .i64, .int .i64] xs) : ∃ H1, CallSim Try.prog 15 xs H (.bool true) H1 := by
  obtain ⟨x, _, rfl, hx, z, _, rfl, hz, w, _, rfl, hw, rfl⟩ := h
  obtain ⟨v, l, rfl, hv, hb⟩ := rd_sl (enc_pair enc_int (enc_pair enc_int (enc_unit enc_int))) hx
  obtain ⟨n, hn, _⟩ := hz
  injection hn with hn
  subst hn
  obtain ⟨m, hm, _⟩ := hw
  injection hm with hm
  subst hm
  obtain ⟨r, H1, h1, rfl⟩ := lessLaw hv (by unfold maxLen at hb; omega) n m
  exact ⟨H1, sim15 (happ := appASim 20) h1⟩
end Go.Lt.P2
