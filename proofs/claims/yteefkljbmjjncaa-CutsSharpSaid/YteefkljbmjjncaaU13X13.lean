/- PLAIN LAWS OF WHAT IS COMPUTED, for the statement 'CutsSharp'. Nothing is asked of the input. -/
import Derived.Test.YteefkljbmjjncaaU13XWm
import Derived.Test.YteefkljbmjjncaaU13XTk
import Derived.Test.YteefkljbmjjncaaLB
set_option linter.unusedVariables false
set_option linter.unusedSimpArgs false
namespace Go.Lt.P2
open Go Go.Lt Go.Proofs
theorem sharpLaw {H : Hp} {v : Sl} {p : List Sd} (hv : SL H v p) (hb : p.length < 9223372036854775808) (x : Pa) : Ok (r13 (appA 20) v x.1.1 x.1.2 x.2.1 x.2.2 H) fun r _ => r = true := by
  unfold r13
  have l1 : (p.take 9).length ≤ 1000 := by rw [List.length_take]; omega
  have awkt : ∀ (X : Hp), Ok ((appA 20 21 [] X).bind fun p => (p.1.asB).bind fun x => some (x, p.2)) fun r _ => r = true := fun X => Ok.ld (awk 20 _) (Ok.ld rfl (Ok.ret rfl))
  refine Ok.box (.nil H) fun A gA c => Ok.bind (r18_ok (hv.gr gA) hb) fun w B ⟨gB, hw⟩ => Ok.bind (r51_ok (k := 18) hw l1) fun y C ⟨gC, hy⟩ => ?_
  have c := c.gr (gB.trans gC)
  by_cases hp : plateP p
  case neg =>
    rw [if_neg (fun q => hp (plate_take.1 q))] at hy
    subst hy
    unfold r13_j0
    exact Ok.pos (by simp) (Ok.pos rfl (Ok.pos rfl (awkt _)))
  rw [plate_eq hp, if_pos hp] at hy
  have h6 := hp.1.2
  have hsd := hp.2.1
  refine Ok.neg (by rw [hy.2]; decide) (Ok.bind (r19_ok (hv.gr c.g)) fun z D ⟨gD, hz⟩ => ?_)
  subst hz
  rw [decide_eq_true hp]
  have c := c.gr gD
  refine Ok.pos rfl (Ok.cld c (.head _) rfl (Ok.cld c (.head _) rfl (Ok.cld c (.head _) rfl (Ok.cld c (.head _) rfl (Ok.own r20_ok fun _ => ?_)))))
  unfold r13_j0
  by_cases hx : ptP x
  case neg =>
    rw [decide_eq_false hx]
    refine Ok.pos rfl (Ok.neg (by rw [hy.2]; decide) (Ok.pos hy.2 (Ok.cld c (.head _) rfl (Ok.cld c (.head _) rfl (Ok.cld c (.head _) rfl (Ok.cld c (.head _) rfl (Ok.own r20_ok fun _ => ?_)))))))
    rw [decide_eq_false hx]
    exact Ok.neg (by simp) (awkt _)
  rw [decide_eq_true hx]
  have hsl := hy.1.gr gD
  have hlen := hsl.len
  have hrl : (rcs (cs p)).length ≤ 15 := Nat.le_trans (rcs_len _) (cs_len15 h6)
  refine Ok.neg (by simp) ?_
  dsimp only
  rw [hlen]
  refine Ok.loop (L := fun K (s : Int) H2 => r13_l1 (appA 20) K v H.n y.1 (rcs (cs p)).length s H2) (fun m s H' => Cx H H' [(H.n, [.int .i64 x.1.1, .int .i64 x.1.2, .int .i64 x.2.1, .int .i64 x.2.2])] ∧ Gr D H' ∧ ∃ i : Nat, s = i ∧ i + m = (rcs (cs p)).length ∧ ∀ u ∈ (rcs (cs p)).take i, (fq u.1).2 = 1 ∧ (fq u.2).2 = 1) ?_ FUEL (rcs (cs p)).length 0 D (by unfold FUEL; omega) ⟨c, .refl _, 0, rfl, by omega, by simp⟩
  rintro K m s H1 ⟨c, gD1, i, rfl, hm, ht⟩ ih
  try dsimp only at *
  rw [r13_l1]
  by_cases h : i < (rcs (cs p)).length
  · have hg := hsl.gr gD1
    have e2 := List.take_succ_eq_append_getElem h
    have l0 := hg.ldI (i := i) (j := 0) h rfl
    have l1 := hg.ldI (i := i) (j := 1) h rfl
    have l2 := hg.ldI (i := i) (j := 2) h rfl
    have l3 := hg.ldI (i := i) (j := 3) h rfl
    generalize (rcs (cs p))[i] = u at *
    refine Ok.pos (by omega) (Ok.ck (by omega) (Ok.ld l0 (Ok.ld l1 (Ok.ld l2 (Ok.ld l3 (Ok.alo c fun E gE c => Ok.cld c (.head _) rfl ?_))))))
    refine Ok.ite (fun k => ?_) fun k1 => Ok.cld c (.head _) rfl ?_
    · unfold r13_j2
      exact Ok.pos rfl (awkt _)
    · unfold r13_j2
      refine Ok.ite (fun k => awkt _) fun k2 => ?_
      rw [w64_succ (by omega)]
      refine ih (m - 1) _ E (by omega) ⟨c.weak (.cons _ (.refl _)), gD1.trans gE, i + 1, rfl, by omega, fun w hw => ?_⟩
      rw [e2] at hw
      rcases List.mem_append.1 hw with hw | hw
      · exact ht w hw
      · rw [List.mem_singleton] at hw; subst hw
        exact ⟨Classical.byContradiction fun q => k1 q, Classical.byContradiction fun q => k2 (decide_eq_true q)⟩
  · rw [List.take_of_length_le (by omega)] at ht
    have hwh : ∀ d ∈ cs p, (fq d.1.1).2 = 1 ∧ (fq d.1.2).2 = 1 := fun d hd => ht d.1 (mem_rcs.2 ⟨d, hd, rfl⟩)
    have hvl := hv.len
    refine Ok.neg (by omega) ?_
    rw [hvl]
    have hx' := hx
    unfold ptP frP at hx'
    clear ih
    refine Ok.loop (L := fun K (s : Bool × Int) H2 => r13_l3 (appA 20) K v H.n s.1 v p.length s.2 H2) (fun m s H' => Cx H H' [(H.n, [.int .i64 x.1.1, .int .i64 x.1.2, .int .i64 x.2.1, .int .i64 x.2.2])] ∧ ∃ i : Nat, s.2 = i ∧ i + m = p.length ∧ (s.1 = true ↔ ∀ u ∈ p.take i, lqs u (paq x))) ?_ FUEL p.length (true, 0) H1 (by unfold FUEL; omega) ⟨c, 0, rfl, by omega, by simp⟩
    rintro K' m' ⟨fl, s'⟩ H2 ⟨c, j, rfl, hm', hfl⟩ ih
    try dsimp only at *
    rw [r13_l3]
    by_cases h3 : j < p.length
    · have hg := hv.gr c.g
      have hsj := hsd _ (List.getElem_mem h3)
      have e2 := List.take_succ_eq_append_getElem h3
      have l0 := hg.ldI (i := j) (j := 0) h3 rfl
      have l1 := hg.ldI (i := j) (j := 1) h3 rfl
      have l2 := hg.ldI (i := j) (j := 2) h3 rfl
      generalize p[j] = u at *
      unfold sideP at hsj
      refine Ok.pos (by omega) (Ok.ck (by omega) (Ok.ld l0 (Ok.ld l1 (Ok.ld l2 (Ok.alo c fun E gE c => ?_)))))
      have nxt : ∀ b : Bool, (b = true ↔ ∀ w ∈ p.take (j + 1), lqs w (paq x)) → Ok (r13_l3 (appA 20) K' v H.n b v p.length (w64 ((j : Int) + 1)) E) fun r _ => r = true := fun b hbb => by
        rw [w64_succ (by omega)]
        exact ih (m' - 1) (b, _) E (by omega) ⟨c.weak (.cons _ (.refl _)), j + 1, rfl, by omega, hbb⟩
      refine Ok.ite (fun hc => ?_) fun hc => nxt _ ⟨fun q => (by cases q), fun q => absurd (hfl.2 fun w hw => q w (by rw [e2]; exact List.mem_append_left _ hw)) hc⟩
      have hc := hfl.1 hc
      refine Ok.cld c (.head _) rfl (Ok.cld c (.tail _ (.head _)) rfl (Ok.cld c (.tail _ (.head _)) rfl (Ok.cld c (.head _) rfl (Ok.cld c (.tail _ (.head _)) rfl (Ok.cld c (.tail _ (.head _)) rfl (Ok.cld c (.head _) rfl (Ok.cld c (.tail _ (.head _)) rfl (Ok.cld c (.tail _ (.head _)) rfl ?_))))))))
      have n1 : -40000 ≤ u.1 * x.1.1 ∧ u.1 * x.1.1 ≤ 40000 := mul_bd (A := 4) (B := 10000) (by omega) (by omega) (by omega) (by omega)
      have n2 : -40000 ≤ u.2.1 * x.2.1 ∧ u.2.1 * x.2.1 ≤ 40000 := mul_bd (A := 4) (B := 10000) (by omega) (by omega) (by omega) (by omega)
      have n3 : -4000 ≤ u.2.2 * x.1.2 ∧ u.2.2 * x.1.2 ≤ 4000 := mul_bd (A := 40) (B := 100) (by omega) (by omega) (by omega) (by omega)
      have n4 : -4000000 ≤ u.1 * x.1.1 * x.2.2 ∧ u.1 * x.1.1 * x.2.2 ≤ 4000000 := mul_bd (A := 40000) (B := 100) (by omega) (by omega) (by omega) (by omega)
      have n5 : -4000000 ≤ u.2.1 * x.2.1 * x.1.2 ∧ u.2.1 * x.2.1 * x.1.2 ≤ 4000000 := mul_bd (A := 40000) (B := 100) (by omega) (by omega) (by omega) (by omega)
      have n6 : -400000 ≤ u.2.2 * x.1.2 * x.2.2 ∧ u.2.2 * x.1.2 * x.2.2 ≤ 400000 := mul_bd (A := 4000) (B := 100) (by omega) (by omega) (by omega) (by omega)
      rw [w64_id (n := u.1 * x.1.1) (by omega) (by omega), w64_id (n := u.2.1 * x.2.1) (by omega) (by omega), w64_id (n := u.2.2 * x.1.2) (by omega) (by omega), w64_id (n := u.1 * x.1.1 * x.2.2) (by omega) (by omega), w64_id (n := u.2.1 * x.2.1 * x.1.2) (by omega) (by omega), w64_id (n := u.2.2 * x.1.2 * x.2.2) (by omega) (by omega), w64_id (by omega) (by omega)]
      refine nxt _ ?_
      have e3 : lqs u (paq x) ↔ u.1 * x.1.1 * x.2.2 + u.2.1 * x.2.1 * x.1.2 ≤ u.2.2 * x.1.2 * x.2.2 := lqs_dv2 (by omega) (by omega)
      rw [decide_eq_true_iff, ← e3, e2]
      constructor
      · intro q w hw
        rcases List.mem_append.1 hw with hw | hw
        · exact hc w hw
        · rw [List.mem_singleton] at hw; subst hw; exact q
      · intro q; exact q _ (List.mem_append_right _ (List.mem_singleton_self _))
    · rw [List.take_of_length_le (by omega)] at hfl
      have cH := c
      refine Ok.neg (by omega) (Ok.bind (r18_ok (hv.gr c.g) hb) fun w5 M ⟨gM, hw5⟩ => ?_)
      have c := c.gr gM
      rw [plate_eq hp] at hw5
      refine Ok.cld c (.head _) rfl (Ok.cld c (.head _) rfl (Ok.cld c (.head _) rfl (Ok.cld c (.head _) rfl (Ok.bind (r17_ok (k := 16) (x := x) hw5 (by omega)) fun rr N ⟨gN, hr1, _⟩ => ?_))))
      have hr := hr1 ⟨hp, hx⟩
      refine Ok.cck cH (.head _) rfl (Ok.cck cH (.head _) rfl (Ok.cck cH (.head _) rfl (Ok.cck cH (.head _) rfl (Ok.pos hr.2 (Ok.pos ?_ (awkt _))))))
      have : rr.1 = true ↔ fl = true := by
        rw [hr.1, hfl]
        exact ⟨fun q => q.1, fun q => ⟨q, sharp_rnd q hwh⟩⟩
      rw [beq_iff_eq]
      exact Bool.eq_iff_iff.2 this
theorem lawCall13 (H : Hp) (xs : List AV) (_ : NoOwn H) (h : RdAs H [.sl (.pair (.int .i64) (.pair (.int .i64) (.pair (.int .i64) .unit))), .pair (.pair (.int .i64) (.pair (.int .i64) .unit)) (.pair (.pair (.int .i64) (.pair (.int .i64) .unit)) .unit)] xs) : ∃ H1, CallSim Try.prog 13 xs H (.bool true) H1 := by
  obtain ⟨x, _, rfl, hx, y, _, rfl, hy, rfl⟩ := h
  obtain ⟨v, l, rfl, hv, hb⟩ := rd_sl (enc_pair enc_int (enc_pair enc_int (enc_unit enc_int))) hx
  obtain ⟨zs, rfl, hz⟩ : ∃ zs, y = .agg zs ∧ Rd H (.pair (.pair (.int .i64) (.pair (.int .i64) .unit)) (.pair (.pair (.int .i64) (.pair (.int .i64) .unit)) .unit)) zs := hy
  obtain ⟨⟨⟨a, b⟩, c, d⟩, rfl⟩ := (enc_pair (enc_pair enc_int (enc_unit enc_int)) (enc_unit (enc_pair enc_int (enc_unit enc_int)))).2 H zs hz
  obtain ⟨r, H1, h1, rfl⟩ := sharpLaw hv (by unfold maxLen at hb; omega) ((a, b), (c, d))
  exact ⟨H1, sim13 (happ := appASim 20) h1⟩
end Go.Lt.P2
