/- PLAIN LAWS OF WHAT IS COMPUTED, for the statement 'CutsBest'. Nothing is asked of the input. -/
import Derived.Test.YteefkljbmjjncaaU14XRd
import Derived.Test.YteefkljbmjjncaaU14XTk
import Derived.Test.YteefkljbmjjncaaLB
set_option linter.unusedVariables false
set_option linter.unusedSimpArgs false
namespace Go.Lt.P2
open Go Go.Lt Go.Proofs
theorem bestLaw {H : Hp} {v : Sl} {p : List Sd} (hv : SL H v p) (hb : p.length < 9223372036854775808) (a b : Int) : Ok (r14 (appA 20) v a b H) fun r _ => r = true := by
  unfold r14
  have l1 : (p.take 9).length ≤ 1000 := by rw [List.length_take]; omega
  have awkt : ∀ (X : Hp), Ok ((appA 20 21 [] X).bind fun p => (p.1.asB).bind fun x => some (x, p.2)) fun r _ => r = true := fun X => Ok.ld (awk 20 _) (Ok.ld rfl (Ok.ret rfl))
  refine Ok.bind (r18_ok hv hb) fun w A ⟨gA, hw⟩ => Ok.bind (r42_ok (k := 18) (a := a) (b := b) hw l1) fun x B ⟨gB, hx1, hx2⟩ => ?_
  have g := gA.trans gB
  refine Ok.bind (r18_ok (hv.gr g) hb) fun w2 C ⟨gC, hw2⟩ => Ok.bind (r55_ok (k := 18) (a := a) (b := b) hw2 l1) fun y D ⟨gD, hy1, hy2⟩ => ?_
  have g := (g.trans gC).trans gD
  have c : Cx D D [] := .nil D
  refine Ok.alo c fun E gE c => Ok.bind (r19_ok (hv.gr (g.trans gE))) fun z F ⟨gF, hz⟩ => ?_
  subst hz
  have c := c.gr gF
  have g := g.trans c.g
  have bad : ¬ (plateP p ∧ near9 a b) → Ok (r14_j0 (appA 20) v a b x.1 x.2 D.n y.2.2 true F) fun r _ => r = true := fun hn => by
    have h9 : ¬ (plateP (p.take 9) ∧ near9 a b) := fun q => hn ⟨plate_take.1 q.1, q.2⟩
    have e1 := hx1 h9
    have e2 := hy1 h9
    subst e1 e2
    unfold r14_j0
    refine Ok.pos rfl (Ok.pos rfl (Ok.cld c (.head _) rfl (Ok.cld c (.head _) rfl ?_)))
    refine Ok.own (b := true) ?_ fun _ => Ok.pos rfl (Ok.pos rfl (Ok.pos rfl (awkt _)))
    unfold r58
    exact Ok.box (.nil H0) fun _ _ c => Ok.cld c (.head _) rfl (Ok.cld c (.head _) rfl (Ok.ret rfl))
  by_cases hp : plateP p
  case neg =>
    rw [decide_eq_false hp]
    exact Ok.neg (by simp) (bad fun q => hp q.1)
  rw [decide_eq_true hp]
  refine Ok.pos rfl (Ok.own r48_ok fun _ => ?_)
  by_cases h9 : near9 a b
  case neg =>
    rw [decide_eq_false h9]
    exact bad fun q => h9 q.2
  rw [decide_eq_true h9]
  rw [plate_eq hp] at hx2 hy2
  have hx := hx2 ⟨hp, h9⟩
  have hy := hy2 ⟨hp, h9⟩
  have h6 := hp.1.2
  have hpl := pts_len hp.2.1
  have hnr := pts_near hp.2.1
  have hqb := rcs_qb hp.2.1
  have hrl : (rcs (cs p)).length ≤ 15 := Nat.le_trans (rcs_len _) (cs_len15 h6)
  have h9' := h9
  unfold near9 at h9'
  unfold r14_j0
  refine Ok.neg (by simp) (Ok.bind (r25_ok (hv.gr g) (by omega) hp.2.1) fun u I ⟨gI, hu⟩ => ?_)
  have c := c.gr gI
  refine Ok.bind (r59_ok hu (by omega) hnr h9) fun s J ⟨gJ, hs1, hs2⟩ => ?_
  have c := c.gr gJ
  refine Ok.bind (r54_ok (hv.gr (g.trans (gI.trans gJ))) (by omega) hp.2.1) fun t L ⟨gL, ht⟩ => ?_
  have c := c.gr gL
  refine Ok.bind (r60_ok (a := a) (b := b) ht (by omega) hqb (by omega) (by omega)) fun q M ⟨gM, hq1, hq2⟩ => ?_
  have c := c.gr gM
  refine Ok.alo c fun N gN c => ?_
  have e1 : x = s := by
    by_cases h0 : pts p = []
    · rw [hx.1 h0, hs1 h0]
    · obtain ⟨m, hm, rfl⟩ := hx.2 h0
      obtain ⟨m', hm', rfl⟩ := hs2 h0
      rw [hm.uniq hm']
  have e2 : y = q := by
    by_cases h0 : rcs (cs p) = []
    · rw [hy.1 h0, hq1 h0]
    · obtain ⟨m, hm, rfl⟩ := hy.2 h0
      obtain ⟨m', hm', rfl⟩ := hq2 h0
      rw [hm.uniq hm']
  subst e1 e2
  refine Ok.pos rfl (Ok.pos rfl (Ok.cld c (.tail _ (.head _)) rfl (Ok.cld c (.tail _ (.head _)) rfl (Ok.cld c (.head _) rfl (Ok.cld c (.head _) rfl (Ok.pos (by simp) (Ok.pos rfl (awkt _))))))))
theorem lawCall14 (H : Hp) (xs : List AV) (_ : NoOwn H) (h : RdAs H [.sl (.pair (.int .i64) (.pair (.int .i64) (.pair (.int .i64) .unit))), .int .i64, .int .i64] xs) : ∃ H1, CallSim Try.prog 14 xs H (.bool true) H1 := by
  obtain ⟨x, _, rfl, hx, z, _, rfl, hz, w, _, rfl, hw, rfl⟩ := h
  obtain ⟨v, l, rfl, hv, hb⟩ := rd_sl (enc_pair enc_int (enc_pair enc_int (enc_unit enc_int))) hx
  obtain ⟨n, hn, _⟩ := hz
  injection hn with hn
  subst hn
  obtain ⟨m, hm, _⟩ := hw
  injection hm with hm
  subst hm
  obtain ⟨r, H1, h1, rfl⟩ := bestLaw hv (by unfold maxLen at hb; omega) n m
  exact ⟨H1, sim14 (happ := appASim 20) h1⟩
end Go.Lt.P2
