/- PLAIN LAWS OF WHAT IS COMPUTED, for the statement 'DealsMore'. Nothing is asked of the input. -/
import Derived.Test.YtficeemoekikdaaU10VMo
import Derived.Test.YtficeemoekikdaaLB
set_option linter.unusedVariables false
set_option linter.unusedSimpArgs false
namespace Go.Lt.P5
open Go Go.Lt Go.Proofs
theorem awakeM (k : Nat) (H : Hp) : appA k 19 [] H = some (.bool true, H) := rfl
theorem moreLaw {H : Hp} {v : Sl} {l : List Pr} (hv : SL H v l) (hb : l.length < 9223372036854775808) (d more : Pr) : Ok (r10 (appA 20) v d.1 d.2 more.1 more.2 H) fun r _ => r = true := by
  unfold r10
  refine Ok.box2 (.nil H) fun A gA c => Ok.cld c (.tail _ (.head _)) rfl (Ok.cld c (.tail _ (.head _)) rfl (Ok.bind (r39_ok (k := 17) (d := d) (hv.gr gA) hb) fun r B ⟨gB, hr⟩ => ?_))
  have c := c.gr gB
  rcases hr with ⟨ho, hd, hrm, p, b, h, hp, hpd, hbt, hh, hpb, hbb, hhb, rfl⟩ | ⟨hno, rfl⟩
  · refine Ok.alo c fun C gC c => Ok.pos rfl ?_
    have c : Cx H C [(B.n, pt12 p b h), ((H.push (.cells [.int .i64 d.1, .int .i64 d.2] false)).n, pc more), (H.n, pc d)] := c
    show Ok (r10_j0 (appA 20) v H.n ((H.push (.cells [.int .i64 d.1, .int .i64 d.2] false)).n) B.n true false C) _
    unfold r10_j0
    have cC := c
    have h8 := ho.2.1
    refine Ok.neg (by simp) (Ok.bind (r24_acc (hv.gr c.g) ho) fun w D ⟨gD, hw⟩ => ?_)
    have c := c.gr gD
    refine Ok.cld c (.tail _ (.head _)) rfl (Ok.cld c (.tail _ (.head _)) rfl (Ok.bind (hw.push gD more rfl rfl (by omega)) fun m E ⟨hm, gE, _⟩ => ?_))
    have c := cC.gr gE
    have cE := c
    refine Ok.cck cC (.tail _ (.head _)) rfl (Ok.cck cC (.tail _ (.head _)) rfl ?_)
    have hms := hm.sl
    have hml : (l ++ [more]).length ≤ 9 := by simp; omega
    show Ok ((cloneR 2 m E).bind _) _
    refine Ok.bind (clone_ok hms (by omega) rfl) fun u F ⟨gF, hu, _⟩ => ?_
    have c := c.gr gF
    refine Ok.cld c (.tail _ (.tail _ (.head _))) rfl (Ok.cld c (.tail _ (.tail _ (.head _))) rfl (Ok.bind (r40_ok (k := 18) (d := d) hu (by omega)) fun q G ⟨gG, hq⟩ => ?_))
    have c := c.gr gG
    refine Ok.alo c fun I gI c => Ok.cck cE (.tail _ (.tail _ (.head _))) rfl (Ok.cck cE (.tail _ (.tail _ (.head _))) rfl ?_)
    refine Ok.bind (r26_ok (hms.gr (gF.trans (gG.trans gI))) (by omega)) fun o J ⟨gJ, hoo⟩ => ?_
    subst hoo
    have c := c.gr gJ
    by_cases hom : offP (l ++ [more])
    · rw [decide_eq_true hom]
      have hsub : ∀ o ∈ l, o ∈ l ++ [more] := fun o ho => List.mem_append_left _ ho
      have hroom : roomP (l ++ [more]) d := by
        obtain ⟨x, y, h1, h2⟩ := hrm
        exact ⟨x, y, h1.sub hsub, h2⟩
      rcases hq with ⟨_, _, _, q, hq, hqb, rfl⟩ | ⟨_, _, hno, _⟩ | ⟨hno, _⟩
      · have hle := hh.le hsub hq
        have c : Cx H J [(G.n, bst4 (some q)), (B.n, pt12 p b h), ((H.push (.cells [.int .i64 d.1, .int .i64 d.2] false)).n, pc more), (H.n, pc d)] := c
        refine Ok.pos rfl (Ok.pos rfl ?_)
        repeat (refine Ok.cld c (.head _) rfl ?_)
        refine Ok.bind (r42_ok hqb J) fun x M ⟨gM, hx⟩ => ?_
        subst hx
        have c := c.gr gM
        obtain ⟨q1, q2⟩ := qb_bd hqb
        obtain ⟨h1, h2⟩ := qb_bd hhb
        refine Ok.pos rfl (Ok.cld c (.head _) rfl (Ok.cld c (.head _) rfl (Ok.cld c (.tail _ (.head _)) rfl (Ok.cld c (.tail _ (.head _)) rfl (Ok.own (r22_q q1 h1 (by decide) (by decide)) fun X => ?_)))))
        rw [decide_eq_false (show ¬ q.1 < h.1 by have := hle.1; grind)]
        refine Ok.neg (by simp) (Ok.cld c (.head _) rfl (Ok.cld c (.head _) rfl (Ok.cld c (.tail _ (.head _)) rfl (Ok.cld c (.tail _ (.head _)) rfl (Ok.own (r22_q q2 h2 (by decide) (by decide)) fun X => ?_)))))
        rw [decide_eq_false (show ¬ q.2 < h.2 by have := hle.2; grind)]
        exact Ok.neg (by simp) (Ok.ld (awakeM 20 _) (Ok.ld rfl (Ok.ret rfl)))
      · exact absurd hroom hno
      · exact absurd ⟨hom, hd⟩ hno
    · rw [decide_eq_false hom]
      rcases hq with ⟨q1, _⟩ | ⟨q1, _⟩ | ⟨_, rfl⟩
      · exact absurd q1 hom
      · exact absurd q1 hom
      · exact Ok.neg (by simp) (Ok.pos rfl (Ok.ld (awakeM 20 _) (Ok.ld rfl (Ok.ret rfl))))
  · refine Ok.alo c fun C gC c => Ok.pos rfl ?_
    show Ok (r10_j0 (appA 20) v H.n ((H.push (.cells [.int .i64 d.1, .int .i64 d.2] false)).n) B.n true true C) _
    unfold r10_j0
    exact Ok.pos rfl (Ok.pos rfl (Ok.ld (awakeM 20 _) (Ok.ld rfl (Ok.ret rfl))))
theorem lawCall10 (H : Hp) (xs : List AV) (_ : NoOwn H) (h : RdAs H [.sl (.rep 2 (.int .i64)), .rep 2 (.int .i64), .rep 2 (.int .i64)] xs) : ∃ H1, CallSim Try.prog 10 xs H (.bool true) H1 := by
  obtain ⟨x, _, rfl, hx, y, _, rfl, hy, z, _, rfl, hz, rfl⟩ := h
  obtain ⟨v, l, rfl, hv, hb⟩ := rd_sl (enc_rep2 enc_int) hx
  obtain ⟨ys, rfl, hy⟩ : ∃ ys, y = .agg ys ∧ Rd H (.rep 2 (.int .i64)) ys := hy
  obtain ⟨⟨a, b⟩, rfl⟩ := (enc_rep2 enc_int).2 H ys hy
  obtain ⟨zs, rfl, hz⟩ : ∃ ys, z = .agg ys ∧ Rd H (.rep 2 (.int .i64)) ys := hz
  obtain ⟨⟨a', b'⟩, rfl⟩ := (enc_rep2 enc_int).2 H zs hz
  obtain ⟨r, H1, h1, rfl⟩ := moreLaw hv (by unfold maxLen at hb; omega) (a, b) (a', b')
  exact ⟨H1, sim10 (happ := appASim 20) h1⟩
end Go.Lt.P5
