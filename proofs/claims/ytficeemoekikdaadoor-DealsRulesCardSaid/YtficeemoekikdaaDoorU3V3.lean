/- PLAIN LAWS OF WHAT IS COMPUTED, for the statement 'DealsRules'. Nothing is asked of the input. -/
import Derived.Test.YtficeemoekikdaaDoorU3VOf
import Derived.Test.YtficeemoekikdaaDoorLB
set_option linter.unusedVariables false
set_option linter.unusedSimpArgs false
namespace Go.Lt.P5
open Go Go.Lt Go.Proofs
theorem take11 {l : List Pr} (ho : offP l) : l.take 11 = l := List.take_of_length_le (by have := ho.2.1; omega)
theorem rulesLaw {H : Hp} {v : Sl} {l : List Pr} (hv : SL H v l) (hb : l.length < 9223372036854775808) (d : Pr) : Ok (r3 (appA 20) v d.1 d.2 H) fun r _ => r = true := by
  have awkt : ∀ (X : Hp), Ok ((appA 20 11 [] X).bind fun p => (p.1.asB).bind fun x => some (x, p.2)) fun r _ => r = true := fun X => ⟨true, X, rfl, rfl⟩
  have ht : (l.take 11).length ≤ 1000 := by rw [List.length_take]; omega
  unfold r3
  refine Ok.box (.nil H) fun A gA c => ?_
  have cA := c
  refine Ok.bind (r5_ok (hv.gr gA) hb) fun w B ⟨gB, hw, _⟩ => ?_
  have c := c.gr gB
  refine Ok.cld c (.head _) rfl (Ok.cld c (.head _) rfl (Ok.bind (r4_ok (k := 17) hw ht) fun r1 C ⟨gC, h1⟩ => ?_))
  have c := c.gr gC
  refine Ok.alo c fun D gD c => ?_
  have cD := c
  refine Ok.cck cA (.head _) rfl (Ok.cck cA (.head _) rfl ?_)
  refine Ok.bind (r5_ok (hv.gr c.g) hb) fun w2 E ⟨gE, hw2, _⟩ => ?_
  have c := c.gr gE
  refine Ok.cld c (.tail _ (.head _)) rfl (Ok.cld c (.tail _ (.head _)) rfl (Ok.bind (r6_ok (k := 18) hw2 ht) fun r2 F ⟨gF, h2⟩ => ?_))
  have c := c.gr gF
  refine Ok.alo c fun G gG c => ?_
  have cG := c
  refine Ok.cck cD (.tail _ (.head _)) rfl (Ok.cck cD (.tail _ (.head _)) rfl ?_)
  refine Ok.bind (r5_ok (hv.gr c.g) hb) fun w3 I ⟨gI, hw3, _⟩ => ?_
  have c := c.gr gI
  refine Ok.cld c (.tail _ (.tail _ (.head _))) rfl (Ok.cld c (.tail _ (.tail _ (.head _))) rfl (Ok.bind (r7_ok (k := 18) hw3 ht) fun r3' J ⟨gJ, h3⟩ => ?_))
  have c := c.gr gJ
  refine Ok.alo c fun M gM c => ?_
  refine Ok.cck cG (.tail _ (.tail _ (.head _))) rfl (Ok.cck cG (.tail _ (.tail _ (.head _))) rfl ?_)
  refine Ok.bind (r8_ok (hv.gr c.g) hb) fun o N ⟨gN, ho⟩ => ?_
  have c := c.gr gN
  subst ho
  have bad : ∀ (e : Int) {X : Hp}, r1 = (0, 0, 0, 0, e) → r2 = (0, 0, 0, 0, e) → r3' = (0, 0, 0, 0, e) → Cx H X [(J.n, [.int .i64 r3'.1, .int .i64 r3'.2.1, .int .i64 r3'.2.2.1, .int .i64 r3'.2.2.2.1]), (F.n, [.int .i64 r2.1, .int .i64 r2.2.1, .int .i64 r2.2.2.1, .int .i64 r2.2.2.2.1]), (C.n, [.int .i64 r1.1, .int .i64 r1.2.1, .int .i64 r1.2.2.1, .int .i64 r1.2.2.2.1]), (H.n, [.int .i64 d.1, .int .i64 d.2])] →
      Ok (r3_j2 (appA 20) C.n e F.n e J.n e e X) fun r _ => r = true := fun e X e1 e2 e3 c => by
    subst e1 e2 e3
    unfold r3_j2
    refine Ok.cld c (.tail _ (.tail _ (.head _))) rfl (Ok.cld c (.tail _ (.tail _ (.head _))) rfl (Ok.cld c (.tail _ (.tail _ (.head _))) rfl (Ok.cld c (.tail _ (.tail _ (.head _))) rfl (Ok.pos rfl ?_))))
    refine Ok.cld c (.tail _ (.head _)) rfl (Ok.cld c (.tail _ (.head _)) rfl (Ok.cld c (.tail _ (.head _)) rfl (Ok.cld c (.tail _ (.head _)) rfl (Ok.pos rfl ?_))))
    refine Ok.cld c (.head _) rfl (Ok.cld c (.head _) rfl (Ok.cld c (.head _) rfl (Ok.cld c (.head _) rfl (Ok.pos rfl ?_))))
    exact Ok.pos rfl (Ok.pos rfl (Ok.pos rfl (awkt _)))
  by_cases hok : offP l ∧ num d
  case neg =>
    have no : ∀ {P : Rat × Rat → Prop} {r}, RuleP P (l.take 11) d r → r = (0, 0, 0, 0, 2) := fun h => by
      rcases h with ⟨a, b, _⟩ | ⟨a, b, _⟩ | ⟨_, h⟩
      · exact absurd ⟨(off11 l).1 a, b⟩ hok
      · exact absurd ⟨(off11 l).1 a, b⟩ hok
      · exact h
    have e1 := no h1
    have e2 := no h2
    have e3 := no h3
    have fin : Ok (r3_j1 (appA 20) v H.n C.n r1.2.2.2.2 F.n r2.2.2.2.2 J.n r3'.2.2.2.2 false N) fun r _ => r = true := by
      unfold r3_j1
      refine Ok.neg (by simp) ?_
      unfold r3_j0
      refine Ok.pos rfl (Ok.neg (by simp) ?_)
      have := bad 2 e1 e2 e3 c
      have f1 : r1.2.2.2.2 = 2 := by rw [e1]
      have f2 : r2.2.2.2.2 = 2 := by rw [e2]
      have f3 : r3'.2.2.2.2 = 2 := by rw [e3]
      rw [f1, f2, f3]
      exact this
    by_cases ho : offP l
    · rw [decide_eq_true ho]
      obtain ⟨X, hX⟩ := r9_spec d.1 d.2 H0
      refine Ok.pos rfl (Ok.cld c (.tail _ (.tail _ (.tail _ (.head _)))) rfl (Ok.cld c (.tail _ (.tail _ (.tail _ (.head _)))) rfl (Ok.ld hX ?_)))
      dsimp only
      rw [decide_eq_false (show ¬ num (d.1, d.2) from fun q => hok ⟨ho, q⟩)]
      exact fin
    · rw [decide_eq_false ho]
      exact Ok.neg (by simp) fin
  obtain ⟨ho, hd⟩ := hok
  have h8 := ho.2.1
  rw [take11 ho] at h1 h2 h3
  rw [decide_eq_true ho]
  obtain ⟨X, hX⟩ := r9_spec d.1 d.2 H0
  refine Ok.pos rfl (Ok.cld c (.tail _ (.tail _ (.tail _ (.head _)))) rfl (Ok.cld c (.tail _ (.tail _ (.tail _ (.head _)))) rfl (Ok.ld hX ?_)))
  dsimp only
  rw [decide_eq_true (show num (d.1, d.2) from hd)]
  unfold r3_j1
  refine Ok.pos rfl (Ok.cld c (.tail _ (.tail _ (.tail _ (.head _)))) rfl (Ok.cld c (.tail _ (.tail _ (.tail _ (.head _)))) rfl (Ok.bind (r10_ok (d := d) (hv.gr c.g) ho hd) fun b O ⟨gO, hb'⟩ => ?_)))
  have c := c.gr gO
  unfold r3_j0
  by_cases hrm : roomP l d
  case neg =>
    have no : ∀ {P : Rat × Rat → Prop} {r}, RuleP P l d r → r = (0, 0, 0, 0, 4) := fun h => by
      rcases h with ⟨_, _, a, _⟩ | ⟨_, _, _, h⟩ | ⟨a, _⟩
      · exact absurd a hrm
      · exact h
      · exact absurd ⟨ho, hd⟩ a
    have e1 := no h1
    have e2 := no h2
    have e3 := no h3
    have hbf : b = false := by cases b with | false => rfl | true => exact absurd (hb'.1 rfl) hrm
    subst hbf
    refine Ok.pos rfl (Ok.pos rfl ?_)
    have := bad 4 e1 e2 e3 c
    have f1 : r1.2.2.2.2 = 4 := by rw [e1]
    have f2 : r2.2.2.2.2 = 4 := by rw [e2]
    have f3 : r3'.2.2.2.2 = 4 := by rw [e3]
    rw [f1, f2, f3]
    exact this
  have hbt : b = true := hb'.2 hrm
  subst hbt
  have yes : ∀ {P : Rat × Rat → Prop} {r}, RuleP P l d r → ∃ p, P p ∧ r = pte p 0 := fun h => by
    rcases h with ⟨_, _, _, p, a, _, h⟩ | ⟨_, _, a, _⟩ | ⟨a, _⟩
    · exact ⟨p, a, h⟩
    · exact absurd hrm a
    · exact absurd ⟨ho, hd⟩ a
  obtain ⟨p1, ⟨q1, _⟩, e1⟩ := yes h1
  obtain ⟨p2, q2, e2⟩ := yes h2
  obtain ⟨p3, q3, e3⟩ := yes h3
  subst e1 e2 e3
  have same : ∀ p : Rat × Rat, ((((pt p).1 == (pt p).1) && ((pt p).2.1 == (pt p).2.1)) && (((pt p).2.2.1 == (pt p).2.2.1) && ((pt p).2.2.2 == (pt p).2.2.2))) = true := fun p => by simp
  refine Ok.neg (by simp) (Ok.cld c (.tail _ (.tail _ (.head _))) rfl (Ok.cld c (.tail _ (.tail _ (.head _))) rfl (Ok.cld c (.tail _ (.tail _ (.head _))) rfl (Ok.cld c (.tail _ (.tail _ (.head _))) rfl (Ok.own (own_id _ _ _ _ H0) fun X => ?_)))))
  refine Ok.cld c (.tail _ (.tail _ (.tail _ (.head _)))) rfl (Ok.cld c (.tail _ (.tail _ (.tail _ (.head _)))) rfl (Ok.bind (r13_ok (d := d) (hv.gr c.g) ho hd hrm) fun s1 Q ⟨gQ, t1, z1, hs1⟩ => ?_))
  have c := c.gr gQ
  subst hs1
  rw [z1.uniq q1]
  refine Ok.pos (same p1) ?_
  refine Ok.cld c (.tail _ (.head _)) rfl (Ok.cld c (.tail _ (.head _)) rfl (Ok.cld c (.tail _ (.head _)) rfl (Ok.cld c (.tail _ (.head _)) rfl (Ok.own (own_id _ _ _ _ H0) fun X => ?_))))
  refine Ok.cld c (.tail _ (.tail _ (.tail _ (.head _)))) rfl (Ok.cld c (.tail _ (.tail _ (.tail _ (.head _)))) rfl (Ok.bind (r14_ok (d := d) (hv.gr c.g) ho hd hrm) fun s1 R ⟨gR, t1, z1, hs1⟩ => ?_))
  have c := c.gr gR
  subst hs1
  rw [z1.uniq q2]
  refine Ok.pos (same p2) ?_
  refine Ok.cld c (.head _) rfl (Ok.cld c (.head _) rfl (Ok.cld c (.head _) rfl (Ok.cld c (.head _) rfl (Ok.own (own_id _ _ _ _ H0) fun X => ?_))))
  refine Ok.cld c (.tail _ (.tail _ (.tail _ (.head _)))) rfl (Ok.cld c (.tail _ (.tail _ (.tail _ (.head _)))) rfl (Ok.bind (r15_ok (d := d) (hv.gr c.g) ho hd hrm) fun s1 S ⟨gS, t1, z1, hs1⟩ => ?_))
  subst hs1
  rw [z1.uniq q3]
  exact Ok.pos (same p3) (Ok.pos rfl (Ok.pos rfl (Ok.pos rfl (awkt _))))
theorem lawCall3 (H : Hp) (xs : List AV) (_ : NoOwn H) (h : RdAs H [.sl (.rep 2 (.int .i64)), .rep 2 (.int .i64)] xs) : ∃ H1, CallSim Tryd.prog 3 xs H (.bool true) H1 := by
  obtain ⟨x, _, rfl, hx, y, _, rfl, hy, rfl⟩ := h
  obtain ⟨v, l, rfl, hv, hb⟩ := rd_sl (enc_rep2 enc_int) hx
  obtain ⟨ys, rfl, hy⟩ : ∃ ys, y = .agg ys ∧ Rd H (.rep 2 (.int .i64)) ys := hy
  obtain ⟨⟨a, b⟩, rfl⟩ := (enc_rep2 enc_int).2 H ys hy
  obtain ⟨r, H1, h1, rfl⟩ := rulesLaw hv (by unfold maxLen at hb; omega) (a, b)
  exact ⟨H1, sim3 (happ := appASim 20) h1⟩
end Go.Lt.P5
