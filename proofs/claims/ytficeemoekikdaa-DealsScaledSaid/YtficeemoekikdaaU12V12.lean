/- PLAIN LAWS OF WHAT IS COMPUTED, for the statement 'DealsScaled'. Nothing is asked of the input. -/
import Derived.Test.YtficeemoekikdaaU12VQf
import Derived.Test.YtficeemoekikdaaLB
set_option linter.unusedVariables false
set_option linter.unusedSimpArgs false
namespace Go.Lt.P5
open Go Go.Lt Go.Proofs
theorem awakeS (k : Nat) (H : Hp) : appA k 19 [] H = some (.bool true, H) := rfl
/-- scaled -/
theorem r45_q {p : Rat × Rat} {a b : Int} (hp : bdP p) (ha : 1 ≤ a ∧ a ≤ 30) (hb : 1 ≤ b ∧ b ≤ 30) : Ok (r45 (fq p.1).1 (fq p.1).2 (fq p.2).1 (fq p.2).2 a b H0) fun r _ => r = pt (p.1 * a, p.2 * b) := by
  obtain ⟨⟨a1, a2, a3⟩, b1, b2, b3⟩ := hp
  have a0 := fq_pos p.1
  have b0 := fq_pos p.2
  have m1 := mul_bd (A := 3000000000) (B := 30) (x := (fq p.1).1) (y := a) (by omega) (by omega) (by omega) (by omega)
  have m2 := mul_bd (A := 3000000000) (B := 30) (x := (fq p.2).1) (y := b) (by omega) (by omega) (by omega) (by omega)
  have e : ∀ (q : Rat) (c : Int), dv ((fq q).1 * c) (fq q).2 = q * c := fun q c => by
    have := dv_mul (a := (fq q).1) (b := (fq q).2) (c := c) (d := 1) (fq_pos q) (by decide)
    rw [Int.mul_one, dv_fq, dv_int] at this
    exact this
  unfold r45
  refine Ok.box2 (.nil H0) fun A gA c => Ok.cld c (.tail _ (.head _)) rfl (Ok.cld c (.tail _ (.head _)) rfl ?_)
  rw [w64_id (by omega) (by omega)]
  refine Ok.own (r43_q (by omega) a0 (by omega) H0) fun X => ?_
  rw [e]
  refine Ok.cld c (.tail _ (.head _)) rfl (Ok.cld c (.tail _ (.head _)) rfl ?_)
  rw [w64_id (by omega) (by omega)]
  refine Ok.own (r43_q (by omega) b0 (by omega) H0) fun X => ?_
  rw [e]
  exact Ok.cst c 0 rfl rfl fun B _ _ c => Ok.cld c (.head _) rfl (Ok.cld c (.head _) rfl (Ok.cld c (.head _) rfl (Ok.cld c (.head _) rfl (Ok.ret rfl))))
theorem fin12 {a b : Int} {v3 v5 : Nat} {th : Bool} {HH H : Hp} {E : List (Nat × List AV)} {p q h p' q' h' : Rat × Rat} (hp : bdP p) (hq : bdP q) (ha : 1 ≤ a ∧ a ≤ 30) (hb : 1 ≤ b ∧ b ≤ 30) (hth : th = true → p' = (p.1 * a, p.2 * b) ∧ q' = (q.1 * a, q.2 * b)) (c : Cx HH H ((v5, pt12 p' q' h') :: (v3, pt12 p q h) :: E)) :
    Ok (r12_j1 (appA 20) a b v3 th v5 false H) fun r _ => r = true := by
  unfold r12_j1
  refine Ok.neg (by simp) ?_
  cases th with
  | false => exact Ok.neg (by simp) (Ok.ld (awakeS 20 _) (Ok.ld rfl (Ok.ret rfl)))
  | true =>
    obtain ⟨rfl, rfl⟩ := hth rfl
    refine Ok.pos rfl ?_
    repeat (refine Ok.cld c (.tail _ (.head _)) rfl ?_)
    refine Ok.own (r45_q hp ha hb) fun X => ?_
    repeat (refine Ok.cld c (.head _) rfl ?_)
    refine Ok.pos (by simp [pt]) ?_
    repeat (refine Ok.cld c (.tail _ (.head _)) rfl ?_)
    refine Ok.own (r45_q hq ha hb) fun X => ?_
    repeat (refine Ok.cld c (.head _) rfl ?_)
    exact Ok.pos (by simp [pt]) (Ok.ld (awakeS 20 _) (Ok.ld rfl (Ok.ret rfl)))
theorem fin12z {a b : Int} {v3 v5 : Nat} {H : Hp} : Ok (r12_j1 (appA 20) a b v3 false v5 false H) fun r _ => r = true := by
  unfold r12_j1
  exact Ok.neg (by simp) (Ok.neg (by simp) (Ok.ld (awakeS 20 _) (Ok.ld rfl (Ok.ret rfl))))
theorem scaledLaw {H : Hp} {v : Sl} {l : List Pr} (hv : SL H v l) (hb : l.length < 9223372036854775808) (d : Pr) (a b : Int) : Ok (r12 (appA 20) v d.1 d.2 a b H) fun r _ => r = true := by
  unfold r12
  have ht : (l.take 11).length ≤ 1000 := by rw [List.length_take]; omega
  refine Ok.box (.nil H) fun A gA c => Ok.bind (r24_ok (hv.gr gA) hb) fun w B ⟨gB, hw, _⟩ => ?_
  have c := c.gr gB
  refine Ok.bind (r33_ok 19 hw ht a b) fun r C ⟨gC, hr⟩ => ?_
  have c := c.gr gC
  by_cases h0 : offP l ∧ (1 ≤ a ∧ a ≤ 30) ∧ 1 ≤ b ∧ b ≤ 30
  case neg =>
    rw [if_neg (fun q => h0 ⟨(off11 l).1 q.1, q.2⟩)] at hr
    subst hr
    refine Ok.pos (show (2 : Int) ≠ 0 by decide) ?_
    unfold r12_j0
    exact Ok.pos rfl (Ok.pos rfl (Ok.ld (awakeS 20 _) (Ok.ld rfl (Ok.ret rfl))))
  obtain ⟨ho, ha, hbb⟩ := h0
  rw [if_pos ⟨(off11 l).2 ho, ha, hbb⟩, take11 ho] at hr
  by_cases hs : offP (l.map (scl a b))
  case neg =>
    rw [if_neg hs] at hr
    subst hr
    refine Ok.pos (show (4 : Int) ≠ 0 by decide) ?_
    unfold r12_j0
    exact Ok.pos rfl (Ok.neg (show ¬ (4 : Int) = 2 by decide) (Ok.pos rfl (Ok.ld (awakeS 20 _) (Ok.ld rfl (Ok.ret rfl)))))
  rw [if_pos hs] at hr
  obtain ⟨s, e⟩ := r
  obtain ⟨hsl, he⟩ := hr
  dsimp only at hsl he ⊢
  subst he
  refine Ok.neg (by simp) (Ok.bind (r26_ok (hv.gr c.g) hb) fun o D ⟨gD, hoo⟩ => ?_)
  subst hoo
  rw [decide_eq_true ho]
  have c := c.gr gD
  have hsl := hsl.gr gD
  refine Ok.pos rfl (Ok.neg (by omega) (Ok.neg (by omega) (Ok.neg (by omega) ?_)))
  rw [decide_eq_false (by omega)]
  unfold r12_j0
  refine Ok.neg (by simp) (Ok.cld c (.head _) rfl (Ok.cld c (.head _) rfl (Ok.alo c fun E gE c => ?_)))
  have hsl := hsl.gr gE
  obtain ⟨X, hX⟩ := r44_spec d.1 d.2 H0
  refine Ok.cld c (.tail _ (.head _)) rfl (Ok.cld c (.tail _ (.head _)) rfl (Ok.ld hX ?_))
  have awk : ∀ F, Ok (r12_j2 (appA 20) v a b H.n s D.n true F) fun r _ => r = true := fun F => by
    unfold r12_j2
    exact Ok.pos rfl (Ok.ld (awakeS 20 _) (Ok.ld rfl (Ok.ret rfl)))
  dsimp only
  by_cases hd : num d
  case neg =>
    rw [decide_eq_false (show ¬ num (d.1, d.2) from hd)]
    exact Ok.neg (by simp) (awk _)
  rw [decide_eq_true (show num (d.1, d.2) from hd)]
  have hd' := hd
  unfold num at hd'
  have m1 := mul_bd (A := 30) (B := 30) (x := d.1) (y := a) (by omega) (by omega) (by omega) (by omega)
  have m2 := mul_bd (A := 30) (B := 30) (x := d.2) (y := b) (by omega) (by omega) (by omega) (by omega)
  rw [w64_id (n := d.1 * a) (by omega) (by omega), w64_id (n := d.2 * b) (by omega) (by omega)] at c
  obtain ⟨X2, hX2⟩ := r44_spec (d.1 * a) (d.2 * b) H0
  refine Ok.pos rfl (Ok.cld c (.head _) rfl (Ok.cld c (.head _) rfl (Ok.ld hX2 ?_)))
  dsimp only
  by_cases hg : num (d.1 * a, d.2 * b)
  case neg =>
    rw [decide_eq_false hg]
    exact awk _
  rw [decide_eq_true hg]
  unfold r12_j2
  refine Ok.neg (by simp) (Ok.cld c (.tail _ (.head _)) rfl (Ok.cld c (.tail _ (.head _)) rfl ?_))
  refine Ok.bind (r39_ok (k := 17) (d := d) (hv.gr c.g) hb) fun r F ⟨gF, hr⟩ => ?_
  have c := c.gr gF
  have hsl := hsl.gr gF
  refine Ok.alo c fun G gG c => ?_
  have hsl := hsl.gr gG
  refine Ok.cld c (.tail _ (.head _)) rfl (Ok.cld c (.tail _ (.head _)) rfl ?_)
  have h8 := hs.2.1
  refine Ok.bind (r39_ok (k := 17) (d := scl a b d) hsl (by omega)) fun r' I ⟨gI, hr'⟩ => ?_
  have c := c.gr gI
  refine Ok.alo c fun J gJ c => ?_
  have ha0 : 0 < a := by omega
  have hb0 : 0 < b := by omega
  rcases hr with ⟨_, _, hrm, p, q, h, hp, hpd, hq, hh, hpb, hqb, hhb, rfl⟩ | ⟨hno, rfl⟩
  · rcases hr' with ⟨_, _, hrm', p', q', h', hp', hpd', hq', hh', hpb', hqb', hhb', rfl⟩ | ⟨hno', _⟩
    · refine Ok.pos rfl (Ok.pos rfl ?_)
      have c : Cx H J [(I.n, pt12 p' q' h'), (F.n, pt12 p q h), (D.n, [.int .i64 (d.1 * a), .int .i64 (d.2 * b)]), (H.n, pc d)] := c
      exact fin12 (th := true) hpb hqb ha hbb (fun _ => ⟨hp'.uniq (hp.scl ha0 hb0), hq'.uniq (hq.scl ha0 hb0)⟩) c
    · exact absurd ⟨hs, hg, (roomP.scl ha0 hb0).2 hrm⟩ hno'
  · rcases hr' with ⟨_, _, hrm', _⟩ | ⟨hno', rfl⟩
    · exact absurd ⟨ho, hd, (roomP.scl ha0 hb0).1 hrm'⟩ hno
    · exact Ok.pos rfl (Ok.pos rfl fin12z)
theorem lawCall12 (H : Hp) (xs : List AV) (_ : NoOwn H) (h : RdAs H [.sl (.rep 2 (.int .i64)), .rep 2 (.int .i64), .int .i64, .int .i64] xs) : ∃ H1, CallSim Try.prog 12 xs H (.bool true) H1 := by
  obtain ⟨x, _, rfl, hx, y, _, rfl, hy, z, _, rfl, hz, w, _, rfl, hw, rfl⟩ := h
  obtain ⟨v, l, rfl, hv, hb⟩ := rd_sl (enc_rep2 enc_int) hx
  obtain ⟨ys, rfl, hy⟩ : ∃ ys, y = .agg ys ∧ Rd H (.rep 2 (.int .i64)) ys := hy
  obtain ⟨⟨a, b⟩, rfl⟩ := (enc_rep2 enc_int).2 H ys hy
  obtain ⟨n, hn, _⟩ := hz
  injection hn with hn
  subst hn
  obtain ⟨m, hm, _⟩ := hw
  injection hm with hm
  subst hm
  obtain ⟨r, H1, h1, rfl⟩ := scaledLaw hv (by unfold maxLen at hb; omega) (a, b) n m
  exact ⟨H1, sim12 (happ := appASim 20) h1⟩
end Go.Lt.P5
