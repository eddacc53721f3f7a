/- PLAIN LAWS OF WHAT IS COMPUTED, for the statement 'DealsOthers'. Nothing is asked of the input. -/
import Derived.Test.YtficeemoekikdaaU14VQg
set_option linter.unusedVariables false
set_option linter.unusedSimpArgs false
namespace Go.Lt.P5
open Go Go.Lt Go.Proofs
/-- right -/
theorem r42_ok {p : Rat × Rat} (hp : bdP p) (H : Hp) : Ok (r42 (fq p.1).1 (fq p.1).2 (fq p.2).1 (fq p.2).2 H) fun r H' => Gr H H' ∧ r = true := by
  obtain ⟨⟨a1, a2, a3⟩, b1, b2, b3⟩ := hp
  have a0 := fq_pos p.1
  have b0 := fq_pos p.2
  unfold r42
  refine Ok.box (.nil H) fun A gA c => Ok.cld c (.head _) rfl (Ok.cld c (.head _) rfl (Ok.cld c (.head _) rfl (Ok.cld c (.head _) rfl ?_)))
  refine Ok.box c fun B gB c => ?_
  have hs : SL (T := Pr) B ⟨false, A.n, 0, 2, 2, 0⟩ [fq p.1, fq p.2] := .of_get (ro := false) (c.e _ (.head _)) rfl rfl (Nat.le_refl _) (.inl rfl) rfl
  have hall : ∀ i (h : i < 2), ∃ q, [fq p.1, fq p.2][i]'h = q ∧ q.2 ≤ 97200000 ∧ 1 ≤ q.2 ∧ 0 ≤ q.1 ∧ q.1 ≤ 30 * q.2 := fun i h => by
    match i, h with
    | 0, _ => exact ⟨_, rfl, a1, by simp; omega, a2, a3⟩
    | 1, _ => exact ⟨_, rfl, b1, by simp; omega, b2, b3⟩
  show Ok (r42_l0 FUEL ⟨false, A.n, 0, 2, 2, 0⟩ ((2 : Nat) : Int) 0 B) _
  refine Ok.loop (L := fun K (s : Int) H2 => r42_l0 K ⟨false, A.n, 0, 2, 2, 0⟩ ((2 : Nat) : Int) s H2) (fun m s H' => ∃ i : Nat, s = i ∧ i + m = 2 ∧ Gr H H' ∧ SL (T := Pr) H' ⟨false, A.n, 0, 2, 2, 0⟩ [fq p.1, fq p.2]) ?_ FUEL 2 0 B (by unfold FUEL; omega) ⟨0, rfl, rfl, c.g, hs⟩
  rintro K m s H1 ⟨i, rfl, hm, g, hs⟩ ih
  try dsimp only at *
  rw [r42_l0]
  by_cases h : i < 2
  · obtain ⟨q, hq, q1, q2, q3, q4⟩ := hall i h
    have M1 := hs.ldI (i := i) (j := 0) (by simpa using h) rfl
    have M2 := hs.ldI (i := i) (j := 1) (by simpa using h) rfl
    rw [hq] at M1 M2
    refine Ok.pos (by omega) (Ok.ck (by dsimp only; omega) (Ok.ld M1 (Ok.ld M2 (Ok.alo (.nil H1) fun C gC c => ?_))))
    refine Ok.cld c (.head _) rfl (Ok.neg (by omega) (Ok.cld c (.head _) rfl (Ok.neg (by omega) (Ok.cld c (.head _) rfl (Ok.neg (by omega) (Ok.cld c (.head _) rfl (Ok.cld c (.head _) rfl ?_)))))))
    rw [w64_id (by omega) (by omega), decide_eq_false (by omega)]
    unfold r42_j1
    refine Ok.neg (by simp) ?_
    rw [w64_succ (by omega)]
    exact ih (m - 1) _ C (by omega) ⟨i + 1, rfl, by omega, g.trans gC, hs.gr gC⟩
  · exact Ok.neg (by omega) (Ok.ret ⟨g, rfl⟩)
def pt12 (p b h : Rat × Rat) : List AV := [.int .i64 (fq p.1).1, .int .i64 (fq p.1).2, .int .i64 (fq p.2).1, .int .i64 (fq p.2).2, .int .i64 (fq b.1).1, .int .i64 (fq b.1).2, .int .i64 (fq b.2).1, .int .i64 (fq b.2).2, .int .i64 (fq h.1).1, .int .i64 (fq h.1).2, .int .i64 (fq h.2).1, .int .i64 (fq h.2).2]
def z12 : List AV := [.int .i64 0, .int .i64 0, .int .i64 0, .int .i64 0, .int .i64 0, .int .i64 0, .int .i64 0, .int .i64 0, .int .i64 0, .int .i64 0, .int .i64 0, .int .i64 0]
abbrev R14 := Int × Int × Int × Int × Int × Int × Int × Int × Int × Int × Int × Int × Bool × Bool
def rt (p b h : Rat × Rat) : R14 := ((fq p.1).1, (fq p.1).2, (fq p.2).1, (fq p.2).2, (fq b.1).1, (fq b.1).2, (fq b.2).1, (fq b.2).2, (fq h.1).1, (fq h.1).2, (fq h.2).1, (fq h.2).2, true, true)
/-- what all three rules say -/
def RulesP (l : List Pr) (d : Pr) (r : R14) : Prop :=
  (offP l ∧ num d ∧ roomP l d ∧ ∃ p b h, IsProd l d p ∧ ((fq p.1).2 ≤ 60 ∧ (fq p.2).2 ≤ 60) ∧ IsBest l d b ∧ IsHalf l d h ∧ bdP p ∧ bdP b ∧ bdP h ∧ r = rt p b h) ∨ (¬ (offP l ∧ num d ∧ roomP l d) ∧ r = (0, 0, 0, 0, 0, 0, 0, 0, 0, 0, 0, 0, false, true))
theorem take11 {l : List Pr} (ho : offP l) : l.take 11 = l := List.take_of_length_le (by have := ho.2.1; omega)
/-- rules -/
theorem r39_ok {k : Nat} {H : Hp} {v : Sl} {l : List Pr} {d : Pr} (hv : SL H v l) (hb : l.length < 9223372036854775808) : Ok (r39 (appA (k + 3)) v d.1 d.2 H) fun r H' => Gr H H' ∧ RulesP l d r := by
  have ht : (l.take 11).length ≤ 1000 := by rw [List.length_take]; omega
  have key : ∀ {I : List Pr → Rat × Rat → Prop} {r}, RuleP (I (l.take 11)) (l.take 11) d r → (offP l ∧ num d ∧ roomP l d ∧ ∃ p, I l p ∧ bdP p ∧ r = pte p 0) ∨ (¬ (offP l ∧ num d ∧ roomP l d) ∧ ∃ e : Int, (e = if offP l ∧ num d then 4 else 2) ∧ r = (0, 0, 0, 0, e)) := fun {I r} h => by
    rcases h with ⟨ho, hd, hr, h⟩ | ⟨ho, hd, hr, rfl⟩ | ⟨hno, rfl⟩
    · have ho' := (off11 l).1 ho
      rw [take11 ho'] at hr h
      exact .inl ⟨ho', hd, hr, h⟩
    · have ho' := (off11 l).1 ho
      rw [take11 ho'] at hr
      exact .inr ⟨fun q => hr q.2.2, 4, by rw [if_pos ⟨ho', hd⟩], rfl⟩
    · exact .inr ⟨fun q => hno ⟨(off11 l).2 q.1, q.2.1⟩, 2, by rw [if_neg (fun q => hno ⟨(off11 l).2 q.1, q.2⟩)], rfl⟩
  unfold r39
  refine Ok.box2 (.nil H) fun A gA c => ?_
  have cA := c
  refine Ok.bind (r24_ok (hv.gr gA) hb) fun w B ⟨gB, hw, _⟩ => ?_
  have c := c.gr gB
  refine Ok.cld c (.tail _ (.head _)) rfl (Ok.cld c (.tail _ (.head _)) rfl (Ok.bind (r46_ok (k := k) hw ht) fun r1 C ⟨gC, h1⟩ => ?_))
  have c := c.gr gC
  refine Ok.alo c fun D gD c => ?_
  have cD := c
  refine Ok.cck cA (.tail _ (.head _)) rfl (Ok.cck cA (.tail _ (.head _)) rfl ?_)
  refine Ok.bind (r24_ok (hv.gr c.g) hb) fun w2 E ⟨gE, hw2, _⟩ => ?_
  have c := c.gr gE
  refine Ok.cld c (.tail _ (.tail _ (.head _))) rfl (Ok.cld c (.tail _ (.tail _ (.head _))) rfl (Ok.bind (r63_ok (k := k + 1) hw2 ht) fun r2 F ⟨gF, h2⟩ => ?_))
  have c := c.gr gF
  refine Ok.alo c fun G gG c => ?_
  have cG := c
  refine Ok.cck cD (.tail _ (.tail _ (.head _))) rfl (Ok.cck cD (.tail _ (.tail _ (.head _))) rfl ?_)
  refine Ok.bind (r24_ok (hv.gr c.g) hb) fun w3 I ⟨gI, hw3, _⟩ => ?_
  have c := c.gr gI
  refine Ok.cld c (.tail _ (.tail _ (.tail _ (.head _)))) rfl (Ok.cld c (.tail _ (.tail _ (.tail _ (.head _)))) rfl (Ok.bind (r40_ok (k := k + 1) hw3 ht) fun r3 J ⟨gJ, h3⟩ => ?_))
  have c := c.gr gJ
  refine Ok.alo c fun M gM c => ?_
  refine Ok.cck cG (.tail _ (.tail _ (.tail _ (.head _)))) rfl (Ok.cck cG (.tail _ (.tail _ (.tail _ (.head _)))) rfl ?_)
  refine Ok.cld c (.tail _ (.tail _ (.head _))) rfl (Ok.cld c (.tail _ (.tail _ (.head _))) rfl (Ok.cld c (.tail _ (.tail _ (.head _))) rfl (Ok.cld c (.tail _ (.tail _ (.head _))) rfl ?_)))
  refine Ok.cld c (.tail _ (.head _)) rfl (Ok.cld c (.tail _ (.head _)) rfl (Ok.cld c (.tail _ (.head _)) rfl (Ok.cld c (.tail _ (.head _)) rfl ?_)))
  refine Ok.cld c (.head _) rfl (Ok.cld c (.head _) rfl (Ok.cld c (.head _) rfl (Ok.cld c (.head _) rfl (Ok.alo c fun N gN c => ?_))))
  have k1 := key (I := fun l p => IsProd l d p ∧ (fq p.1).2 ≤ 60 ∧ (fq p.2).2 ≤ 60) h1
  have k2 := key (I := fun l p => IsBest l d p) h2
  have k3 := key (I := fun l p => IsHalf l d p) h3
  clear key h1 h2 h3
  by_cases hok : offP l ∧ num d ∧ roomP l d
  · rcases k1 with ⟨_, _, _, p, ⟨p1, p2⟩, p3, rfl⟩ | ⟨n, _⟩
    case inr => exact absurd hok n
    rcases k2 with ⟨_, _, _, b, b1, b3, rfl⟩ | ⟨n, _⟩
    case inr => exact absurd hok n
    rcases k3 with ⟨_, _, _, h, h1, h3, rfl⟩ | ⟨n, _⟩
    case inr => exact absurd hok n
    refine Ok.neg (by simp [pte]) ?_
    rw [decide_eq_false (by simp [pte])]
    unfold r39_j0
    refine Ok.neg (by simp) (Ok.neg (by simp [pte]) ?_)
    have c : Cx H N [(M.n, pt12 p b h), (J.n, bst4 (some h)), (F.n, bst4 (some b)), (C.n, bst4 (some p)), ((H.push (.cells [.int .i64 d.1, .int .i64 d.2] false)).n, z12), (H.n, pc d)] := c
    repeat (refine Ok.cld c (.head _) rfl ?_)
    repeat (refine Ok.cld c (.tail _ (.tail _ (.tail _ (.head _)))) rfl ?_)
    refine Ok.bind (r42_ok p3 N) fun x O ⟨gO, hx⟩ => ?_
    subst hx
    have c := c.gr gO
    have cO := c
    refine Ok.pos rfl ?_
    repeat (refine Ok.cld c (.tail _ (.tail _ (.head _))) rfl ?_)
    refine Ok.bind (r42_ok b3 O) fun x P ⟨gP, hx⟩ => ?_
    subst hx
    have c := c.gr gP
    have cP := c
    refine Ok.pos rfl ?_
    repeat (refine Ok.cld c (.tail _ (.head _)) rfl ?_)
    refine Ok.bind (r42_ok h3 P) fun x R ⟨gR, hx⟩ => ?_
    subst hx
    have c := c.gr gR
    have cR := c
    refine Ok.cst c 4 rfl rfl fun S _ _ c => ?_
    repeat (refine Ok.cck cO (.head _) rfl ?_)
    repeat (refine Ok.cck cP (.head _) rfl ?_)
    repeat (refine Ok.cck cR (.head _) rfl ?_)
    repeat (refine Ok.cld c (.tail _ (.tail _ (.tail _ (.tail _ (.head _))))) rfl ?_)
    exact Ok.ret ⟨c.g, .inl ⟨hok.1, hok.2.1, hok.2.2, p, b, h, p1, p2, b1, h1, p3, b3, h3, rfl⟩⟩
  · rcases k1 with ⟨q1, q2, q3, _⟩ | ⟨_, e, he, rfl⟩
    · exact absurd ⟨q1, q2, q3⟩ hok
    rcases k2 with ⟨q1, q2, q3, _⟩ | ⟨_, e2, he2, rfl⟩
    · exact absurd ⟨q1, q2, q3⟩ hok
    rcases k3 with ⟨q1, q2, q3, _⟩ | ⟨_, e3, he3, rfl⟩
    · exact absurd ⟨q1, q2, q3⟩ hok
    have e12 : e2 = e := by rw [he, he2]
    have e13 : e3 = e := by rw [he, he3]
    subst e12; subst e13
    refine Ok.neg (by simp) ?_
    rw [decide_eq_false (by simp)]
    unfold r39_j0
    refine Ok.neg (by simp) (Ok.pos (by show e3 ≠ 0; rw [he]; split <;> decide) ?_)
    have c : Cx H N [(M.n, z12), (J.n, bst4 none), (F.n, bst4 none), (C.n, bst4 none), ((H.push (.cells [.int .i64 d.1, .int .i64 d.2] false)).n, z12), (H.n, pc d)] := c
    repeat (refine Ok.cld c (.head _) rfl ?_)
    refine Ok.ite (fun cc => ?_) fun cc => ?_
    · refine Ok.cst c 4 rfl rfl fun S _ _ c => ?_
      repeat (refine Ok.cld c (.tail _ (.tail _ (.tail _ (.tail _ (.head _))))) rfl ?_)
      exact Ok.ret ⟨c.g, .inr ⟨hok, rfl⟩⟩
    · refine Ok.cst c 4 rfl rfl fun S _ _ c => ?_
      repeat (refine Ok.cld c (.tail _ (.tail _ (.tail _ (.tail _ (.head _))))) rfl ?_)
      have : e3 = 2 := by
        rw [he]
        rw [he] at cc
        dsimp only at cc
        split at cc
        · exact absurd rfl cc
        · rename_i h; rw [if_neg h]
      dsimp only
      rw [decide_eq_true this]
      exact Ok.ret ⟨c.g, .inr ⟨hok, rfl⟩⟩
end Go.Lt.P5
