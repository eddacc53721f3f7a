/- PLAIN LAWS OF WHAT IS COMPUTED, for the statement 'DealsSwapped'. Nothing is asked of the input. -/
import Derived.Test.YtficeemoekikdaaU13VEq
import Derived.Test.YtficeemoekikdaaLB
set_option linter.unusedVariables false
set_option linter.unusedSimpArgs false
namespace Go.Lt.P5
open Go Go.Lt Go.Proofs
theorem awakeW (k : Nat) (H : Hp) : appA k 19 [] H = some (.bool true, H) := rfl
theorem mem_swp {l : List Pr} (o : Pr) : o ∈ l.map swp ↔ (o.2, o.1) ∈ l := by
  rw [List.mem_map]
  constructor
  · rintro ⟨x, hx, rfl⟩; exact hx
  · intro h; exact ⟨_, h, rfl⟩
theorem offP_swp {l : List Pr} (h : offP l) : offP (l.map swp) := by
  obtain ⟨h1, h8, hn, hd⟩ := h
  refine ⟨by simpa using h1, by simpa using h8, fun x hx => ?_, ?_⟩
  · have := hn _ ((mem_swp x).1 hx)
    unfold num at *
    dsimp only at this
    omega
  · unfold List.Nodup at *
    rw [List.pairwise_map]
    exact hd.imp fun {a b} h e => h (by unfold swp at e; injection e with e1 e2; exact Prod.ext e2 e1)
theorem swp_swp (l : List Pr) : (l.map swp).map swp = l := by
  rw [List.map_map]
  conv => rhs; rw [← List.map_id l]
  rfl
/-- a block of twelve: three points -/
theorem nth3 {p b h : Rat × Rat} {i : Nat} (hi : i < 3) : ∃ q : Rat × Rat, (i = 0 → q = p) ∧ (i = 1 → q = b) ∧ (i = 2 → q = h) ∧ apart true 4 (pt12 p b h) (i * 4) = some (.agg [.int .i64 (fq q.1).1, .int .i64 (fq q.1).2, .int .i64 (fq q.2).1, .int .i64 (fq q.2).2]) ∧
    (pt12 p b h)[0 + i * 4]? = some (.int .i64 (fq q.1).1) ∧ (pt12 p b h)[0 + i * 4 + 1]? = some (.int .i64 (fq q.1).2) ∧ (pt12 p b h)[0 + i * 4 + 2]? = some (.int .i64 (fq q.2).1) ∧ (pt12 p b h)[0 + i * 4 + 2 + 1]? = some (.int .i64 (fq q.2).2) := by
  match i, hi with
  | 0, _ => exact ⟨p, fun _ => rfl, fun h => (by cases h), fun h => (by cases h), rfl, rfl, rfl, rfl, rfl⟩
  | 1, _ => exact ⟨b, fun h => (by cases h), fun _ => rfl, fun h => (by cases h), rfl, rfl, rfl, rfl, rfl⟩
  | 2, _ => exact ⟨h, fun h => (by cases h), fun h => (by cases h), fun _ => rfl, rfl, rfl, rfl, rfl, rfl⟩
theorem swapLoop {HH H : Hp} {v2 : Nat} {p b h p' b' h' : Rat × Rat} (h1 : p' = (p.2, p.1)) (h2 : b' = (b.2, b.1)) (h3 : h' = (h.2, h.1)) (c : Cx HH H [(v2, pt12 p' b' h')]) :
    Ok (r13_l2 (appA 20) FUEL true v2 (fq p.1).1 (fq p.1).2 (fq p.2).1 (fq p.2).2 (fq b.1).1 (fq b.1).2 (fq b.2).1 (fq b.2).2 (fq h.1).1 (fq h.1).2 (fq h.2).1 (fq h.2).2 0 H) fun r _ => r = true := by
  refine Ok.loop (L := fun K (s : Int) H2 => r13_l2 (appA 20) K true v2 (fq p.1).1 (fq p.1).2 (fq p.2).1 (fq p.2).2 (fq b.1).1 (fq b.1).2 (fq b.2).1 (fq b.2).2 (fq h.1).1 (fq h.1).2 (fq h.2).1 (fq h.2).2 s H2) (fun m s H' => ∃ i : Nat, s = i ∧ i + m = 3 ∧ Cx HH H' [(v2, pt12 p' b' h')]) ?_ FUEL 3 0 H (by unfold FUEL; omega) ⟨0, rfl, rfl, c⟩
  rintro K m s H1 ⟨i, rfl, hm, c⟩ ih
  try dsimp only at *
  rw [r13_l2]
  by_cases hi : i < 3
  · obtain ⟨q, q1, q2, q3, qa, _⟩ := nth3 (p := p) (b := b) (h := h) hi
    obtain ⟨q', q1', q2', q3', _, e0, e1, e2, e3⟩ := nth3 (p := p') (b := b') (h := h') hi
    have hqq : q' = (q.2, q.1) := by
      rcases (show i = 0 ∨ i = 1 ∨ i = 2 by omega) with c | c | c
      · rw [q1' c, q1 c]; exact h1
      · rw [q2' c, q2 c]; exact h2
      · rw [q3' c, q3 c]; exact h3
    subst hqq
    have qa : apart true 4 [.int .i64 (fq p.1).1, .int .i64 (fq p.1).2, .int .i64 (fq p.2).1, .int .i64 (fq p.2).2, .int .i64 (fq b.1).1, .int .i64 (fq b.1).2, .int .i64 (fq b.2).1, .int .i64 (fq b.2).2, .int .i64 (fq h.1).1, .int .i64 (fq h.1).2, .int .i64 (fq h.2).1, .int .i64 (fq h.2).2] (i * 4) = some (.agg [.int .i64 (fq q.1).1, .int .i64 (fq q.1).2, .int .i64 (fq q.2).1, .int .i64 (fq q.2).2]) := qa
    rw [Int.toNat_natCast]
    refine Ok.pos (by omega) (Ok.ck (by omega) (Ok.ld (b := .agg [.int .i64 (fq q.1).1, .int .i64 (fq q.1).2, .int .i64 (fq q.2).1, .int .i64 (fq q.2).2]) qa (Ok.ld rfl (Ok.ck rfl (Ok.ld rfl (Ok.ld rfl (Ok.ld rfl (Ok.ld rfl (Ok.ld rfl (Ok.ld rfl (Ok.ld rfl (Ok.ld rfl (Ok.alo c fun A gA c => ?_)))))))))))))
    refine Ok.pos rfl (Ok.cld c (.head _) rfl (Ok.cld c (.head _) rfl (Ok.ck (by omega) (Ok.cld c (.tail _ (.head _)) e2 (Ok.cld c (.tail _ (.head _)) e3 (Ok.pos (by simp) ?_))))))
    refine Ok.cld c (.head _) rfl (Ok.cld c (.head _) rfl (Ok.ck (by omega) (Ok.cld c (.tail _ (.head _)) e0 (Ok.cld c (.tail _ (.head _)) e1 ?_))))
    unfold r13_j3
    refine Ok.neg (by simp) ?_
    rw [w64_succ (by omega)]
    exact ih (m - 1) _ A (by omega) ⟨i + 1, rfl, by omega, c.weak (.cons _ (.refl _))⟩
  · exact Ok.neg (by omega) (Ok.ld (awakeW 20 _) (Ok.ld rfl (Ok.ret rfl)))
theorem swapLoopF {v2 : Nat} {H : Hp} : Ok (r13_l2 (appA 20) FUEL false v2 0 0 0 0 0 0 0 0 0 0 0 0 0 H) fun r _ => r = true := by
  refine Ok.loop (L := fun K (s : Int) H2 => r13_l2 (appA 20) K false v2 0 0 0 0 0 0 0 0 0 0 0 0 s H2) (fun m s H' => ∃ i : Nat, s = i ∧ i + m = 3) ?_ FUEL 3 0 H (by unfold FUEL; omega) ⟨0, rfl, rfl⟩
  rintro K m s H1 ⟨i, rfl, hm⟩ ih
  try dsimp only at *
  rw [r13_l2]
  by_cases hi : i < 3
  · have qa : apart true 4 [.int .i64 0, .int .i64 0, .int .i64 0, .int .i64 0, .int .i64 0, .int .i64 0, .int .i64 0, .int .i64 0, .int .i64 0, .int .i64 0, .int .i64 0, .int .i64 0] (i * 4) = some (.agg [.int .i64 0, .int .i64 0, .int .i64 0, .int .i64 0]) := by
      match i, hi with
      | 0, _ => rfl
      | 1, _ => rfl
      | 2, _ => rfl
    rw [Int.toNat_natCast]
    refine Ok.pos (by omega) (Ok.ck (by omega) (Ok.ld (b := .agg [.int .i64 0, .int .i64 0, .int .i64 0, .int .i64 0]) qa (Ok.ld rfl (Ok.ck rfl (Ok.ld rfl (Ok.ld rfl (Ok.ld rfl (Ok.ld rfl (Ok.ld rfl (Ok.ld rfl (Ok.ld rfl (Ok.ld rfl (Ok.alo (.nil H1) fun A gA c => ?_)))))))))))))
    refine Ok.neg (by simp) ?_
    unfold r13_j3
    refine Ok.neg (by simp) ?_
    rw [w64_succ (by omega)]
    exact ih (m - 1) _ A (by omega) ⟨i + 1, rfl, by omega⟩
  · exact Ok.neg (by omega) (Ok.ld (awakeW 20 _) (Ok.ld rfl (Ok.ret rfl)))
theorem swappedLaw {H : Hp} {v : Sl} {l : List Pr} (hv : SL H v l) (hb : l.length < 9223372036854775808) (d : Pr) : Ok (r13 (appA 20) v d.1 d.2 H) fun r _ => r = true := by
  unfold r13
  have ht : (l.take 11).length ≤ 1000 := by rw [List.length_take]; omega
  refine Ok.box (.nil H) fun A gA c => Ok.bind (r24_ok (hv.gr gA) hb) fun w B ⟨gB, hw, _⟩ => ?_
  have c := c.gr gB
  refine Ok.bind (r34_ok 19 hw ht) fun r C ⟨gC, hr⟩ => ?_
  have c := c.gr gC
  by_cases ho : offP l
  case neg =>
    rw [if_neg (fun q => ho ((off11 l).1 q))] at hr
    subst hr
    refine Ok.pos (show (2 : Int) ≠ 0 by decide) ?_
    unfold r13_j0
    exact Ok.pos rfl (Ok.pos rfl (Ok.ld (awakeW 20 _) (Ok.ld rfl (Ok.ret rfl))))
  have hos := offP_swp ho
  rw [if_pos ((off11 l).2 ho), take11 ho, if_pos hos] at hr
  obtain ⟨s, e⟩ := r
  obtain ⟨hsl, he⟩ := hr
  dsimp only at hsl he ⊢
  subst he
  have h8 := ho.2.1
  have h8s := hos.2.1
  refine Ok.neg (by simp) (Ok.bind (r26_ok (hv.gr c.g) hb) fun o D ⟨gD, hoo⟩ => ?_)
  subst hoo
  have c := c.gr gD
  have hsl := hsl.gr gD
  rw [decide_eq_true ho]
  unfold r13_j0
  refine Ok.neg (by simp) ?_
  show Ok ((cloneR 2 s D).bind _) _
  refine Ok.bind (clone_ok hsl (by omega) rfl) fun u E ⟨gE, hu, _⟩ => ?_
  have c := c.gr gE
  have hsl := hsl.gr gE
  refine Ok.bind (r34_ok 19 hu (by omega)) fun r F ⟨gF, hr⟩ => ?_
  have c := c.gr gF
  have hsl := hsl.gr gF
  rw [if_pos hos, if_pos (offP_swp hos), swp_swp] at hr
  obtain ⟨bk, e⟩ := r
  obtain ⟨hbk, he⟩ := hr
  dsimp only at hbk he ⊢
  subst he
  refine Ok.cld c (.head _) rfl (Ok.cld c (.head _) rfl (Ok.bind (r39_ok (k := 17) (d := d) (hv.gr c.g) hb) fun r G ⟨gG, hr⟩ => ?_))
  have c := c.gr gG
  refine Ok.alo c fun I gI c => ?_
  have hsl := hsl.gr (gG.trans gI)
  refine Ok.cld c (.tail _ (.head _)) rfl (Ok.cld c (.tail _ (.head _)) rfl (Ok.bind (r39_ok (k := 17) (d := (d.2, d.1)) hsl (by omega)) fun r' J ⟨gJ, hr'⟩ => ?_))
  have c := c.gr gJ
  refine Ok.alo c fun M gM c => Ok.neg (by simp) ?_
  have gX := gG.trans (gI.trans (gJ.trans gM))
  refine Ok.bind (r30_ok (hbk.gr gX) (hv.gr c.g) (by omega)) fun q N ⟨hN, hq⟩ => ?_
  subst hN
  rw [decide_eq_true rfl] at hq
  subst hq
  refine Ok.pos rfl ?_
  have hm := mem_swp (l := l)
  have hm' : ∀ o : Pr, o ∈ l ↔ (o.2, o.1) ∈ l.map swp := fun o => by rw [hm (o.2, o.1)]
  rcases hr with ⟨_, hd, hrm, p, b, h, hp, hpd, hq, hh, hpb, hqb, hhb, rfl⟩ | ⟨hno, rfl⟩
  · have hd2 : num (d.2, d.1) := ⟨hd.2.2.1, hd.2.2.2, hd.1, hd.2.1⟩
    rcases hr' with ⟨_, _, hrm', p', b', h', hp', hpd', hq', hh', hpb', hqb', hhb', rfl⟩ | ⟨hno', _⟩
    · refine Ok.pos rfl (Ok.pos rfl ?_)
      have c : Cx H N [(J.n, pt12 p' b' h'), (G.n, pt12 p b h), (H.n, pc d)] := c
      show Ok (r13_j1 (appA 20) G.n true J.n false N) _
      unfold r13_j1
      refine Ok.neg (by simp) ?_
      repeat (refine Ok.cld c (.tail _ (.head _)) rfl ?_)
      exact swapLoop (hp'.uniq (hp.swp hm)) (hq'.uniq (hq.swp hm)) (hh'.uniq (hh.swp hm)) (c.weak (.cons_cons _ (.cons _ (.cons _ (.refl _)))))
    · exact absurd ⟨hos, hd2, hrm.swp hm⟩ hno'
  · rcases hr' with ⟨_, hd2, hrm', _⟩ | ⟨hno', rfl⟩
    · exact absurd ⟨ho, ⟨hd2.2.2.1, hd2.2.2.2, hd2.1, hd2.2.1⟩, roomP.swp (l := l.map swp) (l' := l) hm' hrm'⟩ hno
    · refine Ok.pos rfl (Ok.pos rfl ?_)
      have c : Cx H N [(J.n, z12), (G.n, z12), (H.n, pc d)] := c
      show Ok (r13_j1 (appA 20) G.n false J.n false N) _
      unfold r13_j1
      refine Ok.neg (by simp) ?_
      repeat (refine Ok.cld c (.tail _ (.head _)) rfl ?_)
      exact swapLoopF
theorem lawCall13 (H : Hp) (xs : List AV) (_ : NoOwn H) (h : RdAs H [.sl (.rep 2 (.int .i64)), .rep 2 (.int .i64)] xs) : ∃ H1, CallSim Try.prog 13 xs H (.bool true) H1 := by
  obtain ⟨x, _, rfl, hx, y, _, rfl, hy, rfl⟩ := h
  obtain ⟨v, l, rfl, hv, hb⟩ := rd_sl (enc_rep2 enc_int) hx
  obtain ⟨ys, rfl, hy⟩ : ∃ ys, y = .agg ys ∧ Rd H (.rep 2 (.int .i64)) ys := hy
  obtain ⟨⟨a, b⟩, rfl⟩ := (enc_rep2 enc_int).2 H ys hy
  obtain ⟨r, H1, h1, rfl⟩ := swappedLaw hv (by unfold maxLen at hb; omega) (a, b)
  exact ⟨H1, sim13 (happ := appASim 20) h1⟩
end Go.Lt.P5
