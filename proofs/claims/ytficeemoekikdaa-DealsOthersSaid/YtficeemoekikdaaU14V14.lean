/- PLAIN LAWS OF WHAT IS COMPUTED, for the statement 'DealsOthers'. Nothing is asked of the input. -/
import Derived.Test.YtficeemoekikdaaU14VIs
import Derived.Test.YtficeemoekikdaaU14VEl
import Derived.Test.YtficeemoekikdaaLB
set_option linter.unusedVariables false
set_option linter.unusedSimpArgs false
namespace Go.Lt.P5
open Go Go.Lt Go.Proofs
theorem awakeO (k : Nat) (H : Hp) : appA k 19 [] H = some (.bool true, H) := rfl
theorem wrapU {n : Int} : 0 ≤ IntKind.wrap .u64 n := by
  unfold IntKind.wrap
  simp [IntKind.signed, IntKind.bits]
  omega
theorem wrapU_id {n : Int} (h0 : 0 ≤ n) (h : n < 9223372036854775808) : IntKind.wrap .u64 n = n := by
  unfold IntKind.wrap
  simp [IntKind.signed, IntKind.bits]
  omega
theorem erase_off {l : List Pr} (ho : offP l) {j : Nat} (hj : j < l.length) : offP (l.eraseIdx j) ↔ l.length ≠ 1 := by
  obtain ⟨h1, h8, hn, hd⟩ := ho
  have hl := List.length_eraseIdx_of_lt hj
  constructor
  · rintro ⟨a, _⟩; omega
  · intro h
    exact ⟨by omega, by omega, fun x hx => hn x (List.mem_of_mem_eraseIdx hx), hd.eraseIdx j⟩
section
variable {l : List Pr} {d : Pr} {p : Rat × Rat}
/-- without an offer -/
theorem othersJ {HH H : Hp} {w : Sl} {less : List Pr} {v1 v2 : Nat} {b h : Rat × Rat} (hsub : ∀ o ∈ less, o ∈ l) (ho : offP less) (hd : num d) (hp : IsProd l d p) (hr : reg less p.1 p.2) (hw : SL H w less) (c : Cx HH H [(v2, pt12 p b h), (v1, pc d)]) :
    Ok (r14_j0 (appA 20) v1 v2 w 0 false H) fun r _ => r = true := by
  have h8 := ho.2.1
  unfold r14_j0
  refine Ok.neg (by simp) (Ok.cld c (.tail _ (.head _)) rfl (Ok.cld c (.tail _ (.head _)) rfl (Ok.bind (r46_ok (k := 17) hw (by omega)) fun r A ⟨gA, hR⟩ => ?_)))
  have c := c.gr gA
  have hroom : roomP less d := ⟨p.1, p.2, hr, hp.x, hp.y⟩
  rcases hR with ⟨_, _, _, q, ⟨hq, _⟩, hqb, rfl⟩ | ⟨_, _, hno, _⟩ | ⟨hno, _⟩
  · have hqp : q = p := hq.uniq ⟨hr, hp.x, hp.y, fun x y hxy hx hy => hp.max x y (hxy.sub hsub) hx hy⟩
    subst hqp
    refine Ok.alo c fun B gB c => Ok.pos rfl ?_
    repeat (refine Ok.cld c (.head _) rfl ?_)
    repeat (refine Ok.cld c (.tail _ (.head _)) rfl ?_)
    exact Ok.pos (by simp [pte]) (Ok.ld (awakeO 20 _) (Ok.ld rfl (Ok.ret rfl)))
  · exact absurd hroom hno
  · exact absurd ⟨ho, hd⟩ hno
end
theorem othersLaw {H : Hp} {v : Sl} {l : List Pr} (hv : SL H v l) (hb : l.length < 9223372036854775808) (d : Pr) (drop : Int) : Ok (r14 (appA 20) v d.1 d.2 drop H) fun r _ => r = true := by
  have hlen := hv.len
  unfold r14
  refine Ok.box (.nil H) fun A gA c => Ok.cld c (.head _) rfl (Ok.cld c (.head _) rfl (Ok.bind (r39_ok (k := 17) (d := d) (hv.gr gA) hb) fun r B ⟨gB, hr⟩ => ?_))
  have c := c.gr gB
  rcases hr with ⟨ho, hd, hrm, p, b, h, hp, hpd, hbt, hhf, hpb, _, _, rfl⟩ | ⟨hno, rfl⟩
  · refine Ok.alo c fun C gC c => Ok.pos rfl ?_
    have c : Cx H C [(B.n, pt12 p b h), (H.n, pc d)] := c
    show Ok (r14_j1 (appA 20) v drop H.n B.n true false C) _
    unfold r14_j1
    have h8 := ho.2.1
    have h1 := ho.1
    have em : (if 1 < (v.len : Int) then (v.len : Int) else 1) = (l.length : Int) := by
      rw [hlen]; split <;> omega
    rw [em, wrapU_id (by omega) (by omega)]
    have hm0 : 0 ≤ Int.tmod (IntKind.wrap .u64 drop) (l.length : Int) := Int.tmod_nonneg _ wrapU
    have hm1 : Int.tmod (IntKind.wrap .u64 drop) (l.length : Int) < l.length := Int.tmod_lt_of_pos _ (by omega)
    generalize Int.tmod (IntKind.wrap .u64 drop) (l.length : Int) = dd at *
    rw [w64_id (by omega) (by omega)]
    refine Ok.neg (by simp) (Ok.ck (by omega) (Ok.bind (r24_ok (hv.gr c.g) hb) fun w D ⟨gD, hw, _⟩ => ?_))
    rw [take11 ho] at hw
    have c := c.gr gD
    refine Ok.bind (r35_ok 19 hw (by omega) dd) fun r E ⟨gE, hr⟩ => ?_
    have c := c.gr gE
    have cE := c
    rw [if_pos ⟨ho, hm0, hm1⟩] at hr
    have heo := erase_off ho (j := dd.toNat) (by omega)
    by_cases h1l : l.length = 1
    · rw [if_neg (fun q => heo.1 q h1l)] at hr
      subst hr
      exact Ok.pos (show (4 : Int) ≠ 0 by decide) (Ok.pos (show (4 : Int) = 4 from rfl) (Ok.pos (by omega) (Ok.ld (awakeO 20 _) (Ok.ld rfl (Ok.ret rfl)))))
    · have hoe := heo.2 h1l
      rw [if_pos hoe] at hr
      obtain ⟨u, e⟩ := r
      obtain ⟨hu, he⟩ := hr
      dsimp only at hu he ⊢
      subst he
      have h8e := hoe.2.1
      refine Ok.neg (by simp) (Ok.bind (r24_ok hu (by omega)) fun w2 F ⟨gF, hw2, _⟩ => ?_)
      rw [take11 hoe] at hw2
      have c := c.gr gF
      repeat (refine Ok.cld c (.head _) rfl ?_)
      refine Ok.bind (r23_reg (k := 18) (p := p) hw2 hoe) fun z G ⟨gG, hz⟩ => ?_
      have c := c.gr gG
      repeat (refine Ok.cck cE (.head _) rfl ?_)
      have hf1 : fr (fq p.1) := fr_fq.2 ⟨by omega, hpb.1.2⟩
      have hf2 : fr (fq p.2) := fr_fq.2 ⟨by omega, hpb.2.2⟩
      rcases hz with ⟨_, _, ⟨rfl, hreg⟩ | ⟨rfl, hreg⟩⟩ | ⟨hno, _⟩
      · refine Ok.neg (by simp) ?_
        exact othersJ (fun o ho => List.mem_of_mem_eraseIdx ho) hoe hd hp hreg (hu.gr (gF.trans gG)) c
      · refine Ok.neg (by simp) ?_
        unfold r14_j0
        exact Ok.pos rfl (Ok.pos rfl (Ok.ld (awakeO 20 _) (Ok.ld rfl (Ok.ret rfl))))
      · exact absurd ⟨hf1, hf2⟩ hno
  · refine Ok.alo c fun C gC c => Ok.pos rfl ?_
    show Ok (r14_j1 (appA 20) v drop H.n B.n true true C) _
    unfold r14_j1
    exact Ok.pos rfl (Ok.pos rfl (Ok.ld (awakeO 20 _) (Ok.ld rfl (Ok.ret rfl))))
theorem lawCall14 (H : Hp) (xs : List AV) (_ : NoOwn H) (h : RdAs H [.sl (.rep 2 (.int .i64)), .rep 2 (.int .i64), .int .i64] xs) : ∃ H1, CallSim Try.prog 14 xs H (.bool true) H1 := by
  obtain ⟨x, _, rfl, hx, y, _, rfl, hy, z, _, rfl, hz, rfl⟩ := h
  obtain ⟨v, l, rfl, hv, hb⟩ := rd_sl (enc_rep2 enc_int) hx
  obtain ⟨ys, rfl, hy⟩ : ∃ ys, y = .agg ys ∧ Rd H (.rep 2 (.int .i64)) ys := hy
  obtain ⟨⟨a, b⟩, rfl⟩ := (enc_rep2 enc_int).2 H ys hy
  obtain ⟨n, hn, _⟩ := hz
  injection hn with hn
  subst hn
  obtain ⟨r, H1, h1, rfl⟩ := othersLaw hv (by unfold maxLen at hb; omega) (a, b) n
  exact ⟨H1, sim14 (happ := appASim 20) h1⟩
end Go.Lt.P5
