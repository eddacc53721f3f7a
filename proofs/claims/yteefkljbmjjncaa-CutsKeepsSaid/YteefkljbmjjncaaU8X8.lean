/- PLAIN LAWS OF WHAT IS COMPUTED, for the statement 'CutsKeeps'. Nothing is asked of the input. -/
import Derived.Test.YteefkljbmjjncaaU8XTk
import Derived.Test.YteefkljbmjjncaaLB
set_option linter.unusedVariables false
set_option linter.unusedSimpArgs false
namespace Go.Lt.P2
open Go Go.Lt Go.Proofs
theorem pts_in {l : List Sd} {x : Pr} (h : x ∈ pts l) : inP l ((x.1 : Rat), (x.2 : Rat)) := by
  unfold pts at h
  split at h
  · exact keep_in.2 (mem_grid.1 h).2
  · cases h
theorem frP_int {x : Int} : frP (x, 1) ↔ -100 ≤ x ∧ x ≤ 100 := by
  unfold frP
  simp
theorem okp9 {p : List Sd} {m : List Pr} : okP (p.take 9) (m.take 9) ↔ okP p m := by
  by_cases h1 : p.length ≤ 9
  · rw [List.take_of_length_le h1]
    by_cases h2 : m.length ≤ 9
    · rw [List.take_of_length_le h2]
    · constructor
      · intro c; have a := c.2.1; have b := c.1.1.2; rw [List.length_take] at a; omega
      · intro c; have a := c.2.1; have b := c.1.1.2; omega
  · constructor
    · intro c; have b := c.1.1.2; rw [List.length_take] at b; omega
    · intro c; have b := c.1.1.2; omega
theorem keepsLaw {H : Hp} {vp vm : Sl} {p : List Sd} {m : List Pr} (hp : SL H vp p) (hm : SL H vm m) (hb : p.length < 9223372036854775808) (hb2 : m.length < 9223372036854775808) (kk : Int) : Ok (r8 (appA 20) vp vm kk H) fun r _ => r = true := by
  unfold r8
  have l1 : (p.take 9).length ≤ 1000 := by rw [List.length_take]; omega
  have l2 : (m.take 9).length ≤ 1000 := by rw [List.length_take]; omega
  have awkt : ∀ (X : Hp), Ok ((appA 20 21 [] X).bind fun p => (p.1.asB).bind fun x => some (x, p.2)) fun r _ => r = true := fun X => Ok.ld (awk 20 _) (Ok.ld rfl (Ok.ret rfl))
  refine Ok.bind (r18_ok hp hb) fun w A ⟨gA, hw⟩ => Ok.bind (r40_ok (k := 18) hw l1) fun x B ⟨gB, hx⟩ => ?_
  have g := gA.trans gB
  by_cases hpl : plateP p
  case neg =>
    rw [if_neg (fun q => hpl (plate_take.1 q))] at hx
    subst hx
    unfold r8_j0
    exact Ok.pos (by simp) (Ok.pos rfl (Ok.pos rfl (awkt _)))
  rw [plate_eq hpl] at hx hw l1
  rw [if_pos hpl] at hx
  refine Ok.neg (by rw [hx.2]; simp) (Ok.bind (r19_ok (hp.gr g)) fun z C ⟨gC, hz⟩ => ?_)
  subst hz
  rw [decide_eq_true hpl]
  have g := g.trans gC
  have hsl := (AccL.sl hx.1).gr gC
  have hlen := hsl.len
  have hsd := hpl.2.1
  unfold r8_j0
  refine Ok.neg (by simp) (Ok.ite (fun h0 => awkt _) fun h0 => ?_)
  have hpll := pts_len hsd
  have h0 : ¬ (x.1.len : Int) = 0 := h0
  obtain ⟨j, hj, ej⟩ := at_mod (k := kk) (n := (pts p).length) (by omega) (by omega)
  dsimp only at h0 ⊢
  rw [hlen] at h0 ⊢
  rw [ej]
  have hjm := List.getElem_mem hj
  have hin := pts_in hjm
  have hnr := pts_near hsd _ hjm
  have l0 := hsl.ldI (i := j) (j := 0) hj rfl
  have l1' := hsl.ldI (i := j) (j := 1) hj rfl
  generalize (pts p)[j] = y at *
  unfold near3 at hnr
  have c : Cx C C [] := .nil C
  refine Ok.ck (by rw [wrapU_id (by omega) (by omega)]; omega) (Ok.ck (by omega) ?_)
  rw [Int.toNat_natCast]
  refine Ok.ld l0 (Ok.ld l1' (Ok.alo c fun D gD c => ?_))
  refine Ok.bind (r18_ok (hp.gr (g.trans c.g)) hb) fun w2 E ⟨gE, hw2⟩ => ?_
  have c := c.gr gE
  refine Ok.bind (r28_ok (hm.gr (g.trans c.g)) hb2) fun w3 F ⟨gF, hw3⟩ => ?_
  have c := c.gr gF
  refine Ok.bind (r27_ok (k := 19) (hw2.gr gF) hw3 (by rw [List.length_take]; omega) l2) fun s G ⟨gG, hs⟩ => ?_
  have c := c.gr gG
  refine Ok.alo c fun I gI c => ?_
  -- what comes behind the cut
  have rest : ∀ e : Int, (e = 0 ∨ e = 4 ∨ e = 2) → Ok (r8_j3 (appA 20) vp C.n e false I) fun r _ => r = true := fun e he => by
    have j2 : Ok (r8_j2 (appA 20) vp C.n false I) fun r _ => r = true := by
      unfold r8_j2
      have cI := c
      refine Ok.neg (by simp) (Ok.bind (r18_ok (hp.gr (g.trans c.g)) hb) fun w4 J ⟨gJ, hw4⟩ => ?_)
      have c := c.gr gJ
      refine Ok.cld c (.tail _ (.head _)) rfl (Ok.cld c (.tail _ (.head _)) rfl (Ok.own r41_ok fun _ => ?_))
      rw [plate_eq hpl] at hw4
      refine Ok.bind (r17_ok (k := 16) (x := ((y.1, 1), (y.2, 1))) hw4 l1) fun rr L ⟨gL, hr1, hr2⟩ => ?_
      have c := c.gr gL
      have cL := c
      refine Ok.cck cI (.tail _ (.head _)) rfl (Ok.cck cI (.tail _ (.head _)) rfl (Ok.bind (r18_ok (hp.gr (g.trans c.g)) hb) fun w5 M ⟨gM, hw5⟩ => ?_))
      have c := c.gr gM
      rw [plate_eq hpl] at hw5
      refine Ok.cld c (.tail _ (.head _)) rfl (Ok.cld c (.tail _ (.head _)) rfl (Ok.bind (r32_ok (k := 19) (x := y) hw5 l1) fun ap N ⟨gN, hap⟩ => ?_))
      have c := c.gr gN
      refine Ok.alo c fun O gO c => Ok.cck cL (.tail _ (.head _)) rfl (Ok.cck cL (.tail _ (.head _)) rfl ?_)
      have epq : paq ((y.1, 1), (y.2, 1)) = ((y.1 : Rat), (y.2 : Rat)) := by unfold paq; rw [dv_int, dv_int]
      have out : ¬ ((-100 ≤ y.1 ∧ y.1 ≤ 100) ∧ -100 ≤ y.2 ∧ y.2 ≤ 100) → Ok (r8_j1 (appA 20) rr.2 rr.1 ap.2.2.2 true O) fun r _ => r = true := fun hn => by
        have h2 := hr2 (fun q => hn ⟨frP_int.1 q.2.1, frP_int.1 q.2.2⟩)
        subst h2
        unfold apR at hap
        rw [if_neg (fun q => hn q.2)] at hap
        subst hap
        unfold r8_j1
        exact Ok.pos rfl (Ok.pos rfl (Ok.pos rfl (awkt _)))
      refine Ok.cld c (.tail _ (.tail _ (.head _))) rfl (Ok.ite (fun h => out (by omega)) fun h1 => Ok.cld c (.tail _ (.tail _ (.head _))) rfl (Ok.ite (fun h => out (by omega)) fun h2 => Ok.cld c (.tail _ (.tail _ (.head _))) rfl (Ok.ite (fun h => out (by omega)) fun h3 => Ok.cld c (.tail _ (.tail _ (.head _))) rfl ?_)))
      by_cases h4 : 100 < y.2
      · rw [decide_eq_true h4]; exact out (by omega)
      · rw [decide_eq_false h4]
        have hy : (-100 ≤ y.1 ∧ y.1 ≤ 100) ∧ -100 ≤ y.2 ∧ y.2 ≤ 100 := ⟨by omega, by omega, by omega⟩
        have h5 := hr1 ⟨hpl, frP_int.2 hy.1, frP_int.2 hy.2⟩
        rw [epq] at h5
        have h6 := h5.1.2 ⟨hin, whole_rnd hin⟩
        unfold apR at hap
        rw [if_pos ⟨hpl, hy⟩, apt_all (keep_in.1 hin)] at hap
        subst hap
        unfold r8_j1
        exact Ok.neg (by simp) (Ok.pos h6 (Ok.pos h5.2 (Ok.pos rfl (awkt _))))
    unfold r8_j3
    refine Ok.neg (by simp) (Ok.ite (fun h => Ok.ite (fun h' => ?_) fun h' => j2) fun h => j2)
    have : e = 2 := by omega
    subst this
    exact j2
  have hok := okp9 (p := p) (m := m)
  by_cases h : okP p m
  · rw [if_pos (hok.2 h)] at hs
    have hml : m.take 9 = m := List.take_of_length_le (by have := h.2.1; have := hpl.1.2; omega)
    rw [hml, plate_eq hpl] at hs
    by_cases hc : (cutQ p m).2.2.2 = true
    · rw [if_pos hc] at hs
      subst hs
      have bd := cut_bd h hc
      have hk := cut_whole h hc hin
      refine Ok.pos rfl (Ok.cld c (.head _) rfl (Ok.cld c (.tail _ (.head _)) rfl (Ok.cld c (.head _) rfl (Ok.cld c (.tail _ (.head _)) rfl (Ok.cld c (.head _) rfl ?_)))))
      have m1 : -2400000 ≤ (cutQ p m).1 * y.1 ∧ (cutQ p m).1 * y.1 ≤ 2400000 := mul_bd (A := 2400) (B := 1000) (by omega) (by omega) (by omega) (by omega)
      have m2 : -2400000 ≤ (cutQ p m).2.1 * y.2 ∧ (cutQ p m).2.1 * y.2 ≤ 2400000 := mul_bd (A := 2400) (B := 1000) (by omega) (by omega) (by omega) (by omega)
      rw [w64_id (n := (cutQ p m).1 * y.1) (by omega) (by omega), w64_id (n := (cutQ p m).2.1 * y.2) (by omega) (by omega), w64_id (by omega) (by omega), decide_eq_false (show ¬ (cutQ p m).2.2.1 < (cutQ p m).1 * y.1 + (cutQ p m).2.1 * y.2 by omega)]
      exact rest 0 (.inl rfl)
    · rw [if_neg hc] at hs
      subst hs
      exact Ok.neg (by simp) (rest 4 (.inr (.inl rfl)))
  · rw [if_neg (fun q => h (hok.1 q))] at hs
    subst hs
    exact Ok.neg (by simp) (rest 2 (.inr (.inr rfl)))
theorem lawCall8 (H : Hp) (xs : List AV) (_ : NoOwn H) (h : RdAs H [.sl (.pair (.int .i64) (.pair (.int .i64) (.pair (.int .i64) .unit))), .sl (.pair (.int .i64) (.pair (.int .i64) .unit)), .int .i64] xs) : ∃ H1, CallSim Try.prog 8 xs H (.bool true) H1 := by
  obtain ⟨x, _, rfl, hx, y, _, rfl, hy, z, _, rfl, hz, rfl⟩ := h
  obtain ⟨v, l, rfl, hv, hb⟩ := rd_sl (enc_pair enc_int (enc_pair enc_int (enc_unit enc_int))) hx
  obtain ⟨w, m, rfl, hw, hb2⟩ := rd_sl (enc_pair enc_int (enc_unit enc_int)) hy
  obtain ⟨n, hn, _⟩ := hz
  injection hn with hn
  subst hn
  obtain ⟨r, H1, h1, rfl⟩ := keepsLaw hv hw (by unfold maxLen at hb; omega) (by unfold maxLen at hb2; omega) n
  exact ⟨H1, sim8 (happ := appASim 20) h1⟩
end Go.Lt.P2
