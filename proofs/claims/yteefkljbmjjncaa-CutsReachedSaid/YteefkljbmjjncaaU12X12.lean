/- PLAIN LAWS OF WHAT IS COMPUTED, for the statement 'CutsReached'. Nothing is asked of the input. -/
import Derived.Test.YteefkljbmjjncaaU12XTk
import Derived.Test.YteefkljbmjjncaaLB
set_option linter.unusedVariables false
set_option linter.unusedSimpArgs false
namespace Go.Lt.P2
open Go Go.Lt Go.Proofs
theorem fq_beq12 {p q : Rat} : (((fq p).1 == (fq q).1) && ((fq p).2 == (fq q).2)) = decide (p = q) := by
  refine Bool.eq_iff_iff.2 ?_
  simp only [Bool.and_eq_true, beq_iff_eq, decide_eq_true_iff]
  exact ⟨fun h => fq_inj (Prod.ext h.1 h.2), fun h => by rw [h]; exact ⟨rfl, rfl⟩⟩
theorem rcs_in {l : List Sd} : ∀ p ∈ rcs (cs l), inP l p := fun p hp => by
  obtain ⟨c, hc, rfl⟩ := mem_rcs.1 hp
  exact (cs_mem hc).2.2.2.2
theorem rcs_qb12 {l : List Sd} (hs : ∀ s ∈ l, sideP s) : ∀ p ∈ rcs (cs l), qb 320 32 p.1 ∧ qb 320 32 p.2 := fun p hp => by
  obtain ⟨c, hc, rfl⟩ := mem_rcs.1 hp
  have k := cs_mem hc
  rw [k.2.2.2.1]
  exact meet_qb (hs _ k.1) (hs _ k.2.1) k.2.2.1
theorem lqs_fq {u : Sd} {p : Pq} : lqs u p ↔ u.1 * (fq p.1).1 * (fq p.2).2 + u.2.1 * (fq p.2).1 * (fq p.1).2 ≤ u.2.2 * (fq p.1).2 * (fq p.2).2 := by
  have pu := fq_pos p.1
  have pv := fq_pos p.2
  have e := atq_dv (a := u.1) (b := u.2.1) (x := (fq p.1).1) (y := (fq p.2).1) pu pv
  rw [dv_fq, dv_fq] at e
  have hpp := Int.mul_pos pu pv
  unfold lqs
  rw [show atq u.1 u.2.1 p = atq u.1 u.2.1 (p.1, p.2) from rfl, e, ← dv_int, dv_le_iff hpp (by decide), Int.mul_one, ← Int.mul_assoc]
section
variable {H : Hp} {v : Sl} {p : List Sd} {a b : Int} {xb : Nat} {mx : Rat}
theorem r12_l3_ok (hv : SL H v p) (hb : p.length < 9223372036854775808) (hp : plateP p) (h9 : near9 a b) {D : Hp} {w : Sl} {P : List Pq} (hP : P = rcs (cs p)) (hw : SL D w P) (c : Cx H D [(xb, [.int .i64 (fq mx).1, .int .i64 (fq mx).2])]) (hmx : isMxQ (atq a b) P mx) : Ok (r12_l3 (appA 20) FUEL v a b xb w false w P.length 0 D) fun r _ => r = true := by
  have awkt : ∀ (X : Hp), Ok ((appA 20 21 [] X).bind fun p => (p.1.asB).bind fun x => some (x, p.2)) fun r _ => r = true := fun X => Ok.ld (awk 20 _) (Ok.ld rfl (Ok.ret rfl))
  have hrl : P.length ≤ 15 := by rw [hP]; exact Nat.le_trans (rcs_len _) (cs_len15 hp.1.2)
  have hqb : ∀ z ∈ P, qb 320 32 z.1 ∧ qb 320 32 z.2 := by rw [hP]; exact rcs_qb12 hp.2.1
  have hin : ∀ z ∈ P, inP p z := by rw [hP]; exact rcs_in
  have hsrt : P.Pairwise ptlt := by rw [hP]; exact rcs_srt _
  clear hP
  have h9' := h9
  unfold near9 at h9'
  have h6 := hp.1.2
  have hsd := hp.2.1
  have qbA : ∀ {z : Pq}, z ∈ P → qb 48000000 10000 (atq a b z) := fun {z} h => atq_qb (by omega) (by omega) ⟨(hqb z h).1.mono (by decide) (by decide), (hqb z h).2.mono (by decide) (by decide)⟩
  have hmq : qb 48000000 10000 mx := by obtain ⟨⟨z, hz, e⟩, _⟩ := hmx; rw [← e]; exact qbA hz
  have hwl := hw.len
  refine Ok.loop (L := fun K (s : Bool × Int) H2 => r12_l3 (appA 20) K v a b xb w s.1 w P.length s.2 H2) (fun m s H' => Cx H H' [(xb, [.int .i64 (fq mx).1, .int .i64 (fq mx).2])] ∧ Gr D H' ∧ ∃ i : Nat, s.2 = i ∧ i + m = P.length ∧ (s.1 = true ↔ ∃ z ∈ P.take i, atq a b z = mx)) ?_ FUEL P.length (false, 0) D (by unfold FUEL; omega) ⟨c, .refl _, 0, rfl, by omega, by simp⟩
  rintro K m ⟨fl, s⟩ H1 ⟨c, gD, i, rfl, hm, hfl⟩ ih
  try dsimp only at *
  rw [r12_l3]
  by_cases h : i < P.length
  case neg =>
    rw [List.take_of_length_le (by omega)] at hfl
    exact Ok.neg (by omega) (Ok.pos (hfl.2 hmx.1) (awkt _))
  have hg := hw.gr gD
  have mi := List.getElem_mem h
  have e2 := List.take_succ_eq_append_getElem h
  have l0 := hg.ldI (i := i) (j := 0) h rfl
  have l1 := hg.ldI (i := i) (j := 1) h rfl
  have l2 := hg.ldI (i := i) (j := 2) h rfl
  have l3 := hg.ldI (i := i) (j := 3) h rfl
  have hprev : ∀ h0 : 0 < i, ptlt (P[i - 1]'(by omega)) P[i] := fun h0 => List.pairwise_iff_getElem.1 hsrt (i - 1) i (by omega) h (by omega)
  have hqz := hqb _ mi
  have hA := qbA mi
  have hiz := hin _ mi
  have hle := hmx.2 _ mi
  generalize hz : P[i] = z at *
  obtain ⟨⟨u1, u2, u3⟩, ⟨v1, v2, v3⟩⟩ := hqz
  have pu := fq_pos z.1
  have pv := fq_pos z.2
  refine Ok.pos (by omega) (Ok.ck (by omega) (Ok.ld l0 (Ok.ld l1 (Ok.ld l2 (Ok.ld l3 (Ok.alo c fun E gE c => Ok.cld c (.head _) rfl (Ok.cld c (.head _) rfl (Ok.cld c (.head _) rfl (Ok.cld c (.head _) rfl ?_)))))))))
  have c1 := c.push [.int .i64 0, .int .i64 0]
  have c2 := c1.push [.int .i64 0, .int .i64 0]
  have gE2 := (Gr.push E (.cells [.int .i64 0, .int .i64 0] false)).trans (Gr.push _ (.cells [.int .i64 0, .int .i64 0] false))
  refine Ok.cst c2 1 rfl rfl fun F nF oF c3 => Ok.cst c3 0 rfl rfl fun G nG oG c => ?_
  have gEG : Gr E G := ⟨by rw [nG, nF]; exact gE2.1, fun x hx => by rw [oG x (by simp; omega), oF x (by omega)]; exact gE2.2 x hx⟩
  refine Ok.cck c1 (.tail _ (.head _)) rfl (Ok.cck c1 (.tail _ (.head _)) rfl (Ok.cck c2 (.tail _ (.tail _ (.head _))) rfl (Ok.cck c2 (.tail _ (.tail _ (.head _))) rfl (Ok.cck c3 (.tail _ (.tail _ (.head _))) rfl (Ok.cck c3 (.tail _ (.tail _ (.head _))) rfl ?_)))))
  refine Ok.cld c (.tail _ (.head _)) rfl (Ok.neg (by omega) (Ok.cld c (.tail _ (.head _)) rfl (Ok.neg (by omega) (Ok.cld c (.head _) rfl (Ok.neg (by omega) (Ok.cld c (.head _) rfl (Ok.neg (by omega) (Ok.cld c (.tail _ (.head _)) rfl (Ok.neg (by omega) (Ok.cld c (.tail _ (.head _)) rfl (Ok.neg (by omega) (Ok.cld c (.head _) rfl (Ok.neg (by omega) (Ok.cld c (.head _) rfl ?_))))))))))))))
  have hdf : decide ((fq z.2).1 < -100000) = false := decide_eq_false (by omega)
  rw [hdf]
  unfold r12_j4
  refine Ok.neg (by simp) ?_
  have hvl := hv.len
  rw [hvl]
  have gDG := gD.trans (gE.trans gEG)
  clear c1 c2 c3 oF oG
  refine Ok.loop (L := fun K' (s : Int) H2 => r12_l5 (appA 20) (fun v1_ v2_ v3_ v4_ v5_ v6_ v7_ v8_ v9_ H_ => r12_l3 (appA 20) K v1_ v2_ v3_ v4_ v5_ v6_ v7_ v8_ v9_ H_) K' v a b xb w fl i E.n _ w P.length i v p.length s H2) (fun m s H' => Cx H H' [((E.push (.cells [.int .i64 0, .int .i64 0] false)).n, [.int .i64 (fq z.2).1, .int .i64 (fq z.2).2]), (E.n, [.int .i64 (fq z.1).1, .int .i64 (fq z.1).2]), (xb, [.int .i64 (fq mx).1, .int .i64 (fq mx).2])] ∧ Gr D H' ∧ ∃ j : Nat, s = j ∧ j + m = p.length) ?_ FUEL p.length 0 G (by unfold FUEL; omega) ⟨c.weak (.cons_cons _ (.cons_cons _ (.cons _ (.refl _)))), gDG, 0, rfl, by omega⟩
  rintro K' m' s' H2 ⟨c, gD2, j, rfl, hmj⟩ ih'
  try dsimp only at *
  rw [r12_l5]
  by_cases hj : j < p.length
  · have hgv := hv.gr c.g
    have mj := List.getElem_mem hj
    have hsj := hsd _ mj
    have hk := lqs_fq.1 (hiz _ mj)
    have k0 := hgv.ldI (i := j) (j := 0) hj rfl
    have k1 := hgv.ldI (i := j) (j := 1) hj rfl
    have k2 := hgv.ldI (i := j) (j := 2) hj rfl
    generalize p[j] = u at *
    unfold sideP at hsj
    refine Ok.pos (by omega) (Ok.ck (by omega) (Ok.ld k0 (Ok.ld k1 (Ok.ld k2 (Ok.alo c fun I gI c => ?_)))))
    refine Ok.cld c (.head _) rfl (Ok.cld c (.tail _ (.tail _ (.head _))) rfl (Ok.cld c (.tail _ (.head _)) rfl (Ok.cld c (.head _) rfl (Ok.cld c (.tail _ (.head _)) rfl (Ok.cld c (.tail _ (.tail _ (.head _))) rfl (Ok.cld c (.head _) rfl (Ok.cld c (.tail _ (.tail _ (.head _))) rfl (Ok.cld c (.tail _ (.head _)) rfl ?_))))))))
    have n1 : -1280 ≤ u.1 * (fq z.1).1 ∧ u.1 * (fq z.1).1 ≤ 1280 := mul_bd (A := 4) (B := 320) (by omega) (by omega) (by omega) (by omega)
    have n2 : -1280 ≤ u.2.1 * (fq z.2).1 ∧ u.2.1 * (fq z.2).1 ≤ 1280 := mul_bd (A := 4) (B := 320) (by omega) (by omega) (by omega) (by omega)
    have n3 : -1280 ≤ u.2.2 * (fq z.1).2 ∧ u.2.2 * (fq z.1).2 ≤ 1280 := mul_bd (A := 40) (B := 32) (by omega) (by omega) (by omega) (by omega)
    have n4 : -40960 ≤ u.1 * (fq z.1).1 * (fq z.2).2 ∧ u.1 * (fq z.1).1 * (fq z.2).2 ≤ 40960 := mul_bd (A := 1280) (B := 32) (by omega) (by omega) (by omega) (by omega)
    have n5 : -40960 ≤ u.2.1 * (fq z.2).1 * (fq z.1).2 ∧ u.2.1 * (fq z.2).1 * (fq z.1).2 ≤ 40960 := mul_bd (A := 1280) (B := 32) (by omega) (by omega) (by omega) (by omega)
    have n6 : -40960 ≤ u.2.2 * (fq z.1).2 * (fq z.2).2 ∧ u.2.2 * (fq z.1).2 * (fq z.2).2 ≤ 40960 := mul_bd (A := 1280) (B := 32) (by omega) (by omega) (by omega) (by omega)
    rw [w64_id (n := u.1 * _) (by omega) (by omega), w64_id (n := u.2.1 * _) (by omega) (by omega), w64_id (n := u.2.2 * _) (by omega) (by omega), w64_id (n := u.1 * _ * _) (by omega) (by omega), w64_id (n := u.2.1 * _ * _) (by omega) (by omega), w64_id (n := u.2.2 * _ * _) (by omega) (by omega), w64_id (n := u.1 * _ * _ + _) (by omega) (by omega), w64_succ (by omega)]
    exact Ok.neg (by omega) (ih' (m' - 1) _ I (by omega) ⟨c.weak (.cons _ (.refl _)), gD2.trans gI, j + 1, rfl, by omega⟩)
  · refine Ok.neg (by omega) (Ok.cld c (.tail _ (.head _)) rfl (Ok.cld c (.head _) rfl (Ok.cld c (.head _) rfl (Ok.cld c (.tail _ (.head _)) rfl (Ok.cld c (.tail _ (.head _)) rfl (Ok.cld c (.head _) rfl ?_))))))
    have n1 : -2880 ≤ a * (fq z.1).1 ∧ a * (fq z.1).1 ≤ 2880 := mul_bd (A := 9) (B := 320) (by omega) (by omega) (by omega) (by omega)
    have n2 : -2880 ≤ b * (fq z.2).1 ∧ b * (fq z.2).1 ≤ 2880 := mul_bd (A := 9) (B := 320) (by omega) (by omega) (by omega) (by omega)
    have n3 : -92160 ≤ a * (fq z.1).1 * (fq z.2).2 ∧ a * (fq z.1).1 * (fq z.2).2 ≤ 92160 := mul_bd (A := 2880) (B := 32) (by omega) (by omega) (by omega) (by omega)
    have n4 : -92160 ≤ b * (fq z.2).1 * (fq z.1).2 ∧ b * (fq z.2).1 * (fq z.1).2 ≤ 92160 := mul_bd (A := 2880) (B := 32) (by omega) (by omega) (by omega) (by omega)
    have n5 : -1024 ≤ (fq z.1).2 * (fq z.2).2 ∧ (fq z.1).2 * (fq z.2).2 ≤ 1024 := mul_bd (A := 32) (B := 32) (by omega) (by omega) (by omega) (by omega)
    have n6 := Int.mul_pos pu pv
    rw [w64_id (n := a * _) (by omega) (by omega), w64_id (n := b * _) (by omega) (by omega), w64_id (n := a * _ * _) (by omega) (by omega), w64_id (n := b * _ * _) (by omega) (by omega), w64_id (n := (fq z.1).2 * (fq z.2).2) (by omega) (by omega), w64_id (n := a * _ * _ + _) (by omega) (by omega)]
    have eA : dv (a * (fq z.1).1 * (fq z.2).2 + b * (fq z.2).1 * (fq z.1).2) ((fq z.1).2 * (fq z.2).2) = atq a b z := by
      rw [← atq_dv pu pv, dv_fq, dv_fq]
    refine Ok.own (r56_q (by omega) n6 (by omega) H0) fun _ => ?_
    rw [eA]
    refine Ok.alo c fun I gI c => ?_
    have gDI := gD2.trans gI
    have fin : Ok (r12_j6 (appA 20) (fun v1_ v2_ v3_ v4_ v5_ v6_ v7_ v8_ v9_ H_ => r12_l3 (appA 20) K v1_ v2_ v3_ v4_ v5_ v6_ v7_ v8_ v9_ H_) v a b xb w fl H2.n w P.length i false I) fun r _ => r = true := by
      unfold r12_j6
      have c' := c.weak (E' := [(xb, [.int .i64 (fq mx).1, .int .i64 (fq mx).2])]) (.cons _ (.cons _ (.cons _ (.refl _))))
      rw [w64_succ (by omega)]
      refine Ok.neg (by simp) (Ok.ite (fun hf => ?_) fun hf => ?_)
      · refine ih (m - 1) (true, _) I (by omega) ⟨c', gDI, i + 1, rfl, by omega, ⟨fun _ => ?_, fun _ => rfl⟩⟩
        obtain ⟨y, hy, e⟩ := hfl.1 hf
        exact ⟨y, by rw [e2]; exact List.mem_append_left _ hy, e⟩
      · refine Ok.cld c (.head _) rfl (Ok.cld c (.head _) rfl (Ok.cld c (.tail _ (.tail _ (.tail _ (.head _)))) rfl (Ok.cld c (.tail _ (.tail _ (.tail _ (.head _)))) rfl ?_)))
        dsimp only
        rw [fq_beq12]
        refine ih (m - 1) (decide (atq a b z = mx), _) I (by omega) ⟨c', gDI, i + 1, rfl, by omega, ?_⟩
        dsimp only
        rw [decide_eq_true_iff]
        constructor
        · intro e; exact ⟨z, by rw [e2]; exact List.mem_append_right _ (List.mem_singleton_self _), e⟩
        · rintro ⟨y, hy, e⟩
          rw [e2] at hy
          rcases List.mem_append.1 hy with hy | hy
          · exact absurd (hfl.2 ⟨y, hy, e⟩) hf
          · rw [List.mem_singleton] at hy; subst hy; exact e
    refine Ok.cld c (.tail _ (.tail _ (.tail _ (.head _)))) rfl (Ok.cld c (.tail _ (.tail _ (.tail _ (.head _)))) rfl (Ok.cld c (.head _) rfl (Ok.cld c (.head _) rfl (Ok.own (r57_q hmq hA (by decide) (by decide)) fun _ => ?_))))
    rw [decide_eq_false (show ¬ mx < atq a b z by grind)]
    refine Ok.neg (by simp) (Ok.ite (fun hi0 => ?_) fun hi0 => fin)
    have hi1 : i - 1 < P.length := by omega
    have hlt := hprev (by omega)
    have mi1 := List.getElem_mem hi1
    have hgI := hw.gr gDI
    have ew : w64 ((i : Int) - 1) = ((i - 1 : Nat) : Int) := by rw [w64_id (by omega) (by omega)]; omega
    have o0 := hgI.ldI (i := i - 1) (j := 0) hi1 rfl
    have o1 := hgI.ldI (i := i - 1) (j := 1) hi1 rfl
    have o2 := hgI.ldI (i := i - 1) (j := 2) hi1 rfl
    have o3 := hgI.ldI (i := i - 1) (j := 3) hi1 rfl
    have hqy := hqb _ mi1
    rw [ew]
    generalize P[i - 1] = y at *
    have hqx : qb 320 32 z.1 := ⟨u1, u2, u3⟩
    have hqv : qb 320 32 z.2 := ⟨v1, v2, v3⟩
    refine Ok.ck (by omega) (Ok.ld o0 (Ok.ld o1 (Ok.cld c (.tail _ (.tail _ (.head _))) rfl (Ok.cld c (.tail _ (.tail _ (.head _))) rfl (Ok.own (r57_q hqy.1 hqx (by decide) (by decide)) fun _ => ?_)))))
    by_cases hx1 : y.1 < z.1
    · rw [decide_eq_true hx1]
      exact Ok.pos rfl fin
    · rw [decide_eq_false hx1]
      unfold ptlt at hlt
      have hxy : y.1 = z.1 ∧ y.2 < z.2 := hlt.elim (fun q => absurd q hx1) id
      refine Ok.neg (by simp) (Ok.ck (by omega) (Ok.ld o0 (Ok.ld o1 (Ok.cld c (.tail _ (.tail _ (.head _))) rfl (Ok.cld c (.tail _ (.tail _ (.head _))) rfl ?_)))))
      rw [fq_beq12, decide_eq_true hxy.1]
      refine Ok.pos rfl (Ok.ck (by omega) (Ok.ld o2 (Ok.ld o3 (Ok.cld c (.tail _ (.head _)) rfl (Ok.cld c (.tail _ (.head _)) rfl (Ok.own (r57_q hqy.2 hqv (by decide) (by decide)) fun _ => ?_))))))
      rw [decide_eq_true hxy.2]
      exact fin
end
theorem reachedLaw {H : Hp} {v : Sl} {p : List Sd} (hv : SL H v p) (hb : p.length < 9223372036854775808) (a b : Int) : Ok (r12 (appA 20) v a b H) fun r _ => r = true := by
  unfold r12
  have l1 : (p.take 9).length ≤ 1000 := by rw [List.length_take]; omega
  have awkt : ∀ (X : Hp), Ok ((appA 20 21 [] X).bind fun p => (p.1.asB).bind fun x => some (x, p.2)) fun r _ => r = true := fun X => Ok.ld (awk 20 _) (Ok.ld rfl (Ok.ret rfl))
  refine Ok.bind (r18_ok hv hb) fun w A ⟨gA, hw⟩ => Ok.bind (r55_ok (k := 18) (a := a) (b := b) hw l1) fun y B ⟨gB, hy1, hy2⟩ => ?_
  have g := gA.trans gB
  have c : Cx B B [] := .nil B
  refine Ok.alo c fun C gC c => Ok.bind (r18_ok (hv.gr (g.trans gC)) hb) fun w2 D ⟨gD, hw2⟩ => Ok.bind (r51_ok (k := 18) hw2 l1) fun x E ⟨gE, hx⟩ => ?_
  have c := (c.gr gD).gr gE
  refine Ok.bind (r19_ok (hv.gr (g.trans c.g))) fun z F ⟨gF, hz⟩ => ?_
  subst hz
  have c := c.gr gF
  have g := g.trans c.g
  have bad : ¬ (plateP p ∧ near9 a b) → Ok (r12_j1 (appA 20) v a b B.n y.2.2 x.1 x.2 true F) fun r _ => r = true := fun hn => by
    have e2 := hy1 fun q => hn ⟨plate_take.1 q.1, q.2⟩
    subst e2
    unfold r12_j1
    exact Ok.pos rfl (Ok.pos rfl (awkt _))
  by_cases hp : plateP p
  case neg =>
    rw [decide_eq_false hp]
    exact Ok.neg (by simp) (bad fun q => hp q.1)
  rw [decide_eq_true hp]
  refine Ok.pos rfl (Ok.own r48_ok fun _ => ?_)
  by_cases h9 : near9 a b
  case neg =>
    rw [decide_eq_false h9]
    exact bad fun q => h9 q.2
  rw [decide_eq_true h9]
  rw [plate_eq hp] at hy2 hx
  rw [if_pos hp] at hx
  have hy := hy2 ⟨hp, h9⟩
  have hsl := hx.1.gr gF
  have hlen := hsl.len
  have hrl : (rcs (cs p)).length ≤ 15 := Nat.le_trans (rcs_len _) (cs_len15 hp.1.2)
  unfold r12_j1
  refine Ok.neg (by simp) (Ok.neg (by rw [hx.2]; simp) ?_)
  dsimp only
  rw [decide_eq_false (show ¬ 40 < (x.1.len : Int) by omega)]
  unfold r12_j0
  refine Ok.neg (by simp) ?_
  rw [hlen]
  by_cases h0 : rcs (cs p) = []
  · have e := hy.1 h0
    subst e
    exact Ok.pos (by rw [h0]; rfl) (Ok.pos rfl (awkt _))
  have hpos := List.length_pos_iff.2 h0
  obtain ⟨mx, hmx, rfl⟩ := hy.2 h0
  have h9' := h9
  unfold near9 at h9'
  have hmq : qb 48000000 10000 mx := by
    obtain ⟨⟨z, hz, e⟩, _⟩ := hmx
    have hq := rcs_qb12 hp.2.1 z hz
    rw [← e]
    exact atq_qb (by omega) (by omega) ⟨hq.1.mono (by decide) (by decide), hq.2.mono (by decide) (by decide)⟩
  obtain ⟨q1, q2, q3⟩ := hmq
  have q0 := fq_pos mx
  refine Ok.neg (by omega) (Ok.neg (by simp) (Ok.cld c (.head _) rfl (Ok.neg (by dsimp only; omega) (Ok.cld c (.head _) rfl (Ok.neg (by dsimp only; omega) (Ok.cld c (.head _) rfl (Ok.neg (by dsimp only; omega) (Ok.cld c (.head _) rfl ?_))))))))
  dsimp only
  rw [decide_eq_false (show ¬ (fq mx).1 < -100000000 by omega)]
  unfold r12_j2
  refine Ok.neg (by simp) ?_
  rw [hlen]
  exact r12_l3_ok (H := B) (hv.gr (gA.trans gB)) hb hp h9 rfl hsl c hmx
theorem lawCall12 (H : Hp) (xs : List AV) (_ : NoOwn H) (h : RdAs H [.sl (.pair (.int .i64) (.pair (.int .i64) (.pair (.int .i64) .unit))), .int .i64, .int .i64] xs) : ∃ H1, CallSim Try.prog 12 xs H (.bool true) H1 := by
  obtain ⟨x, _, rfl, hx, z, _, rfl, hz, w, _, rfl, hw, rfl⟩ := h
  obtain ⟨v, l, rfl, hv, hb⟩ := rd_sl (enc_pair enc_int (enc_pair enc_int (enc_unit enc_int))) hx
  obtain ⟨n, hn, _⟩ := hz
  injection hn with hn
  subst hn
  obtain ⟨m, hm, _⟩ := hw
  injection hm with hm
  subst hm
  obtain ⟨r, H1, h1, rfl⟩ := reachedLaw hv (by unfold maxLen at hb; omega) n m
  exact ⟨H1, sim12 (happ := appASim 20) h1⟩
end Go.Lt.P2
