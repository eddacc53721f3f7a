/- PLAIN LAWS OF WHAT IS COMPUTED, for the statement 'CutsRounds'. Nothing is asked of the input. -/
import Derived.Test.YteefkljbmjjncaaU3XRb
import Derived.Test.YteefkljbmjjncaaU3XBx
set_option linter.unusedVariables false
set_option linter.unusedSimpArgs false
namespace Go.Lt.P2
open Go Go.Lt Go.Proofs
/-- what one appends to, or an empty literal -/
def AccE {T : Type} [El T] (n0 : Nat) (H : Hp) (v : Sl) (l : List T) : Prop := AccL n0 H v l ∨ (l = [] ∧ v.nil = false ∧ v.o = 0 ∧ v.len = 0 ∧ v.cap = 0 ∧ v.opn = 0)
theorem appE {T : Type} [El T] {H : Hp} (x : List T) {es k : Nat} {cs : List AV} (hes : es = El.sz T) (hcs : cs = encs x) (hk : k = x.length) (hb : x.length ≤ 4294967296) : Ok ((H.push (.cells [] false)).app es ⟨false, H.n, 0, 0, 0, 0⟩ cs k) fun v' H' => Gr H H' ∧ AccE H.n H' v' x := by
  subst hes; subst hcs; subst hk
  by_cases h0 : x = []
  · subst h0
    unfold Hp.app
    simp only [List.length_nil, Nat.zero_add, Nat.zero_le, if_true, Nat.le_refl, encs, List.flatMap_nil, Hp.sts, Option.map_some]
    rw [if_neg (by simp)]
    exact Ok.ret ⟨.push _ _, .inr ⟨rfl, rfl, rfl, rfl, rfl, rfl⟩⟩
  · have hp := List.length_pos_iff.2 h0
    obtain ⟨w, H', h1, g, h2, h3, h4, h5, h6, h7, h8⟩ := app_new (H := H) (xs := encs x) (es := El.sz T) (k := x.length) El.pos (encs_len x) hb
    have ho : w.opn = El.sz T := by
      unfold Hp.app at h1
      simp only [Nat.zero_add] at h1
      rw [if_pos hb] at h1
      split at h1
      · rename_i h; exact absurd h (by omega)
      · simp only [Nat.zero_mul, Hp.lds, Option.bind_some, if_true] at h1
        cases h1; rfl
    exact ⟨w, H', h1, g, .inl (.inr ⟨h3, h4, ho, by omega, h7, h2, by rw [encs_len, h5]⟩)⟩
theorem AccE.push {T : Type} [El T] {H0 H : Hp} {v : Sl} {l : List T} (h : AccE H0.n H v l) (g : Gr H0 H) (x : T) {es : Nat} {cs : List AV} (hes : es = El.sz T) (hcs : cs = El.enc x) (hb : l.length < 4294967296) : Ok (H.apN es v cs 1) fun v' H' => AccL H0.n H' v' (l ++ [x]) ∧ Gr H0 H' := by
  rcases h with h | ⟨rfl, h1, h2, h3, h4, h5⟩
  · exact (AccL.push h g x hes hcs hb).mono fun _ _ h => ⟨h.1, h.2.1⟩
  · subst hes; subst hcs
    unfold Hp.apN Hp.app
    rw [h3, h4, h5]
    simp only [Nat.zero_add, Nat.zero_mul, Hp.lds, Option.bind_some, if_true, List.nil_append]
    rw [if_pos (by omega), if_neg (by omega)]
    refine Ok.ret ⟨.inr ⟨rfl, rfl, rfl, rfl, ?_, ?_, ?_⟩, g.trans ((Gr.push _ _).trans (.push _ _))⟩
    · simp; have := g.1; omega
    · rw [encs_one]; exact Hp.get_push_new _ _
    · rw [encs_len]; rfl
theorem AccL.app0 {T : Type} [El T] {H0 H : Hp} {v : Sl} {l : List T} (h : AccL H0.n H v l) (g : Gr H0 H) (x : List T) {es n : Nat} {cs : List AV} (hes : es = El.sz T) (hcs : cs = encs x) (hn : n = x.length) (hb : l.length + x.length ≤ 4294967296) : Ok (H.app es v cs n) fun v' H' => AccL H0.n H' v' (l ++ x) ∧ Gr H0 H' := by
  subst hes; subst hcs; subst hn
  have hl := h.len
  obtain ⟨v', H', h1, h2, h3, _⟩ := Acc.app (k := x.length) h El.pos (encs_len x) (by rw [hl]; exact hb) g.1
  refine ⟨v', H', h1, ?_, h3.gr h g⟩
  unfold AccL
  rw [encs_append]
  exact h2
theorem wth_skip {p : Pq} : ∀ {l : List Pq} {i : Nat}, (∀ x ∈ l.take i, ptlt x p) → wth p l = l.take i ++ wth p (l.drop i)
  | _, 0, _ => rfl
  | [], i + 1, _ => by simp [wth]
  | q :: l, i + 1, h => by
    rw [wth, if_pos (h q (by simp)), List.take_succ_cons, List.drop_succ_cons, List.cons_append]
    congr 1
    exact wth_skip fun x hx => h x (by rw [List.take_succ_cons]; exact .tail _ hx)
theorem pc_beq {q p : Pq} : ((((fq q.1).1 == (fq p.1).1) && ((fq q.1).2 == (fq p.1).2)) && (((fq q.2).1 == (fq p.2).1) && ((fq q.2).2 == (fq p.2).2))) = decide (q = p) := by
  rw [fq_beq, fq_beq]
  refine Bool.eq_iff_iff.2 ?_
  simp only [Bool.and_eq_true, decide_eq_true_iff]
  exact ⟨fun h => Prod.ext h.1 h.2, fun h => by rw [h]; exact ⟨rfl, rfl⟩⟩
/-- with -/
theorem r91_ok {H : Hp} {v : Sl} {l : List Pq} {p : Pq} (hv : SL H v l) (hb : l.length ≤ 1000000) (hl : ∀ x ∈ l, qp x) (hp : qp p) : Ok (r91 v (fq p.1).1 (fq p.1).2 (fq p.2).1 (fq p.2).2 H) fun w H' => Gr H H' ∧ SL H' w (wth p l) := by
  unfold r91
  refine Ok.box (.nil H) fun A gA c => ?_
  have hvA := hv.gr gA
  have hlen := hv.len
  have hcap := hv.cap
  have hopn := hv.opn
  have es : El.sz Pq = 4 := rfl
  rw [es] at hopn
  refine Ok.loop (L := fun K (s : Int) H2 => r91_l0 K v H.n s H2) (fun m s H' => H' = A ∧ ∃ i : Nat, s = i ∧ i + m = l.length ∧ ∀ x ∈ l.take i, ptlt x p) ?_ FUEL l.length 0 A (by unfold FUEL; omega) ⟨rfl, 0, rfl, by omega, by simp⟩
  rintro K m s H1 ⟨rfl, i, rfl, hm, ht⟩ ih
  try dsimp only at *
  rw [r91_l0]
  have hw := wth_skip ht
  have ins : (h : i ≤ l.length) → wth p l = l.take i ++ p :: l.drop i → Ok (r91_j2 v H.n i false H1) fun w H' => Gr H H' ∧ SL H' w (wth p l) := fun hi hw => by
    unfold r91_j2
    have c1 := hvA.cut (lo := 0) (hi := i) (by omega) (by omega)
    rw [List.drop_zero, Nat.sub_zero] at c1
    have c2 := hvA.cut (lo := i) (hi := l.length) (by omega) (by omega)
    have e2 : (l.drop i).take (l.length - i) = l.drop i := List.take_of_length_le (by simp)
    rw [e2] at c2
    have l1 := c1.len
    have l2 := c2.len
    rw [Int.toNat_natCast, hlen, Int.toNat_natCast]
    refine Ok.neg (by simp) (Ok.ck ⟨by omega, hopn⟩ ?_)
    have g0 := Gr.push H1 (.cells [] false)
    refine Ok.ld ((c1.gr g0).lds) (Ok.ck (encs_all _) ?_)
    refine Ok.bind (appE (H := H1) (l.take i) rfl rfl l1 (by rw [List.length_take]; omega)) fun w1 B ⟨gB, hw1⟩ => ?_
    have cB := c.gr gB
    refine Ok.cld cB (.head _) rfl (Ok.cld cB (.head _) rfl (Ok.cld cB (.head _) rfl (Ok.cld cB (.head _) rfl ?_)))
    refine Ok.bind (hw1.push gB p rfl rfl (by rw [List.length_take]; omega)) fun w2 C ⟨hw2, gC⟩ => ?_
    refine Ok.ck ⟨by omega, hopn⟩ ?_
    refine Ok.ld ((c2.gr gC).lds) (Ok.ck (encs_all _) ?_)
    refine Ok.bind (AccL.app0 hw2 gC (l.drop i) rfl rfl l2 (by simp only [List.length_append, List.length_take, List.length_drop, List.length_singleton]; omega)) fun w3 D ⟨hw3, gD⟩ => ?_
    have c0 := c.gr g0
    refine Ok.cck c (.head _) rfl (Ok.cck c (.head _) rfl (Ok.cck c (.head _) rfl (Ok.cck c (.head _) rfl (Ok.cck c0 (.head _) rfl (Ok.cck c0 (.head _) rfl (Ok.cck c0 (.head _) rfl (Ok.cck c0 (.head _) rfl (Ok.ret ⟨c.g.trans gD, ?_⟩))))))))
    rw [hw]
    have := AccL.sl hw3
    rw [List.append_assoc] at this
    exact this
  by_cases h : i < l.length
  · have hx := hl _ (List.getElem_mem h)
    have l0 := hvA.ldI (i := i) (j := 0) h rfl
    have l1 := hvA.ldI (i := i) (j := 1) h rfl
    have l2 := hvA.ldI (i := i) (j := 2) h rfl
    have l3 := hvA.ldI (i := i) (j := 3) h rfl
    refine Ok.pos (by omega) (Ok.ck (by omega) (Ok.ld l0 (Ok.ld l1 (Ok.ld l2 (Ok.ld l3 (Ok.cld c (.head _) rfl (Ok.cld c (.head _) rfl (Ok.cld c (.head _) rfl (Ok.cld c (.head _) rfl (Ok.own (r110_q hx hp) fun X => ?_)))))))))) 
    unfold r91_j1
    refine Ok.ite (fun hc => ?_) fun hc => ?_
    · rw [w64_succ (by omega)]
      refine ih (m - 1) _ _ (by omega) ⟨rfl, i + 1, rfl, by omega, fun x hx => ?_⟩
      rw [List.take_succ_eq_append_getElem h] at hx
      rcases List.mem_append.1 hx with hx | hx
      · exact ht x hx
      · rw [List.mem_singleton] at hx; subst hx; exact of_decide_eq_true hc
    · have hnlt : ¬ ptlt l[i] p := fun q => hc (decide_eq_true q)
      refine Ok.pos (by omega) (Ok.ck (by omega) (Ok.ld l0 (Ok.ld l1 (Ok.ld l2 (Ok.ld l3 (Ok.cld c (.head _) rfl (Ok.cld c (.head _) rfl (Ok.cld c (.head _) rfl (Ok.cld c (.head _) rfl ?_))))))))) 
      rw [pc_beq]
      rw [List.drop_eq_getElem_cons h, wth, if_neg hnlt] at hw
      by_cases he : l[i] = p
      · rw [decide_eq_true he]
        rw [if_pos he, ← List.drop_eq_getElem_cons h, List.take_append_drop] at hw
        unfold r91_j2
        rw [hw]
        exact Ok.pos rfl (Ok.ret ⟨c.g, hvA⟩)
      · rw [decide_eq_false he]
        rw [if_neg he, ← List.drop_eq_getElem_cons h] at hw
        exact ins (by omega) hw
  · refine Ok.neg (by omega) ?_
    unfold r91_j1
    refine Ok.neg (by simp) (Ok.neg (by omega) (ins (by omega) ?_))
    rw [List.drop_of_length_le (by omega)] at hw ⊢
    exact hw
end Go.Lt.P2

namespace Go.Lt.P2
open Go Go.Lt Go.Proofs
section
variable {l : List Sd} {v : Sl}
theorem r54_l2_ok {B H : Hp} {w wv : Sl} {q : List Cn} {s t : Sd} {X Y D lu iu lw jw : Int} {c : Nat} {kt : Sl → Sl → Nat → Sl → Int → Int → Sl → Int → Int → Hp → Option (Sl × Hp)} {Q : Sl → Hp → Prop}
    (hv : SL B v l) (hb : l.length ≤ 1000) (hs : ∀ s ∈ l, sideP s) (g : Gr B H) (hw : SL H w (rcs q)) (hq : (rcs q).length ≤ 1000000) (hqp : ∀ p ∈ rcs q, qp p) (hD : 0 < D ∧ D ≤ 32) (hX : -320 ≤ X ∧ X ≤ 320) (hY : -320 ≤ Y ∧ Y ≤ 320) (hm : meetq s t = (dv X D, dv Y D)) (h0 : crI s t ≠ 0) (hj : 0 ≤ jw ∧ jw < 1000000)
    (kN : ∀ w' H', Gr H H' → SL H' w' (rcs (q ++ (cn l s t).toList)) → Ok (kt v w' c v lu iu wv lw (jw + 1) H') Q) :
    Ok (r54_j3 kt v w c D X Y v lu iu wv lw jw H) Q := by
  unfold r54_j3
  have hlen := hv.len
  rw [hlen]
  have e : qp (meetq s t) := by
    rw [hm]
    exact ⟨(qb_dv hD.1 (by omega) (by omega) (by omega)).mono (N := 320) (D := 32) (by decide) (by decide), (qb_dv hD.1 (by omega) (by omega) (by omega)).mono (N := 320) (D := 32) (by decide) (by decide)⟩
  refine Ok.loop (L := fun K (s : Bool × Int) H2 => r54_l2 kt K v w c D X Y s.1 v lu iu wv lw jw v l.length s.2 H2) (fun m s' H' => Gr H H' ∧ ∃ i : Nat, s'.2 = i ∧ i + m = l.length ∧ s'.1 = decide (inP (l.take i) (meetq s t))) ?_ FUEL l.length (true, 0) H (by unfold FUEL; omega) ⟨.refl _, 0, rfl, by omega, by simp [inP]⟩
  rintro K m ⟨fl, j⟩ H1 ⟨g1, i, rfl, hm', hfl⟩ ih
  try dsimp only at *
  subst hfl
  rw [r54_l2]
  by_cases h : i < l.length
  · have hg := hv.gr (g.trans g1)
    have hx := hs _ (List.getElem_mem h)
    have c0 : Cx H1 H1 [] := .nil H1
    refine Ok.pos (by omega) (Ok.ck (by omega) (Ok.ld (hg.ldI (i := i) (j := 0) h rfl) (Ok.ld (hg.ldI (i := i) (j := 1) h rfl) (Ok.ld (hg.ldI (i := i) (j := 2) h rfl) (Ok.alo c0 fun E gE cx => ?_)))))
    have nxt : ∀ b, b = decide (inP (l.take (i + 1)) (meetq s t)) → Ok (r54_l2 kt K v w c D X Y b v lu iu wv lw jw v l.length (w64 ((i : Int) + 1)) E) Q := fun b hbb => by
      rw [w64_succ (by omega)]
      exact ih (m - 1) (b, _) E (by omega) ⟨g1.trans gE, i + 1, rfl, by omega, hbb⟩
    refine Ok.ite (fun hc => ?_) fun hc => nxt _ ?_
    · refine Ok.cld cx (.head _) rfl (Ok.cld cx (.head _) rfl (Ok.cld cx (.head _) rfl (Ok.own (r75_ok hx (by omega) (by omega) (by omega)) fun _ => nxt _ ?_)))
      have hc := of_decide_eq_true hc
      refine decide_eq_decide.2 ?_
      have e1 : lqs l[i] (meetq s t) ↔ l[i].1 * X + l[i].2.1 * Y ≤ l[i].2.2 * D := by rw [hm]; exact lqs_dv hD.1
      rw [List.take_succ_eq_append_getElem h]
      constructor
      · intro k u hu
        rcases List.mem_append.1 hu with hu | hu
        · exact hc u hu
        · rw [List.mem_singleton] at hu; subst hu; exact e1.2 k
      · intro k; exact e1.1 (k _ (List.mem_append_right _ (List.mem_singleton_self _)))
    · symm
      rw [decide_eq_false_iff_not]
      intro k
      exact hc (decide_eq_true fun u hu => k u (by rw [List.take_succ_eq_append_getElem h]; exact List.mem_append_left _ hu))
  · rw [List.take_of_length_le (by omega)]
    refine Ok.neg (by omega) (Ok.ite (fun hc => ?_) fun hc => ?_)
    · have hin : inP l (meetq s t) := of_decide_eq_true hc
      have ecn : cn l s t = some (meetq s t, s, t) := by unfold cn; rw [if_pos ⟨h0, hin⟩]
      refine Ok.own (r56_q (by omega) hD.1 (by omega) H0) fun _ => Ok.own (r56_q (by omega) hD.1 (by omega) H0) fun _ => ?_
      have e1 : (meetq s t).1 = dv X D := by rw [hm]
      have e2 : (meetq s t).2 = dv Y D := by rw [hm]
      rw [← e1, ← e2]
      refine Ok.bind (r91_ok (hw.gr g1) hq hqp e) fun w' E ⟨gE, hw'⟩ => ?_
      rw [w64_id (by omega) (by omega)]
      refine kN w' E (g1.trans gE) ?_
      rw [ecn]
      show SL E w' (rcs (q ++ [(meetq s t, s, t)]))
      rw [rcs_snoc]
      exact hw'
    · have ecn : cn l s t = none := by
        unfold cn
        rw [if_neg]
        intro k
        exact hc (decide_eq_true k.2)
      rw [w64_id (by omega) (by omega)]
      refine kN w H1 g1 ?_
      rw [ecn]
      simpa using hw.gr g1
/-- Corners of the reference -/
theorem r54_ok {H : Hp} (hv : SL H v l) (hb : l.length ≤ 1000) (hs : ∀ s ∈ l, sideP s) : Ok (r54 v H) fun w H' => Gr H H' ∧ SL H' w (rcs (cs l)) := by
  unfold r54
  have hlen := hv.len
  rw [hlen]
  have pl : ∀ {q : List Cn}, q <+: cs l → (rcs q).length ≤ 1000000 ∧ ∀ p ∈ rcs q, qp p := fun {q} h => by
    have h1 := rcs_len q
    have h2 := h.length_le
    have h3 := cs_len hb
    exact ⟨by omega, rcs_qp hs fun c hc => h.subset hc⟩
  refine Ok.loop (L := fun K (s : Sl × Int) H2 => r54_l0 K v s.1 v l.length s.2 H2) (fun m s H' => Gr H H' ∧ ∃ i : Nat, s.2 = i ∧ i + m = l.length ∧ SL H' s.1 (rcs ((List.range i).flatMap (cno l)))) ?_ FUEL l.length (⟨true, 0, 0, 0, 0, 0⟩, 0) H (by unfold FUEL; omega) ⟨.refl _, 0, rfl, by omega, .nilS⟩
  rintro K m ⟨w, s⟩ H1 ⟨g1, i, rfl, hm, hw⟩ ih
  try dsimp only at *
  rw [r54_l0]
  by_cases h : i < l.length
  · have hg := hv.gr g1
    have c0 : Cx H1 H1 [] := .nil H1
    have hcap := hv.cap
    have hopn := hv.opn
    have es : El.sz Sd = 3 := rfl
    rw [es] at hopn
    refine Ok.pos (by omega) (Ok.ck (by omega) (Ok.ld (hg.ldI (i := i) (j := 0) h rfl) (Ok.ld (hg.ldI (i := i) (j := 1) h rfl) (Ok.ld (hg.ldI (i := i) (j := 2) h rfl) (Ok.alo c0 fun D gD cx => Ok.ck ⟨by omega, hopn⟩ ?_)))))
    have hcut := hg.cut (lo := 0) (hi := i) (by omega) (by omega)
    rw [List.drop_zero, Nat.sub_zero] at hcut
    have hil : (l.take i).length = i := by rw [List.length_take]; omega
    have hcl := hcut.len
    rw [hil] at hcl
    rw [Int.toNat_natCast]
    have e3 : (v.cut 3 (0 : Int).toNat i).len = i := hcl
    rw [e3]
    have hsd := cx.e _ (.head _)
    have hcut := hcut.gr gD
    have hsl := hs _ (List.getElem_mem h)
    refine Ok.loop (L := fun K' (s : Sl × Int) H2 => r54_l1 (fun v1_ v2_ v3_ v4_ v5_ H_ => r54_l0 K v1_ v2_ v3_ v4_ v5_ H_) K' v s.1 H1.n v l.length i (v.cut 3 (0 : Int).toNat i) i s.2 H2) (fun m s H' => Gr D H' ∧ ∃ j : Nat, s.2 = j ∧ j + m = i ∧ SL H' s.1 (rcs ((List.range i).flatMap (cno l) ++ ((l.take i).take j).filterMap (cn l l[i])))) ?_ FUEL i (w, 0) D (by unfold FUEL; omega) ⟨.refl _, 0, rfl, by omega, by simpa using hw.gr gD⟩
    rintro K' m' ⟨w', s'⟩ H2 ⟨g2, j, rfl, hm', hw'⟩ ih'
    try dsimp only at *
    rw [r54_l1]
    have pre : ∀ j', ((List.range i).flatMap (cno l) ++ ((l.take i).take j').filterMap (cn l l[i])) <+: cs l := fun j' => by
      refine List.IsPrefix.trans ?_ (pre_cs h)
      refine (List.prefix_append_right_inj _).2 ?_
      unfold cno
      rw [getElem!_pos l i h]
      conv => rhs; rw [← List.take_append_drop j' (l.take i), List.filterMap_append]
      exact List.prefix_append _ _
    by_cases h2 : j < i
    · have hg2 := hcut.gr g2
      have hj : j < (l.take i).length := by omega
      have et : (l.take i)[j] = l[j] := by rw [List.getElem_take]
      have htl := hs _ (List.getElem_mem (show j < l.length by omega))
      have l0 := hg2.ldI (i := j) (j := 0) (n := l[j].1) hj (by rw [et]; rfl)
      have l1 := hg2.ldI (i := j) (j := 1) (n := l[j].2.1) hj (by rw [et]; rfl)
      have l2 := hg2.ldI (i := j) (j := 2) (n := l[j].2.2) hj (by rw [et]; rfl)
      have cE : Cx H2 H2 [] := .nil H2
      have bd := meet_bd hsl htl
      have eq1 : ((l.take i).take (j + 1)).filterMap (cn l l[i]) = ((l.take i).take j).filterMap (cn l l[i]) ++ (cn l l[i] l[j]).toList := by
        rw [List.take_succ_eq_append_getElem hj, List.filterMap_append, et]
        cases h : cn l l[i] l[j] <;> simp [h]
      refine Ok.pos (by omega) (Ok.ck (by omega) (Ok.ld l0 (Ok.ld l1 (Ok.ld l2 (Ok.alo cE fun E gE cE => ?_)))))
      have sE : E.get H1.n = some (.cells (sc l[i]) false) := by rw [(g2.trans gE).2 _ (Hp.get_lt hsd)]; exact hsd
      refine Ok.ld (ldI_get sE rfl) (Ok.cld cE (.head _) rfl (Ok.cld cE (.head _) rfl (Ok.ld (ldI_get sE rfl) ?_)))
      have ecr : l[i].1 * l[j].2.1 - l[j].1 * l[i].2.1 = crI l[i] l[j] := by unfold crI; rw [Int.mul_comm l[j].1]
      have m1 : -16 ≤ l[i].1 * l[j].2.1 ∧ l[i].1 * l[j].2.1 ≤ 16 := mul_bd (A := 4) (B := 4) hsl.1.1 hsl.1.2 htl.2.1.1 htl.2.1.2
      have m2 : -16 ≤ l[j].1 * l[i].2.1 ∧ l[j].1 * l[i].2.1 ≤ 16 := mul_bd (A := 4) (B := 4) htl.1.1 htl.1.2 hsl.2.1.1 hsl.2.1.2
      rw [w64_id (n := l[i].1 * l[j].2.1) (by omega) (by omega), w64_id (n := l[j].1 * l[i].2.1) (by omega) (by omega), w64_id (n := _ - l[j].1 * l[i].2.1) (by omega) (by omega), ecr]
      refine Ok.ite (fun h0 => ?_) fun h0 => ?_
      · rw [w64_succ (by omega)]
        refine ih' (m' - 1) (w', _) E (by omega) ⟨g2.trans gE, j + 1, rfl, by omega, ?_⟩
        have : cn l l[i] l[j] = none := by unfold cn; rw [if_neg (fun q => q.1 h0)]
        rw [eq1, this]
        simpa using hw'.gr gE
      · refine Ok.ld (ldI_get sE rfl) (Ok.cld cE (.head _) rfl (Ok.cld cE (.head _) rfl (Ok.ld (ldI_get sE rfl) (Ok.ld (ldI_get sE rfl) (Ok.cld cE (.head _) rfl (Ok.cld cE (.head _) rfl (Ok.ld (ldI_get sE rfl) ?_)))))))
        rw [w64_id (n := l[i].2.2 * l[j].2.1) (by omega) (by omega), w64_id (n := l[j].2.2 * l[i].2.1) (by omega) (by omega), w64_id (n := l[i].1 * l[j].2.2) (by omega) (by omega), w64_id (n := l[j].1 * l[i].2.2) (by omega) (by omega), w64_id (n := _ - l[j].2.2 * l[i].2.1) (by omega) (by omega), w64_id (n := _ - l[j].1 * l[i].2.2) (by omega) (by omega)]
        have pj := pl (pre j)
        have kN : ∀ w'' H'', Gr E H'' → SL H'' w'' (rcs (((List.range i).flatMap (cno l) ++ ((l.take i).take j).filterMap (cn l l[i])) ++ (cn l l[i] l[j]).toList)) → Ok (r54_l1 (fun v1_ v2_ v3_ v4_ v5_ H_ => r54_l0 K v1_ v2_ v3_ v4_ v5_ H_) K' v w'' H1.n v l.length i (v.cut 3 (0 : Int).toNat i) i ((j : Int) + 1) H'') fun w H' => Gr H H' ∧ SL H' w (rcs (cs l)) := fun w'' H'' g'' hw'' => by
          refine ih' (m' - 1) (w'', _) H'' (by omega) ⟨g2.trans (gE.trans g''), j + 1, by simp, by omega, ?_⟩
          rw [eq1, ← List.append_assoc]
          exact hw''
        have gB := g1.trans (gD.trans (g2.trans gE))
        refine Ok.ite (fun hneg => ?_) fun hneg => ?_
        · rw [w64_id (n := 0 - crI _ _) (by omega) (by omega), w64_id (n := 0 - (l[i].2.2 * l[j].2.1 - l[j].2.2 * l[i].2.1)) (by omega) (by omega), w64_id (n := 0 - (l[i].1 * l[j].2.2 - l[j].1 * l[i].2.2)) (by omega) (by omega)]
          refine r54_l2_ok (s := l[i]) (t := l[j]) hv hb hs gB (hw'.gr gE) pj.1 pj.2 (by omega) (by omega) (by omega) ?_ h0 (by omega) kN
          unfold meetq
          rw [Int.zero_sub, Int.zero_sub, Int.zero_sub, dv_neg, dv_neg]
        · exact r54_l2_ok (s := l[i]) (t := l[j]) hv hb hs gB (hw'.gr gE) pj.1 pj.2 (by omega) (by omega) (by omega) rfl h0 (by omega) kN
    · refine Ok.neg (by omega) ?_
      rw [w64_succ (by omega)]
      refine ih (m - 1) (w', _) H2 (by omega) ⟨g1.trans (gD.trans g2), i + 1, rfl, by omega, ?_⟩
      rw [range_succ_flatMap]
      have : (l.take i).take j = l.take i := List.take_of_length_le (by omega)
      rw [this] at hw'
      unfold cno
      rw [getElem!_pos l i h]
      exact hw'
  · have : i = l.length := by omega
    subst this
    exact Ok.neg (by omega) (Ok.ret ⟨g1, hw⟩)
end
end Go.Lt.P2

namespace Go.Lt.P2
open Go Go.Lt Go.Proofs
/-- Floor -/
theorem r61_q {q : Rat} {N D : Int} (hq : qb N D q) (hN : N < 1000000000000000000) (hD : D < 1000000000000000000) : Ok (r61 (fq q).1 (fq q).2 H0) fun r _ => r = q.floor := by
  obtain ⟨h1, h2, h3⟩ := hq
  have hp := fq_pos q
  have e1 := Int.mul_tdiv_add_tmod (fq q).1 (fq q).2
  have e2 := Int.tmod_lt_of_pos (fq q).1 hp
  have e3 := Int.lt_tmod_of_pos (fq q).1 hp
  have hf : ∀ f : Int, f * (fq q).2 ≤ (fq q).1 → (fq q).1 < (f + 1) * (fq q).2 → f = q.floor := fun f h1 h2 => by
    have := (floor_iff (f := f) (n := (fq q).1) hp).2 ⟨h1, h2⟩
    rw [dv_fq] at this
    exact this
  have hm0 : 0 ≤ (fq q).1 → 0 ≤ Int.tmod (fq q).1 (fq q).2 := fun h => Int.tmod_nonneg _ h
  have hab : (Int.tdiv (fq q).1 (fq q).2).natAbs ≤ (fq q).1.natAbs := by
    rw [Int.natAbs_tdiv]; exact Nat.div_le_self _ _
  have hmul : (fq q).2 * Int.tdiv (fq q).1 (fq q).2 = Int.tdiv (fq q).1 (fq q).2 * (fq q).2 := Int.mul_comm _ _
  rw [hmul] at e1
  have e4 : (Int.tdiv (fq q).1 (fq q).2 + 1) * (fq q).2 = Int.tdiv (fq q).1 (fq q).2 * (fq q).2 + (fq q).2 := by rw [Int.add_mul, Int.one_mul]
  have e5 : (Int.tdiv (fq q).1 (fq q).2 - 1) * (fq q).2 = Int.tdiv (fq q).1 (fq q).2 * (fq q).2 - (fq q).2 := by rw [Int.sub_mul, Int.one_mul]
  have e6 : (Int.tdiv (fq q).1 (fq q).2 - 1 + 1) * (fq q).2 = Int.tdiv (fq q).1 (fq q).2 * (fq q).2 := by rw [Int.sub_add_cancel]
  unfold r61
  refine Ok.box (.nil H0) fun A _ c => Ok.cld c (.head _) rfl (Ok.cld c (.head _) rfl (Ok.ck (by omega) (Ok.cld c (.head _) rfl (Ok.cld c (.head _) rfl ?_))))
  have hw : w64 (Int.tdiv (fq q).1 (fq q).2) = Int.tdiv (fq q).1 (fq q).2 := w64_id (by omega) (by omega)
  rw [hw]
  generalize Int.tdiv (fq q).1 (fq q).2 = n at *
  generalize Int.tmod (fq q).1 (fq q).2 = m at *
  rw [w64_id (n := n * _) (by omega) (by omega)]
  refine Ok.ite (fun hc => Ok.ret ?_) fun hc => Ok.ret ?_
  · rw [w64_id (by omega) (by omega)]
    exact hf _ (by omega) (by omega)
  · exact hf _ (by omega) (by omega)
end Go.Lt.P2

namespace Go.Lt.P2
open Go Go.Lt Go.Proofs
/-- the reference's round -/
def refQ (P : List Pq) (p : Pq) (a b : Int) : Prop := ∃ m, isMxQ (atq a b) P m ∧ atq a b p ≤ (m.floor : Rat)
def refR (P : List Pq) (p : Pq) : Prop := P ≠ [] ∧ ∀ a b : Int, -24 ≤ a → a ≤ 24 → -24 ≤ b → b ≤ 24 → refQ P p a b
theorem floor_bd3 {q : Rat} {N D : Int} (h : qb N D q) (hN : 0 ≤ N) : -N - 1 ≤ q.floor ∧ q.floor ≤ N := by
  obtain ⟨h1, h2, h3⟩ := h
  have hp := fq_pos q
  have := (floor_iff (f := q.floor) (n := (fq q).1) hp).1 (by rw [dv_fq])
  generalize q.floor = f at *
  generalize (fq q).1 = n at *
  generalize (fq q).2 = d at *
  constructor
  · refine Classical.byContradiction fun hc => ?_
    have : (f + 1) * d ≤ (-N - 1) * 1 := by
      have h4 : 0 ≤ (-N - 1 - (f + 1)) * d := Int.mul_nonneg (by omega) (by omega)
      have h5 : 0 ≤ (N + 1) * (d - 1) := Int.mul_nonneg (by omega) (by omega)
      grind
    omega
  · refine Classical.byContradiction fun hc => ?_
    have : (N + 1) * 1 ≤ f * d := by
      have h4 : 0 ≤ (f - (N + 1)) * d := Int.mul_nonneg (by omega) (by omega)
      have h5 : 0 ≤ (N + 1) * (d - 1) := Int.mul_nonneg (by omega) (by omega)
      grind
    omega
/-- InRound of the reference -/
theorem r22_ok {H : Hp} {v : Sl} {l : List Sd} {x : Pa} (hv : SL H v l) (hb : l.length ≤ 1000) (hs : ∀ s ∈ l, sideP s) (h15 : (rcs (cs l)).length ≤ 1000) (hx : ptP x) : Ok (r22 v x.1.1 x.1.2 x.2.1 x.2.2 H) fun r H' => (r = true ↔ refR (rcs (cs l)) (paq x)) := by
  unfold r22
  have hx' := hx
  unfold ptP frP at hx'
  refine Ok.box (.nil H) fun A gA c => Ok.bind (r54_ok (hv.gr gA) hb hs) fun w B ⟨gB, hw⟩ => ?_
  have c := c.gr gB
  have hqb : ∀ z ∈ rcs (cs l), qb 320 32 z.1 ∧ qb 320 32 z.2 := fun z hz => by
    obtain ⟨d, hd, rfl⟩ := mem_rcs.1 hz
    have k := cs_mem hd
    rw [k.2.2.2.1]
    exact meet_qb (hs _ k.1) (hs _ k.2.1) k.2.2.1
  generalize rcs (cs l) = P at *
  refine Ok.loop (L := fun K (s : Int) H2 => r22_l0 K H.n w s H2) (fun m a H' => Cx H H' [(H.n, [.int .i64 x.1.1, .int .i64 x.1.2, .int .i64 x.2.1, .int .i64 x.2.2])] ∧ Gr B H' ∧ (-24 ≤ a ∧ a ≤ 25) ∧ m = (25 - a).toNat ∧ (a ≠ -24 → P ≠ []) ∧ ∀ a' b : Int, -24 ≤ a' → a' < a → -24 ≤ b → b ≤ 24 → refQ P (paq x) a' b) ?_ FUEL 49 (-24) B (by unfold FUEL; omega) ⟨c, .refl _, by omega, rfl, fun h => absurd rfl h, fun a' b h1 h2 => by omega⟩
  rintro K m a H1 ⟨c, gH, ha, rfl, hne, hall⟩ ih
  try dsimp only at *
  rw [r22_l0]
  by_cases h : a ≤ 24
  case neg =>
    refine Ok.neg h (Ok.ret ⟨fun _ => ⟨hne (by omega), fun a' b h1 h2 h3 h4 => hall a' b h1 (by omega) h3 h4⟩, fun _ => rfl⟩)
  refine Ok.pos h ?_
  refine Ok.loop (L := fun K' (s : Int) H2 => r22_l1 (fun v1_ v2_ v3_ H_ => r22_l0 K v1_ v2_ v3_ H_) K' H.n w a s H2) (fun m b H' => Cx H H' [(H.n, [.int .i64 x.1.1, .int .i64 x.1.2, .int .i64 x.2.1, .int .i64 x.2.2])] ∧ Gr B H' ∧ (-24 ≤ b ∧ b ≤ 25) ∧ m = (25 - b).toNat ∧ (b ≠ -24 → P ≠ []) ∧ ∀ b' : Int, -24 ≤ b' → b' < b → refQ P (paq x) a b') ?_ FUEL 49 (-24) H1 (by unfold FUEL; omega) ⟨c, gH, by omega, rfl, fun h => absurd rfl h, fun b' h1 h2 => by omega⟩
  rintro K' m' b H2 ⟨c, gH2, hbb, rfl, hneb, hallb⟩ ih'
  try dsimp only at *
  rw [r22_l1]
  by_cases h2 : b ≤ 24
  case neg =>
    rw [w64_id (n := a + 1) (by omega) (by omega)]
    refine Ok.neg h2 (ih (25 - (a + 1)).toNat (a + 1) H2 (by omega) ⟨c, gH2, by omega, rfl, fun _ => hneb (by omega), fun a' b' h1 h3 h4 h5 => ?_⟩)
    rcases Int.lt_or_eq_of_le (show a' ≤ a by omega) with h6 | h6
    · exact hall a' b' h1 h6 h4 h5
    · subst h6; exact hallb b' h4 (by omega)
  refine Ok.pos h2 (Ok.bind (r60_ok (a := a) (b := b) (hw.gr gH2) h15 hqb (by omega) (by omega)) fun r E ⟨gE, hr0, hr1⟩ => ?_)
  have c := c.gr gE
  refine Ok.alo c fun F gF c => ?_
  by_cases h0 : P = []
  · have e := hr0 h0
    subst e
    exact Ok.pos (by simp) (Ok.ret ⟨fun q => (by cases q), fun q => absurd h0 q.1⟩)
  obtain ⟨mx, hmx, rfl⟩ := hr1 h0
  have hmq : qb 48000000 10000 mx := by
    obtain ⟨⟨z, hz, e⟩, _⟩ := hmx
    rw [← e]; exact atq_qb (by omega) (by omega) ⟨(hqb z hz).1.mono (by decide) (by decide), (hqb z hz).2.mono (by decide) (by decide)⟩
  have hfl := floor_bd3 hmq (by decide)
  refine Ok.neg (by simp) (Ok.cld c (.tail _ (.head _)) rfl (Ok.cld c (.tail _ (.head _)) rfl (Ok.cld c (.tail _ (.head _)) rfl (Ok.cld c (.tail _ (.head _)) rfl (Ok.cld c (.head _) rfl (Ok.cld c (.head _) rfl (Ok.own (r61_q hmq (by decide) (by decide)) fun _ => Ok.cld c (.tail _ (.head _)) rfl (Ok.cld c (.tail _ (.head _)) rfl ?_))))))))
  have n1 : -240000 ≤ a * x.1.1 ∧ a * x.1.1 ≤ 240000 := mul_bd (A := 24) (B := 10000) (by omega) (by omega) (by omega) (by omega)
  have n2 : -240000 ≤ b * x.2.1 ∧ b * x.2.1 ≤ 240000 := mul_bd (A := 24) (B := 10000) (by omega) (by omega) (by omega) (by omega)
  have n3 : -4800000100 ≤ mx.floor * x.1.2 ∧ mx.floor * x.1.2 ≤ 4800000100 := mul_bd (A := 48000001) (B := 100) (by omega) (by omega) (by omega) (by omega)
  have n4 : -24000000 ≤ a * x.1.1 * x.2.2 ∧ a * x.1.1 * x.2.2 ≤ 24000000 := mul_bd (A := 240000) (B := 100) (by omega) (by omega) (by omega) (by omega)
  have n5 : -24000000 ≤ b * x.2.1 * x.1.2 ∧ b * x.2.1 * x.1.2 ≤ 24000000 := mul_bd (A := 240000) (B := 100) (by omega) (by omega) (by omega) (by omega)
  have n6 : -480000010000 ≤ mx.floor * x.1.2 * x.2.2 ∧ mx.floor * x.1.2 * x.2.2 ≤ 480000010000 := mul_bd (A := 4800000100) (B := 100) (by omega) (by omega) (by omega) (by omega)
  dsimp only
  rw [w64_id (n := a * _) (by omega) (by omega), w64_id (n := b * _) (by omega) (by omega), w64_id (n := mx.floor * _) (by omega) (by omega), w64_id (n := a * _ * _) (by omega) (by omega), w64_id (n := b * _ * _) (by omega) (by omega), w64_id (n := mx.floor * _ * _) (by omega) (by omega), w64_id (n := a * _ * _ + _) (by omega) (by omega)]
  have hiff : (a * x.1.1 * x.2.2 + b * x.2.1 * x.1.2 ≤ mx.floor * x.1.2 * x.2.2) ↔ atq a b (paq x) ≤ (mx.floor : Rat) := by
    have hpp := Int.mul_pos (show 0 < x.1.2 by omega) (show 0 < x.2.2 by omega)
    unfold paq
    rw [atq_dv (by omega) (by omega), ← dv_int mx.floor, dv_le_iff hpp (by decide), Int.mul_one, ← Int.mul_assoc]
  refine Ok.ite (fun hc => Ok.ret ⟨fun q => (by cases q), fun q => ?_⟩) fun hc => ?_
  · obtain ⟨m2, hm2, hle⟩ := q.2 a b (by omega) (by omega) (by omega) (by omega)
    rw [hm2.uniq hmx] at hle
    have := hiff.2 hle
    omega
  · rw [w64_id (n := b + 1) (by omega) (by omega)]
    refine ih' (25 - (b + 1)).toNat (b + 1) F (by omega) ⟨c.weak (.cons _ (.refl _)), gH2.trans (gE.trans gF), by omega, rfl, fun _ => h0, fun b' h1 h3 => ?_⟩
    rcases Int.lt_or_eq_of_le (show b' ≤ b by omega) with h6 | h6
    · exact hallb b' h1 h6
    · subst h6; exact ⟨mx, hmx, hiff.1 (by omega)⟩
end Go.Lt.P2

namespace Go.Lt.P2
open Go Go.Lt Go.Proofs
theorem rcs_inP {l : List Sd} : ∀ z ∈ rcs (cs l), inP l z := fun z hz => by
  obtain ⟨c, hc, rfl⟩ := mem_rcs.1 hz
  exact (cs_mem hc).2.2.2.2
theorem btw_swap {s t : Sd} {a b : Int} (h : 0 < crI s t) (h1 : 0 ≤ a * t.2.1 - b * t.1 ∧ a * t.2.1 - b * t.1 ≤ crI s t) (h2 : 0 ≤ s.1 * b - s.2.1 * a ∧ s.1 * b - s.2.1 * a ≤ crI s t) : btw s t a b ∧ btw t s a b := by
  constructor
  · unfold btw
    rw [if_neg (by omega)]
    exact ⟨⟨h1.1, h2.1⟩, h1.2, h2.2⟩
  · have e := crI_sym s t
    have m1 := Int.mul_comm a s.2.1
    have m2 := Int.mul_comm b s.1
    have m3 := Int.mul_comm t.1 b
    have m4 := Int.mul_comm t.2.1 a
    unfold btw
    rw [if_pos (by omega), e]
    omega
/-- a whole arrow is a sum of two sides and one between them -/
theorem split_arrow {s t : Sd} (hs : sideP s) (ht : sideP t) {a b : Int} (hD : 0 < crI s t) (hA : 0 ≤ cr a b t) (hB : cr a b s ≤ 0) : ∃ n1 n2 a' b' : Int, 0 ≤ n1 ∧ 0 ≤ n2 ∧ a = n1 * s.1 + n2 * t.1 + a' ∧ b = n1 * s.2.1 + n2 * t.2.1 + b' ∧ ((-8 ≤ a' ∧ a' ≤ 8) ∧ -8 ≤ b' ∧ b' ≤ 8) ∧ btw s t a' b' ∧ btw t s a' b' := by
  have e1 := Int.ediv_mul_add_emod (cr a b t) (crI s t)
  have e2 := Int.ediv_mul_add_emod (-(cr a b s)) (crI s t)
  have r1 := Int.emod_nonneg (cr a b t) (show crI s t ≠ 0 by omega)
  have r2 := Int.emod_lt_of_pos (cr a b t) hD
  have r3 := Int.emod_nonneg (-(cr a b s)) (show crI s t ≠ 0 by omega)
  have r4 := Int.emod_lt_of_pos (-(cr a b s)) hD
  have p1 : 0 ≤ cr a b t / crI s t := Int.ediv_nonneg hA (by omega)
  have p2 : 0 ≤ -(cr a b s) / crI s t := Int.ediv_nonneg (by omega) (by omega)
  generalize cr a b t / crI s t = n1 at *
  generalize -(cr a b s) / crI s t = n2 at *
  generalize cr a b t % crI s t = u at *
  generalize -(cr a b s) % crI s t = w at *
  have hu : (a - n1 * s.1 - n2 * t.1) * t.2.1 - (b - n1 * s.2.1 - n2 * t.2.1) * t.1 = u := by
    unfold cr crI at *
    grind
  have hv : s.1 * (b - n1 * s.2.1 - n2 * t.2.1) - s.2.1 * (a - n1 * s.1 - n2 * t.1) = w := by
    unfold cr crI at *
    grind
  have ea : crI s t * (a - n1 * s.1 - n2 * t.1) = u * s.1 + w * t.1 := by
    rw [← hu, ← hv]; unfold crI; grind
  have eb : crI s t * (b - n1 * s.2.1 - n2 * t.2.1) = u * s.2.1 + w * t.2.1 := by
    rw [← hu, ← hv]; unfold crI; grind
  refine ⟨n1, n2, a - n1 * s.1 - n2 * t.1, b - n1 * s.2.1 - n2 * t.2.1, p1, p2, by omega, by omega, ?_, btw_swap hD (by omega) (by omega)⟩
  generalize a - n1 * s.1 - n2 * t.1 = x at *
  generalize b - n1 * s.2.1 - n2 * t.2.1 = y at *
  generalize crI s t = D at *
  have hs' := hs
  have ht' := ht
  unfold sideP at hs' ht'
  have bd : ∀ (f g z : Int), (-4 ≤ f ∧ f ≤ 4) → (-4 ≤ g ∧ g ≤ 4) → D * z = u * f + w * g → -8 ≤ z ∧ z ≤ 8 := fun f g z hf hg e => by
    have k1 : 0 ≤ u * (4 - f) := Int.mul_nonneg r1 (by omega)
    have k2 : 0 ≤ u * (4 + f) := Int.mul_nonneg r1 (by omega)
    have k3 : 0 ≤ w * (4 - g) := Int.mul_nonneg r3 (by omega)
    have k4 : 0 ≤ w * (4 + g) := Int.mul_nonneg r3 (by omega)
    rw [Int.mul_sub] at k1 k3
    rw [Int.mul_add] at k2 k4
    constructor
    · refine Classical.byContradiction fun q => ?_
      have k5 : 0 ≤ D * (-9 - z) := Int.mul_nonneg (by omega) (by omega)
      rw [Int.mul_sub] at k5
      omega
    · refine Classical.byContradiction fun q => ?_
      have k5 : 0 ≤ D * (z - 9) := Int.mul_nonneg (by omega) (by omega)
      rw [Int.mul_sub] at k5
      omega
  exact ⟨bd _ _ _ hs'.1 ht'.1 ea, bd _ _ _ hs'.2.1 ht'.2.1 eb⟩
/-- the program's round keeps every cut -/
theorem rnd_ref {l : List Sd} (hp : plateP l) {p : Pq} (hin : inP l p) (hr : rndP l p) (a b : Int) : refQ (rcs (cs l)) p a b := by
  have hne : cs l ≠ [] := by
    obtain ⟨c, hc, _⟩ := lp hp hin 0 0
    exact List.ne_nil_of_mem hc
  by_cases hw : a = 0 ∧ b = 0
  · obtain ⟨rfl, rfl⟩ := hw
    obtain ⟨c, hc, _⟩ := lp hp hin 0 0
    have z : ∀ q : Pq, atq 0 0 q = 0 := fun q => by unfold atq; grind
    refine ⟨0, ⟨⟨c.1, mem_rcs.2 ⟨c, hc, rfl⟩, z _⟩, fun q _ => by rw [z]; exact Rat.le_refl⟩, ?_⟩
    rw [z, show (0 : Rat) = ((0 : Int) : Rat) from rfl, Rat.floor_intCast]
    exact Rat.le_refl
  obtain ⟨m, hm, hmax, s, hs, t, ht, ons, ont, hD, hA, hB⟩ := cone hp hne hw
  obtain ⟨n1, n2, a', b', p1, p2, ea, eb, hbd, hb1, hb2⟩ := split_arrow (hp.2.1 s hs) (hp.2.1 t ht) hD hA hB
  have hmm : m = meetq s t := meet_uniq (by omega) ons ont
  have hcs := mem_cs hs ht (by omega) (by rw [← hmm]; exact hm)
  have hrk : rk m p (a', b') := by
    rcases hcs with h | h
    · have := hr _ h (a', b') (mem_bt.2 ⟨hbd, hb1⟩)
      dsimp only at this
      rw [← hmm] at this
      exact this
    · have := hr _ h (a', b') (mem_bt.2 ⟨hbd, hb2⟩)
      dsimp only at this
      rw [← hmm] at this
      exact this
  have hmP : m ∈ rcs (cs l) := by
    rcases hcs with h | h
    · exact mem_rcs.2 ⟨_, h, hmm.symm⟩
    · exact mem_rcs.2 ⟨_, h, hmm.symm⟩
  have hsum : ∀ z : Pq, atq a b z = (n1 : Rat) * atq s.1 s.2.1 z + (n2 : Rat) * atq t.1 t.2.1 z + atq a' b' z := fun z => by
    rw [ea, eb]
    unfold atq
    rw [Rat.intCast_add, Rat.intCast_add, Rat.intCast_mul, Rat.intCast_mul, Rat.intCast_add, Rat.intCast_add, Rat.intCast_mul, Rat.intCast_mul]
    grind
  refine ⟨atq a b m, ⟨⟨m, hmP, rfl⟩, fun z hz => ?_⟩, ?_⟩
  · obtain ⟨c, hc, rfl⟩ := mem_rcs.1 hz
    exact hmax c hc
  · have hsp := hin s hs
    have htp := hin t ht
    unfold lqs at hsp htp
    unfold on at ons ont
    unfold rk lqs at hrk
    dsimp only at hrk
    have k1 := Rat.mul_nonneg (show (0 : Rat) ≤ (n1 : Rat) from castLe.2 p1) (show 0 ≤ (s.2.2 : Rat) - atq s.1 s.2.1 p by grind)
    have k2 := Rat.mul_nonneg (show (0 : Rat) ≤ (n2 : Rat) from castLe.2 p2) (show 0 ≤ (t.2.2 : Rat) - atq t.1 t.2.1 p by grind)
    have e : atq a b m = atq a' b' m + ((n1 * s.2.2 + n2 * t.2.2 : Int) : Rat) := by
      rw [hsum, ons, ont, Rat.intCast_add, Rat.intCast_mul, Rat.intCast_mul]
      grind
    rw [e, Rat.floor_add_intCast, Rat.intCast_add, Rat.intCast_add, Rat.intCast_mul, Rat.intCast_mul, hsum p]
    grind
theorem ref_rnd {l : List Sd} (hp : plateP l) {p : Pq} (h : refR (rcs (cs l)) p) : inP l p ∧ rndP l p := by
  constructor
  · intro s hs
    have hsd := hp.2.1 s hs
    unfold sideP at hsd
    obtain ⟨mx, ⟨⟨z, hz, e⟩, _⟩, hle⟩ := h.2 s.1 s.2.1 (by omega) (by omega) (by omega) (by omega)
    have hz2 := rcs_inP z hz s hs
    unfold lqs at hz2 ⊢
    rw [e] at hz2
    have := Rat.floor_monotone hz2
    rw [Rat.floor_intCast] at this
    have := castLe.2 this
    grind
  · intro c hc w hw
    have hm := cs_mem hc
    have hb := mem_bt.1 hw
    obtain ⟨mx, ⟨⟨z, hz, e⟩, _⟩, hle⟩ := h.2 w.1 w.2 (by omega) (by omega) (by omega) (by omega)
    have hz2 := rcs_inP z hz
    have h1 := btw_le hm.2.2.1 hb.2 (hz2 _ hm.1) (hz2 _ hm.2.1)
    rw [← hm.2.2.2.1, e] at h1
    have := castLe.2 (Rat.floor_monotone h1)
    unfold rk lqs
    dsimp only
    grind
theorem round_iff {l : List Sd} (hp : plateP l) {p : Pq} : refR (rcs (cs l)) p ↔ inP l p ∧ rndP l p := by
  refine ⟨ref_rnd hp, fun ⟨h1, h2⟩ => ⟨fun h0 => ?_, fun a b _ _ _ _ => rnd_ref hp h1 h2 a b⟩⟩
  obtain ⟨c, hc, _⟩ := lp hp h1 0 0
  have : c.1 ∈ rcs (cs l) := mem_rcs.2 ⟨c, hc, rfl⟩
  rw [h0] at this
  cases this
end Go.Lt.P2

namespace Go.Lt.P2
open Go Go.Lt Go.Proofs
theorem frP_iff {f : Pr} (h1 : 1 ≤ f.2 ∧ f.2 ≤ 100) (h2 : -100 * f.2 ≤ f.1 ∧ f.1 ≤ 100 * f.2) : frP f ↔ fq (dv f.1 f.2) = f := by
  constructor
  · exact frP_fq
  · intro h
    refine ⟨h1, h2, ?_⟩
    have := fq_gcd (dv f.1 f.2)
    rw [h] at this
    exact this
/-- IsPoint -/
theorem r20_ok {x : Pa} : Ok (r20 x.1.1 x.1.2 x.2.1 x.2.2 H0) fun r _ => r = decide (ptP x) := by
  unfold r20
  refine Ok.box (.nil H0) fun A gA c => Ok.cld c (.head _) rfl (Ok.cld c (.head _) rfl (Ok.cld c (.head _) rfl (Ok.cld c (.head _) rfl (Ok.box c fun B gB c => ?_))))
  have hv : SL (T := Pr) B ⟨false, A.n, 0, 2, 2, 0⟩ [x.1, x.2] := .of_get (ro := false) (c.e _ (.head _)) rfl rfl (Nat.le_refl _) (.inl rfl) rfl
  generalize A.n = an at *
  have hall : decide (ptP x) = decide (∀ f ∈ [x.1, x.2], frP f) := by
    refine decide_eq_decide.2 ?_
    unfold ptP; simp
  rw [hall]
  have hlen : [x.1, x.2].length = 2 := rfl
  generalize [x.1, x.2] = q at *
  show Ok (r20_l0 FUEL ⟨false, an, 0, 2, 2, 0⟩ 2 0 B) _
  refine Ok.loop (L := fun K (s : Int) H2 => r20_l0 K ⟨false, an, 0, 2, 2, 0⟩ 2 s H2) (fun m s H' => Gr B H' ∧ ∃ i : Nat, s = i ∧ i + m = 2 ∧ ∀ f ∈ q.take i, frP f) ?_ FUEL 2 0 B (by unfold FUEL; omega) ⟨.refl _, 0, rfl, rfl, by simp⟩
  rintro K m s H1 ⟨g1, i, rfl, hm, ht⟩ ih
  try dsimp only at *
  rw [r20_l0]
  by_cases h : i < 2
  · have hi : i < q.length := by omega
    have hg := hv.gr g1
    have hmem := List.getElem_mem hi
    have l0 := hg.ldI (i := i) (j := 0) hi rfl
    have l1 := hg.ldI (i := i) (j := 1) hi rfl
    have e2 := List.take_succ_eq_append_getElem hi
    generalize q[i] = f at *
    have c0 : Cx H1 H1 [] := .nil H1
    refine Ok.pos (by omega) (Ok.ck (by dsimp only; omega) (Ok.ld l0 (Ok.ld l1 (Ok.alo c0 fun E gE cx => ?_))))
    have j1 : ∀ b : Bool, (b = true ↔ ¬ frP f) → Ok (r20_j1 (fun v1_ v2_ v3_ H_ => r20_l0 K v1_ v2_ v3_ H_) ⟨false, an, 0, 2, 2, 0⟩ 2 i b E) fun r _ => r = decide (∀ f ∈ q, frP f) := fun b hb => by
      unfold r20_j1
      refine Ok.ite (fun hc => Ok.ret ?_) fun hc => ?_
      · symm; rw [decide_eq_false_iff_not]; exact fun k => hb.1 hc (k f hmem)
      · rw [w64_succ (by omega)]
        refine ih (m - 1) _ E (by omega) ⟨g1.trans gE, i + 1, rfl, by omega, fun y hy => ?_⟩
        rw [e2] at hy
        rcases List.mem_append.1 hy with hy | hy
        · exact ht y hy
        · rw [List.mem_singleton] at hy; subst hy
          exact Classical.byContradiction fun k => hc (hb.2 k)
    have no : ¬ frP f → ((true = true) ↔ ¬ frP f) := fun h => ⟨fun _ => h, fun _ => rfl⟩
    refine Ok.cld cx (.head _) rfl (Ok.ite (fun k => j1 _ (no fun q => by have := q.1.1; omega)) fun k1 => Ok.cld cx (.head _) rfl (Ok.ite (fun k => j1 _ (no fun q => by have := q.1.2; omega)) fun k2 => Ok.cld cx (.head _) rfl (Ok.cld cx (.head _) rfl ?_)))
    rw [w64_id (n := -100 * f.2) (by omega) (by omega)]
    refine Ok.ite (fun k => j1 _ (no fun q => by have := q.2.1.1; omega)) fun k3 => Ok.cld cx (.head _) rfl (Ok.cld cx (.head _) rfl ?_)
    rw [w64_id (n := 100 * f.2) (by omega) (by omega)]
    refine Ok.ite (fun k => j1 _ (no fun q => by have := q.2.1.2; omega)) fun k4 => Ok.cld cx (.head _) rfl (Ok.cld cx (.head _) rfl (Ok.own (r56_q (by omega) (by omega) (by omega) H0) fun _ => Ok.cld cx (.head _) rfl (Ok.cld cx (.head _) rfl (j1 _ ?_))))
    rw [frP_iff (by omega) (by omega), Bool.not_eq_true', Bool.and_eq_false_iff, beq_eq_false_iff_ne, beq_eq_false_iff_ne]
    constructor
    · rintro (k | k) e
      · exact k (by rw [e])
      · exact k (by rw [e])
    · intro k
      by_cases e : (fq (dv f.1 f.2)).1 = f.1
      · exact .inr fun e2 => k (Prod.ext e e2)
      · exact .inl e
  · rw [List.take_of_length_le (by omega)] at ht
    exact Ok.neg (by omega) (Ok.ret (by rw [decide_eq_true ht]))
theorem lqs_dv2 {u : Sd} {a b c d : Int} (hb : 0 < b) (hd : 0 < d) : lqs u (dv a b, dv c d) ↔ u.1 * a * d + u.2.1 * c * b ≤ u.2.2 * b * d := by
  have hbd := Int.mul_pos hb hd
  have e1 : dv a b = dv (a * d) (b * d) := (dv_eq_iff hb hbd).2 (by grind)
  have e2 : dv c d = dv (c * b) (b * d) := (dv_eq_iff hd hbd).2 (by grind)
  rw [e1, e2, lqs_dv hbd, ← Int.mul_assoc, ← Int.mul_assoc, ← Int.mul_assoc]
end Go.Lt.P2

namespace Go.Lt.P2
open Go Go.Lt Go.Proofs
theorem fm_len (l : List Sd) (s x : Sd) (xs : List Sd) : ((x :: xs).filterMap (cn l s)).length = (ed l s x).toNat + (xs.filterMap (cn l s)).length := by
  rw [List.filterMap_cons]
  unfold ed cn
  split
  · rename_i h
    split at h
    · cases h
    · rename_i hc
      rw [decide_eq_false hc]; simp
  · rename_i h
    split at h
    · rename_i hc
      rw [decide_eq_true hc, List.length_cons]; simp; omega
    · cases h
def tri : Nat → Nat
  | 0 => 0
  | n + 1 => tri n + n
theorem cs_tri (l : List Sd) : ∀ n, ((List.range n).flatMap (cno l)).length ≤ tri n
  | 0 => by simp
  | n + 1 => by
    rw [range_succ_flatMap, List.length_append]
    have := cs_tri l n
    have := cno_len l n
    show _ ≤ tri n + n
    omega
theorem cs_all {l : List Sd} {P : Pq} (h : ∀ x ∈ l, on x P) : ∀ c ∈ cs l, c.1 = P := fun c hc => by
  have m := cs_mem hc
  rw [m.2.2.2.1]
  exact (meet_uniq m.2.2.1 (h _ m.1) (h _ m.2.1)).symm
/-- more than twelve pairs: all at one point -/
theorem cs_big {l : List Sd} (hp : ∀ s ∈ l, sideP s) (h6 : l.length ≤ 6) (hn : 12 < (cs l).length) : ∃ P, ∀ c ∈ cs l, c.1 = P := by
  have ht := cs_tri l l.length
  have hcs : (cs l).length ≤ tri l.length := ht
  by_cases hl : l.length ≤ 5
  · have : tri l.length ≤ 10 := by
      rcases (show l.length = 0 ∨ l.length = 1 ∨ l.length = 2 ∨ l.length = 3 ∨ l.length = 4 ∨ l.length = 5 by omega) with h | h | h | h | h | h <;> rw [h] <;> decide
    omega
  have hl : l.length = 6 := by omega
  obtain ⟨a, b, c, d, e, f, rfl⟩ : ∃ a b c d e f, l = [a, b, c, d, e, f] := by
    match l, hl with
    | [a, b, c, d, e, f], _ => exact ⟨a, b, c, d, e, f, rfl⟩
  generalize hL : [a, b, c, d, e, f] = L at *
  have l1 : (cno L 1).length = (ed L a b).toNat := by
    rw [← hL]
    show ([a].filterMap (cn [a, b, c, d, e, f] b)).length = _
    simp only [fm_len, List.filterMap_nil, List.length_nil, Nat.add_zero, ed_symm [a, b, c, d, e, f] b]
    try omega
  have l2 : (cno L 2).length = (ed L a c).toNat + (ed L b c).toNat := by
    rw [← hL]
    show ([a, b].filterMap (cn [a, b, c, d, e, f] c)).length = _
    simp only [fm_len, List.filterMap_nil, List.length_nil, Nat.add_zero, ed_symm [a, b, c, d, e, f] c]
    try omega
  have l3 : (cno L 3).length = (ed L a d).toNat + (ed L b d).toNat + (ed L c d).toNat := by
    rw [← hL]
    show ([a, b, c].filterMap (cn [a, b, c, d, e, f] d)).length = _
    simp only [fm_len, List.filterMap_nil, List.length_nil, Nat.add_zero, ed_symm [a, b, c, d, e, f] d]
    try omega
  have l4 : (cno L 4).length = (ed L a e).toNat + (ed L b e).toNat + (ed L c e).toNat + (ed L d e).toNat := by
    rw [← hL]
    show ([a, b, c, d].filterMap (cn [a, b, c, d, e, f] e)).length = _
    simp only [fm_len, List.filterMap_nil, List.length_nil, Nat.add_zero, ed_symm [a, b, c, d, e, f] e]
    try omega
  have l5 : (cno L 5).length = (ed L a f).toNat + (ed L b f).toNat + (ed L c f).toNat + (ed L d f).toNat + (ed L e f).toNat := by
    rw [← hL]
    show ([a, b, c, d, e].filterMap (cn [a, b, c, d, e, f] f)).length = _
    simp only [fm_len, List.filterMap_nil, List.length_nil, Nat.add_zero, ed_symm [a, b, c, d, e, f] f]
    try omega
  have hsum : (cs L).length = (cno L 0).length + ((cno L 1).length + ((cno L 2).length + ((cno L 3).length + ((cno L 4).length + (cno L 5).length)))) := by
    unfold cs
    rw [hl, show List.range 6 = [0, 1, 2, 3, 4, 5] from rfl]
    simp only [List.flatMap_cons, List.flatMap_nil, List.length_append, List.length_nil, Nat.add_zero]
  have l0 : (cno L 0).length = 0 := by
    have := cno_len L 0; omega
  have m0 : a ∈ L := by rw [← hL]; simp
  have m1 : b ∈ L := by rw [← hL]; simp
  have m2 : c ∈ L := by rw [← hL]; simp
  have m3 : d ∈ L := by rw [← hL]; simp
  have m4 : e ∈ L := by rw [← hL]; simp
  have m5 : f ∈ L := by rw [← hL]; simp
  have q01 := Bool.toNat_le (ed L a b)
  have q02 := Bool.toNat_le (ed L a c)
  have q03 := Bool.toNat_le (ed L a d)
  have q04 := Bool.toNat_le (ed L a e)
  have q05 := Bool.toNat_le (ed L a f)
  have q12 := Bool.toNat_le (ed L b c)
  have q13 := Bool.toNat_le (ed L b d)
  have q14 := Bool.toNat_le (ed L b e)
  have q15 := Bool.toNat_le (ed L b f)
  have q23 := Bool.toNat_le (ed L c d)
  have q24 := Bool.toNat_le (ed L c e)
  have q25 := Bool.toNat_le (ed L c f)
  have q34 := Bool.toNat_le (ed L d e)
  have q35 := Bool.toNat_le (ed L d f)
  have q45 := Bool.toNat_le (ed L e f)
  have key := bools6 (ed L a b) (ed L a c) (ed L a d) (ed L a e) (ed L a f) (ed L b c) (ed L b d) (ed L b e) (ed L b f) (ed L c d) (ed L c e) (ed L c f) (ed L d e) (ed L d f) (ed L e f) (by omega)
  simp only [Bool.or_eq_true, Bool.and_eq_true, ed_iff] at key
  rcases key with (((((⟨⟨⟨⟨k1, k2⟩, k3⟩, k4⟩, k5⟩ | ⟨⟨⟨⟨k1, k2⟩, k3⟩, k4⟩, k5⟩) | ⟨⟨⟨⟨k1, k2⟩, k3⟩, k4⟩, k5⟩) | ⟨⟨⟨⟨k1, k2⟩, k3⟩, k4⟩, k5⟩) | ⟨⟨⟨⟨k1, k2⟩, k3⟩, k4⟩, k5⟩) | ⟨⟨⟨⟨k1, k2⟩, k3⟩, k4⟩, k5⟩)
  · have h := one_pt (x1 := b) (x2 := c) (x3 := d) (x4 := e) (x5 := f) hp m0 m1 m2 m3 m4 m5 k1 k2 k3 k4 k5 (by omega)
    exact ⟨_, cs_all fun x hx => h x (by rw [← hL] at hx; simp only [List.mem_cons, List.not_mem_nil, or_false] at hx ⊢; rcases hx with rfl | rfl | rfl | rfl | rfl | rfl <;> simp)⟩
  · have h := one_pt (x1 := a) (x2 := c) (x3 := d) (x4 := e) (x5 := f) hp m1 m0 m2 m3 m4 m5 k1.sym k2 k3 k4 k5 (by omega)
    exact ⟨_, cs_all fun x hx => h x (by rw [← hL] at hx; simp only [List.mem_cons, List.not_mem_nil, or_false] at hx ⊢; rcases hx with rfl | rfl | rfl | rfl | rfl | rfl <;> simp)⟩
  · have h := one_pt (x1 := a) (x2 := b) (x3 := d) (x4 := e) (x5 := f) hp m2 m0 m1 m3 m4 m5 k1.sym k2.sym k3 k4 k5 (by omega)
    exact ⟨_, cs_all fun x hx => h x (by rw [← hL] at hx; simp only [List.mem_cons, List.not_mem_nil, or_false] at hx ⊢; rcases hx with rfl | rfl | rfl | rfl | rfl | rfl <;> simp)⟩
  · have h := one_pt (x1 := a) (x2 := b) (x3 := c) (x4 := e) (x5 := f) hp m3 m0 m1 m2 m4 m5 k1.sym k2.sym k3.sym k4 k5 (by omega)
    exact ⟨_, cs_all fun x hx => h x (by rw [← hL] at hx; simp only [List.mem_cons, List.not_mem_nil, or_false] at hx ⊢; rcases hx with rfl | rfl | rfl | rfl | rfl | rfl <;> simp)⟩
  · have h := one_pt (x1 := a) (x2 := b) (x3 := c) (x4 := d) (x5 := f) hp m4 m0 m1 m2 m3 m5 k1.sym k2.sym k3.sym k4.sym k5 (by omega)
    exact ⟨_, cs_all fun x hx => h x (by rw [← hL] at hx; simp only [List.mem_cons, List.not_mem_nil, or_false] at hx ⊢; rcases hx with rfl | rfl | rfl | rfl | rfl | rfl <;> simp)⟩
  · have h := one_pt (x1 := a) (x2 := b) (x3 := c) (x4 := d) (x5 := e) hp m5 m0 m1 m2 m3 m4 k1.sym k2.sym k3.sym k4.sym k5.sym (by omega)
    exact ⟨_, cs_all fun x hx => h x (by rw [← hL] at hx; simp only [List.mem_cons, List.not_mem_nil, or_false] at hx ⊢; rcases hx with rfl | rfl | rfl | rfl | rfl | rfl <;> simp)⟩
end Go.Lt.P2

namespace Go.Lt.P2
open Go Go.Lt Go.Proofs
/-- Of -/
theorem r18_ok {H : Hp} {v : Sl} {l : List Sd} (hv : SL H v l) (hb : l.length < 9223372036854775808) : Ok (r18 v H) fun w H' => Gr H H' ∧ SL H' w (l.take 9) := by
  unfold r18
  have hlen := hv.len
  rw [hlen]
  refine Ok.loop (L := fun K (s : Sl × Int) H2 => r18_l0 K s.1 v l.length s.2 H2) (fun m s H' => Gr H H' ∧ ∃ i : Nat, s.2 = i ∧ i + m = l.length ∧ AccL H.n H' s.1 ((l.take i).take 9)) ?_ FUEL l.length (⟨true, 0, 0, 0, 0, 0⟩, 0) H (by unfold FUEL; omega) ⟨.refl _, 0, rfl, by omega, by simpa using AccL.nilS⟩
  rintro K m ⟨w, s⟩ H1 ⟨g1, i, rfl, hm, ha⟩ ih
  try dsimp only at *
  rw [r18_l0]
  by_cases h : i < l.length
  · have hg := hv.gr g1
    obtain ⟨E, hE, hE', gE, nE⟩ := sts3 H1 (.int .i64 l[i].1) (.int .i64 l[i].2.1) (.int .i64 l[i].2.2) (.int .i64 0) (.int .i64 0) (.int .i64 0)
    have gB := g1.trans gE
    refine Ok.pos (by omega) (Ok.ck (by omega) (Ok.ld (hg.ldI (i := i) (j := 0) h rfl) (Ok.ld (hg.ldI (i := i) (j := 1) h rfl) (Ok.ld (hg.ldI (i := i) (j := 2) h rfl) (Ok.ld hE ?_)))))
    refine Ok.ite (fun c => Ok.ld (ldI_get hE' rfl) (Ok.ld (ldI_get hE' rfl) (Ok.ld (ldI_get hE' rfl) ?_))) fun c => ?_
    · have ha' := ha.gr gE
      rw [List.take_of_length_le (by rw [List.length_take]; omega)] at ha'
      refine Ok.bind (ha'.push gB l[i] rfl rfl (by rw [List.length_take]; omega)) fun w2 H3 ⟨ha3, g3, _⟩ => ?_
      rw [w64_succ (by omega)]
      refine ih (m - 1) (w2, _) H3 (by omega) ⟨g3, i + 1, rfl, by omega, ?_⟩
      rw [List.take_succ_eq_append_getElem h, List.take_of_length_le (by simp; omega)]
      exact ha3
    · rw [w64_succ (by omega)]
      refine ih (m - 1) (w, _) E (by omega) ⟨gB, i + 1, rfl, by omega, ?_⟩
      rw [List.take_take, Nat.min_eq_left (by omega)] at ha ⊢
      exact ha.gr gE
  · have hi : i = l.length := by omega
    subst hi
    rw [List.take_length] at ha
    exact Ok.neg (by omega) (Ok.ret ⟨g1, ha.sl⟩)
end Go.Lt.P2

namespace Go.Lt.P2
open Go Go.Lt Go.Proofs
def onP (l : List Sd) (s : Sd) (g : Int) : Prop := ∀ t ∈ l, g * (t.2.1 * s.1 - t.1 * s.2.1) ≤ 0
instance (l : List Sd) (s : Sd) (g : Int) : Decidable (onP l s g) := by unfold onP; infer_instance
theorem onP_one {l : List Sd} {s : Sd} : ¬ onP l s 1 ↔ dirP l (-s.2.1, s.1) := by
  unfold onP dirP
  simp only [Classical.not_forall]
  constructor
  · rintro ⟨t, ht, h⟩
    refine ⟨t, ht, ?_⟩
    try dsimp only
    rw [Int.mul_neg]
    omega
  · rintro ⟨t, ht, h⟩
    refine ⟨t, ht, ?_⟩
    try dsimp only at h
    rw [Int.mul_neg] at h
    omega
theorem onP_neg {l : List Sd} {s : Sd} : ¬ onP l s (-1) ↔ dirP l (s.2.1, -s.1) := by
  unfold onP dirP
  simp only [Classical.not_forall]
  constructor
  · rintro ⟨t, ht, h⟩
    refine ⟨t, ht, ?_⟩
    try dsimp only
    rw [Int.mul_neg]
    omega
  · rintro ⟨t, ht, h⟩
    refine ⟨t, ht, ?_⟩
    try dsimp only at h
    rw [Int.mul_neg] at h
    omega
section
variable {Q : Bool → Hp → Prop}
theorem r19_l5_ok {H : Hp} {v vv : Sl} {l : List Sd} {sb : Nat} {s : Sd} {g ln iv : Int} (hv : SL H v l) (hb : l.length ≤ 6) (hs : ∀ s ∈ l, sideP s) (hss : sideP s) (hg : g = 1 ∨ g = -1) (hsb : H.get sb = some (.cells [.int .i64 s.1, .int .i64 s.2.1, .int .i64 s.2.2] false))
    {kt4 : Sl → Nat → Int → Sl → Int → Int → Hp → Option (Bool × Hp)} (kf : ∀ H', Gr H H' → onP l s g → Q false H') (k : ∀ H', Gr H H' → ¬ onP l s g → Ok (kt4 v sb (w64 (g + 2)) vv ln iv H') Q) : Ok (r19_l5 kt4 FUEL v sb g true vv ln iv v l.length 0 H) Q := by
  have hlen := hv.len
  refine Ok.loop (L := fun K (t : Bool × Int) H2 => r19_l5 kt4 K v sb g t.1 vv ln iv v l.length t.2 H2) (fun m t H' => ∃ i : Nat, t.2 = i ∧ i + m = l.length ∧ Gr H H' ∧ t.1 = decide (onP (l.take i) s g)) ?_ FUEL l.length (true, 0) H (by unfold FUEL; omega) ⟨0, rfl, by omega, .refl _, by simp [onP]⟩
  rintro K m ⟨b, t⟩ H1 ⟨i, rfl, hm, g1, hbb⟩ ih
  try dsimp only at *
  subst hbb
  rw [r19_l5]
  by_cases h : i < l.length
  · have hgl := hv.gr g1
    have hx := hs _ (List.getElem_mem h)
    obtain ⟨E, hE, hE', gE, nE⟩ := sts3 H1 (.int .i64 l[i].1) (.int .i64 l[i].2.1) (.int .i64 l[i].2.2) (.int .i64 0) (.int .i64 0) (.int .i64 0)
    have gB := g1.trans gE
    have hsE : E.get sb = some (.cells [.int .i64 s.1, .int .i64 s.2.1, .int .i64 s.2.2] false) := by rw [gB.2 _ (Hp.get_lt hsb)]; exact hsb
    have ek : onP (l.take (i + 1)) s g ↔ onP (l.take i) s g ∧ g * (l[i].2.1 * s.1 - l[i].1 * s.2.1) ≤ 0 := by
      unfold onP
      constructor
      · intro q
        rw [List.take_succ_eq_append_getElem h] at q
        exact ⟨fun t ht => q t (List.mem_append_left _ ht), q _ (List.mem_append_right _ (List.mem_singleton.2 rfl))⟩
      · rintro ⟨q1, q2⟩
        exact forall_take h q1 q2
    refine Ok.pos (by omega) (Ok.ck (by omega) (Ok.ld (hgl.ldI (i := i) (j := 0) h rfl) (Ok.ld (hgl.ldI (i := i) (j := 1) h rfl) (Ok.ld (hgl.ldI (i := i) (j := 2) h rfl) (Ok.ld hE ?_)))))
    by_cases c : onP (l.take i) s g
    · rw [decide_eq_true c]
      refine Ok.pos rfl (Ok.ld (ldI_get hE' rfl) (Ok.ld (ldI_get hsE rfl) (Ok.ld (ldI_get hE' rfl) (Ok.ld (ldI_get hsE rfl) ?_))))
      unfold sideP at hss hx
      have b1 := mul_bd (A := 4) (B := 4) (x := l[i].2.1) (y := s.1) (by omega) (by omega) (by omega) (by omega)
      have b2 := mul_bd (A := 4) (B := 4) (x := l[i].1) (y := s.2.1) (by omega) (by omega) (by omega) (by omega)
      rw [w64_id (n := l[i].2.1 * s.1) (by omega) (by omega), w64_id (n := l[i].1 * s.2.1) (by omega) (by omega), w64_id (n := l[i].2.1 * s.1 - l[i].1 * s.2.1) (by omega) (by omega), w64_id (n := g * (l[i].2.1 * s.1 - l[i].1 * s.2.1)) (by rcases hg with rfl | rfl <;> omega) (by rcases hg with rfl | rfl <;> omega), w64_succ (by omega)]
      exact ih (m - 1) (_, _) E (by omega) ⟨i + 1, rfl, by omega, gB, decide_eq_decide.2 (by rw [ek]; exact ⟨fun q => ⟨c, q⟩, fun q => q.2⟩)⟩
    · rw [decide_eq_false c]
      refine Ok.neg (by simp) ?_
      rw [w64_succ (by omega)]
      exact ih (m - 1) (_, _) E (by omega) ⟨i + 1, rfl, by omega, gB, (decide_eq_false (fun q => c (ek.1 q).1)).symm⟩
  · rw [List.take_of_length_le (by omega)]
    refine Ok.neg (by omega) ?_
    by_cases c : onP l s g
    · rw [decide_eq_true c]; exact Ok.pos rfl (Ok.ret (kf H1 g1 c))
    · rw [decide_eq_false c]; exact Ok.neg (by simp) (k H1 g1 c)
end
/-- the directions -/
theorem r19_l3_ok {H0' H : Hp} {v : Sl} {l : List Sd} (hv : SL H v l) (hb : l.length ≤ 6) (hs : ∀ s ∈ l, sideP s) (g : Gr H0' H) : Ok (r19_l3 FUEL v v l.length 0 H) fun r H' => Gr H0' H' ∧ r = decide (∀ s ∈ l, dirP l (-s.2.1, s.1) ∧ dirP l (s.2.1, -s.1)) := by
  have hlen := hv.len
  refine Ok.loop (L := fun K (s : Int) H2 => r19_l3 K v v l.length s H2) (fun m s H' => Gr H H' ∧ ∃ i : Nat, s = i ∧ i + m = l.length ∧ ∀ s ∈ l.take i, dirP l (-s.2.1, s.1) ∧ dirP l (s.2.1, -s.1)) ?_ FUEL l.length 0 H (by unfold FUEL; omega) ⟨.refl _, 0, rfl, by omega, by simp⟩
  rintro K m s H1 ⟨g1, i, rfl, hm, ht⟩ ih
  try dsimp only at *
  rw [r19_l3]
  by_cases h : i < l.length
  · have hg := hv.gr g1
    have hmem : l[i] ∈ l := List.getElem_mem h
    have hsd := hs _ hmem
    obtain ⟨E, hE, hE', gE, nE⟩ := sts3 H1 (.int .i64 l[i].1) (.int .i64 l[i].2.1) (.int .i64 l[i].2.2) (.int .i64 0) (.int .i64 0) (.int .i64 0)
    refine Ok.pos (by omega) (Ok.ck (by omega) (Ok.ld (hg.ldI (i := i) (j := 0) h rfl) (Ok.ld (hg.ldI (i := i) (j := 1) h rfl) (Ok.ld (hg.ldI (i := i) (j := 2) h rfl) (Ok.ld hE ?_)))))
    have gB := g1.trans gE
    have bad : ∀ H', Gr E H' → ¬ (dirP l (-l[i].2.1, l[i].1) ∧ dirP l (l[i].2.1, -l[i].1)) → Gr H0' H' ∧ false = decide (∀ s ∈ l, dirP l (-s.2.1, s.1) ∧ dirP l (s.2.1, -s.1)) := fun H' gH hno => ⟨g.trans (gB.trans gH), by rw [decide_eq_false (fun q => hno (q _ hmem))]⟩
    rw [show FUEL = 18446744073709551613 + 1 + 1 + 1 from rfl, r19_l4]
    refine Ok.pos (by decide) ?_
    rw [hlen]
    refine r19_l5_ok (hv.gr gB) hb hs hsd (.inr rfl) hE' (fun H' gH hon => bad H' gH fun q => (onP_neg.2 q.2) hon) fun H2 g2 hn1 => ?_
    rw [show w64 (-1 + 2) = 1 by decide +kernel, r19_l4]
    refine Ok.pos (by decide) ?_
    rw [hlen]
    refine r19_l5_ok (hv.gr (gB.trans g2)) hb hs hsd (.inl rfl) (by rw [g2.2 _ (Hp.get_lt hE')]; exact hE') (fun H' gH hon => bad H' (g2.trans gH) fun q => (onP_one.2 q.1) hon) fun H3 g3 hn2 => ?_
    rw [show w64 (1 + 2) = 3 by decide +kernel, r19_l4]
    refine Ok.neg (by decide) ?_
    rw [w64_succ (by omega)]
    exact ih (m - 1) _ H3 (by omega) ⟨gB.trans (g2.trans g3), i + 1, rfl, by omega, forall_take h ht ⟨onP_one.1 hn2, onP_neg.1 hn1⟩⟩
  · rw [List.take_of_length_le (by omega)] at ht
    exact Ok.neg (by omega) (Ok.ret ⟨g.trans g1, by rw [decide_eq_true ht]⟩)
/-- Plate of the reference -/
theorem r19_ok {H : Hp} {v : Sl} {l : List Sd} (hv : SL H v l) : Ok (r19 v H) fun r H' => Gr H H' ∧ r = decide (plateP l) := by
  unfold r19
  have hlen := hv.len
  by_cases h3 : l.length < 3
  · refine Ok.pos (by omega) ?_
    unfold r19_j0
    exact Ok.pos rfl (Ok.ret ⟨.refl _, by rw [decide_eq_false (fun h => by have := h.1.1; omega)]⟩)
  · refine Ok.neg (by omega) ?_
    unfold r19_j0
    by_cases h6 : 6 < l.length
    · exact Ok.pos (by rw [decide_eq_true_iff]; omega) (Ok.ret ⟨.refl _, by rw [decide_eq_false (fun h => by have := h.1.2; omega)]⟩)
    · refine Ok.neg (by rw [decide_eq_true_iff]; omega) ?_
      rw [hlen]
      refine Ok.loop (L := fun K (s : Int) H2 => r19_l1 K v v l.length s H2) (fun m s H' => Gr H H' ∧ ∃ i : Nat, s = i ∧ i + m = l.length ∧ ∀ s ∈ l.take i, sideP s) ?_ FUEL l.length 0 H (by unfold FUEL; omega) ⟨.refl _, 0, rfl, by omega, by simp⟩
      rintro K m s H1 ⟨g1, i, rfl, hm, ht⟩ ih
      try dsimp only at *
      rw [r19_l1]
      by_cases h : i < l.length
      · have hg := hv.gr g1
        have hmem : l[i] ∈ l := List.getElem_mem h
        obtain ⟨E, hE, hE', gE, nE⟩ := sts3 H1 (.int .i64 l[i].1) (.int .i64 l[i].2.1) (.int .i64 l[i].2.2) (.int .i64 0) (.int .i64 0) (.int .i64 0)
        have gB := g1.trans gE
        have j2 : ∀ b, b = !decide (sideP l[i]) → Ok (r19_j2 (fun v1_ v2_ v3_ v4_ H_ => r19_l1 K v1_ v2_ v3_ v4_ H_) v v l.length i b E) fun r H' => Gr H H' ∧ r = decide (plateP l) := fun b hbb => by
          subst hbb
          unfold r19_j2
          by_cases c : sideP l[i]
          · rw [decide_eq_true c]
            refine Ok.neg (by simp) ?_
            rw [w64_succ (by omega)]
            exact ih (m - 1) _ E (by omega) ⟨gB, i + 1, rfl, by omega, forall_take h ht c⟩
          · rw [decide_eq_false c]
            exact Ok.pos rfl (Ok.ret ⟨gB, by rw [decide_eq_false (fun q => c (q.2.1 _ hmem))]⟩)
        have no : ¬ sideP l[i] → true = !decide (sideP l[i]) := fun q => by rw [decide_eq_false q]; rfl
        refine Ok.pos (by omega) (Ok.ck (by omega) (Ok.ld (hg.ldI (i := i) (j := 0) h rfl) (Ok.ld (hg.ldI (i := i) (j := 1) h rfl) (Ok.ld (hg.ldI (i := i) (j := 2) h rfl) (Ok.ld hE (Ok.ld (ldI_get hE' rfl) ?_))))))
        refine Ok.ite (fun c => j2 _ (no fun q => by unfold sideP at q; omega)) fun c1 => Ok.ld (ldI_get hE' rfl) ?_
        refine Ok.ite (fun c => j2 _ (no fun q => by unfold sideP at q; omega)) fun c2 => Ok.ld (ldI_get hE' rfl) ?_
        refine Ok.ite (fun c => j2 _ (no fun q => by unfold sideP at q; omega)) fun c3 => Ok.ld (ldI_get hE' rfl) ?_
        refine Ok.ite (fun c => j2 _ (no fun q => by unfold sideP at q; omega)) fun c4 => Ok.ld (ldI_get hE' rfl) ?_
        have last : ¬ (l[i].1 = 0 ∧ l[i].2.1 = 0) → Ok (if l[i].2.2 < -40 then r19_j2 (fun v1_ v2_ v3_ v4_ H_ => r19_l1 K v1_ v2_ v3_ v4_ H_) v v l.length i true E else (E.ldI .i64 H1.n (0 + 2)).bind fun x => r19_j2 (fun v1_ v2_ v3_ v4_ H_ => r19_l1 K v1_ v2_ v3_ v4_ H_) v v l.length i (decide (40 < x)) E) fun r H' => Gr H H' ∧ r = decide (plateP l) := fun hne => by
          refine Ok.ite (fun c => j2 _ (no fun q => by unfold sideP at q; omega)) fun c5 => Ok.ld (ldI_get hE' rfl) (j2 _ ?_)
          refine Bool.eq_iff_iff.2 ?_
          rw [Bool.not_eq_true', decide_eq_false_iff_not, decide_eq_true_iff]
          unfold sideP
          constructor
          · intro q w; omega
          · intro q
            by_cases w : 40 < l[i].2.2
            · exact w
            · exact absurd ⟨⟨by omega, by omega⟩, ⟨by omega, by omega⟩, hne, by omega, by omega⟩ q
        refine Ok.ite (fun c0 => Ok.ld (ldI_get hE' rfl) (Ok.ite (fun c5 => j2 _ (no fun q => q.2.2.1 ⟨c0, c5⟩)) fun c5 => Ok.ld (ldI_get hE' rfl) (last fun q => c5 q.2))) fun c0 => Ok.ld (ldI_get hE' rfl) (last fun q => c0 q.1)
      · rw [List.take_of_length_le (by omega)] at ht
        refine Ok.neg (by omega) ?_
        rw [hlen]
        refine (r19_l3_ok (hv.gr g1) (by omega) ht g1).mono fun r H' hh => ⟨hh.1, ?_⟩
        rw [hh.2]
        exact decide_eq_decide.2 ⟨fun q => ⟨⟨by omega, by omega⟩, ht, q⟩, fun q => q.2.2⟩
end Go.Lt.P2

namespace Go.Lt.P2
open Go Go.Lt Go.Proofs
theorem plate_take {p : List Sd} : plateP (p.take 9) ↔ plateP p := by
  by_cases h : p.length ≤ 9
  · rw [List.take_of_length_le h]
  · constructor
    · intro c; have b := c.1.2; rw [List.length_take] at b; omega
    · intro c; have b := c.1.2; omega
theorem plate_eq {p : List Sd} (h : plateP p) : p.take 9 = p := List.take_of_length_le (by have := h.1.2; omega)
theorem awk (k : Nat) (H : Hp) : appA k 21 [] H = some (.bool true, H) := rfl
end Go.Lt.P2
