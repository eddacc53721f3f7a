/- PLAIN LAWS OF WHAT IS COMPUTED, for the statement 'DealsOthers'. Nothing is asked of the input. -/
import Derived.Test.YtficeemoekikdaaU14VPr
set_option linter.unusedVariables false
set_option linter.unusedSimpArgs false
namespace Go.Lt.P5
open Go Go.Lt Go.Proofs
/-- the best so far, and its product -/
def seeF (d : Pr) (st : Option (Rat × Rat) × Rat) (p : Rat × Rat) : Option (Rat × Rat) × Rat := if st.2 < gainq d p then (some p, gainq d p) else st
def bst4 : Option (Rat × Rat) → List AV
  | none => [.int .i64 0, .int .i64 0, .int .i64 0, .int .i64 0]
  | some p => [.int .i64 (fq p.1).1, .int .i64 (fq p.1).2, .int .i64 (fq p.2).1, .int .i64 (fq p.2).2]
theorem bst4_len (o : Option (Rat × Rat)) : (bst4 o).length = 4 := by cases o <;> rfl
theorem set_same {α : Type} {E : List α} {i : Nat} {x : α} (h : E[i]? = some x) : E.set i x = E := by
  obtain ⟨h1, h2⟩ := List.getElem?_eq_some_iff.1 h
  subst h2
  exact List.set_getElem_self h1
/-- see -/
theorem r66_ok {HH H : Hp} {E : List (Nat × List AV)} {d : Pr} {p : Rat × Rat} {o : Option (Rat × Rat)} {g : Rat} {c0 c1 c2 i1 i2 : Nat} (hd : num d) (hp : qp p) (hg : qb 29160000 3600 g) (c : Cx HH H E) (h0 : (c0, pc d) ∈ E) (h1 : E[i1]? = some (c1, fc g)) (h2 : E[i2]? = some (c2, bst4 o)) (hne : i1 ≠ i2) :
    Ok (r66 (fq p.1).1 (fq p.1).2 (fq p.2).1 (fq p.2).2 c0 c1 c2 H) fun _ H' => Cx HH H' ((E.set i2 (c2, bst4 (seeF d (o, g) p).1)).set i1 (c1, fc (seeF d (o, g) p).2)) ∧ H.n ≤ H'.n ∧ ∀ x, x < H.n → x ≠ c1 → x ≠ c2 → H'.get x = H.get x := by
  have m1 : (c1, fc g) ∈ E := List.mem_of_getElem? h1
  have m2 : (c2, bst4 o) ∈ E := List.mem_of_getElem? h2
  have l1 := c.lt m1
  have l2 := c.lt m2
  unfold r66
  refine Ok.box c fun A gA c => ?_
  refine Ok.cld c (.head _) rfl (Ok.cld c (.head _) rfl (Ok.cld c (.head _) rfl (Ok.cld c (.head _) rfl (Ok.cld c (.tail _ h0) rfl (Ok.cld c (.tail _ h0) rfl ?_)))))
  refine Ok.own (r67_q hd hp) fun X => ?_
  have hgq := gainq_qb hd hp
  refine Ok.alo c fun B gB c => ?_
  have cB := c
  refine Ok.cld c (.head _) rfl (Ok.cld c (.head _) rfl (Ok.cld c (.tail _ (.tail _ m1)) rfl (Ok.cld c (.tail _ (.tail _ m1)) rfl (Ok.own (r68_q hgq hg (by decide) (by decide)) fun X => ?_))))
  have ec : (0 < cmpq (gainq d p) g) ↔ g < gainq d p := by
    have := @cmp_le (gainq d p) g
    rw [← Rat.not_le, ← Int.not_le, this]
  dsimp only
  have hBn : B.n = H.n + 2 ∨ H.n ≤ B.n := .inr (Nat.le_trans gA.1 gB.1)
  refine Ok.ite (fun cc => ?_) fun cc => ?_
  · have hlt := ec.1 cc
    refine Ok.cld c (.tail _ (.head _)) rfl (Ok.cld c (.tail _ (.head _)) rfl (Ok.cld c (.tail _ (.head _)) rfl (Ok.cld c (.tail _ (.head _)) rfl (Ok.cld c (.head _) rfl (Ok.cld c (.head _) rfl ?_)))))
    refine Ok.cst c (i2 + 2) (by simpa using h2) (by rw [bst4_len]; rfl) fun C nC gC c => ?_
    have cC := c
    have h1' : (E.set i2 (c2, bst4 (some p)))[i1]? = some (c1, fc g) := by rw [List.getElem?_set_ne (fun q => hne q.symm)]; exact h1
    refine Ok.cst c (i1 + 2) (zs := fc g) h1' rfl fun D nD gD c => ?_
    have hst : seeF d (o, g) p = (some p, gainq d p) := by unfold seeF; rw [if_pos hlt]
    refine Ok.cck cC (.head _) rfl (Ok.cck cC (.head _) rfl (Ok.ret ⟨?_, by rw [nD, nC]; exact Nat.le_trans gA.1 gB.1, fun x hx hx1 hx2 => ?_⟩))
    · rw [hst]
      exact Cx.weak c (.cons _ (.cons _ (.refl _)))
    · rw [gD x hx1, gC x hx2, gB.2 x (by have := gA.1; omega), gA.2 x hx]
  · have hst : seeF d (o, g) p = (o, g) := by unfold seeF; rw [if_neg (fun q => cc (ec.2 q))]
    refine Ok.ret ⟨?_, Nat.le_trans gA.1 gB.1, fun x hx _ _ => by rw [gB.2 x (by have := gA.1; omega), gA.2 x hx]⟩
    rw [hst]
    dsimp only
    rw [set_same h2, set_same h1]
    exact c.weak (.cons _ (.cons _ (.refl _)))
theorem seeF_qb {d : Pr} {st : Option (Rat × Rat) × Rat} {p : Rat × Rat} (hd : num d) (hp : qp p) (hg : qb 29160000 3600 st.2) : qb 29160000 3600 (seeF d st p).2 := by
  unfold seeF
  split
  · exact gainq_qb hd hp
  · exact hg
def cornerQ (x : Pr) : Rat × Rat := ((x.1 : Rat), (x.2 : Rat))
/-- where the greatest product may be -/
def candP (e : List Pr) (d : Pr) (i : Nat) : List (Rat × Rat) :=
  cornerQ (at' e i) :: if 0 < i ∧ okM (lineB (at' e (i - 1)) (at' e i)) d (at' e (i - 1)) (at' e i) then [midq (lineB (at' e (i - 1)) (at' e i)) d] else []
def candsP (e : List Pr) (d : Pr) (n : Nat) : List (Rat × Rat) := (List.range n).flatMap (candP e d)
theorem candsP_succ {e : List Pr} {d : Pr} {n : Nat} : candsP e d (n + 1) = candsP e d n ++ candP e d n := by
  unfold candsP
  rw [List.range_succ, List.flatMap_append]
  simp
theorem corner_qp {x : Pr} (h : num x) : qp (cornerQ x) := by
  unfold num at h
  exact ⟨qb_int (by omega) (by omega) (by omega), qb_int (by omega) (by omega) (by omega)⟩
theorem SL.lt {T : Type} [El T] {H : Hp} {v : Sl} {l : List T} (h : SL H v l) (hl : l ≠ []) : v.b < H.n := by
  have h1 : 0 < (encs l).length := by
    rw [encs_len]
    exact Nat.mul_pos (List.length_pos_iff.2 hl) El.pos
  have := h.cs.ld h1
  unfold Hp.ld at this
  cases hg : H.get v.b with
  | none => rw [hg] at this; cases this
  | some b => exact Hp.get_lt hg
theorem lineF_at {e : List Pr} {i : Nat} (h0 : 0 < i) (h : i < e.length) : ∃ hl : i + 1 < (linesF e).length, (linesF e)[i + 1] = lineB (at' e (i - 1)) (at' e i) := by
  have hl : i + 1 < (linesF e).length := by unfold linesF; simp; omega
  refine ⟨hl, ?_⟩
  obtain ⟨j, rfl⟩ : ∃ j, i = j + 1 := ⟨i - 1, by omega⟩
  simp [linesF]
section
variable {k : Nat} {l e : List Pr} {d : Pr}
/-- Product's search -/
theorem r46_l0_ok {HH H : Hp} {v v4 : Sl} {v1 v2 v7 v8 : Nat} (hv : SL HH v l) (ho : offP l) (hd : num d) (hrm : roomP l d) {q : List Pr} (hp : q.Perm l) (hs : q.Pairwise lexP) (he : e = (chainF q).reverse) (hE : EdgeP l e) (hw : SL H v4 e) (hw7 : v4.b ≠ v7) (hw8 : v4.b ≠ v8)
    (c : Cx HH H [(v7, fc (-1)), (v8, bst4 none), (v2, [.int .i64 0, .int .i64 0, .int .i64 0, .int .i64 0]), (v1, pc d)]) :
    Ok (r46_l0 (appA (k + 3)) FUEL v1 v2 v v4 v8 v1 v7 v8 v4 e.length 0 H) fun r H' => Gr HH H' ∧ ∃ o g, (candsP e d e.length).foldl (seeF d) (none, -1) = (o, g) ∧ ∀ p, o = some p → r = pte p 0 := by
  have hwl := hw.len
  have h8 := hE.le
  have hlr := fun x y => lines_reg (x := x) (y := y) hp hs (perm_ne ho hp)
  rw [← he] at hlr
  obtain ⟨hlen, hlb⟩ := hE.lines ho
  have hri := (room_iff (d := d) hlr hlb).2 hrm
  refine Ok.loop (L := fun K (s : Int) H2 => r46_l0 (appA (k + 3)) K v1 v2 v v4 v8 v1 v7 v8 v4 e.length s H2) (fun m s H' => ∃ (i : Nat) (o : Option (Rat × Rat)) (g : Rat), s = i ∧ i + m = e.length ∧ Cx HH H' [(v7, fc g), (v8, bst4 o), (v2, [.int .i64 0, .int .i64 0, .int .i64 0, .int .i64 0]), (v1, pc d)] ∧ SL H' v4 e ∧ (candsP e d i).foldl (seeF d) (none, -1) = (o, g) ∧ qb 29160000 3600 g) ?_ FUEL e.length 0 H (by unfold FUEL; omega) ⟨0, none, -1, rfl, by omega, c, hw, rfl, ⟨by decide, by decide, by decide⟩⟩
  rintro K m s H1 ⟨i, o, g, rfl, hm, c, hw, hf, hgb⟩ ih
  try dsimp only at *
  rw [r46_l0]
  by_cases h : i < e.length
  · have hmem := hE.mem i h
    have hnx := ho.2.2.1 _ hmem
    have hnx' := hnx
    unfold num at hnx'
    have L1 : ∀ X, SL X v4 e → X.ldI .i64 v4.b (v4.o + i * 2) = some (at' e i).1 := fun X hX => by rw [← at_eq h]; exact hX.ldI (i := i) (j := 0) h rfl
    have L2 : ∀ X, SL X v4 e → X.ldI .i64 v4.b (v4.o + i * 2 + 1) = some (at' e i).2 := fun X hX => by rw [← at_eq h]; exact hX.ldI (i := i) (j := 1) h rfl
    refine Ok.pos (by omega) (Ok.ck (by omega) (Ok.ld (L1 _ hw) (Ok.ld (L2 _ hw) (Ok.alo c fun A gA c => ?_))))
    refine Ok.cld c (.head _) rfl (Ok.own (r48_int (by omega) H0) fun X => Ok.cld c (.head _) rfl (Ok.own (r48_int (by omega) H0) fun X => ?_))
    dsimp only
    have hcp := corner_qp hnx
    have hwA := hw.gr gA
    have hwlt := SL.lt hw (by intro q; rw [q] at h; simp at h)
    refine Ok.bind (P := fun r H' => Cx HH H' [(H1.n, pc (at' e i)), (v7, fc (seeF d (o, g) (cornerQ (at' e i))).2), (v8, bst4 (seeF d (o, g) (cornerQ (at' e i))).1), (v2, [.int .i64 0, .int .i64 0, .int .i64 0, .int .i64 0]), (v1, pc d)] ∧ A.n ≤ H'.n ∧ SL H' v4 e) ?_ fun r B ⟨c, nB, hwB⟩ => ?_
    · show Ok ((r66 (fq (cornerQ (at' e i)).1).1 (fq (cornerQ (at' e i)).1).2 (fq (cornerQ (at' e i)).2).1 (fq (cornerQ (at' e i)).2).2 v1 v7 v8 A).map fun p => ((AV.tup [], p.2) : AV × Hp)) _
      obtain ⟨r, H', e1, e2, e3, e4⟩ := r66_ok (i1 := 1) (i2 := 2) hd hcp hgb c (.tail _ (.tail _ (.tail _ (.tail _ (.head _))))) rfl rfl (by decide)
      rw [e1]
      exact ⟨_, H', rfl, e2, e3, hwA.congr (e4 _ (by have := gA.1; omega) hw7 hw8)⟩
    have hf1 : (candsP e d i ++ [cornerQ (at' e i)]).foldl (seeF d) (none, -1) = seeF d (o, g) (cornerQ (at' e i)) := by
      rw [List.foldl_append, hf]; rfl
    have hgb1 := seeF_qb (st := (o, g)) hd hcp hgb
    generalize seeF d (o, g) (cornerQ (at' e i)) = st at *
    have next : ∀ (st' : Option (Rat × Rat) × Rat) C, Cx HH C [(v7, fc st'.2), (v8, bst4 st'.1), (v2, [.int .i64 0, .int .i64 0, .int .i64 0, .int .i64 0]), (v1, pc d)] → SL C v4 e → (candsP e d (i + 1)).foldl (seeF d) (none, -1) = st' → qb 29160000 3600 st'.2 →
        Ok (r46_l0 (appA (k + 3)) K v1 v2 v v4 v8 v1 v7 v8 v4 e.length (w64 ((i : Int) + 1)) C) fun r H' => Gr HH H' ∧ ∃ o g, (candsP e d e.length).foldl (seeF d) (none, -1) = (o, g) ∧ ∀ p, o = some p → r = pte p 0 := fun st' C c hwC hf hg => by
      rw [w64_succ (by omega)]
      exact ih (m - 1) _ C (by omega) ⟨i + 1, st'.1, st'.2, rfl, by omega, c, hwC, hf, hg⟩
    refine Ok.ite (fun h0 => ?_) fun h0 => ?_
    · have h0' : 0 < i := by omega
      obtain ⟨hil, hie⟩ := lineF_at h0' h
      have hlb1 := hlb _ (List.getElem_mem hil)
      have hr1 := hri _ (List.getElem_mem hil)
      have hstp := hE.step (i - 1) (by omega)
      rw [show i - 1 + 1 = i by omega] at hstp
      have hnu := ho.2.2.1 _ (hE.mem (i - 1) (by omega))
      obtain ⟨_, hpa, hpb⟩ := lineB_lb hnu hnx hstp.1 hstp.2
      have gB : Gr HH B := c.g
      refine Ok.bind (r54_ok (k := k + 1) (hv.gr gB) ho) fun s C ⟨gC, hsb, q', hp', hs', hsl⟩ => ?_
      rw [lex_uniq hp' hp hs' hs, ← he] at hsl
      have hslen := hsl.len
      have cB := c
      have c := c.gr gC
      have hwC := hwB.gr gC
      have e1 : w64 ((i : Int) + 1) = ((i + 1 : Nat) : Int) := w64_succ (by omega)
      have e2 : w64 ((i : Int) - 1) = ((i - 1 : Nat) : Int) := by rw [w64_id (by omega) (by omega)]; omega
      have M1 : ∀ X, SL X v4 e → X.ldI .i64 v4.b (v4.o + (i - 1) * 2) = some (at' e (i - 1)).1 := fun X hX => by rw [← at_eq (by omega)]; exact hX.ldI (i := i - 1) (j := 0) (by omega) rfl
      have M2 : ∀ X, SL X v4 e → X.ldI .i64 v4.b (v4.o + (i - 1) * 2 + 1) = some (at' e (i - 1)).2 := fun X hX => by rw [← at_eq (by omega)]; exact hX.ldI (i := i - 1) (j := 1) (by omega) rfl
      have N0 := hsl.ldI (i := i + 1) (j := 0) hil rfl
      have N1 := hsl.ldI (i := i + 1) (j := 1) hil rfl
      have N2 := hsl.ldI (i := i + 1) (j := 2) hil rfl
      rw [hie] at N0 N1 N2 hlb1 hr1
      dsimp only
      rw [e1, e2]
      simp only [Int.toNat_natCast]
      refine Ok.ck (by omega) (Ok.ld N0 (Ok.ld N1 (Ok.ld N2 (Ok.cld c (.tail _ (.tail _ (.tail _ (.tail _ (.head _))))) rfl (Ok.cld c (.tail _ (.tail _ (.tail _ (.tail _ (.head _))))) rfl ?_)))))
      refine Ok.ck (by omega) (Ok.ld (M1 _ hwC) (Ok.ld (M2 _ hwC) (Ok.cld c (.head _) rfl (Ok.cld c (.head _) rfl (Ok.own (r69_q hlb1 hpa hpb hd hnu hnx hr1) fun X => ?_)))))
      dsimp only
      have hqm := (mid_qp hlb1 hpa hpb hd hr1).2.2
      have hcand : candP e d i = cornerQ (at' e i) :: if okM (lineB (at' e (i - 1)) (at' e i)) d (at' e (i - 1)) (at' e i) then [midq (lineB (at' e (i - 1)) (at' e i)) d] else [] := by
        unfold candP
        by_cases hk : okM (lineB (at' e (i - 1)) (at' e i)) d (at' e (i - 1)) (at' e i)
        · rw [if_pos ⟨h0', hk⟩, if_pos hk]
        · rw [if_neg (fun q => hk q.2), if_neg hk]
      have cP := c.push [.int .i64 0, .int .i64 0, .int .i64 0, .int .i64 0]
      have hwP := hwC.gr (Gr.push C (.cells [.int .i64 0, .int .i64 0, .int .i64 0, .int .i64 0] false))
      refine Ok.alo c fun D gD c => ?_
      refine Ok.cck cB (.tail _ (.tail _ (.tail _ (.tail _ (.head _))))) rfl (Ok.cck cB (.tail _ (.tail _ (.tail _ (.tail _ (.head _))))) rfl (Ok.ck (M1 _ hwB) (Ok.ck (M2 _ hwB) (Ok.cck cB (.head _) rfl (Ok.cck cB (.head _) rfl ?_)))))
      refine Ok.cck cP (.tail _ (.tail _ (.tail _ (.tail _ (.tail _ (.head _)))))) rfl (Ok.cck cP (.tail _ (.tail _ (.tail _ (.tail _ (.tail _ (.head _)))))) rfl (Ok.ck (M1 _ hwP) (Ok.ck (M2 _ hwP) (Ok.cck cP (.tail _ (.head _)) rfl (Ok.cck cP (.tail _ (.head _)) rfl ?_)))))
      have hwD := hwC.gr gD
      by_cases hk : okM (lineB (at' e (i - 1)) (at' e i)) d (at' e (i - 1)) (at' e i)
      · rw [if_pos hk] at hcand
        rw [decide_eq_true hk]
        refine Ok.pos rfl (Ok.cld c (.head _) rfl (Ok.cld c (.head _) rfl (Ok.cld c (.head _) rfl (Ok.cld c (.head _) rfl ?_))))
        have hgb2 := seeF_qb (st := st) hd hqm hgb1
        refine Ok.bind (P := fun r H' => Cx HH H' [(C.n, bst4 (some (midq (lineB (at' e (i - 1)) (at' e i)) d))), (H1.n, pc (at' e i)), (v7, fc (seeF d st (midq (lineB (at' e (i - 1)) (at' e i)) d)).2), (v8, bst4 (seeF d st (midq (lineB (at' e (i - 1)) (at' e i)) d)).1), (v2, [.int .i64 0, .int .i64 0, .int .i64 0, .int .i64 0]), (v1, pc d)] ∧ D.n ≤ H'.n ∧ SL H' v4 e) ?_ fun r G ⟨c, nG, hwG⟩ => ?_
        · show Ok ((r66 (fq (midq (lineB (at' e (i - 1)) (at' e i)) d).1).1 (fq (midq (lineB (at' e (i - 1)) (at' e i)) d).1).2 (fq (midq (lineB (at' e (i - 1)) (at' e i)) d).2).1 (fq (midq (lineB (at' e (i - 1)) (at' e i)) d).2).2 v1 v7 v8 D).map fun p => ((AV.tup [], p.2) : AV × Hp)) _
          obtain ⟨r, H', e1, e2, e3, e4⟩ := r66_ok (i1 := 2) (i2 := 3) (o := st.1) (g := st.2) hd hqm hgb1 c (.tail _ (.tail _ (.tail _ (.tail _ (.tail _ (.head _)))))) rfl rfl (by decide)
          rw [e1]
          refine ⟨_, H', rfl, e2, e3, hwD.congr (e4 _ ?_ hw7 hw8)⟩
          have a1 : H1.n ≤ A.n := gA.1
          have a4 : A.n ≤ B.n := nB
          have a2 : B.n ≤ C.n := gC.1
          have a3 : C.n ≤ D.n := gD.1
          omega
        · rw [← e1]
          refine next _ G (c.weak (.cons _ (.cons _ (.refl _)))) hwG ?_ hgb2
          rw [candsP_succ, hcand, List.foldl_append]
          rw [List.foldl_append] at hf1
          simp only [List.foldl_cons, List.foldl_nil] at hf1 ⊢
          rw [hf1]
      · rw [if_neg hk] at hcand
        rw [decide_eq_false hk]
        refine Ok.neg (by simp) ?_
        rw [← e1]
        refine next st D (c.weak (.cons _ (.cons _ (.refl _)))) hwD ?_ hgb1
        rw [candsP_succ, hcand]
        exact hf1
    · have hi0 : i = 0 := by omega
      refine next st B (c.weak (.cons _ (.refl _))) hwB ?_ hgb1
      rw [candsP_succ]
      have : candP e d i = [cornerQ (at' e i)] := by unfold candP; rw [if_neg (fun q => h0 (by omega))]
      rw [this]
      exact hf1
  · have hi : i = e.length := by omega
    subst hi
    refine Ok.neg (by omega) ?_
    have hb4 : ∃ a b c' d', bst4 o = [.int .i64 a, .int .i64 b, .int .i64 c', .int .i64 d'] ∧ ∀ p, o = some p → (a, b, c', d', (0 : Int)) = pte p 0 := by
      cases o with
      | none => exact ⟨0, 0, 0, 0, rfl, fun p h => by cases h⟩
      | some p => exact ⟨_, _, _, _, rfl, fun p' h => by injection h with h; subst h; rfl⟩
    obtain ⟨x1, x2, x3, x4, hb4, hpe⟩ := hb4
    rw [hb4] at c
    refine Ok.cld c (.tail _ (.head _)) rfl (Ok.cld c (.tail _ (.head _)) rfl (Ok.cld c (.tail _ (.head _)) rfl (Ok.cld c (.tail _ (.head _)) rfl ?_)))
    refine Ok.cst c 2 rfl rfl fun D _ _ c => ?_
    exact Ok.cld c (.tail _ (.tail _ (.head _))) rfl (Ok.cld c (.tail _ (.tail _ (.head _))) rfl (Ok.cld c (.tail _ (.tail _ (.head _))) rfl (Ok.cld c (.tail _ (.tail _ (.head _))) rfl (Ok.ret ⟨c.g, o, g, hf, hpe⟩))))
end
end Go.Lt.P5
