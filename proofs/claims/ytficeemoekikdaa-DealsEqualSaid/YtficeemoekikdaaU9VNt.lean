/- PLAIN LAWS OF WHAT IS COMPUTED, for the statement 'DealsEqual'. Nothing is asked of the input. -/
import Derived.Test.YtficeemoekikdaaU9VPr
import Derived.Test.YtficeemoekikdaaU9VDl
set_option linter.unusedVariables false
set_option linter.unusedSimpArgs false
namespace Go.Lt.P5
open Go Go.Lt Go.Proofs
/-- the best so far, and its product -/
def seeF (d : Pr) (st : Option (Rat × Rat) × Rat) (p : Rat × Rat) : Option (Rat × Rat) × Rat := if st.2 < gainq d p then (some p, gainq d p) else st
def bst4 : Option (Rat × Rat) → List AV
  | none => [.int .i64 0, .int .i64 0, .int .i64 0, .int .i64 0]
  | some p => [.int .i64 (fq p.1).1, .int .i64 (fq p.1).2, .int .i64 (fq p.2).1, .int .i64 (fq p.2).2]
theorem bst4_len (o : Option (Rat × Rat)) : (bst4 o).length = 4 := by cases o <;> rfl
theorem set_same {α : Type} {E : List α} {i : Nat} {x : α} (h : E[i]? = some x) : E.set i x = E := by
  obtain ⟨h1, h2⟩ := List.getElem?_eq_some_iff.1 h
  subst h2
  exact List.set_getElem_self h1
/-- see -/
theorem r66_ok {HH H : Hp} {E : List (Nat × List AV)} {d : Pr} {p : Rat × Rat} {o : Option (Rat × Rat)} {g : Rat} {c0 c1 c2 i1 i2 : Nat} (hd : num d) (hp : qp p) (hg : qb 29160000 3600 g) (c : Cx HH H E) (h0 : (c0, pc d) ∈ E) (h1 : E[i1]? = some (c1, fc g)) (h2 : E[i2]? = some (c2, bst4 o)) (hne : i1 ≠ i2) :
    Ok (r66 (fq p.1).1 (fq p.1).2 (fq p.2).1 (fq p.2).2 c0 c1 c2 H) fun _ H' => Cx HH H' ((E.set i2 (c2, bst4 (seeF d (o, g) p).1)).set i1 (c1, fc (seeF d (o, g) p).2)) ∧ H.n ≤ H'.n ∧ ∀ x, x < H.n → x ≠ c1 → x ≠ c2 → H'.get x = H.get x := by
  have m1 : (c1, fc g) ∈ E := List.mem_of_getElem? h1
  have m2 : (c2, bst4 o) ∈ E := List.mem_of_getElem? h2
  have l1 := c.lt m1
  have l2 := c.lt m2
  unfold r66
  refine Ok.box c fun A gA c => ?_
  refine Ok.cld c (.head _) rfl (Ok.cld c (.head _) rfl (Ok.cld c (.head _) rfl (Ok.cld c (.head _) rfl (Ok.cld c (.tail _ h0) rfl (Ok.cld c (.tail _ h0) rfl ?_)))))
  refine Ok.own (r67_q hd hp) fun X => ?_
  have hgq := gainq_qb hd hp
  refine Ok.alo c fun B gB c => ?_
  have cB := c
  refine Ok.cld c (.head _) rfl (Ok.cld c (.head _) rfl (Ok.cld c (.tail _ (.tail _ m1)) rfl (Ok.cld c (.tail _ (.tail _ m1)) rfl (Ok.own (r68_q hgq hg (by decide) (by decide)) fun X => ?_))))
  have ec : (0 < cmpq (gainq d p) g) ↔ g < gainq d p := by
    have := @cmp_le (gainq d p) g
    rw [← Rat.not_le, ← Int.not_le, this]
  dsimp only
  have hBn : B.n = H.n + 2 ∨ H.n ≤ B.n := .inr (Nat.le_trans gA.1 gB.1)
  refine Ok.ite (fun cc => ?_) fun cc => ?_
  · have hlt := ec.1 cc
    refine Ok.cld c (.tail _ (.head _)) rfl (Ok.cld c (.tail _ (.head _)) rfl (Ok.cld c (.tail _ (.head _)) rfl (Ok.cld c (.tail _ (.head _)) rfl (Ok.cld c (.head _) rfl (Ok.cld c (.head _) rfl ?_)))))
    refine Ok.cst c (i2 + 2) (by simpa using h2) (by rw [bst4_len]; rfl) fun C nC gC c => ?_
    have cC := c
    have h1' : (E.set i2 (c2, bst4 (some p)))[i1]? = some (c1, fc g) := by rw [List.getElem?_set_ne (fun q => hne q.symm)]; exact h1
    refine Ok.cst c (i1 + 2) (zs := fc g) h1' rfl fun D nD gD c => ?_
    have hst : seeF d (o, g) p = (some p, gainq d p) := by unfold seeF; rw [if_pos hlt]
    refine Ok.cck cC (.head _) rfl (Ok.cck cC (.head _) rfl (Ok.ret ⟨?_, by rw [nD, nC]; exact Nat.le_trans gA.1 gB.1, fun x hx hx1 hx2 => ?_⟩))
    · rw [hst]
      exact Cx.weak c (.cons _ (.cons _ (.refl _)))
    · rw [gD x hx1, gC x hx2, gB.2 x (by have := gA.1; omega), gA.2 x hx]
  · have hst : seeF d (o, g) p = (o, g) := by unfold seeF; rw [if_neg (fun q => cc (ec.2 q))]
    refine Ok.ret ⟨?_, Nat.le_trans gA.1 gB.1, fun x hx _ _ => by rw [gB.2 x (by have := gA.1; omega), gA.2 x hx]⟩
    rw [hst]
    dsimp only
    rw [set_same h2, set_same h1]
    exact c.weak (.cons _ (.cons _ (.refl _)))
theorem seeF_qb {d : Pr} {st : Option (Rat × Rat) × Rat} {p : Rat × Rat} (hd : num d) (hp : qp p) (hg : qb 29160000 3600 st.2) : qb 29160000 3600 (seeF d st p).2 := by
  unfold seeF
  split
  · exact gainq_qb hd hp
  · exact hg
def cornerQ (x : Pr) : Rat × Rat := ((x.1 : Rat), (x.2 : Rat))
/-- where the greatest product may be -/
def candP (e : List Pr) (d : Pr) (i : Nat) : List (Rat × Rat) :=
  cornerQ (at' e i) :: if 0 < i ∧ okM (lineB (at' e (i - 1)) (at' e i)) d (at' e (i - 1)) (at' e i) then [midq (lineB (at' e (i - 1)) (at' e i)) d] else []
def candsP (e : List Pr) (d : Pr) (n : Nat) : List (Rat × Rat) := (List.range n).flatMap (candP e d)
theorem candsP_succ {e : List Pr} {d : Pr} {n : Nat} : candsP e d (n + 1) = candsP e d n ++ candP e d n := by
  unfold candsP
  rw [List.range_succ, List.flatMap_append]
  simp
theorem corner_qp {x : Pr} (h : num x) : qp (cornerQ x) := by
  unfold num at h
  exact ⟨qb_int (by omega) (by omega) (by omega), qb_int (by omega) (by omega) (by omega)⟩
theorem SL.lt {T : Type} [El T] {H : Hp} {v : Sl} {l : List T} (h : SL H v l) (hl : l ≠ []) : v.b < H.n := by
  have h1 : 0 < (encs l).length := by
    rw [encs_len]
    exact Nat.mul_pos (List.length_pos_iff.2 hl) El.pos
  have := h.cs.ld h1
  unfold Hp.ld at this
  cases hg : H.get v.b with
  | none => rw [hg] at this; cases this
  | some b => exact Hp.get_lt hg
theorem lineF_at {e : List Pr} {i : Nat} (h0 : 0 < i) (h : i < e.length) : ∃ hl : i + 1 < (linesF e).length, (linesF e)[i + 1] = lineB (at' e (i - 1)) (at' e i) := by
  have hl : i + 1 < (linesF e).length := by unfold linesF; simp; omega
  refine ⟨hl, ?_⟩
  obtain ⟨j, rfl⟩ : ∃ j, i = j + 1 := ⟨i - 1, by omega⟩
  simp [linesF]
section
variable {k : Nat} {l e : List Pr} {d : Pr}
/-- Product's search -/
theorem r46_l0_ok {HH H : Hp} {v v4 : Sl} {v1 v2 v7 v8 : Nat} (hv : SL HH v l) (ho : offP l) (hd : num d) (hrm : roomP l d) {q : List Pr} (hp : q.Perm l) (hs : q.Pairwise lexP) (he : e = (chainF q).reverse) (hE : EdgeP l e) (hw : SL H v4 e) (hw7 : v4.b ≠ v7) (hw8 : v4.b ≠ v8)
    (c : Cx HH H [(v7, fc (-1)), (v8, bst4 none), (v2, [.int .i64 0, .int .i64 0, .int .i64 0, .int .i64 0]), (v1, pc d)]) :
    Ok (r46_l0 (appA (k + 3)) FUEL v1 v2 v v4 v8 v1 v7 v8 v4 e.length 0 H) fun r H' => Gr HH H' ∧ ∃ o g, (candsP e d e.length).foldl (seeF d) (none, -1) = (o, g) ∧ ∀ p, o = some p → r = pte p 0 := by
  have hwl := hw.len
  have h8 := hE.le
  have hlr := fun x y => lines_reg (x := x) (y := y) hp hs (perm_ne ho hp)
  rw [← he] at hlr
  obtain ⟨hlen, hlb⟩ := hE.lines ho
  have hri := (room_iff (d := d) hlr hlb).2 hrm
  refine Ok.loop (L := fun K (s : Int) H2 => r46_l0 (appA (k + 3)) K v1 v2 v v4 v8 v1 v7 v8 v4 e.length s H2) (fun m s H' => ∃ (i : Nat) (o : Option (Rat × Rat)) (g : Rat), s = i ∧ i + m = e.length ∧ Cx HH H' [(v7, fc g), (v8, bst4 o), (v2, [.int .i64 0, .int .i64 0, .int .i64 0, .int .i64 0]), (v1, pc d)] ∧ SL H' v4 e ∧ (candsP e d i).foldl (seeF d) (none, -1) = (o, g) ∧ qb 29160000 3600 g) ?_ FUEL e.length 0 H (by unfold FUEL; omega) ⟨0, none, -1, rfl, by omega, c, hw, rfl, ⟨by decide, by decide, by decide⟩⟩
  rintro K m s H1 ⟨i, o, g, rfl, hm, c, hw, hf, hgb⟩ ih
  try dsimp only at *
  rw [r46_l0]
  by_cases h : i < e.length
  · have hmem := hE.mem i h
    have hnx := ho.2.2.1 _ hmem
    have hnx' := hnx
    unfold num at hnx'
    have L1 : ∀ X, SL X v4 e → X.ldI .i64 v4.b (v4.o + i * 2) = some (at' e i).1 := fun X hX => by rw [← at_eq h]; exact hX.ldI (i := i) (j := 0) h rfl
    have L2 : ∀ X, SL X v4 e → X.ldI .i64 v4.b (v4.o + i * 2 + 1) = some (at' e i).2 := fun X hX => by rw [← at_eq h]; exact hX.ldI (i := i) (j := 1) h rfl
    refine Ok.pos (by omega) (Ok.ck (by omega) (Ok.ld (L1 _ hw) (Ok.ld (L2 _ hw) (Ok.alo c fun A gA c => ?_))))
    refine Ok.cld c (.head _) rfl (Ok.own (r48_int (by omega) H0) fun X => Ok.cld c (.head _) rfl (Ok.own (r48_int (by omega) H0) fun X => ?_))
    dsimp only
    have hcp := corner_qp hnx
    have hwA := hw.gr gA
    have hwlt := SL.lt hw (by intro q; rw [q] at h; simp at h)
    refine Ok.bind (P := fun r H' => Cx HH H' [(H1.n, pc (at' e i)), (v7, fc (seeF d (o, g) (cornerQ (at' e i))).2), (v8, bst4 (seeF d (o, g) (cornerQ (at' e i))).1), (v2, [.int .i64 0, .int .i64 0, .int .i64 0, .int .i64 0]), (v1, pc d)] ∧ A.n ≤ H'.n ∧ SL H' v4 e) ?_ fun r B ⟨c, nB, hwB⟩ => ?_
    · show Ok ((r66 (fq (cornerQ (at' e i)).1).1 (fq (cornerQ (at' e i)).1).2 (fq (cornerQ (at' e i)).2).1 (fq (cornerQ (at' e i)).2).2 v1 v7 v8 A).map fun p => ((AV.tup [], p.2) : AV × Hp)) _
      obtain ⟨r, H', e1, e2, e3, e4⟩ := r66_ok (i1 := 1) (i2 := 2) hd hcp hgb c (.tail _ (.tail _ (.tail _ (.tail _ (.head _))))) rfl rfl (by decide)
      rw [e1]
      exact ⟨_, H', rfl, e2, e3, hwA.congr (e4 _ (by have := gA.1; omega) hw7 hw8)⟩
    have hf1 : (candsP e d i ++ [cornerQ (at' e i)]).foldl (seeF d) (none, -1) = seeF d (o, g) (cornerQ (at' e i)) := by
      rw [List.foldl_append, hf]; rfl
    have hgb1 := seeF_qb (st := (o, g)) hd hcp hgb
    generalize seeF d (o, g) (cornerQ (at' e i)) = st at *
    have next : ∀ (st' : Option (Rat × Rat) × Rat) C, Cx HH C [(v7, fc st'.2), (v8, bst4 st'.1), (v2, [.int .i64 0, .int .i64 0, .int .i64 0, .int .i64 0]), (v1, pc d)] → SL C v4 e → (candsP e d (i + 1)).foldl (seeF d) (none, -1) = st' → qb 29160000 3600 st'.2 →
        Ok (r46_l0 (appA (k + 3)) K v1 v2 v v4 v8 v1 v7 v8 v4 e.length (w64 ((i : Int) + 1)) C) fun r H' => Gr HH H' ∧ ∃ o g, (candsP e d e.length).foldl (seeF d) (none, -1) = (o, g) ∧ ∀ p, o = some p → r = pte p 0 := fun st' C c hwC hf hg => by
      rw [w64_succ (by omega)]
      exact ih (m - 1) _ C (by omega) ⟨i + 1, st'.1, st'.2, rfl, by omega, c, hwC, hf, hg⟩
    refine Ok.ite (fun h0 => ?_) fun h0 => ?_
    · have h0' : 0 < i := by omega
      obtain ⟨hil, hie⟩ := lineF_at h0' h
      have hlb1 := hlb _ (List.getElem_mem hil)
      have hr1 := hri _ (List.getElem_mem hil)
      have hstp := hE.step (i - 1) (by omega)
      rw [show i - 1 + 1 = i by omega] at hstp
      have hnu := ho.2.2.1 _ (hE.mem (i - 1) (by omega))
      obtain ⟨_, hpa, hpb⟩ := lineB_lb hnu hnx hstp.1 hstp.2
      have gB : Gr HH B := c.g
      refine Ok.bind (r54_ok (k := k + 1) (hv.gr gB) ho) fun s C ⟨gC, hsb, q', hp', hs', hsl⟩ => ?_
      rw [lex_uniq hp' hp hs' hs, ← he] at hsl
      have hslen := hsl.len
      have cB := c
      have c := c.gr gC
      have hwC := hwB.gr gC
      have e1 : w64 ((i : Int) + 1) = ((i + 1 : Nat) : Int) := w64_succ (by omega)
      have e2 : w64 ((i : Int) - 1) = ((i - 1 : Nat) : Int) := by rw [w64_id (by omega) (by omega)]; omega
      have M1 : ∀ X, SL X v4 e → X.ldI .i64 v4.b (v4.o + (i - 1) * 2) = some (at' e (i - 1)).1 := fun X hX => by rw [← at_eq (by omega)]; exact hX.ldI (i := i - 1) (j := 0) (by omega) rfl
      have M2 : ∀ X, SL X v4 e → X.ldI .i64 v4.b (v4.o + (i - 1) * 2 + 1) = some (at' e (i - 1)).2 := fun X hX => by rw [← at_eq (by omega)]; exact hX.ldI (i := i - 1) (j := 1) (by omega) rfl
      have N0 := hsl.ldI (i := i + 1) (j := 0) hil rfl
      have N1 := hsl.ldI (i := i + 1) (j := 1) hil rfl
      have N2 := hsl.ldI (i := i + 1) (j := 2) hil rfl
      rw [hie] at N0 N1 N2 hlb1 hr1
      dsimp only
      rw [e1, e2]
      simp only [Int.toNat_natCast]
      refine Ok.ck (by omega) (Ok.ld N0 (Ok.ld N1 (Ok.ld N2 (Ok.cld c (.tail _ (.tail _ (.tail _ (.tail _ (.head _))))) rfl (Ok.cld c (.tail _ (.tail _ (.tail _ (.tail _ (.head _))))) rfl ?_)))))
      refine Ok.ck (by omega) (Ok.ld (M1 _ hwC) (Ok.ld (M2 _ hwC) (Ok.cld c (.head _) rfl (Ok.cld c (.head _) rfl (Ok.own (r69_q hlb1 hpa hpb hd hnu hnx hr1) fun X => ?_)))))
      dsimp only
      have hqm := (mid_qp hlb1 hpa hpb hd hr1).2.2
      have hcand : candP e d i = cornerQ (at' e i) :: if okM (lineB (at' e (i - 1)) (at' e i)) d (at' e (i - 1)) (at' e i) then [midq (lineB (at' e (i - 1)) (at' e i)) d] else [] := by
        unfold candP
        by_cases hk : okM (lineB (at' e (i - 1)) (at' e i)) d (at' e (i - 1)) (at' e i)
        · rw [if_pos ⟨h0', hk⟩, if_pos hk]
        · rw [if_neg (fun q => hk q.2), if_neg hk]
      have cP := c.push [.int .i64 0, .int .i64 0, .int .i64 0, .int .i64 0]
      have hwP := hwC.gr (Gr.push C (.cells [.int .i64 0, .int .i64 0, .int .i64 0, .int .i64 0] false))
      refine Ok.alo c fun D gD c => ?_
      refine Ok.cck cB (.tail _ (.tail _ (.tail _ (.tail _ (.head _))))) rfl (Ok.cck cB (.tail _ (.tail _ (.tail _ (.tail _ (.head _))))) rfl (Ok.ck (M1 _ hwB) (Ok.ck (M2 _ hwB) (Ok.cck cB (.head _) rfl (Ok.cck cB (.head _) rfl ?_)))))
      refine Ok.cck cP (.tail _ (.tail _ (.tail _ (.tail _ (.tail _ (.head _)))))) rfl (Ok.cck cP (.tail _ (.tail _ (.tail _ (.tail _ (.tail _ (.head _)))))) rfl (Ok.ck (M1 _ hwP) (Ok.ck (M2 _ hwP) (Ok.cck cP (.tail _ (.head _)) rfl (Ok.cck cP (.tail _ (.head _)) rfl ?_)))))
      have hwD := hwC.gr gD
      by_cases hk : okM (lineB (at' e (i - 1)) (at' e i)) d (at' e (i - 1)) (at' e i)
      · rw [if_pos hk] at hcand
        rw [decide_eq_true hk]
        refine Ok.pos rfl (Ok.cld c (.head _) rfl (Ok.cld c (.head _) rfl (Ok.cld c (.head _) rfl (Ok.cld c (.head _) rfl ?_))))
        have hgb2 := seeF_qb (st := st) hd hqm hgb1
        refine Ok.bind (P := fun r H' => Cx HH H' [(C.n, bst4 (some (midq (lineB (at' e (i - 1)) (at' e i)) d))), (H1.n, pc (at' e i)), (v7, fc (seeF d st (midq (lineB (at' e (i - 1)) (at' e i)) d)).2), (v8, bst4 (seeF d st (midq (lineB (at' e (i - 1)) (at' e i)) d)).1), (v2, [.int .i64 0, .int .i64 0, .int .i64 0, .int .i64 0]), (v1, pc d)] ∧ D.n ≤ H'.n ∧ SL H' v4 e) ?_ fun r G ⟨c, nG, hwG⟩ => ?_
        · show Ok ((r66 (fq (midq (lineB (at' e (i - 1)) (at' e i)) d).1).1 (fq (midq (lineB (at' e (i - 1)) (at' e i)) d).1).2 (fq (midq (lineB (at' e (i - 1)) (at' e i)) d).2).1 (fq (midq (lineB (at' e (i - 1)) (at' e i)) d).2).2 v1 v7 v8 D).map fun p => ((AV.tup [], p.2) : AV × Hp)) _
          obtain ⟨r, H', e1, e2, e3, e4⟩ := r66_ok (i1 := 2) (i2 := 3) (o := st.1) (g := st.2) hd hqm hgb1 c (.tail _ (.tail _ (.tail _ (.tail _ (.tail _ (.head _)))))) rfl rfl (by decide)
          rw [e1]
          refine ⟨_, H', rfl, e2, e3, hwD.congr (e4 _ ?_ hw7 hw8)⟩
          have a1 : H1.n ≤ A.n := gA.1
          have a4 : A.n ≤ B.n := nB
          have a2 : B.n ≤ C.n := gC.1
          have a3 : C.n ≤ D.n := gD.1
          omega
        · rw [← e1]
          refine next _ G (c.weak (.cons _ (.cons _ (.refl _)))) hwG ?_ hgb2
          rw [candsP_succ, hcand, List.foldl_append]
          rw [List.foldl_append] at hf1
          simp only [List.foldl_cons, List.foldl_nil] at hf1 ⊢
          rw [hf1]
      · rw [if_neg hk] at hcand
        rw [decide_eq_false hk]
        refine Ok.neg (by simp) ?_
        rw [← e1]
        refine next st D (c.weak (.cons _ (.cons _ (.refl _)))) hwD ?_ hgb1
        rw [candsP_succ, hcand]
        exact hf1
    · have hi0 : i = 0 := by omega
      refine next st B (c.weak (.cons _ (.refl _))) hwB ?_ hgb1
      rw [candsP_succ]
      have : candP e d i = [cornerQ (at' e i)] := by unfold candP; rw [if_neg (fun q => h0 (by omega))]
      rw [this]
      exact hf1
  · have hi : i = e.length := by omega
    subst hi
    refine Ok.neg (by omega) ?_
    have hb4 : ∃ a b c' d', bst4 o = [.int .i64 a, .int .i64 b, .int .i64 c', .int .i64 d'] ∧ ∀ p, o = some p → (a, b, c', d', (0 : Int)) = pte p 0 := by
      cases o with
      | none => exact ⟨0, 0, 0, 0, rfl, fun p h => by cases h⟩
      | some p => exact ⟨_, _, _, _, rfl, fun p' h => by injection h with h; subst h; rfl⟩
    obtain ⟨x1, x2, x3, x4, hb4, hpe⟩ := hb4
    rw [hb4] at c
    refine Ok.cld c (.tail _ (.head _)) rfl (Ok.cld c (.tail _ (.head _)) rfl (Ok.cld c (.tail _ (.head _)) rfl (Ok.cld c (.tail _ (.head _)) rfl ?_)))
    refine Ok.cst c 2 rfl rfl fun D _ _ c => ?_
    exact Ok.cld c (.tail _ (.tail _ (.head _))) rfl (Ok.cld c (.tail _ (.tail _ (.head _))) rfl (Ok.cld c (.tail _ (.tail _ (.head _))) rfl (Ok.cld c (.tail _ (.tail _ (.head _))) rfl (Ok.ret ⟨c.g, o, g, hf, hpe⟩))))
end
end Go.Lt.P5

namespace Go.Lt.P5
open Go.Lt
/-! ### the greatest product -/
theorem fold_max (d : Pr) (C : List (Rat × Rat)) : (C.foldl (seeF d) (none, -1) = (none, -1) ∧ ∀ p ∈ C, gainq d p ≤ -1) ∨ ∃ p ∈ C, C.foldl (seeF d) (none, -1) = (some p, gainq d p) ∧ ∀ p' ∈ C, gainq d p' ≤ gainq d p := by
  have key : ∀ n, n ≤ C.length → ((C.take n).foldl (seeF d) (none, -1) = (none, -1) ∧ ∀ p ∈ C.take n, gainq d p ≤ -1) ∨ ∃ p ∈ C.take n, (C.take n).foldl (seeF d) (none, -1) = (some p, gainq d p) ∧ ∀ p' ∈ C.take n, gainq d p' ≤ gainq d p := by
    intro n
    induction n with
    | zero => intro _; left; simp
    | succ n ih =>
      intro hn
      have hlt : n < C.length := by omega
      rw [List.take_succ_eq_append_getElem hlt, List.foldl_append]
      rcases ih (by omega) with ⟨h1, h2⟩ | ⟨p, hp, h1, h2⟩
      · rw [h1]
        simp only [List.foldl_cons, List.foldl_nil, seeF]
        by_cases c : -1 < gainq d C[n]
        · right
          rw [if_pos c]
          refine ⟨C[n], List.mem_append_right _ (List.mem_singleton.2 rfl), rfl, fun p' hp' => ?_⟩
          rcases List.mem_append.1 hp' with h | h
          · have := h2 p' h; grind
          · rw [List.mem_singleton] at h; subst h; exact Rat.le_refl
        · left
          rw [if_neg c]
          refine ⟨rfl, fun p' hp' => ?_⟩
          rcases List.mem_append.1 hp' with h | h
          · exact h2 p' h
          · rw [List.mem_singleton] at h; subst h; grind
      · rw [h1]
        simp only [List.foldl_cons, List.foldl_nil, seeF]
        right
        by_cases c : gainq d p < gainq d C[n]
        · rw [if_pos c]
          refine ⟨C[n], List.mem_append_right _ (List.mem_singleton.2 rfl), rfl, fun p' hp' => ?_⟩
          rcases List.mem_append.1 hp' with h | h
          · have := h2 p' h; grind
          · rw [List.mem_singleton] at h; subst h; exact Rat.le_refl
        · rw [if_neg c]
          refine ⟨p, List.mem_append_left _ hp, rfl, fun p' hp' => ?_⟩
          rcases List.mem_append.1 hp' with h | h
          · exact h2 p' h
          · rw [List.mem_singleton] at h; subst h; grind
  have := key C.length (Nat.le_refl _)
  rw [List.take_length] at this
  exact this
theorem gainq_pos {d : Pr} {p : Rat × Rat} (h1 : 0 ≤ p.1 - d.1) (h2 : 0 ≤ p.2 - d.2) : gainq d p = (p.1 - d.1) * (p.2 - d.2) := by
  unfold gainq
  rw [if_neg (by rintro (c | c) <;> grind)]
theorem of_gainq {d : Pr} {p : Rat × Rat} (h : 0 < gainq d p) : 0 < p.1 - d.1 ∧ 0 < p.2 - d.2 ∧ gainq d p = (p.1 - d.1) * (p.2 - d.2) := by
  unfold gainq at h
  split at h
  · exact absurd h (by decide)
  · rename_i c
    have h1 : 0 ≤ p.1 - d.1 := by grind
    have h2 : 0 ≤ p.2 - d.2 := by grind
    refine ⟨?_, ?_, gainq_pos h1 h2⟩
    · by_cases e : p.1 - d.1 = 0
      · rw [e, Rat.zero_mul] at h; grind
      · grind
    · by_cases e : p.2 - d.2 = 0
      · rw [e, Rat.mul_zero] at h; grind
      · grind
/-- a + b and their product -/
theorem amgm {x y r : Rat} (hx : 0 ≤ x) (hy : 0 ≤ y) (h : x + y ≤ r) : 4 * (x * y) ≤ r * r := by
  have h1 : 0 ≤ (x - y) * (x - y) := sq_nn
  have h2 := Rat.mul_le_mul_of_nonneg_left h (show 0 ≤ x + y by grind)
  have h3 := Rat.mul_le_mul_of_nonneg_right h (show 0 ≤ r by grind)
  grind
theorem mid_gain {a b u v r : Rat} (ha : 0 < a) (hb : 0 < b) (hu : 0 < u) (hv : 0 < v) (h : a * u + b * v ≤ r) {U V : Rat} (hU : 2 * a * U = r) (hV : 2 * b * V = r) : u * v ≤ U * V := by
  have h1 := amgm (Rat.le_of_lt (Rat.mul_pos ha hu)) (Rat.le_of_lt (Rat.mul_pos hb hv)) h
  have e1 : r * r = 4 * (a * b) * (U * V) := by
    calc r * r = (2 * a * U) * (2 * b * V) := by rw [hU, hV]
      _ = 4 * (a * b) * (U * V) := by grind
  have e2 : 4 * (a * u * (b * v)) = 4 * (a * b) * (u * v) := by grind
  rw [e1, e2] at h1
  have := Rat.mul_pos ha hb
  exact Rat.le_of_mul_le_mul_left h1 (by grind)
theorem left_gain {a b u v r U V : Rat} (ha : 0 < a) (hb : 0 < b) (hu : 0 < u) (hv : 0 < v) (h : a * u + b * v ≤ r) (hUV : a * U + b * V = r) (h1 : r < 2 * a * U) (h2 : U ≤ u) : 0 < U ∧ 0 < V ∧ u * v ≤ U * V := by
  have p1 := Rat.mul_pos ha hu
  have p2 := Rat.mul_pos hb hv
  have hU : 0 < U := by
    by_cases c : 0 < U
    · exact c
    · have := Rat.mul_le_mul_of_nonneg_left (show U ≤ 0 by grind) (Rat.le_of_lt ha)
      grind
  have m1 := Rat.mul_le_mul_of_nonneg_left h2 (Rat.le_of_lt ha)
  have hVv : b * v ≤ b * V := by grind
  have hV : 0 < V := by
    have := Rat.le_of_mul_le_mul_left hVv hb
    grind
  refine ⟨hU, hV, ?_⟩
  -- u (r - a u) <= U (r - a U)
  have m2 : 0 ≤ (u - U) * (a * U + a * u - r) := Rat.mul_nonneg (by grind) (by grind)
  have m3 := Rat.mul_le_mul_of_nonneg_left (show b * v ≤ r - a * u by grind) (Rat.le_of_lt hu)
  have e : b * (U * V) = U * (r - a * U) := by grind
  refine Rat.le_of_mul_le_mul_left (c := b) ?_ hb
  rw [e]
  grind
theorem right_gain {a b u v r U V : Rat} (ha : 0 < a) (hb : 0 < b) (hu : 0 < u) (hv : 0 < v) (h : a * u + b * v ≤ r) (hUV : a * U + b * V = r) (h1 : 2 * a * U < r) (h2 : u ≤ U) : 0 < U ∧ 0 < V ∧ u * v ≤ U * V := by
  have p1 := Rat.mul_pos ha hu
  have p2 := Rat.mul_pos hb hv
  have hU : 0 < U := by grind
  have p3 := Rat.mul_pos ha hU
  have hV : 0 < V := by
    by_cases c : 0 < V
    · exact c
    · have := Rat.mul_le_mul_of_nonneg_left (show V ≤ 0 by grind) (Rat.le_of_lt hb)
      grind
  refine ⟨hU, hV, ?_⟩
  have m1 := Rat.mul_le_mul_of_nonneg_left h2 (Rat.le_of_lt ha)
  have m2 : 0 ≤ (U - u) * (r - a * U - a * u) := Rat.mul_nonneg (by grind) (by grind)
  have m3 := Rat.mul_le_mul_of_nonneg_left (show b * v ≤ r - a * u by grind) (Rat.le_of_lt hu)
  have e : b * (U * V) = U * (r - a * U) := by grind
  refine Rat.le_of_mul_le_mul_left (c := b) ?_ hb
  rw [e]
  grind
theorem mid_val {r b d : Int} (hb : 0 < b) : 2 * (b : Rat) * (dv (r + 2 * b * d) (2 * b) - d) = (r : Rat) := by
  have h := cast_pos hb
  unfold dv
  rw [cast_sub_mul, Rat.intCast_mul]
  have e2 : ((2 : Int) : Rat) = 2 := rfl
  rw [e2]
  generalize (r : Rat) = r at *
  generalize (b : Rat) = b at *
  generalize (d : Rat) = d at *
  have hne : 2 * b ≠ 0 := by grind
  have := Rat.div_mul_cancel (a := r + 2 * b * d) hne
  grind
section
variable {l e : List Pr} {d : Pr}
/-- where a number lies between the edge's corners -/
theorem seg_up {x : Rat} : ∀ n, 0 < n → n ≤ e.length → x ≤ ((at' e (n - 1)).1 : Rat) → x ≤ ((at' e 0).1 : Rat) ∨ ∃ i, i + 1 < n ∧ ((at' e i).1 : Rat) < x ∧ x ≤ ((at' e (i + 1)).1 : Rat) := by
  intro n
  induction n with
  | zero => intro h; omega
  | succ n ih =>
    intro _ hn hx
    by_cases h0 : n = 0
    · subst h0; left; exact hx
    · by_cases c : x ≤ ((at' e (n - 1)).1 : Rat)
      · rcases ih (by omega) (by omega) c with h | ⟨i, h1, h2⟩
        · exact .inl h
        · exact .inr ⟨i, by omega, h2⟩
      · refine .inr ⟨n - 1, by omega, by grind, ?_⟩
        rw [show n - 1 + 1 = n by omega]
        exact hx
theorem line_eq {u t : Pr} : (lineB u t).1 * u.1 + (lineB u t).2.1 * u.2 = (lineB u t).2.2 ∧ (lineB u t).1 * t.1 + (lineB u t).2.1 * t.2 = (lineB u t).2.2 := by
  unfold lineB
  dsimp only
  constructor <;> grind
theorem line_gain {t : Tr} {x d : Pr} (h : t.1 * x.1 + t.2.1 * x.2 = t.2.2) : (t.1 : Rat) * ((x.1 : Rat) - d.1) + (t.2.1 : Rat) * ((x.2 : Rat) - d.2) = (restF t d : Rat) := by
  unfold restF
  have : ((t.1 * x.1 + t.2.1 * x.2 : Int) : Rat) = (t.2.2 : Rat) := by rw [h]
  rw [Rat.intCast_add, Rat.intCast_mul, Rat.intCast_mul] at this
  rw [Rat.intCast_sub, Rat.intCast_sub, Rat.intCast_mul, Rat.intCast_mul]
  grind
/-- no deal has a greater product than all candidates -/
theorem cands_cover (ho : offP l) (hE : EdgeP l e) (hlr : ∀ x y, (∀ t ∈ linesF e, lq t x y) ↔ reg l x y) {x y : Rat} (hr : reg l x y) (hx : (d.1 : Rat) < x) (hy : (d.2 : Rat) < y) : ∃ p ∈ candsP e d e.length, (x - d.1) * (y - d.2) ≤ gainq d p := by
  have hp := hE.pos
  have hL := (hlr x y).2 hr
  have corner_in : ∀ i, i < e.length → cornerQ (at' e i) ∈ candsP e d e.length := fun i hi => by
    unfold candsP
    exact List.mem_flatMap.2 ⟨i, List.mem_range.2 hi, List.mem_cons_self⟩
  obtain ⟨t1, t2⟩ := hE.top
  have hx2 := hL _ t2
  have hy2 := hL _ t1
  unfold lq at hx2 hy2
  dsimp only at hx2 hy2
  have c0 : ((0 : Int) : Rat) = 0 := rfl
  have c1 : ((1 : Int) : Rat) = 1 := rfl
  rw [c0, c1] at hx2 hy2
  rcases seg_up (e := e) (x := x) e.length hp (Nat.le_refl _) (by grind) with h | ⟨i, hi, h1, h2⟩
  · refine ⟨_, corner_in 0 hp, ?_⟩
    have e1 : (cornerQ (at' e 0)).1 = ((at' e 0).1 : Rat) := rfl
    have e2 : (cornerQ (at' e 0)).2 = ((at' e 0).2 : Rat) := rfl
    rw [gainq_pos (by rw [e1]; grind) (by rw [e2]; grind), e1, e2]
    have m1 := Rat.mul_le_mul_of_nonneg_left (show y - d.2 ≤ (at' e 0).2 - (d.2 : Rat) by grind) (show 0 ≤ x - d.1 by grind)
    have m2 := Rat.mul_le_mul_of_nonneg_right (show x - d.1 ≤ (at' e 0).1 - (d.1 : Rat) by grind) (show 0 ≤ (at' e 0).2 - (d.2 : Rat) by grind)
    exact Rat.le_trans m1 m2
  · have hst := hE.step i hi
    have hn0 := ho.2.2.1 _ (hE.mem i (by omega))
    have hn1 := ho.2.2.1 _ (hE.mem (i + 1) hi)
    obtain ⟨hlb, ha, hb⟩ := lineB_lb hn0 hn1 hst.1 hst.2
    have hmem : lineB (at' e i) (at' e (i + 1)) ∈ linesF e := by
      unfold linesF
      exact List.mem_cons_of_mem _ (List.mem_cons_of_mem _ (List.mem_map.2 ⟨i, List.mem_range.2 (by omega), rfl⟩))
    have hl := hL _ hmem
    obtain ⟨le0, le1⟩ := @line_eq (at' e i) (at' e (i + 1))
    have g0 := line_gain (d := d) le0
    have g1 := line_gain (d := d) le1
    have hcs : ∀ (hk : okM (lineB (at' e i) (at' e (i + 1))) d (at' e i) (at' e (i + 1))), midq (lineB (at' e i) (at' e (i + 1))) d ∈ candsP e d e.length := fun hk => by
      unfold candsP
      refine List.mem_flatMap.2 ⟨i + 1, List.mem_range.2 hi, ?_⟩
      unfold candP
      rw [Nat.add_sub_cancel, if_pos ⟨by omega, hk⟩]
      simp
    have q0 : cornerQ (at' e i) = (((at' e i).1 : Rat), ((at' e i).2 : Rat)) := rfl
    have q1 : cornerQ (at' e (i + 1)) = (((at' e (i + 1)).1 : Rat), ((at' e (i + 1)).2 : Rat)) := rfl
    have in0 := corner_in i (by omega)
    have in1 := corner_in (i + 1) hi
    rw [q0] at in0
    rw [q1] at in1
    generalize lineB (at' e i) (at' e (i + 1)) = t at *
    have va := mid_val (r := restF t d) (b := t.1) (d := d.1) ha
    have vb := mid_val (r := restF t d) (b := t.2.1) (d := d.2) hb
    have ha' := cast_pos ha
    have hb' := cast_pos hb
    have hle : (t.1 : Rat) * (x - d.1) + (t.2.1 : Rat) * (y - d.2) ≤ (restF t d : Rat) := by
      unfold lq at hl
      unfold restF
      rw [Rat.intCast_sub, Rat.intCast_sub, Rat.intCast_mul, Rat.intCast_mul]
      grind
    have hu : 0 < x - d.1 := by grind
    have hv : 0 < y - d.2 := by grind
    have em : midq t d = (dv (restF t d + 2 * t.1 * d.1) (2 * t.1), dv (restF t d + 2 * t.2.1 * d.2) (2 * t.2.1)) := rfl
    by_cases hk : okM t d (at' e i) (at' e (i + 1))
    · refine ⟨_, hcs hk, ?_⟩
      have hg := mid_gain ha' hb' hu hv hle va vb
      have hpos : 0 < (restF t d : Rat) := by
        have := Rat.mul_pos ha' hu
        have := Rat.mul_pos hb' hv
        grind
      have pu : 0 ≤ dv (restF t d + 2 * t.1 * d.1) (2 * t.1) - (d.1 : Rat) := by
        by_cases c : 0 ≤ dv (restF t d + 2 * t.1 * d.1) (2 * t.1) - (d.1 : Rat)
        · exact c
        · have := Rat.mul_pos ha' (show 0 < -(dv (restF t d + 2 * t.1 * d.1) (2 * t.1) - (d.1 : Rat)) by grind)
          grind
      have pv : 0 ≤ dv (restF t d + 2 * t.2.1 * d.2) (2 * t.2.1) - (d.2 : Rat) := by
        by_cases c : 0 ≤ dv (restF t d + 2 * t.2.1 * d.2) (2 * t.2.1) - (d.2 : Rat)
        · exact c
        · have := Rat.mul_pos hb' (show 0 < -(dv (restF t d + 2 * t.2.1 * d.2) (2 * t.2.1) - (d.2 : Rat)) by grind)
          grind
      rw [gainq_pos (by rw [em]; exact pu) (by rw [em]; exact pv), em]
      exact hg
    · have hk' : dv (restF t d + 2 * t.1 * d.1) (2 * t.1) < ((at' e i).1 : Rat) ∨ ((at' e (i + 1)).1 : Rat) < dv (restF t d + 2 * t.1 * d.1) (2 * t.1) := by
        unfold okM at hk
        rw [em] at hk
        dsimp only at hk
        grind
      clear hk hcs em vb hl hL t1 t2 hx2 hy2 corner_in
      rcases hk' with c | c
      · have h3 : (restF t d : Rat) < 2 * (t.1 : Rat) * (((at' e i).1 : Rat) - d.1) := by
          rw [← va]
          exact Rat.mul_lt_mul_of_pos_left (by grind) (by grind)
        obtain ⟨k1, k2, k3⟩ := left_gain ha' hb' hu hv hle g0 h3 (by grind)
        refine ⟨_, in0, ?_⟩
        rw [gainq_pos (Rat.le_of_lt k1) (Rat.le_of_lt k2)]
        exact k3
      · have h3 : 2 * (t.1 : Rat) * (((at' e (i + 1)).1 : Rat) - d.1) < (restF t d : Rat) := by
          rw [← va]
          exact Rat.mul_lt_mul_of_pos_left (by grind) (by grind)
        obtain ⟨k1, k2, k3⟩ := right_gain ha' hb' hu hv hle g1 h3 (by grind)
        refine ⟨_, in1, ?_⟩
        rw [gainq_pos (Rat.le_of_lt k1) (Rat.le_of_lt k2)]
        exact k3
/-- all candidates are deals -/
theorem cand_reg (ho : offP l) (hE : EdgeP l e) (hd : num d) (hri : ∀ t ∈ linesF e, 0 < restF t d) {p : Rat × Rat} (h : p ∈ candsP e d e.length) : reg l p.1 p.2 ∧ qp p := by
  unfold candsP at h
  obtain ⟨i, hi, h⟩ := List.mem_flatMap.1 h
  rw [List.mem_range] at hi
  have hni := ho.2.2.1 _ (hE.mem i hi)
  unfold candP at h
  rcases List.mem_cons.1 h with rfl | h
  · exact ⟨reg.mem (hE.mem i hi), corner_qp hni⟩
  · split at h
    · rename_i hk
      rw [List.mem_singleton] at h
      subst h
      obtain ⟨h0, hk1, hk2⟩ := hk
      have hst := hE.step (i - 1) (by omega)
      rw [show i - 1 + 1 = i by omega] at hst
      have hnu := ho.2.2.1 _ (hE.mem (i - 1) (by omega))
      obtain ⟨hlb, ha, hb⟩ := lineB_lb hnu hni hst.1 hst.2
      obtain ⟨hil, hie⟩ := lineF_at h0 hi
      have hr := hri _ (List.getElem_mem hil)
      rw [hie] at hr
      refine ⟨?_, (mid_qp hlb ha hb hd hr).2.2⟩
      have r0 := reg.mem (hE.mem (i - 1) (by omega))
      have r1 := reg.mem (hE.mem i hi)
      obtain ⟨le0, le1⟩ := @line_eq (at' e (i - 1)) (at' e i)
      have g0 := line_gain (d := d) le0
      have g1 := line_gain (d := d) le1
      generalize lineB (at' e (i - 1)) (at' e i) = t at *
      have va := mid_val (r := restF t d) (b := t.1) (d := d.1) ha
      have vb := mid_val (r := restF t d) (b := t.2.1) (d := d.2) hb
      have ha' := cast_pos ha
      have hb' := cast_pos hb
      have hx : ((at' e (i - 1)).1 : Rat) < ((at' e i).1 : Rat) := by exact_mod_cast hst.1
      unfold midq at *
      dsimp only at *
      generalize dv (restF t d + 2 * t.1 * d.1) (2 * t.1) = X at *
      generalize dv (restF t d + 2 * t.2.1 * d.2) (2 * t.2.1) = Y at *
      generalize ((at' e (i - 1)).1 : Rat) = x0 at *
      generalize ((at' e (i - 1)).2 : Rat) = y0 at *
      generalize ((at' e i).1 : Rat) = x1 at *
      generalize ((at' e i).2 : Rat) = y1 at *
      generalize (restF t d : Rat) = r at *
      generalize (t.1 : Rat) = a at *
      generalize (t.2.1 : Rat) = b at *
      generalize (d.1 : Rat) = d1 at *
      generalize (d.2 : Rat) = d2 at *
      have hw : 0 < x1 - x0 := by grind
      have hs : (X - x0) / (x1 - x0) * (x1 - x0) = X - x0 := Rat.div_mul_cancel (by grind)
      generalize (X - x0) / (x1 - x0) = s at *
      have s0 : 0 ≤ s := by
        by_cases c : 0 ≤ s
        · exact c
        · have := Rat.mul_pos (show 0 < -s by grind) hw
          grind
      have s1 : s ≤ 1 := by
        by_cases c : s ≤ 1
        · exact c
        · have := Rat.mul_pos (show 0 < s - 1 by grind) hw
          grind
      have hc := r0.conv r1 s0 s1
      have eX : (1 - s) * x0 + s * x1 = X := by grind
      have eY : (1 - s) * y0 + s * y1 = Y := by
        have e3 : b * (((1 - s) * y0 + s * y1) - Y) = 0 := by grind
        rcases Rat.mul_eq_zero.1 e3 with c | c
        · grind
        · grind
      rw [eX, eY] at hc
      exact hc
    · cases h
/-- Product finds the deal with the greatest product -/
theorem prod_ok (ho : offP l) (hE : EdgeP l e) (hd : num d) (hlr : ∀ x y, (∀ t ∈ linesF e, lq t x y) ↔ reg l x y) (hrm : roomP l d) : ∃ p, (candsP e d e.length).foldl (seeF d) (none, -1) = (some p, gainq d p) ∧ IsProd l d p ∧ qp p ∧ p ∈ candsP e d e.length ∧ 0 < gainq d p ∧ ∀ p' ∈ candsP e d e.length, gainq d p' ≤ gainq d p := by
  have hri := (room_iff (d := d) hlr (hE.lines ho).2).2 hrm
  obtain ⟨x, y, hxy, hx, hy⟩ := hrm
  obtain ⟨c, hc, hg⟩ := cands_cover ho hE hlr hxy hx hy
  have hpos : 0 < (x - d.1) * (y - d.2) := Rat.mul_pos (by grind) (by grind)
  rcases fold_max d (candsP e d e.length) with ⟨h1, h2⟩ | ⟨p, hp, h1, h2⟩
  · exfalso
    have := h2 c hc
    grind
  · have hgp : 0 < gainq d p := by
      have := h2 c hc
      grind
    obtain ⟨u, v, ew⟩ := of_gainq hgp
    obtain ⟨hr, hq⟩ := cand_reg ho hE hd hri hp
    refine ⟨p, h1, ⟨hr, by grind, by grind, fun x y hxy hx hy => ?_⟩, hq, hp, hgp, h2⟩
    obtain ⟨c, hc, hg⟩ := cands_cover ho hE hlr hxy hx hy
    rw [← ew]
    exact Rat.le_trans hg (h2 c hc)
end
end Go.Lt.P5

namespace Go.Lt.P5
open Go Go.Lt Go.Proofs
theorem qp_bd {l : List Pr} {d : Pr} {p : Rat × Rat} (ho : offP l) (hd : num d) (h : IsProd l d p) (hq : qp p) : bdP p := by
  have h1 := hq.1.2.2
  have h2 := hq.2.2.2
  exact bd_of ho hd ⟨h.reg, h.x, h.y⟩ (by omega) (by omega)
section
variable {k : Nat} {H : Hp} {v : Sl} {l : List Pr} {d : Pr}
/-- Product -/
theorem r46_ok (hv : SL H v l) (hb : l.length ≤ 1000) : Ok (r46 (appA (k + 3)) v d.1 d.2 H) fun r H' => Gr H H' ∧ RuleP (fun p => IsProd l d p ∧ (fq p.1).2 ≤ 60 ∧ (fq p.2).2 ≤ 60) l d r := by
  unfold r46
  refine Ok.box2 (.nil H) fun A gA c => ?_
  refine Ok.cld c (.tail _ (.head _)) rfl (Ok.cld c (.tail _ (.head _)) rfl (Ok.bind (r64_ok (k := k + 1) (d := d) (hv.gr gA) hb) fun r B ⟨gB, hr⟩ => ?_))
  have c := c.gr gB
  have bad : ∀ e : Int, RuleP (fun p => IsProd l d p ∧ (fq p.1).2 ≤ 60 ∧ (fq p.2).2 ≤ 60) l d (0, 0, 0, 0, e) → Ok ((B.sts ((H.push (.cells [.int .i64 d.1, .int .i64 d.2] false)).n) 0 [.int .i64 0, .int .i64 0, .int .i64 0, .int .i64 0]).bind fun H6 =>
      (H6.ldI .i64 ((H.push (.cells [.int .i64 d.1, .int .i64 d.2] false)).n) 0).bind fun x7 =>
      (H6.ldI .i64 ((H.push (.cells [.int .i64 d.1, .int .i64 d.2] false)).n) (0 + 1)).bind fun x8 =>
      (H6.ldI .i64 ((H.push (.cells [.int .i64 d.1, .int .i64 d.2] false)).n) (0 + 2)).bind fun x9 =>
      (H6.ldI .i64 ((H.push (.cells [.int .i64 d.1, .int .i64 d.2] false)).n) (0 + 3)).bind fun x10 =>
      some ((x7, x8, x9, x10, e), H6)) fun r H' => Gr H H' ∧ RuleP (fun p => IsProd l d p ∧ (fq p.1).2 ≤ 60 ∧ (fq p.2).2 ≤ 60) l d r := fun e hR => by
    refine Ok.cst c 0 rfl rfl fun C _ _ c => ?_
    exact Ok.cld c (.head _) rfl (Ok.cld c (.head _) rfl (Ok.cld c (.head _) rfl (Ok.cld c (.head _) rfl (Ok.ret ⟨c.g, hR⟩))))
  rcases hr with ⟨ho, hd, hrm, rfl⟩ | ⟨ho, hd, hrm, rfl⟩ | ⟨hno, rfl⟩
  · refine Ok.neg (by simp) (Ok.bind (r56_ok (k := k + 1) (hv.gr c.g) ho) fun w C ⟨gC, q, hp, hs, hw⟩ => ?_)
    have hE := edgeP ho hp hs
    have c := c.gr gC
    have hwlt := SL.lt hw (by have := hE.pos; intro e; rw [e] at this; simp at this)
    refine Ok.box c fun D gD c => Ok.own (r48_int (a := -1) (by decide) H0) fun X => Ok.alo c fun E gE c => ?_
    dsimp only
    rw [hw.len]
    have hlr := fun x y => lines_reg (x := x) (y := y) hp hs (perm_ne ho hp)
    refine Ok.mono (r46_l0_ok (k := k) hv ho hd hrm hp hs rfl hE (hw.gr (gD.trans gE)) (by have := gD.1; omega) (by omega) c) fun r H' ⟨g, o, g', h1, h2⟩ => ⟨g, ?_⟩
    obtain ⟨p, h3, h4, h5, _⟩ := prod_ok ho hE hd hlr hrm
    rw [h3] at h1
    injection h1 with h1 h6
    exact .inl ⟨ho, hd, hrm, p, ⟨h4, h5.1.2.2, h5.2.2.2⟩, qp_bd ho hd h4 h5, h2 p h1.symm⟩
  · exact Ok.pos (show (4 : Int) ≠ 0 by decide) (bad 4 (.inr (.inl ⟨ho, hd, hrm, rfl⟩)))
  · exact Ok.pos (show (2 : Int) ≠ 0 by decide) (bad 2 (.inr (.inr ⟨hno, rfl⟩)))
end
end Go.Lt.P5

namespace Go.Lt.P5
open Go Go.Lt Go.Proofs
/-- right -/
theorem r42_ok {p : Rat × Rat} (hp : bdP p) (H : Hp) : Ok (r42 (fq p.1).1 (fq p.1).2 (fq p.2).1 (fq p.2).2 H) fun r H' => Gr H H' ∧ r = true := by
  obtain ⟨⟨a1, a2, a3⟩, b1, b2, b3⟩ := hp
  have a0 := fq_pos p.1
  have b0 := fq_pos p.2
  unfold r42
  refine Ok.box (.nil H) fun A gA c => Ok.cld c (.head _) rfl (Ok.cld c (.head _) rfl (Ok.cld c (.head _) rfl (Ok.cld c (.head _) rfl ?_)))
  refine Ok.box c fun B gB c => ?_
  have hs : SL (T := Pr) B ⟨false, A.n, 0, 2, 2, 0⟩ [fq p.1, fq p.2] := .of_get (ro := false) (c.e _ (.head _)) rfl rfl (Nat.le_refl _) (.inl rfl) rfl
  have hall : ∀ i (h : i < 2), ∃ q, [fq p.1, fq p.2][i]'h = q ∧ q.2 ≤ 97200000 ∧ 1 ≤ q.2 ∧ 0 ≤ q.1 ∧ q.1 ≤ 30 * q.2 := fun i h => by
    match i, h with
    | 0, _ => exact ⟨_, rfl, a1, by simp; omega, a2, a3⟩
    | 1, _ => exact ⟨_, rfl, b1, by simp; omega, b2, b3⟩
  show Ok (r42_l0 FUEL ⟨false, A.n, 0, 2, 2, 0⟩ ((2 : Nat) : Int) 0 B) _
  refine Ok.loop (L := fun K (s : Int) H2 => r42_l0 K ⟨false, A.n, 0, 2, 2, 0⟩ ((2 : Nat) : Int) s H2) (fun m s H' => ∃ i : Nat, s = i ∧ i + m = 2 ∧ Gr H H' ∧ SL (T := Pr) H' ⟨false, A.n, 0, 2, 2, 0⟩ [fq p.1, fq p.2]) ?_ FUEL 2 0 B (by unfold FUEL; omega) ⟨0, rfl, rfl, c.g, hs⟩
  rintro K m s H1 ⟨i, rfl, hm, g, hs⟩ ih
  try dsimp only at *
  rw [r42_l0]
  by_cases h : i < 2
  · obtain ⟨q, hq, q1, q2, q3, q4⟩ := hall i h
    have M1 := hs.ldI (i := i) (j := 0) (by simpa using h) rfl
    have M2 := hs.ldI (i := i) (j := 1) (by simpa using h) rfl
    rw [hq] at M1 M2
    refine Ok.pos (by omega) (Ok.ck (by dsimp only; omega) (Ok.ld M1 (Ok.ld M2 (Ok.alo (.nil H1) fun C gC c => ?_))))
    refine Ok.cld c (.head _) rfl (Ok.neg (by omega) (Ok.cld c (.head _) rfl (Ok.neg (by omega) (Ok.cld c (.head _) rfl (Ok.neg (by omega) (Ok.cld c (.head _) rfl (Ok.cld c (.head _) rfl ?_)))))))
    rw [w64_id (by omega) (by omega), decide_eq_false (by omega)]
    unfold r42_j1
    refine Ok.neg (by simp) ?_
    rw [w64_succ (by omega)]
    exact ih (m - 1) _ C (by omega) ⟨i + 1, rfl, by omega, g.trans gC, hs.gr gC⟩
  · exact Ok.neg (by omega) (Ok.ret ⟨g, rfl⟩)
def pt12 (p b h : Rat × Rat) : List AV := [.int .i64 (fq p.1).1, .int .i64 (fq p.1).2, .int .i64 (fq p.2).1, .int .i64 (fq p.2).2, .int .i64 (fq b.1).1, .int .i64 (fq b.1).2, .int .i64 (fq b.2).1, .int .i64 (fq b.2).2, .int .i64 (fq h.1).1, .int .i64 (fq h.1).2, .int .i64 (fq h.2).1, .int .i64 (fq h.2).2]
def z12 : List AV := [.int .i64 0, .int .i64 0, .int .i64 0, .int .i64 0, .int .i64 0, .int .i64 0, .int .i64 0, .int .i64 0, .int .i64 0, .int .i64 0, .int .i64 0, .int .i64 0]
abbrev R14 := Int × Int × Int × Int × Int × Int × Int × Int × Int × Int × Int × Int × Bool × Bool
def rt (p b h : Rat × Rat) : R14 := ((fq p.1).1, (fq p.1).2, (fq p.2).1, (fq p.2).2, (fq b.1).1, (fq b.1).2, (fq b.2).1, (fq b.2).2, (fq h.1).1, (fq h.1).2, (fq h.2).1, (fq h.2).2, true, true)
/-- what all three rules say -/
def RulesP (l : List Pr) (d : Pr) (r : R14) : Prop :=
  (offP l ∧ num d ∧ roomP l d ∧ ∃ p b h, IsProd l d p ∧ ((fq p.1).2 ≤ 60 ∧ (fq p.2).2 ≤ 60) ∧ IsBest l d b ∧ IsHalf l d h ∧ bdP p ∧ bdP b ∧ bdP h ∧ r = rt p b h) ∨ (¬ (offP l ∧ num d ∧ roomP l d) ∧ r = (0, 0, 0, 0, 0, 0, 0, 0, 0, 0, 0, 0, false, true))
theorem take11 {l : List Pr} (ho : offP l) : l.take 11 = l := List.take_of_length_le (by have := ho.2.1; omega)
/-- rules -/
theorem r39_ok {k : Nat} {H : Hp} {v : Sl} {l : List Pr} {d : Pr} (hv : SL H v l) (hb : l.length < 9223372036854775808) : Ok (r39 (appA (k + 3)) v d.1 d.2 H) fun r H' => Gr H H' ∧ RulesP l d r := by
  have ht : (l.take 11).length ≤ 1000 := by rw [List.length_take]; omega
  have key : ∀ {I : List Pr → Rat × Rat → Prop} {r}, RuleP (I (l.take 11)) (l.take 11) d r → (offP l ∧ num d ∧ roomP l d ∧ ∃ p, I l p ∧ bdP p ∧ r = pte p 0) ∨ (¬ (offP l ∧ num d ∧ roomP l d) ∧ ∃ e : Int, (e = if offP l ∧ num d then 4 else 2) ∧ r = (0, 0, 0, 0, e)) := fun {I r} h => by
    rcases h with ⟨ho, hd, hr, h⟩ | ⟨ho, hd, hr, rfl⟩ | ⟨hno, rfl⟩
    · have ho' := (off11 l).1 ho
      rw [take11 ho'] at hr h
      exact .inl ⟨ho', hd, hr, h⟩
    · have ho' := (off11 l).1 ho
      rw [take11 ho'] at hr
      exact .inr ⟨fun q => hr q.2.2, 4, by rw [if_pos ⟨ho', hd⟩], rfl⟩
    · exact .inr ⟨fun q => hno ⟨(off11 l).2 q.1, q.2.1⟩, 2, by rw [if_neg (fun q => hno ⟨(off11 l).2 q.1, q.2⟩)], rfl⟩
  unfold r39
  refine Ok.box2 (.nil H) fun A gA c => ?_
  have cA := c
  refine Ok.bind (r24_ok (hv.gr gA) hb) fun w B ⟨gB, hw, _⟩ => ?_
  have c := c.gr gB
  refine Ok.cld c (.tail _ (.head _)) rfl (Ok.cld c (.tail _ (.head _)) rfl (Ok.bind (r46_ok (k := k) hw ht) fun r1 C ⟨gC, h1⟩ => ?_))
  have c := c.gr gC
  refine Ok.alo c fun D gD c => ?_
  have cD := c
  refine Ok.cck cA (.tail _ (.head _)) rfl (Ok.cck cA (.tail _ (.head _)) rfl ?_)
  refine Ok.bind (r24_ok (hv.gr c.g) hb) fun w2 E ⟨gE, hw2, _⟩ => ?_
  have c := c.gr gE
  refine Ok.cld c (.tail _ (.tail _ (.head _))) rfl (Ok.cld c (.tail _ (.tail _ (.head _))) rfl (Ok.bind (r63_ok (k := k + 1) hw2 ht) fun r2 F ⟨gF, h2⟩ => ?_))
  have c := c.gr gF
  refine Ok.alo c fun G gG c => ?_
  have cG := c
  refine Ok.cck cD (.tail _ (.tail _ (.head _))) rfl (Ok.cck cD (.tail _ (.tail _ (.head _))) rfl ?_)
  refine Ok.bind (r24_ok (hv.gr c.g) hb) fun w3 I ⟨gI, hw3, _⟩ => ?_
  have c := c.gr gI
  refine Ok.cld c (.tail _ (.tail _ (.tail _ (.head _)))) rfl (Ok.cld c (.tail _ (.tail _ (.tail _ (.head _)))) rfl (Ok.bind (r40_ok (k := k + 1) hw3 ht) fun r3 J ⟨gJ, h3⟩ => ?_))
  have c := c.gr gJ
  refine Ok.alo c fun M gM c => ?_
  refine Ok.cck cG (.tail _ (.tail _ (.tail _ (.head _)))) rfl (Ok.cck cG (.tail _ (.tail _ (.tail _ (.head _)))) rfl ?_)
  refine Ok.cld c (.tail _ (.tail _ (.head _))) rfl (Ok.cld c (.tail _ (.tail _ (.head _))) rfl (Ok.cld c (.tail _ (.tail _ (.head _))) rfl (Ok.cld c (.tail _ (.tail _ (.head _))) rfl ?_)))
  refine Ok.cld c (.tail _ (.head _)) rfl (Ok.cld c (.tail _ (.head _)) rfl (Ok.cld c (.tail _ (.head _)) rfl (Ok.cld c (.tail _ (.head _)) rfl ?_)))
  refine Ok.cld c (.head _) rfl (Ok.cld c (.head _) rfl (Ok.cld c (.head _) rfl (Ok.cld c (.head _) rfl (Ok.alo c fun N gN c => ?_))))
  have k1 := key (I := fun l p => IsProd l d p ∧ (fq p.1).2 ≤ 60 ∧ (fq p.2).2 ≤ 60) h1
  have k2 := key (I := fun l p => IsBest l d p) h2
  have k3 := key (I := fun l p => IsHalf l d p) h3
  clear key h1 h2 h3
  by_cases hok : offP l ∧ num d ∧ roomP l d
  · rcases k1 with ⟨_, _, _, p, ⟨p1, p2⟩, p3, rfl⟩ | ⟨n, _⟩
    case inr => exact absurd hok n
    rcases k2 with ⟨_, _, _, b, b1, b3, rfl⟩ | ⟨n, _⟩
    case inr => exact absurd hok n
    rcases k3 with ⟨_, _, _, h, h1, h3, rfl⟩ | ⟨n, _⟩
    case inr => exact absurd hok n
    refine Ok.neg (by simp [pte]) ?_
    rw [decide_eq_false (by simp [pte])]
    unfold r39_j0
    refine Ok.neg (by simp) (Ok.neg (by simp [pte]) ?_)
    have c : Cx H N [(M.n, pt12 p b h), (J.n, bst4 (some h)), (F.n, bst4 (some b)), (C.n, bst4 (some p)), ((H.push (.cells [.int .i64 d.1, .int .i64 d.2] false)).n, z12), (H.n, pc d)] := c
    repeat (refine Ok.cld c (.head _) rfl ?_)
    repeat (refine Ok.cld c (.tail _ (.tail _ (.tail _ (.head _)))) rfl ?_)
    refine Ok.bind (r42_ok p3 N) fun x O ⟨gO, hx⟩ => ?_
    subst hx
    have c := c.gr gO
    have cO := c
    refine Ok.pos rfl ?_
    repeat (refine Ok.cld c (.tail _ (.tail _ (.head _))) rfl ?_)
    refine Ok.bind (r42_ok b3 O) fun x P ⟨gP, hx⟩ => ?_
    subst hx
    have c := c.gr gP
    have cP := c
    refine Ok.pos rfl ?_
    repeat (refine Ok.cld c (.tail _ (.head _)) rfl ?_)
    refine Ok.bind (r42_ok h3 P) fun x R ⟨gR, hx⟩ => ?_
    subst hx
    have c := c.gr gR
    have cR := c
    refine Ok.cst c 4 rfl rfl fun S _ _ c => ?_
    repeat (refine Ok.cck cO (.head _) rfl ?_)
    repeat (refine Ok.cck cP (.head _) rfl ?_)
    repeat (refine Ok.cck cR (.head _) rfl ?_)
    repeat (refine Ok.cld c (.tail _ (.tail _ (.tail _ (.tail _ (.head _))))) rfl ?_)
    exact Ok.ret ⟨c.g, .inl ⟨hok.1, hok.2.1, hok.2.2, p, b, h, p1, p2, b1, h1, p3, b3, h3, rfl⟩⟩
  · rcases k1 with ⟨q1, q2, q3, _⟩ | ⟨_, e, he, rfl⟩
    · exact absurd ⟨q1, q2, q3⟩ hok
    rcases k2 with ⟨q1, q2, q3, _⟩ | ⟨_, e2, he2, rfl⟩
    · exact absurd ⟨q1, q2, q3⟩ hok
    rcases k3 with ⟨q1, q2, q3, _⟩ | ⟨_, e3, he3, rfl⟩
    · exact absurd ⟨q1, q2, q3⟩ hok
    have e12 : e2 = e := by rw [he, he2]
    have e13 : e3 = e := by rw [he, he3]
    subst e12; subst e13
    refine Ok.neg (by simp) ?_
    rw [decide_eq_false (by simp)]
    unfold r39_j0
    refine Ok.neg (by simp) (Ok.pos (by show e3 ≠ 0; rw [he]; split <;> decide) ?_)
    have c : Cx H N [(M.n, z12), (J.n, bst4 none), (F.n, bst4 none), (C.n, bst4 none), ((H.push (.cells [.int .i64 d.1, .int .i64 d.2] false)).n, z12), (H.n, pc d)] := c
    repeat (refine Ok.cld c (.head _) rfl ?_)
    refine Ok.ite (fun cc => ?_) fun cc => ?_
    · refine Ok.cst c 4 rfl rfl fun S _ _ c => ?_
      repeat (refine Ok.cld c (.tail _ (.tail _ (.tail _ (.tail _ (.head _))))) rfl ?_)
      exact Ok.ret ⟨c.g, .inr ⟨hok, rfl⟩⟩
    · refine Ok.cst c 4 rfl rfl fun S _ _ c => ?_
      repeat (refine Ok.cld c (.tail _ (.tail _ (.tail _ (.tail _ (.head _))))) rfl ?_)
      have : e3 = 2 := by
        rw [he]
        rw [he] at cc
        dsimp only at cc
        split at cc
        · exact absurd rfl cc
        · rename_i h; rw [if_neg h]
      dsimp only
      rw [decide_eq_true this]
      exact Ok.ret ⟨c.g, .inr ⟨hok, rfl⟩⟩
end Go.Lt.P5

namespace Go.Lt.P5
open Go.Lt
/-! ### offers exchanged and scaled -/
theorem reg_swp {l l' : List Pr} (hl : ∀ o, o ∈ l' ↔ (o.2, o.1) ∈ l) {x y : Rat} : reg l' y x ↔ reg l x y := by
  have key : ∀ {m m' : List Pr} {x y : Rat}, (∀ o, o ∈ m' → (o.2, o.1) ∈ m) → (∀ o, (o.2, o.1) ∈ m → o ∈ m') → reg m x y → reg m' y x := fun {m m' x y} h1 h2 h a b c ha hb hk => by
    have := h b a c hb ha fun o ho => by
      have := hk (o.2, o.1) (h2 _ ho)
      dsimp only at this
      omega
    unfold lq at *
    dsimp only at *
    grind
  exact ⟨key (fun o ho => (hl (o.2, o.1)).2 ho) (fun o ho => by have := (hl (o.2, o.1)).1 ho; exact this), key (fun o ho => (hl o).1 ho) (fun o ho => (hl o).2 ho)⟩
section swap
variable {l l' : List Pr} (hl : ∀ o, o ∈ l' ↔ (o.2, o.1) ∈ l) {d : Pr}
theorem IsTop.swp (hl : ∀ o, o ∈ l' ↔ (o.2, o.1) ∈ l) {d : Pr} {u v m : Rat} (h : IsTop l d u v m) : IsTop l' (d.2, d.1) v u m := fun s => by
  rw [← h s]; exact reg_swp hl
theorem roomP.swp (hl : ∀ o, o ∈ l' ↔ (o.2, o.1) ∈ l) {d : Pr} (h : roomP l d) : roomP l' (d.2, d.1) := by
  obtain ⟨x, y, h1, h2, h3⟩ := h
  exact ⟨y, x, (reg_swp hl).2 h1, h3, h2⟩
theorem IsHalf.swp (hl : ∀ o, o ∈ l' ↔ (o.2, o.1) ∈ l) {d : Pr} {p : Rat × Rat} (h : IsHalf l d p) : IsHalf l' (d.2, d.1) (p.2, p.1) := by
  obtain ⟨m, h1, rfl⟩ := h
  exact ⟨m, h1.swp hl, rfl⟩
theorem IsBest.swp (hl : ∀ o, o ∈ l' ↔ (o.2, o.1) ∈ l) {d : Pr} {p : Rat × Rat} (h : IsBest l d p) : IsBest l' (d.2, d.1) (p.2, p.1) := by
  obtain ⟨a, b, m, h1, h2, h3, rfl⟩ := h
  exact ⟨b, a, m, h2.swp hl, h1.swp hl, h3.swp hl, rfl⟩
theorem IsProd.swp (hl : ∀ o, o ∈ l' ↔ (o.2, o.1) ∈ l) {d : Pr} {p : Rat × Rat} (h : IsProd l d p) : IsProd l' (d.2, d.1) (p.2, p.1) :=
  ⟨(reg_swp hl).2 h.reg, h.y, h.x, fun x y hxy hx hy => by
    have := h.max y x ((reg_swp hl).1 hxy) hy hx
    dsimp only
    grind⟩
end swap
end Go.Lt.P5

namespace Go.Lt.P5
open Go Go.Lt Go.Proofs
theorem r44_spec (a b : Int) (H : Hp) : ∃ H', r44 a b H = some (decide (num (a, b)), H') := by
  have hg : (H.push (.cells [.int .i64 a, .int .i64 b] false)).get H.n = some (.cells [.int .i64 a, .int .i64 b] false) := by simp
  have h0 : (H.push (.cells [.int .i64 a, .int .i64 b] false)).ldI .i64 H.n (0 + (0 : Int).toNat * 1) = some a := ldI_get hg rfl
  have h1 : (H.push (.cells [.int .i64 a, .int .i64 b] false)).ldI .i64 H.n (0 + (1 : Int).toNat * 1) = some b := ldI_get hg rfl
  refine ⟨H.push (.cells [.int .i64 a, .int .i64 b] false), ?_⟩
  unfold r44
  simp only [lt, h0, h1, Option.bind_some]
  unfold num
  by_cases c1 : 0 ≤ a <;> by_cases c2 : a ≤ 30 <;> by_cases c3 : 0 ≤ b <;> simp [c1, c2, c3]
/-- offers, as the reference sees them -/
theorem r26_ok {H : Hp} {v : Sl} {l : List Pr} (hv : SL H v l) (hb : l.length < 9223372036854775808) : Ok (r26 v H) fun r H' => Gr H H' ∧ r = decide (offP l) := by
  unfold r26
  have hlen := hv.len
  have hcap := hv.cap
  have hopn := hv.opn
  rw [hlen]
  refine Ok.loop (L := fun K (s : Int) H2 => r26_l0 K v v l.length s H2) (fun m s H' => Gr H H' ∧ ∃ i : Nat, s = i ∧ i + m = l.length ∧ (∀ x ∈ l.take i, num x) ∧ (l.take i).Nodup) ?_ FUEL l.length 0 H (by unfold FUEL; omega) ⟨.refl _, 0, rfl, by omega, by simp, by simp⟩
  rintro K m s H1 ⟨g1, i, rfl, hm, hn, hd⟩ ih
  try dsimp only at *
  rw [r26_l0]
  by_cases h : i < l.length
  · have hg := hv.gr g1
    obtain ⟨D, hD, hD', gD, nD⟩ := sts2 H1 (.int .i64 l[i].1) (.int .i64 l[i].2) (.int .i64 0) (.int .i64 0)
    have gB := g1.trans gD
    have hgD := hv.gr gB
    obtain ⟨X, hX⟩ := r44_spec l[i].1 l[i].2 H0
    have hmem : l[i] ∈ l := List.getElem_mem h
    refine Ok.pos (by omega) (Ok.ck (by omega) (Ok.ld (hg.ldI (i := i) (j := 0) h rfl) (Ok.ld (hg.ldI (i := i) (j := 1) h rfl) (Ok.ld hD (Ok.ld (ldI_get hD' rfl) (Ok.ld (ldI_get hD' rfl) (Ok.ld hX ?_)))))))
    refine Ok.ite (fun hc => ?_) fun hc => Ok.ret ⟨gB, by rw [decide_eq_false (fun ho => hc (decide_eq_true (ho.2.2.1 _ hmem)))]⟩
    have hnum : num l[i] := of_decide_eq_true hc
    refine Ok.ck ⟨by omega, hopn⟩ ?_
    simp only [Int.toNat_natCast, Int.toNat_zero]
    have hs := hgD.cut (lo := 0) (hi := i) (by omega) (by omega)
    rw [List.drop_zero, Nat.sub_zero] at hs
    have hsl := hs.len
    rw [List.length_take, Nat.min_eq_left (by omega)] at hsl
    try dsimp only at hsl
    have hbn : H1.n < D.n := by rw [nD]; omega
    show Ok (r26_l1 _ FUEL v H1.n v l.length i (v.cut 2 0 i) ((v.cut 2 0 i).len : Int) 0 D) _
    rw [show (v.cut 2 0 i).len = i from hsl]
    generalize hw : v.cut 2 0 i = w at *
    refine Ok.loop (L := fun K2 (s : Int) H2 => r26_l1 (fun v1_ v2_ v3_ v4_ H_ => r26_l0 K v1_ v2_ v3_ v4_ H_) K2 v H1.n v l.length i w i s H2) (fun m s H' => Gr D H' ∧ ∃ j : Nat, s = j ∧ j + m = i ∧ l[i] ∉ l.take j) ?_ FUEL i 0 D (by unfold FUEL; omega) ⟨.refl _, 0, rfl, by omega, by simp⟩
    rintro K2 m2 s H2 ⟨g2, j, rfl, hm2, hnot⟩ ih2
    try dsimp only at *
    rw [r26_l1]
    have hD2 : H2.get H1.n = some (.cells [.int .i64 l[i].1, .int .i64 l[i].2] false) := by rw [g2.2 _ (by omega)]; exact hD'
    by_cases hj : j < i
    · have hjl : j < (l.take i).length := by rw [List.length_take]; omega
      have hs2 := hs.gr g2
      have eg : (l.take i)[j] = l[j] := by rw [List.getElem_take]
      obtain ⟨E, hE, hE', gE, nE⟩ := sts2 H2 (.int .i64 l[j].1) (.int .i64 l[j].2) (.int .i64 0) (.int .i64 0)
      have hD3 : E.get H1.n = some (.cells [.int .i64 l[i].1, .int .i64 l[i].2] false) := by rw [gE.2 _ (Hp.get_lt hD2)]; exact hD2
      refine Ok.pos (by omega) (Ok.ck (by omega) (Ok.ld (hs2.ldI (i := j) (j := 0) (n := l[j].1) hjl (by rw [eg]; rfl)) (Ok.ld (hs2.ldI (i := j) (j := 1) (n := l[j].2) hjl (by rw [eg]; rfl)) (Ok.ld hE (Ok.ld (ldI_get hD3 rfl) (Ok.ld (ldI_get hD3 rfl) (Ok.ld (ldI_get hE' rfl) (Ok.ld (ldI_get hE' rfl) ?_))))))))
      rw [keqs_two]
      refine Ok.ite (fun hc => ?_) fun hc => ?_
      · have he : l[i] = l[j] := of_decide_eq_true hc
        refine Ok.ret ⟨gB.trans (g2.trans gE), ?_⟩
        rw [decide_eq_false]
        intro ho
        exact List.pairwise_iff_getElem.1 ho.2.2.2 j i (by omega) h hj he.symm
      · rw [w64_succ (by omega)]
        refine ih2 (m2 - 1) _ _ (by omega) ⟨g2.trans gE, j + 1, rfl, by omega, ?_⟩
        rw [List.take_succ_eq_append_getElem (by omega), List.mem_append]
        rintro (c | c)
        · exact hnot c
        · rw [List.mem_singleton] at c
          exact hc (decide_eq_true c)
    · have : j = i := by omega
      subst this
      refine Ok.neg (by omega) ?_
      rw [w64_succ (by omega)]
      refine ih (m - 1) _ _ (by omega) ⟨gB.trans g2, j + 1, rfl, by omega, ?_, ?_⟩
      · rw [List.take_succ_eq_append_getElem h]
        intro x hx
        rcases List.mem_append.1 hx with hx | hx
        · exact hn x hx
        · rw [List.mem_singleton] at hx; subst hx; exact hnum
      · rw [List.take_succ_eq_append_getElem h]
        refine List.nodup_append.2 ⟨hd, by simp, fun x hx y hy e => ?_⟩
        rw [List.mem_singleton] at hy
        subst hy; subst e
        exact hnot hx
  · rw [List.take_of_length_le (by omega)] at hn hd
    refine Ok.neg (by omega) (Ok.ite (fun h1 => Ok.ret ⟨g1, decide_eq_decide.2 ⟨fun h8 => ⟨by omega, by omega, hn, hd⟩, fun ho => by have := ho.2.1; omega⟩⟩) fun h1 => Ok.ret ⟨g1, by rw [decide_eq_false (fun ho => by have := ho.1; omega)]⟩)
end Go.Lt.P5

namespace Go.Lt.P5
open Go Go.Lt Go.Proofs
/-- Contains -/
theorem r32_ok {H : Hp} {v : Sl} {l : List Pr} (hv : SL H v l) (hb : l.length ≤ 1000) (a b : Int) : Ok (r32 v a b H) fun r H' => Gr H H' ∧ r = decide ((a, b) ∈ l) := by
  unfold r32
  refine Ok.lt ?_
  have gp := Gr.push H (.cells [.int .i64 a, .int .i64 b] false)
  have hg : (H.push (.cells [.int .i64 a, .int .i64 b] false)).get H.n = some (.cells [.int .i64 a, .int .i64 b] false) := Hp.get_push_new _ _
  have hv1 := hv.gr gp
  generalize H.push (.cells [.int .i64 a, .int .i64 b] false) = A at *
  refine Ok.ld (ldI_get hg rfl) (Ok.ld (ldI_get hg rfl) (Ok.bind (P := fun r H' => Gr A H' ∧ (0 ≤ r ↔ (a, b) ∈ l)) ?_ fun r H' h => Ok.ret ⟨gp.trans h.1, decide_eq_decide.2 h.2⟩))
  unfold r58
  have gq := Gr.push A (.cells [.int .i64 a, .int .i64 b] false)
  have hg2 : (A.push (.cells [.int .i64 a, .int .i64 b] false)).get A.n = some (.cells [.int .i64 a, .int .i64 b] false) := Hp.get_push_new _ _
  have hv2 := hv1.gr gq
  refine Ok.lt ?_
  generalize A.push (.cells [.int .i64 a, .int .i64 b] false) = C at *
  have hlen := hv.len
  rw [hlen]
  refine Ok.loop (L := fun K (s : Int) H2 => r58_l0 K v A.n l.length s H2) (fun m s H' => H' = C ∧ ∃ i : Nat, s = i ∧ i + m = l.length ∧ (a, b) ∉ l.take i) ?_ FUEL l.length 0 C (by unfold FUEL; omega) ⟨rfl, 0, rfl, by omega, by simp⟩
  rintro K m s H1 ⟨rfl, i, rfl, hm, ht⟩ ih
  try dsimp only at *
  rw [r58_l0]
  by_cases h : i < l.length
  · refine Ok.pos (by omega) (Ok.ld (ldI_get hg2 rfl) (Ok.ld (ldI_get hg2 rfl) (Ok.ck (by omega) (Ok.ld (hv2.ldI (i := i) (j := 0) h rfl) (Ok.ld (hv2.ldI (i := i) (j := 1) h rfl) ?_)))))
    rw [keqs_two]
    refine Ok.ite (fun hc => ?_) fun hc => ?_
    · have := of_decide_eq_true hc
      exact Ok.ret ⟨gq, ⟨fun _ => by rw [this]; exact List.getElem_mem h, fun _ => by omega⟩⟩
    · rw [w64_succ (by omega)]
      refine ih (m - 1) _ _ (by omega) ⟨rfl, i + 1, rfl, by omega, ?_⟩
      rw [List.take_succ_eq_append_getElem h, List.mem_append]
      rintro (c | c)
      · exact ht c
      · rw [List.mem_singleton] at c
        exact hc (decide_eq_true c)
  · rw [List.take_of_length_le (by omega)] at ht
    exact Ok.neg (by omega) (Ok.ret ⟨gq, by simp [ht]⟩)
end Go.Lt.P5

namespace Go.Lt.P5
open Go Go.Lt Go.Proofs
/-- a block of twelve: three points -/
theorem nth3 {p b h : Rat × Rat} {i : Nat} (hi : i < 3) : ∃ q : Rat × Rat, (i = 0 → q = p) ∧ (i = 1 → q = b) ∧ (i = 2 → q = h) ∧ apart true 4 (pt12 p b h) (i * 4) = some (.agg [.int .i64 (fq q.1).1, .int .i64 (fq q.1).2, .int .i64 (fq q.2).1, .int .i64 (fq q.2).2]) ∧
    (pt12 p b h)[0 + i * 4]? = some (.int .i64 (fq q.1).1) ∧ (pt12 p b h)[0 + i * 4 + 1]? = some (.int .i64 (fq q.1).2) ∧ (pt12 p b h)[0 + i * 4 + 2]? = some (.int .i64 (fq q.2).1) ∧ (pt12 p b h)[0 + i * 4 + 2 + 1]? = some (.int .i64 (fq q.2).2) := by
  match i, hi with
  | 0, _ => exact ⟨p, fun _ => rfl, fun h => (by cases h), fun h => (by cases h), rfl, rfl, rfl, rfl, rfl⟩
  | 1, _ => exact ⟨b, fun h => (by cases h), fun _ => rfl, fun h => (by cases h), rfl, rfl, rfl, rfl, rfl⟩
  | 2, _ => exact ⟨h, fun h => (by cases h), fun h => (by cases h), fun _ => rfl, rfl, rfl, rfl, rfl, rfl⟩
end Go.Lt.P5
