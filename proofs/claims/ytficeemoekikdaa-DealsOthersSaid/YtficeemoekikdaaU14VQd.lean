/- PLAIN LAWS OF WHAT IS COMPUTED, for the statement 'DealsOthers'. Nothing is asked of the input. -/
import Derived.Test.YtficeemoekikdaaU14VQc
set_option linter.unusedVariables false
set_option linter.unusedSimpArgs false
namespace Go.Lt.P5
open Go Go.Lt Go.Proofs
def sel (who : Int) (t : Tr) : Int := if who = 0 then t.1 else t.2.1
def uW (who : Int) : Rat := if who = 0 then 1 else 0
def vW (who : Int) : Rat := if who = 0 then 0 else 1
theorem perq_sel {who : Int} {t : Tr} : perq t (uW who) (vW who) = (sel who t : Rat) := by
  unfold perq uW vW sel
  by_cases h : who = 0
  · rw [if_pos h, if_pos h, if_pos h]; grind
  · rw [if_neg h, if_neg h, if_neg h]; grind
section
variable {a : App} {l : List Pr} {L : List Tr} {d : Pr}
/-- reach's search -/
theorem r77_l0_ok {who : Int} {HH H : Hp} {v2 v3 v4 : Nat} {w : Sl} (hwho : who = 0 ∨ who = 1) (hL : ∀ x y, (∀ t ∈ L, lq t x y) ↔ reg l x y) (hb : ∀ t ∈ L, lb t) (hlen : L.length ≤ 100) (hd : num d) (hr : ∀ t ∈ L, 0 < restF t d) (hex : ∃ t ∈ L, sel who t ≠ 0)
    (hw : SL H w L) (hwb : w.b ≠ v4) (c : Cx HH H [(v4, bst none), (v3, [.int .i64 0, .int .i64 0]), (v2, pc d)]) :
    Ok (r77_l0 a FUEL who v2 v3 v4 w L.length 0 H) fun r H' => Gr HH H' ∧ ∃ m, IsTop l d (uW who) (vW who) m ∧ qb 1800 30 m ∧ r = fq m := by
  have hwl := hw.len
  have hsb : ∀ t ∈ L, 0 ≤ sel who t ∧ sel who t ≤ 30 := fun t ht => by
    obtain ⟨a1, b1, _⟩ := hb t ht
    unfold sel
    split
    · exact a1
    · exact b1
  have hnn : ∀ t ∈ L, 0 ≤ perq t (uW who) (vW who) := fun t ht => by rw [perq_sel]; exact_mod_cast (hsb t ht).1
  refine Ok.loop (L := fun K (s : Int) H2 => r77_l0 a K who v2 v3 v4 w L.length s H2) (fun m s H' => ∃ (i : Nat) (o : Option Rat), s = i ∧ i + m = L.length ∧ Cx HH H' [(v4, bst o), (v3, [.int .i64 0, .int .i64 0]), (v2, pc d)] ∧ SL H' w L ∧ MinSt (L.take i) d (uW who) (vW who) o ∧ ∀ m, o = some m → qb 1800 30 m) ?_ FUEL L.length 0 H (by unfold FUEL; omega) ⟨0, none, rfl, by omega, c, hw, by simpa using MinSt.nil, fun _ h => by cases h⟩
  rintro K m s H1 ⟨i, o, rfl, hm, c, hw, hms, hqb⟩ ih
  try dsimp only at *
  rw [r77_l0]
  by_cases h : i < L.length
  · have hmem : L[i] ∈ L := List.getElem_mem h
    have hrm := hr _ hmem
    have hlb := hb _ hmem
    have hrb := rest_bd hlb hd
    have hs := hsb _ hmem
    refine Ok.pos (by omega) (Ok.ck (by omega) (Ok.ld (hw.ldI (i := i) (j := 0) h rfl) (Ok.ld (hw.ldI (i := i) (j := 1) h rfl) (Ok.ld (hw.ldI (i := i) (j := 2) h rfl) (Ok.alo c fun A gA c => ?_)))))
    have hap : apart false 1 [.int .i64 L[i].1, .int .i64 L[i].2.1] (who.toNat * 1) = some (.int .i64 (sel who L[i])) := by
      rcases hwho with rfl | rfl <;> rfl
    refine Ok.cld c (.head _) rfl (Ok.cld c (.head _) rfl (Ok.ck (by omega) (Ok.ld hap (Ok.ld (b := sel who L[i]) rfl ?_))))
    by_cases hz : sel who L[i] = 0
    · refine Ok.pos hz ?_
      rw [w64_succ (by omega)]
      refine ih (m - 1) _ A (by omega) ⟨i + 1, o, rfl, by omega, c.weak (.cons _ (.refl _)), hw.gr gA, ?_, hqb⟩
      rw [List.take_succ_eq_append_getElem h]
      exact hms.skip (by rw [perq_sel, hz]; rfl)
    have hpos : 0 < sel who L[i] := by omega
    have hpq : 0 < perq L[i] (uW who) (vW who) := by rw [perq_sel]; exact_mod_cast hpos
    have hstep : dv (restF L[i] d) (sel who L[i]) * perq L[i] (uW who) (vW who) = (restF L[i] d : Rat) := by
      rw [perq_sel]; unfold dv
      exact Rat.div_mul_cancel (by have := cast_pos hpos; grind)
    refine Ok.neg hz ?_
    refine Ok.cld c (.head _) rfl (Ok.cld c (.head _) rfl (Ok.cld c (.head _) rfl (Ok.cld c (.tail _ (.tail _ (.tail _ (.head _)))) rfl (Ok.cld c (.tail _ (.tail _ (.tail _ (.head _)))) rfl (Ok.own (r78_q hlb.1 hlb.2.1 hlb.2.2.1 hd) fun X => ?_)))))
    dsimp only
    refine Ok.own (r48_q (by omega) hpos (by omega) H0) fun X2 => ?_
    have hnb : qb 1800 30 (dv (restF L[i] d) (sel who L[i])) := qb_dv hpos (by omega) (by omega) hs.2
    generalize dv (restF L[i] d) (sel who L[i]) = n at *
    refine Ok.alo c fun B gB c => ?_
    have hwB := hw.gr (gA.trans gB)
    have take : ∀ C, C.n = B.n → (∀ x, x ≠ v4 → C.get x = B.get x) → Cx HH C [(A.n, fc n), (H1.n, tc L[i]), (v4, fc n), (v3, [.int .i64 0, .int .i64 0]), (v2, pc d)] → (∀ m, o = some m → n ≤ m) →
        Ok (r77_l0 a K who v2 v3 v4 w L.length (w64 ((i : Int) + 1)) C) fun r H' => Gr HH H' ∧ ∃ m, IsTop l d (uW who) (vW who) m ∧ qb 1800 30 m ∧ r = fq m := fun C hn hg c ho => by
      rw [w64_succ (by omega)]
      refine ih (m - 1) _ C (by omega) ⟨i + 1, some n, rfl, by omega, c.weak (.cons _ (.cons _ (.refl _))), hwB.congr (hg _ hwb), ?_, fun m e => by injection e with e; subst e; exact hnb⟩
      rw [List.take_succ_eq_append_getElem h]
      exact hms.take (fun t ht => hnn t (List.mem_of_mem_take ht)) hpq hstep ho
    cases o with
    | none =>
      refine Ok.cld c (.tail _ (.tail _ (.head _))) rfl (Ok.pos rfl ?_)
      unfold r77_j1
      exact Ok.pos rfl (Ok.cld c (.head _) rfl (Ok.cld c (.head _) rfl (Ok.cst c 2 rfl rfl fun C hn hg c => take C hn hg c fun m e => by cases e)))
    | some m' =>
      have hm0 := fq_pos m'
      have hq' := hqb m' rfl
      refine Ok.cld c (.tail _ (.tail _ (.head _))) rfl (Ok.neg (by omega) ?_)
      refine Ok.cld c (.head _) rfl (Ok.cld c (.head _) rfl (Ok.cld c (.tail _ (.tail _ (.head _))) rfl (Ok.cld c (.tail _ (.tail _ (.head _))) rfl (Ok.own (r68_q hnb hq' (by decide) (by decide)) fun X3 => ?_))))
      have ec : (cmpq n m' < 0) ↔ n < m' := by
        unfold cmpq
        split
        · simp [*]
        · split <;> simp [*]
      unfold r77_j1
      by_cases k : n < m'
      · rw [decide_eq_true (ec.2 k)]
        exact Ok.pos rfl (Ok.cld c (.head _) rfl (Ok.cld c (.head _) rfl (Ok.cst c 2 rfl rfl fun C hn hg c => take C hn hg c fun m e => by injection e with e; subst e; exact Rat.le_of_lt k)))
      · rw [decide_eq_false (fun q => k (ec.1 q))]
        refine Ok.neg (by simp) ?_
        rw [w64_succ (by omega)]
        refine ih (m - 1) _ B (by omega) ⟨i + 1, some m', rfl, by omega, c.weak (.cons _ (.cons _ (.refl _))), hwB, ?_, hqb⟩
        rw [List.take_succ_eq_append_getElem h]
        exact hms.keep hpq hstep k
  · rw [List.take_of_length_le (by omega)] at hms
    obtain ⟨m', rfl⟩ : ∃ m', o = some m' := by
      cases o with
      | none =>
        obtain ⟨t, ht, hne⟩ := hex
        have h1 := hms t ht
        rw [perq_sel] at h1
        exact absurd (by exact_mod_cast h1) hne
      | some m' => exact ⟨m', rfl⟩
    have hq := hqb m' rfl
    refine Ok.neg (by omega) ?_
    refine Ok.cld c (.head _) rfl (Ok.cld c (.head _) rfl (Ok.cst c 1 rfl rfl fun C hn hg c => ?_))
    exact Ok.cld c (.tail _ (.head _)) rfl (Ok.cld c (.tail _ (.head _)) rfl (Ok.ret ⟨c.g, m', hms.top hL hnn (fun t ht => Int.le_of_lt (hr t ht)), hq, rfl⟩))
end
section
variable {k : Nat} {H : Hp} {v : Sl} {l : List Pr} {d : Pr}
theorem perm_ne {q l : List Pr} (ho : offP l) (h : q.Perm l) : q ≠ [] := by
  have := h.length_eq
  have h1 := ho.1
  intro e
  rw [e] at this
  simp at this
  omega
/-- far -/
theorem r65_ok {u w : Rat} (hv : SL H v l) (ho : offP l) (hd : num d) (hrm : roomP l d) (hu : qb 1800 30 u) (hw : qb 1800 30 w) (hu0 : 0 < u) (hw0 : 0 < w) :
    Ok (r65 (appA (k + 2)) v d.1 d.2 (fq u).1 (fq u).2 (fq w).1 (fq w).2 H) fun r H' => Gr H H' ∧ ∃ m, IsTop l d u w m ∧ qb 1620000 3240000 m ∧ r = pt ((d.1 : Rat) + m * u, (d.2 : Rat) + m * w) := by
  unfold r65
  refine Ok.box4 (.nil H) fun A gA c => Ok.alo c fun B gB c => ?_
  refine Ok.bind (r54_ok (hv.gr (gA.trans gB)) ho) fun s C ⟨gC, hsb, q, hp, hs, hsl⟩ => ?_
  have hE := edgeP ho hp hs
  obtain ⟨hlen, hlb⟩ := hE.lines ho
  have h8 := hE.le
  have hlr := fun x y => lines_reg (x := x) (y := y) hp hs (perm_ne ho hp)
  have hslen := hsl.len
  dsimp only
  rw [hslen]
  refine r65_l0_ok hlr hlb (by omega) hd ((room_iff hlr hlb).2 hrm) hu hw hu0 hw0 (by intro e; rw [e] at hlen; simp at hlen) hsl ?_ (c.gr gC)
  have := c.lt (.head _)
  dsimp only at this
  omega
/-- reach -/
theorem r77_ok {who : Int} (hwho : who = 0 ∨ who = 1) (hv : SL H v l) (ho : offP l) (hd : num d) (hrm : roomP l d) :
    Ok (r77 (appA (k + 2)) v d.1 d.2 who H) fun r H' => Gr H H' ∧ ∃ m, IsTop l d (uW who) (vW who) m ∧ qb 1800 30 m ∧ r = fq m := by
  unfold r77
  refine Ok.box2 (.nil H) fun A gA c => Ok.alo c fun B gB c => ?_
  refine Ok.bind (r54_ok (hv.gr (gA.trans gB)) ho) fun s C ⟨gC, hsb, q, hp, hs, hsl⟩ => ?_
  have hE := edgeP ho hp hs
  obtain ⟨hlen, hlb⟩ := hE.lines ho
  have h8 := hE.le
  have hlr := fun x y => lines_reg (x := x) (y := y) hp hs (perm_ne ho hp)
  have hslen := hsl.len
  dsimp only
  rw [hslen]
  refine r77_l0_ok hwho hlr hlb (by omega) hd ((room_iff hlr hlb).2 hrm) ?_ hsl ?_ (c.gr gC)
  · obtain ⟨t1, t2⟩ := hE.top
    rcases hwho with rfl | rfl
    · exact ⟨_, t2, by simp [sel]⟩
    · exact ⟨_, t1, by simp [sel]⟩
  · have := c.lt (.head _)
    dsimp only at this
    omega
/-- what read says -/
def ReadP (l : List Pr) (d : Pr) (v : Sl) (r : Sl × Int) : Prop := (offP l ∧ num d ∧ roomP l d ∧ r = (v, 0)) ∨ (offP l ∧ num d ∧ ¬ roomP l d ∧ r = (⟨true, 0, 0, 0, 0, 0⟩, 4)) ∨ (¬ (offP l ∧ num d) ∧ r = (⟨true, 0, 0, 0, 0, 0⟩, 2))
theorem r64_ok (hv : SL H v l) (hb : l.length ≤ 1000) : Ok (r64 (appA (k + 2)) v d.1 d.2 H) fun r H' => Gr H H' ∧ ReadP l d v r := by
  unfold r64
  refine Ok.box (.nil H) fun A gA c => ?_
  refine Ok.bind (r52_ok (hv.gr gA) hb) fun b B ⟨gB, hbb⟩ => ?_
  subst hbb
  have c := c.gr gB
  have bad : ∀ C, Gr H C → ¬ (offP l ∧ num d) → Ok (r64_j1 (appA (k + 2)) H.n v true C) fun r H' => Gr H H' ∧ ReadP l d v r := fun C g hno => by
    unfold r64_j1
    exact Ok.pos rfl (Ok.ret ⟨g, .inr (.inr ⟨hno, rfl⟩)⟩)
  dsimp only
  by_cases ho : offP l
  · rw [decide_eq_true ho]
    refine Ok.pos rfl (Ok.cld c (.head _) rfl ?_)
    refine Ok.ld (r70_spec d.1 H0) ?_
    dsimp only
    by_cases h1 : 0 ≤ d.1 ∧ d.1 ≤ 30
    · rw [decide_eq_true h1]
      refine Ok.pos rfl (Ok.cld c (.head _) rfl (Ok.ld (r70_spec d.2 H0) ?_))
      dsimp only
      by_cases h2 : 0 ≤ d.2 ∧ d.2 ≤ 30
      · rw [decide_eq_true h2]
        have hd : num d := ⟨h1.1, h1.2, h2.1, h2.2⟩
        unfold r64_j1
        refine Ok.neg (by simp) (Ok.bind (r54_ok (hv.gr (gA.trans gB)) ho) fun s C ⟨gC, hsb, q, hp, hs, hsl⟩ => ?_)
        have hE := edgeP ho hp hs
        obtain ⟨hlen, hlb⟩ := hE.lines ho
        have h8 := hE.le
        have hlr := fun x y => lines_reg (x := x) (y := y) hp hs (perm_ne ho hp)
        have hri := room_iff (d := d) hlr hlb
        have hslen := hsl.len
        have c := c.gr gC
        dsimp only
        rw [hslen]
        generalize linesF (chainF q).reverse = L at *
        refine Ok.loop (L := fun K (s' : Int) H2 => r64_l0 (appA (k + 2)) K H.n v s L.length s' H2) (fun m s' H' => ∃ i : Nat, s' = i ∧ i + m = L.length ∧ Cx H H' [(H.n, pc d)] ∧ SL H' s L ∧ ∀ t ∈ L.take i, 0 < restF t d) ?_ FUEL L.length 0 C (by unfold FUEL; omega) ⟨0, rfl, by omega, c, hsl, by simp⟩
        rintro K m s' H1 ⟨i, rfl, hm, c, hw, ht⟩ ih
        try dsimp only at *
        rw [r64_l0]
        by_cases h : i < L.length
        · have hmem : L[i] ∈ L := List.getElem_mem h
          have hl := hlb _ hmem
          refine Ok.pos (by omega) (Ok.ck (by omega) (Ok.ld (hw.ldI (i := i) (j := 0) h rfl) (Ok.ld (hw.ldI (i := i) (j := 1) h rfl) (Ok.ld (hw.ldI (i := i) (j := 2) h rfl) (Ok.alo c fun D gD c => ?_)))))
          refine Ok.cld c (.head _) rfl (Ok.cld c (.head _) rfl (Ok.cld c (.head _) rfl (Ok.cld c (.tail _ (.head _)) rfl (Ok.cld c (.tail _ (.head _)) rfl (Ok.own (r78_q hl.1 hl.2.1 hl.2.2.1 hd) fun X => ?_)))))
          refine Ok.ite (fun cc => Ok.ret ⟨c.g, .inr (.inl ⟨ho, hd, fun q => ?_, rfl⟩)⟩) fun cc => ?_
          · have := hri.2 q _ hmem
            dsimp only at cc
            omega
          · rw [w64_succ (by omega)]
            refine ih (m - 1) _ D (by omega) ⟨i + 1, rfl, by omega, c.weak (.cons _ (.refl _)), hw.gr gD, ?_⟩
            rw [List.take_succ_eq_append_getElem h]
            intro t htt
            rcases List.mem_append.1 htt with htt | htt
            · exact ht t htt
            · rw [List.mem_singleton] at htt; subst htt; dsimp only at cc; omega
        · rw [List.take_of_length_le (by omega)] at ht
          exact Ok.neg (by omega) (Ok.ret ⟨c.g, .inl ⟨ho, hd, hri.1 ht, rfl⟩⟩)
      · rw [decide_eq_false h2]
        exact bad _ c.g fun q => h2 ⟨q.2.2.2.1, q.2.2.2.2⟩
    · rw [decide_eq_false h1]
      exact Ok.neg (by simp) (bad _ c.g fun q => h1 ⟨q.2.1, q.2.2.1⟩)
  · rw [decide_eq_false ho]
    exact Ok.neg (by simp) (bad _ c.g fun q => ho q.1)
end
end Go.Lt.P5
