/- PLAIN LAWS OF WHAT IS COMPUTED, for the statement 'CutsInside'. Nothing is asked of the input. -/
import Derived.Test.YteefkljbmjjncaaU7XBx
import Derived.Test.YteefkljbmjjncaaLB
set_option linter.unusedVariables false
set_option linter.unusedSimpArgs false
namespace Go.Lt.P2
open Go Go.Lt Go.Proofs
def inB (s : Sd) : Prop := (-4 ≤ s.1 ∧ s.1 ≤ 4) ∧ (-4 ≤ s.2.1 ∧ s.2.1 ≤ 4) ∧ (-40 ≤ s.2.2 ∧ s.2.2 ≤ 40)
instance (s : Sd) : Decidable (inB s) := by unfold inB; infer_instance
theorem tail63 {k c : Nat} {s : Sd} {E : Hp} {Q : Bool → Hp → Prop} {F : Bool → Hp → Option (Bool × Hp)} (hc : E.get c = some (.cells [.int .i64 s.1, .int .i64 s.2.1, .int .i64 s.2.2] false)) (kF : ∀ H' b, Gr E H' → b = !decide (inB s) → Ok (F b H') Q) :
    Ok ((r79 (appA (k + 1)) 4 ⟨false, E.n, 0, 2, 2, 0⟩ (E.push (.cells [.int .i64 s.1, .int .i64 s.2.1] false))).bind fun p => if p.1 = true then ((p.2.ldI .i64 c (0 + 2)).bind fun x => (r79 (appA (k + 1)) 40 ⟨false, p.2.n, 0, 1, 1, 0⟩ (p.2.push (.cells [.int .i64 x] false))).bind fun q => F (!q.1) q.2) else F true p.2) Q := by
  have gp := Gr.push E (.cells [.int .i64 s.1, .int .i64 s.2.1] false)
  have hs : SL (T := Int) (E.push (.cells [.int .i64 s.1, .int .i64 s.2.1] false)) ⟨false, E.n, 0, 2, 2, 0⟩ [s.1, s.2.1] := .of_get (ro := false) (Hp.get_push_new _ _) rfl rfl (Nat.le_refl _) (.inl rfl) rfl
  generalize E.push (.cells [.int .i64 s.1, .int .i64 s.2.1] false) = A at *
  refine Ok.bind (r79_ok (by omega) hs (by simp)) fun r B ⟨gB, hr⟩ => ?_
  subst hr
  by_cases h1 : ∃ x ∈ [s.1, s.2.1], x < -4 ∨ 4 < x
  · rw [decide_eq_true h1]
    refine Ok.neg (by simp) (kF _ _ (gp.trans gB) ?_)
    symm
    rw [decide_eq_false]
    · rfl
    · intro hb
      obtain ⟨x, hx, h2⟩ := h1
      unfold inB at hb
      simp only [List.mem_cons, List.not_mem_nil, or_false] at hx
      rcases hx with rfl | rfl <;> omega
  · rw [decide_eq_false h1]
    have g2 := gp.trans gB
    have hcB : B.get c = some (.cells [.int .i64 s.1, .int .i64 s.2.1, .int .i64 s.2.2] false) := by rw [g2.2 _ (Hp.get_lt hc)]; exact hc
    refine Ok.pos (by simp) (Ok.ld (ldI_get hcB rfl) ?_)
    have gq := Gr.push B (.cells [.int .i64 s.2.2] false)
    have hs2 : SL (T := Int) (B.push (.cells [.int .i64 s.2.2] false)) ⟨false, B.n, 0, 1, 1, 0⟩ [s.2.2] := .of_get (ro := false) (Hp.get_push_new _ _) rfl rfl (Nat.le_refl _) (.inl rfl) rfl
    refine Ok.bind (r79_ok (k := k) (c := 40) (by omega) hs2 (by simp)) fun r C ⟨gC, hr⟩ => ?_
    subst hr
    refine kF _ _ (g2.trans (gq.trans gC)) ?_
    congr 1
    refine Bool.eq_iff_iff.2 ?_
    rw [Bool.not_eq_true', decide_eq_false_iff_not, decide_eq_true_iff]
    unfold inB
    have q1 : ¬ (s.1 < -4 ∨ 4 < s.1) := fun q => h1 ⟨s.1, by simp, q⟩
    have q2 : ¬ (s.2.1 < -4 ∨ 4 < s.2.1) := fun q => h1 ⟨s.2.1, by simp, q⟩
    constructor
    · intro q
      have : ¬ (s.2.2 < -40 ∨ 40 < s.2.2) := fun w => q ⟨s.2.2, by simp, w⟩
      omega
    · rintro q ⟨x, hx, h2⟩
      rw [List.mem_singleton] at hx
      subst hx
      omega
theorem side_in {s : Sd} : sideP s ↔ ¬ (s.1 = 0 ∧ s.2.1 = 0) ∧ inB s := by
  unfold sideP inB
  constructor
  · intro h; exact ⟨h.2.2.1, h.1, h.2.1, h.2.2.2⟩
  · intro h; exact ⟨h.2.1, h.2.2.1, h.1, h.2.2.2⟩
/-- the directions -/
theorem r63_l3_ok {k : Nat} {H0' H : Hp} {v : Sl} {l : List Sd} (hv : SL H v l) (hb : l.length ≤ 6) (hs : ∀ s ∈ l, sideP s) (g : Gr H0' H) : Ok (r63_l3 (appA (k + 1)) FUEL v v l.length 0 H) fun r H' => Gr H0' H' ∧ r = decide (∀ s ∈ l, dirP l (-s.2.1, s.1) ∧ dirP l (s.2.1, -s.1)) := by
  have hlen := hv.len
  refine Ok.loop (L := fun K (s : Int) H2 => r63_l3 (appA (k + 1)) K v v l.length s H2) (fun m s H' => Gr H H' ∧ ∃ i : Nat, s = i ∧ i + m = l.length ∧ ∀ s ∈ l.take i, dirP l (-s.2.1, s.1) ∧ dirP l (s.2.1, -s.1)) ?_ FUEL l.length 0 H (by unfold FUEL; omega) ⟨.refl _, 0, rfl, by omega, by simp⟩
  rintro K m s H1 ⟨g1, i, rfl, hm, ht⟩ ih
  try dsimp only at *
  rw [r63_l3]
  by_cases h : i < l.length
  · have hg := hv.gr g1
    have hmem : l[i] ∈ l := List.getElem_mem h
    have hsd := hs _ hmem
    unfold sideP at hsd
    obtain ⟨E, hE, hE', gE, nE⟩ := sts3 H1 (.int .i64 l[i].1) (.int .i64 l[i].2.1) (.int .i64 l[i].2.2) (.int .i64 0) (.int .i64 0) (.int .i64 0)
    refine Ok.pos (by omega) (Ok.ck (by omega) (Ok.ld (hg.ldI (i := i) (j := 0) h rfl) (Ok.ld (hg.ldI (i := i) (j := 1) h rfl) (Ok.ld (hg.ldI (i := i) (j := 2) h rfl) (Ok.ld hE (Ok.ld (ldI_get hE' rfl) (Ok.ld (ldI_get hE' rfl) (Ok.ld (ldI_get hE' rfl) (Ok.ld (ldI_get hE' rfl) (Ok.lt ?_))))))))))
    have e1 : w64 (0 - l[i].2.1) = -l[i].2.1 := by rw [w64_id (by omega) (by omega)]; omega
    have e2 : w64 (0 - l[i].1) = -l[i].1 := by rw [w64_id (by omega) (by omega)]; omega
    rw [e1, e2]
    have gq := Gr.push E (.cells [.int .i64 (-l[i].2.1), .int .i64 l[i].1, .int .i64 l[i].2.1, .int .i64 (-l[i].1)] false)
    have hds : SL (T := Pr) (E.push (.cells [.int .i64 (-l[i].2.1), .int .i64 l[i].1, .int .i64 l[i].2.1, .int .i64 (-l[i].1)] false)) ⟨false, E.n, 0, 2, 2, 0⟩ [(-l[i].2.1, l[i].1), (l[i].2.1, -l[i].1)] := .of_get (ro := false) (Hp.get_push_new _ _) rfl rfl (Nat.le_refl _) (.inl rfl) rfl
    generalize E.push (.cells [.int .i64 (-l[i].2.1), .int .i64 l[i].1, .int .i64 l[i].2.1, .int .i64 (-l[i].1)] false) = C at *
    have gC := g1.trans (gE.trans gq)
    show Ok (r63_l4 (appA (k + 1)) _ FUEL v v l.length i ⟨false, E.n, 0, 2, 2, 0⟩ 2 0 C) _
    have hall : (dirP l (-l[i].2.1, l[i].1) ∧ dirP l (l[i].2.1, -l[i].1)) ↔ ∀ d ∈ [(-l[i].2.1, l[i].1), (l[i].2.1, -l[i].1)], dirP l d := by simp
    have hdb : ∀ d ∈ [(-l[i].2.1, l[i].1), (l[i].2.1, -l[i].1)], (-4 ≤ d.1 ∧ d.1 ≤ 4) ∧ -4 ≤ d.2 ∧ d.2 ≤ 4 := by
      intro d hd
      simp only [List.mem_cons, List.not_mem_nil, or_false] at hd
      rcases hd with rfl | rfl <;> dsimp only <;> omega
    have two : [(-l[i].2.1, l[i].1), (l[i].2.1, -l[i].1)].length = 2 := rfl
    generalize [(-l[i].2.1, l[i].1), (l[i].2.1, -l[i].1)] = ds at *
    have hdl := hds.len
    refine Ok.loop (L := fun K2 (s : Int) H2 => r63_l4 (appA (k + 1)) (fun v1_ v2_ v3_ v4_ H_ => r63_l3 (appA (k + 1)) K v1_ v2_ v3_ v4_ H_) K2 v v l.length i ⟨false, E.n, 0, 2, 2, 0⟩ 2 s H2) (fun m s H' => Gr C H' ∧ ∃ j : Nat, s = j ∧ j + m = 2 ∧ ∀ d ∈ ds.take j, dirP l d) ?_ FUEL 2 0 C (by unfold FUEL; omega) ⟨.refl _, 0, rfl, rfl, by simp⟩
    rintro K2 m2 s2 H2 ⟨g2, j, rfl, hm2, ht2⟩ ih2
    try dsimp only at *
    rw [r63_l4]
    by_cases hj : j < 2
    · have hg2 := hds.gr g2
      have hdm : ds[j] ∈ ds := List.getElem_mem (by omega)
      obtain ⟨F, hF, hF', gF, nF⟩ := sts2 H2 (.int .i64 ds[j].1) (.int .i64 ds[j].2) (.int .i64 0) (.int .i64 0)
      have gX := gC.trans (g2.trans gF)
      refine Ok.pos (by omega) (Ok.ck (by dsimp only; omega) (Ok.ld (hg2.ldI (i := j) (j := 0) (by omega) rfl) (Ok.ld (hg2.ldI (i := j) (j := 1) (by omega) rfl) (Ok.ld hF ?_))))
      refine Ok.bind (r92_ok (says93 k hF' (hdb _ hdm)) (hv.gr gX) (by omega) hs) fun r G ⟨gG, hr⟩ => ?_
      subst hr
      by_cases hd : dirP l ds[j]
      · rw [decide_eq_true (show ∃ x ∈ l, 0 < x.1 * ds[j].1 + x.2.1 * ds[j].2 from hd)]
        refine Ok.pos rfl ?_
        rw [w64_succ (by omega)]
        exact ih2 (m2 - 1) _ G (by omega) ⟨g2.trans (gF.trans gG), j + 1, rfl, by omega, forall_take (by omega) ht2 hd⟩
      · rw [decide_eq_false (show ¬ ∃ x ∈ l, 0 < x.1 * ds[j].1 + x.2.1 * ds[j].2 from hd)]
        refine Ok.neg (by simp) (Ok.ret ⟨g.trans (gX.trans gG), ?_⟩)
        rw [decide_eq_false]
        intro hh
        exact hd (hall.1 (hh _ hmem) _ hdm)
    · rw [List.take_of_length_le (by omega)] at ht2
      refine Ok.neg (by omega) ?_
      rw [w64_succ (by omega)]
      exact ih (m - 1) _ H2 (by omega) ⟨gC.trans g2, i + 1, rfl, by omega, forall_take h ht (hall.2 ht2)⟩
  · rw [List.take_of_length_le (by omega)] at ht
    exact Ok.neg (by omega) (Ok.ret ⟨g.trans g1, by rw [decide_eq_true ht]⟩)
/-- valid -/
theorem r63_ok {k : Nat} {H : Hp} {v : Sl} {l : List Sd} (hv : SL H v l) (hb : l.length ≤ 1000) : Ok (r63 (appA (k + 1)) v H) fun r H' => Gr H H' ∧ r = decide (plateP l) := by
  unfold r63
  have hlen := hv.len
  by_cases h3 : l.length < 3
  · refine Ok.pos (by omega) ?_
    unfold r63_j0
    exact Ok.pos rfl (Ok.ret ⟨.refl _, by rw [decide_eq_false (fun h => by have := h.1.1; omega)]⟩)
  · refine Ok.neg (by omega) ?_
    unfold r63_j0
    by_cases h6 : 6 < l.length
    · exact Ok.pos (by rw [decide_eq_true_iff]; omega) (Ok.ret ⟨.refl _, by rw [decide_eq_false (fun h => by have := h.1.2; omega)]⟩)
    · refine Ok.neg (by rw [decide_eq_true_iff]; omega) ?_
      rw [hlen]
      refine Ok.loop (L := fun K (s : Int) H2 => r63_l1 (appA (k + 1)) K v v l.length s H2) (fun m s H' => Gr H H' ∧ ∃ i : Nat, s = i ∧ i + m = l.length ∧ ∀ s ∈ l.take i, sideP s) ?_ FUEL l.length 0 H (by unfold FUEL; omega) ⟨.refl _, 0, rfl, by omega, by simp⟩
      rintro K m s H1 ⟨g1, i, rfl, hm, ht⟩ ih
      try dsimp only at *
      rw [r63_l1]
      by_cases h : i < l.length
      · have hg := hv.gr g1
        have hmem : l[i] ∈ l := List.getElem_mem h
        obtain ⟨E, hE, hE', gE, nE⟩ := sts3 H1 (.int .i64 l[i].1) (.int .i64 l[i].2.1) (.int .i64 l[i].2.2) (.int .i64 0) (.int .i64 0) (.int .i64 0)
        have gB := g1.trans gE
        have j2 : ∀ b H', Gr E H' → b = !decide (sideP l[i]) → Ok (r63_j2 (appA (k + 1)) (fun v1_ v2_ v3_ v4_ H_ => r63_l1 (appA (k + 1)) K v1_ v2_ v3_ v4_ H_) v v l.length i b H') fun r H' => Gr H H' ∧ r = decide (plateP l) := fun b H' gH hbb => by
          subst hbb
          unfold r63_j2
          by_cases c : sideP l[i]
          · rw [decide_eq_true c]
            refine Ok.neg (by simp) ?_
            rw [w64_succ (by omega)]
            exact ih (m - 1) _ H' (by omega) ⟨gB.trans gH, i + 1, rfl, by omega, forall_take h ht c⟩
          · rw [decide_eq_false c]
            exact Ok.pos rfl (Ok.ret ⟨gB.trans gH, by rw [decide_eq_false (fun q => c (q.2.1 _ hmem))]⟩)
        have tl : ¬ (l[i].1 = 0 ∧ l[i].2.1 = 0) → ∀ H' b, Gr E H' → b = !decide (inB l[i]) → Ok (r63_j2 (appA (k + 1)) (fun v1_ v2_ v3_ v4_ H_ => r63_l1 (appA (k + 1)) K v1_ v2_ v3_ v4_ H_) v v l.length i b H') fun r H' => Gr H H' ∧ r = decide (plateP l) := fun hne H' b gH hbb => j2 b H' gH (by rw [hbb]; congr 1; exact decide_eq_decide.2 ⟨fun q => side_in.2 ⟨hne, q⟩, fun q => (side_in.1 q).2⟩)
        refine Ok.pos (by omega) (Ok.ck (by omega) (Ok.ld (hg.ldI (i := i) (j := 0) h rfl) (Ok.ld (hg.ldI (i := i) (j := 1) h rfl) (Ok.ld (hg.ldI (i := i) (j := 2) h rfl) (Ok.ld hE (Ok.ld (ldI_get hE' rfl) ?_))))))
        refine Ok.ite (fun c0 => Ok.ld (ldI_get hE' rfl) (Ok.ite (fun c1 => j2 _ _ (.refl _) ?_) fun c1 => Ok.ld (ldI_get hE' rfl) (Ok.ld (ldI_get hE' rfl) (tail63 (s := l[i]) hE' (tl fun q => c1 q.2))))) fun c0 => Ok.ld (ldI_get hE' rfl) (Ok.ld (ldI_get hE' rfl) (tail63 (s := l[i]) hE' (tl fun q => c0 q.1)))
        rw [decide_eq_false (fun q => (side_in.1 q).1 ⟨c0, c1⟩)]
        rfl
      · rw [List.take_of_length_le (by omega)] at ht
        refine Ok.neg (by omega) ?_
        rw [hlen]
        refine (r63_l3_ok (hv.gr g1) (by omega) ht g1).mono fun r H' hh => ⟨hh.1, ?_⟩
        rw [hh.2]
        exact decide_eq_decide.2 ⟨fun q => ⟨⟨by omega, by omega⟩, ht, q⟩, fun q => q.2.2⟩
end Go.Lt.P2

namespace Go.Lt.P2
open Go Go.Lt Go.Proofs
/-- whole -/
theorem r80_q {x y : Int} (hx : -100000000 ≤ x ∧ x ≤ 100000000) (hy : -100000000 ≤ y ∧ y ≤ 100000000) : Ok (r80 x y H0) fun r _ => r = pt ((x : Rat), (y : Rat)) := by
  unfold r80
  refine Ok.box (.nil H0) fun A _ c => ?_
  refine Ok.own (r100_int (by omega) H0) fun X => Ok.own (r100_int (by omega) H0) fun X => ?_
  refine Ok.cst c 0 rfl rfl fun B _ _ c => ?_
  exact Ok.cld c (.head _) rfl (Ok.cld c (.head _) rfl (Ok.cld c (.head _) rfl (Ok.cld c (.head _) rfl (Ok.ret rfl))))
theorem lqs_int {s : Sd} {x y : Int} : lqs s ((x : Rat), (y : Rat)) ↔ s.1 * x + s.2.1 * y ≤ s.2.2 := by
  unfold lqs atq
  dsimp only
  rw [← Rat.intCast_mul, ← Rat.intCast_mul, ← Rat.intCast_add]
  exact Rat.intCast_le_intCast
theorem qp_int {x y : Int} (hx : -10000 ≤ x ∧ x ≤ 10000) (hy : -10000 ≤ y ∧ y ≤ 10000) : qp ((x : Rat), (y : Rat)) :=
  ⟨qb_int (by omega) (by omega) (by omega), qb_int (by omega) (by omega) (by omega)⟩
end Go.Lt.P2

namespace Go.Lt.P2
open Go Go.Lt Go.Proofs
/-- the first side that a whole point does not keep -/
def kp (x : Pr) (s : Sd) : Prop := s.1 * x.1 + s.2.1 * x.2 ≤ s.2.2
instance (x : Pr) (s : Sd) : Decidable (kp x s) := by unfold kp; infer_instance
def apt (x : Pr) : List Sd → Int × Int × Int × Int
  | [] => (0, 0, 0, 4)
  | s :: l => if kp x s then apt x l else (s.1, s.2.1, s.2.2, 0)
theorem apt_all {x : Pr} : ∀ {l : List Sd}, (∀ s ∈ l, kp x s) → apt x l = (0, 0, 0, 4)
  | [], _ => rfl
  | s :: l, h => by rw [apt, if_pos (h s (.head _))]; exact apt_all fun t ht => h t (.tail _ ht)
end Go.Lt.P2

namespace Go.Lt.P2
open Go Go.Lt Go.Proofs
/-! ### the whole points of a box -/
def ints (lo hi : Int) : List Int := (List.range (hi + 1 - lo).toNat).map fun n : Nat => lo + (n : Int)
theorem ints_nil {lo hi : Int} (h : hi < lo) : ints lo hi = [] := by
  unfold ints
  rw [show (hi + 1 - lo).toNat = 0 by omega]; rfl
theorem ints_snoc {lo hi : Int} (h : lo ≤ hi) : ints lo hi = ints lo (hi - 1) ++ [hi] := by
  unfold ints
  rw [show (hi + 1 - lo).toNat = (hi - 1 + 1 - lo).toNat + 1 by omega, List.range_succ, List.map_append]
  simp; omega
theorem mem_ints {lo hi x : Int} : x ∈ ints lo hi ↔ lo ≤ x ∧ x ≤ hi := by
  unfold ints
  rw [List.mem_map]
  constructor
  · rintro ⟨n, hn, rfl⟩
    rw [List.mem_range] at hn
    omega
  · intro h
    exact ⟨(x - lo).toNat, List.mem_range.2 (by omega), by omega⟩
theorem ints_len {lo hi : Int} : (ints lo hi).length = (hi + 1 - lo).toNat := by unfold ints; simp
theorem ints_lt (lo hi : Int) : (ints lo hi).Pairwise (· < ·) := by
  unfold ints
  rw [List.pairwise_map]
  exact List.pairwise_lt_range.imp fun h => by omega
def row (l : List Sd) (lo hi x : Int) : List Pr := ((ints lo hi).filter fun y => decide (∀ s ∈ l, kp (x, y) s)).map fun y => (x, y)
def grid (l : List Sd) (lo hi : Pr) : List Pr := (ints lo.1 hi.1).flatMap (row l lo.2 hi.2)
theorem row_len (l : List Sd) (lo hi x : Int) : (row l lo hi x).length ≤ (hi + 1 - lo).toNat := by
  unfold row
  rw [List.length_map, ← ints_len]
  exact List.length_filter_le _ _
theorem row_snoc {l : List Sd} {lo hi x : Int} (h : lo ≤ hi) : row l lo hi x = row l lo (hi - 1) x ++ if ∀ s ∈ l, kp (x, hi) s then [(x, hi)] else [] := by
  unfold row
  rw [ints_snoc h, List.filter_append, List.map_append]
  congr 1
  by_cases hk : ∀ s ∈ l, kp (x, hi) s
  · rw [if_pos hk, List.filter_cons, if_pos (by exact decide_eq_true hk)]; rfl
  · rw [if_neg hk, List.filter_cons, if_neg (by rw [decide_eq_false hk]; simp)]; rfl
theorem flat_len {α β : Type} {f : α → List β} {k : Nat} : ∀ {l : List α}, (∀ x ∈ l, (f x).length ≤ k) → (l.flatMap f).length ≤ l.length * k
  | [], _ => by simp
  | x :: l, h => by
    rw [List.flatMap_cons, List.length_append, List.length_cons, Nat.add_mul, Nat.one_mul]
    have a := h x (.head _)
    have b := flat_len (l := l) fun y hy => h y (.tail _ hy)
    omega
theorem grid_len (l : List Sd) (lo hi : Pr) : (grid l lo hi).length ≤ (hi.1 + 1 - lo.1).toNat * (hi.2 + 1 - lo.2).toNat := by
  unfold grid
  rw [← ints_len]
  exact flat_len fun x _ => row_len l _ _ x
theorem mem_grid {l : List Sd} {lo hi p : Pr} : p ∈ grid l lo hi ↔ ((lo.1 ≤ p.1 ∧ p.1 ≤ hi.1) ∧ lo.2 ≤ p.2 ∧ p.2 ≤ hi.2) ∧ ∀ s ∈ l, kp p s := by
  unfold grid row
  rw [List.mem_flatMap]
  constructor
  · rintro ⟨x, hx, h⟩
    obtain ⟨y, hy, rfl⟩ := List.mem_map.1 h
    obtain ⟨hy, hk⟩ := List.mem_filter.1 hy
    exact ⟨⟨mem_ints.1 hx, mem_ints.1 hy⟩, of_decide_eq_true hk⟩
  · rintro ⟨⟨hx, hy⟩, hk⟩
    exact ⟨p.1, mem_ints.2 hx, List.mem_map.2 ⟨p.2, List.mem_filter.2 ⟨mem_ints.2 hy, decide_eq_true hk⟩, rfl⟩⟩
/-- points in order -/
def plt (p q : Pr) : Prop := p.1 < q.1 ∨ (p.1 = q.1 ∧ p.2 < q.2)
theorem row_plt (l : List Sd) (lo hi x : Int) : (row l lo hi x).Pairwise plt := by
  unfold row
  rw [List.pairwise_map]
  exact ((ints_lt lo hi).filter _).imp fun h => .inr ⟨rfl, h⟩
theorem row_fst {l : List Sd} {lo hi x : Int} {p : Pr} (h : p ∈ row l lo hi x) : p.1 = x := by
  unfold row at h
  obtain ⟨y, _, rfl⟩ := List.mem_map.1 h
  rfl
theorem grid_plt (l : List Sd) (lo hi : Pr) : (grid l lo hi).Pairwise plt := by
  unfold grid
  have key : ∀ {xs : List Int}, xs.Pairwise (· < ·) → (xs.flatMap (row l lo.2 hi.2)).Pairwise plt := fun {xs} h => by
    induction xs with
    | nil => exact .nil
    | cons x xs ih =>
      rw [List.pairwise_cons] at h
      rw [List.flatMap_cons, List.pairwise_append]
      refine ⟨row_plt _ _ _ _, ih h.2, fun p hp q hq => ?_⟩
      obtain ⟨x', hx', hq⟩ := List.mem_flatMap.1 hq
      left
      rw [row_fst hp, row_fst hq]
      exact h.1 x' hx'
  exact key (ints_lt _ _)
end Go.Lt.P2

namespace Go.Lt
theorem Cb.trans {H0 H H' : Hp} {E E' : List (Nat × Blk)} (c : Cb H0 H E) (d : Cb H H' E') (hk : E'.map (·.1) = E.map (·.1)) : Cb H0 H' E' := ⟨Nat.le_trans c.n d.n, fun b h1 h2 => by
    rw [d.g b (Nat.lt_of_lt_of_le h1 c.n) h2]
    refine c.g b h1 fun p hp => ?_
    have : p.1 ∈ E'.map (·.1) := by rw [hk]; exact List.mem_map.2 ⟨p, hp, rfl⟩
    obtain ⟨q, hq, e⟩ := List.mem_map.1 this
    rw [← e]; exact h2 q hq, d.e, d.nd⟩
end Go.Lt
namespace Go.Lt.P2
open Go Go.Lt Go.Proofs
/-- a consumer with blocks of its own -/
theorem mkYd {T : Type} {a : App} {yv : AV} {arg : T → List AV} {L : List T} {ks : List Nat} (E E' : List T → List (Nat × Blk)) (hk : ∀ q, (E q).map (·.1) = ks) (Gn Sp : List T → Prop) {B Hs : Hp} (gB : Gr B Hs) (hks : ∀ k ∈ ks, B.n ≤ k)
    (step : ∀ q x H, Cb H H (E q) → Gn q → x ∈ L → Ok (callv a yv (arg x) H) fun r H' => (r = .bool true ∧ Cb H H' (E (q ++ [x])) ∧ Gn (q ++ [x])) ∨ (r = .bool false ∧ Cb H H' (E' (q ++ [x])) ∧ Sp (q ++ [x])))
    (hk' : ∀ q, (E' q).map (·.1) = ks) : Yd a yv arg L B (fun P q H => Cb Hs H (E q) ∧ Gn q ∧ ∀ b, P b → b ∉ ks) (fun q H => Cb Hs H (E' q) ∧ Sp q) where
  grow := fun {P P' q H H'} h g hP => ⟨h.1.gr g, h.2.1, fun b hb hk2 => by
    rcases hP b hb with h1 | h1
    · exact h.2.2 b h1 hk2
    · rw [← hk q] at hk2
      obtain ⟨p, hp, e⟩ := List.mem_map.1 hk2
      have := h.1.lt hp
      omega⟩
  base := fun {P q H} h => ⟨Nat.le_trans gB.1 h.1.n, fun b hb => by
    rw [h.1.g b (Nat.lt_of_lt_of_le hb gB.1) fun p hp e => ?_]
    · exact gB.2 b hb
    · have : p.1 ∈ ks := by rw [← hk q]; exact List.mem_map.2 ⟨p, hp, rfl⟩
      have := hks _ this
      omega⟩
  step := fun {P q H x} h hx => by
    have c : Cb H H (E q) := .start h.1.e h.1.nd
    refine Ok.mono (step q x H c h.2.1 (hx.subset (by simp))) fun r H' h' => ?_
    rcases h' with ⟨hr, c', g'⟩ | ⟨hr, c', g'⟩
    · refine ⟨c'.n, .inl ⟨hr, ⟨h.1.trans c' (by rw [hk, hk]), g', h.2.2⟩, fun b hb hP => c'.g b hb fun p hp e => h.2.2 b hP ?_⟩⟩
      rw [← hk (q ++ [x]), ← e]
      exact List.mem_map.2 ⟨p, hp, rfl⟩
    · exact ⟨c'.n, .inr ⟨hr, h.1.trans c' (by rw [hk, hk']), g'⟩⟩
/-! ### arrows between those of two sides -/
def btw (s t : Sd) (a b : Int) : Prop := if crI s t < 0 then (0 ≤ -(a * t.2.1 - b * t.1) ∧ 0 ≤ -(s.1 * b - s.2.1 * a)) ∧ -(a * t.2.1 - b * t.1) ≤ -crI s t ∧ -(s.1 * b - s.2.1 * a) ≤ -crI s t else (0 ≤ a * t.2.1 - b * t.1 ∧ 0 ≤ s.1 * b - s.2.1 * a) ∧ a * t.2.1 - b * t.1 ≤ crI s t ∧ s.1 * b - s.2.1 * a ≤ crI s t
instance (s t : Sd) (a b : Int) : Decidable (btw s t a b) := by unfold btw; infer_instance
def bts (s t : Sd) (lo hi a : Int) : List Pr := ((ints lo hi).filter fun b => decide (btw s t a b)).map fun b => (a, b)
def bt (s t : Sd) : List Pr := (ints (-8) 8).flatMap (bts s t (-8) 8)
theorem bts_snoc {s t : Sd} {lo hi a : Int} (h : lo ≤ hi) : bts s t lo hi a = bts s t lo (hi - 1) a ++ if btw s t a hi then [(a, hi)] else [] := by
  unfold bts
  rw [ints_snoc h, List.filter_append, List.map_append]
  congr 1
  by_cases hk : btw s t a hi
  · rw [if_pos hk, List.filter_cons, if_pos (by exact decide_eq_true hk)]; rfl
  · rw [if_neg hk, List.filter_cons, if_neg (by rw [decide_eq_false hk]; simp)]; rfl
theorem mem_bt {s t : Sd} {p : Pr} : p ∈ bt s t ↔ ((-8 ≤ p.1 ∧ p.1 ≤ 8) ∧ -8 ≤ p.2 ∧ p.2 ≤ 8) ∧ btw s t p.1 p.2 := by
  unfold bt bts
  rw [List.mem_flatMap]
  constructor
  · rintro ⟨x, hx, h⟩
    obtain ⟨y, hy, rfl⟩ := List.mem_map.1 h
    obtain ⟨hy, hk⟩ := List.mem_filter.1 hy
    exact ⟨⟨mem_ints.1 hx, mem_ints.1 hy⟩, of_decide_eq_true hk⟩
  · rintro ⟨⟨hx, hy⟩, hk⟩
    exact ⟨p.1, mem_ints.2 hx, List.mem_map.2 ⟨p.2, List.mem_filter.2 ⟨mem_ints.2 hy, decide_eq_true hk⟩, rfl⟩⟩
theorem bt_pre {s t : Sd} {a b : Int} (ha : -8 ≤ a ∧ a ≤ 8) (hb : -9 ≤ b ∧ b ≤ 8) : (ints (-8) (a - 1)).flatMap (bts s t (-8) 8) ++ bts s t (-8) b a <+: bt s t := by
  have h1 : ∀ n : Nat, n ≤ 16 → ∀ b : Int, b = 8 - n → bts s t (-8) b a <+: bts s t (-8) 8 a := by
    intro n
    induction n with
    | zero => intro _ b e; rw [show b = 8 by omega]; exact List.prefix_rfl
    | succ n ih =>
      intro hn b e
      refine List.IsPrefix.trans ?_ (ih (by omega) (b + 1) (by omega))
      rw [bts_snoc (show (-8 : Int) ≤ b + 1 by omega), show b + 1 - 1 = b by omega]
      exact List.prefix_append _ _
  have h1' : bts s t (-8) b a <+: bts s t (-8) 8 a := by
    by_cases h9 : b = -9
    · subst h9
      have : bts s t (-8) (-9) a = [] := by unfold bts; rw [ints_nil (by omega)]; rfl
      rw [this]; exact List.nil_prefix
    · exact h1 (8 - b).toNat (by omega) b (by omega)
  have h2 : ∀ n : Nat, n ≤ 16 → ∀ a : Int, a = 8 - n → (ints (-8) a).flatMap (bts s t (-8) 8) <+: bt s t := by
    intro n
    induction n with
    | zero => intro _ a e; rw [show a = 8 by omega]; exact List.prefix_rfl
    | succ n ih =>
      intro hn a e
      refine List.IsPrefix.trans ?_ (ih (by omega) (a + 1) (by omega))
      rw [ints_snoc (show (-8 : Int) ≤ a + 1 by omega), show a + 1 - 1 = a by omega, List.flatMap_append]
      exact List.prefix_append _ _
  refine List.IsPrefix.trans ((List.prefix_append_right_inj _).2 h1') ?_
  have := h2 (8 - a).toNat (by omega) a (by omega)
  rw [ints_snoc (show (-8 : Int) ≤ a by omega), List.flatMap_append, List.flatMap_singleton] at this
  exact this
def argB (p : Pr) : List AV := [.int .i64 p.1, .int .i64 p.2]
section
variable {a : App} {yv : AV} {B : Hp} {I : (Nat → Prop) → List Pr → Hp → Prop} {St : List Pr → Hp → Prop} {P : Nat → Prop} {s t : Sd} {x1 x2 x3 x4 : Int}
/-- between -/
theorem r67_ok (Y : Yd a yv argB (bt s t) B I St) (hs : sideP s) (ht : sideP t) {H : Hp} (hI : I P [] H) :
    Ok (r67 a x1 x2 x3 x4 s.1 s.2.1 s.2.2 t.1 t.2.1 t.2.2 yv H) fun _ H' => I P (bt s t) H' ∨ ∃ q, q <+: bt s t ∧ St q H' := by
  have bd := meet_bd hs ht
  have hs' := hs
  have ht' := ht
  unfold sideP at hs' ht'
  unfold r67
  refine Ok.box (.nil H) fun A gA c => ?_
  refine Ok.cld c (.head _) rfl (Ok.cld c (.head _) rfl (Ok.cld c (.head _) rfl (Ok.cld c (.head _) rfl (Ok.own (r97_ok (by omega) (by omega) (by omega) (by omega)) fun X => ?_))))
  show Ok (r67_l0 a FUEL yv H.n (crI s t) (-8) A) _
  have hlt := c.lt (.head _)
  have hIA := Y.grow hI gA (P' := fun b => P b ∨ b = H.n) fun b hb => hb.elim .inl fun e => .inr (by dsimp only at hlt; omega)
  have hcA := c.e _ (.head _)
  clear c hI
  have hmax : (if crI s t < w64 (0 - crI s t) then w64 (0 - crI s t) else crI s t) = if crI s t < 0 then -crI s t else crI s t := by
    rw [w64_id (by omega) (by omega)]
    split <;> split <;> omega
  refine Ok.loop (L := fun K (u : Int) H2 => r67_l0 a K yv H.n (crI s t) u H2) (fun m u H' => (-8 ≤ u ∧ u ≤ 9) ∧ m = (9 - u).toNat ∧ I (fun b => P b ∨ b = H.n) ((ints (-8) (u - 1)).flatMap (bts s t (-8) 8)) H' ∧ H'.get H.n = A.get H.n) ?_ FUEL 17 (-8) A (by unfold FUEL; omega) ⟨by omega, rfl, by rw [ints_nil (by omega)]; exact hIA, rfl⟩
  rintro K m u H1 ⟨hu, rfl, hI1, hc1⟩ ih
  try dsimp only at *
  rw [r67_l0]
  by_cases h : u ≤ 8
  · refine Ok.pos h ?_
    refine Ok.loop (L := fun K' (w : Int) H2 => r67_l1 a (fun v1_ v2_ v3_ v4_ H_ => r67_l0 a K v1_ v2_ v3_ v4_ H_) K' yv H.n (crI s t) u w H2) (fun m w H' => (-8 ≤ w ∧ w ≤ 9) ∧ m = (9 - w).toNat ∧ I (fun b => P b ∨ b = H.n) ((ints (-8) (u - 1)).flatMap (bts s t (-8) 8) ++ bts s t (-8) (w - 1) u) H' ∧ H'.get H.n = A.get H.n) ?_ FUEL 17 (-8) H1 (by unfold FUEL; omega) ⟨by omega, rfl, by
      have : bts s t (-8) (-8 - 1) u = [] := by unfold bts; rw [ints_nil (by omega)]; rfl
      rw [this, List.append_nil]; exact hI1, hc1⟩
    rintro K' m' w H2 ⟨hw, rfl, hI2, hc2⟩ ih'
    try dsimp only at *
    rw [r67_l1]
    have hc2' := hc2.trans hcA
    by_cases h2 : w ≤ 8
    · refine Ok.pos h2 (Ok.ld (ldI_get hc2' rfl) (Ok.ld (ldI_get hc2' rfl) (Ok.own (r97_ok (by omega) (by omega) (by omega) (by omega)) fun _ => Ok.ld (ldI_get hc2' rfl) (Ok.ld (ldI_get hc2' rfl) (Ok.own (r97_ok (by omega) (by omega) (by omega) (by omega)) fun _ => ?_)))))
      dsimp only
      have m1 : -32 ≤ u * t.2.1 ∧ u * t.2.1 ≤ 32 := mul_bd (A := 8) (B := 4) (by omega) (by omega) (by omega) (by omega)
      have m2 : -32 ≤ w * t.1 ∧ w * t.1 ≤ 32 := mul_bd (A := 8) (B := 4) (by omega) (by omega) (by omega) (by omega)
      have m3 : -32 ≤ s.1 * w ∧ s.1 * w ≤ 32 := mul_bd (A := 4) (B := 8) (by omega) (by omega) (by omega) (by omega)
      have m4 : -32 ≤ s.2.1 * u ∧ s.2.1 * u ≤ 32 := mul_bd (A := 4) (B := 8) (by omega) (by omega) (by omega) (by omega)
      have esn := bts_snoc (s := s) (t := t) (a := u) (show (-8 : Int) ≤ w by omega)
      have skip : ¬ btw s t u w → Ok (r67_j2 a (fun v1_ v2_ v3_ v4_ v5_ H_ => r67_l1 a (fun v1_ v2_ v3_ v4_ H_ => r67_l0 a K v1_ v2_ v3_ v4_ H_) K' v1_ v2_ v3_ v4_ v5_ H_) yv H.n (crI s t) u w false H2) fun _ H' => I P (bt s t) H' ∨ ∃ q, q <+: bt s t ∧ St q H' := fun hn => by
        unfold r67_j2
        rw [w64_id (n := w + 1) (by omega) (by omega)]
        refine Ok.neg (by simp) (ih' (9 - (w + 1)).toNat (w + 1) H2 (by omega) ⟨by omega, rfl, ?_, hc2⟩)
        rw [show w + 1 - 1 = w by omega, esn, if_neg hn, List.append_nil]
        exact hI2
      have step : btw s t u w → Ok ((callv a yv [.int .i64 u, .int .i64 w] H2).bind fun p5 => (p5.1.asB).bind fun x6 => r67_j2 a (fun v1_ v2_ v3_ v4_ v5_ H_ => r67_l1 a (fun v1_ v2_ v3_ v4_ H_ => r67_l0 a K v1_ v2_ v3_ v4_ H_) K' v1_ v2_ v3_ v4_ v5_ H_) yv H.n (crI s t) u w (!x6) p5.2) fun _ H' => I P (bt s t) H' ∨ ∃ q, q <+: bt s t ∧ St q H' := fun hn => by
        have hpre := bt_pre (s := s) (t := t) (a := u) (b := w) (by omega) (by omega)
        rw [esn, if_pos hn, ← List.append_assoc] at hpre
        refine Ok.bind (Y.step (x := (u, w)) hI2 hpre) fun r G ⟨nG, hG⟩ => ?_
        rcases hG with ⟨rfl, hIG, kG⟩ | ⟨rfl, hSt⟩
        · refine Ok.ld rfl ?_
          unfold r67_j2
          rw [w64_id (n := w + 1) (by omega) (by omega)]
          refine Ok.neg (by simp) (ih' (9 - (w + 1)).toNat (w + 1) G (by omega) ⟨by omega, rfl, ?_, by rw [kG _ (Hp.get_lt hc2') (.inr rfl)]; exact hc2⟩)
          rw [show w + 1 - 1 = w by omega, esn, if_pos hn, ← List.append_assoc]
          exact hIG
        · refine Ok.ld rfl ?_
          unfold r67_j2
          exact Ok.pos (by simp) (Ok.ret (.inr ⟨_, hpre, hSt⟩))
      have fin : ∀ u' w' : Int, (btw s t u w ↔ ((0 ≤ u' ∧ 0 ≤ w') ∧ u' ≤ (if crI s t < 0 then -crI s t else crI s t) ∧ w' ≤ (if crI s t < 0 then -crI s t else crI s t))) → Ok (r67_j3 a (fun v1_ v2_ v3_ v4_ v5_ H_ => r67_l1 a (fun v1_ v2_ v3_ v4_ H_ => r67_l0 a K v1_ v2_ v3_ v4_ H_) K' v1_ v2_ v3_ v4_ v5_ H_) yv H.n (crI s t) u w u' w' H2) fun _ H' => I P (bt s t) H' ∨ ∃ q, q <+: bt s t ∧ St q H' := fun u' w' hiff => by
        unfold r67_j3
        rw [hmax]
        refine Ok.ite (fun k1 => Ok.ite (fun k2 => Ok.ite (fun k3 => Ok.ite (fun k4 => step (hiff.2 ⟨⟨k1, k2⟩, k3, k4⟩)) fun k => skip fun q => k (hiff.1 q).2.2) fun k => skip fun q => k (hiff.1 q).2.1) fun k => skip fun q => k (hiff.1 q).1.2) fun k => skip fun q => k (hiff.1 q).1.1
      refine Ok.ite (fun hneg => ?_) fun hneg => ?_
      · rw [w64_id (n := 0 - (u * t.2.1 - w * t.1)) (by omega) (by omega), w64_id (n := 0 - (s.1 * w - s.2.1 * u)) (by omega) (by omega)]
        refine fin _ _ ?_
        unfold btw
        rw [if_pos hneg, if_pos hneg, Int.zero_sub, Int.zero_sub]
      · refine fin _ _ ?_
        unfold btw
        rw [if_neg hneg, if_neg hneg]
    · refine Ok.neg h2 ?_
      rw [w64_id (n := u + 1) (by omega) (by omega)]
      refine ih (9 - (u + 1)).toNat (u + 1) H2 (by omega) ⟨by omega, rfl, ?_, hc2⟩
      rw [show w - 1 = 8 by omega] at hI2
      rw [show u + 1 - 1 = u by omega, ints_snoc (show (-8 : Int) ≤ u by omega), List.flatMap_append, List.flatMap_singleton]
      exact hI2
  · refine Ok.neg h (Ok.ret (.inl ?_))
    rw [show u - 1 = 8 by omega] at hI1
    exact Y.grow hI1 (.refl _) fun b hb => .inl (.inl hb)
end
end Go.Lt.P2

namespace Go.Lt.P2
open Go Go.Lt Go.Proofs
/-! ### arguments of InRound -/
def frP (f : Pr) : Prop := (1 ≤ f.2 ∧ f.2 ≤ 100) ∧ (-100 * f.2 ≤ f.1 ∧ f.1 ≤ 100 * f.2) ∧ Nat.gcd f.1.natAbs f.2.natAbs = 1
instance (f : Pr) : Decidable (frP f) := by unfold frP; infer_instance
theorem frP_fq {f : Pr} (h : frP f) : fq (dv f.1 f.2) = f := fq_dv (by unfold frP at h; omega) h.2.2
theorem frP_qb {f : Pr} (h : frP f) : qb 10000 100 (dv f.1 f.2) := by
  unfold frP at h
  exact qb_dv (by omega) (by omega) (by omega) (by omega)
/-- isFrac -/
theorem r64_ok {f : Pr} : Ok (r64 f.1 f.2 (-100) 100 H0) fun r _ => r = decide (frP f) := by
  have no : ∀ {A : Hp}, ¬ frP f → Ok (some (false, A)) fun r _ => r = decide (frP f) := fun hn => Ok.ret (by rw [decide_eq_false hn])
  unfold r64
  refine Ok.box (.nil H0) fun A _ c => Ok.cld c (.head _) rfl (Ok.ite (fun h1 => Ok.cld c (.head _) rfl (Ok.ite (fun h2 => Ok.cld c (.head _) rfl (Ok.cld c (.head _) rfl ?_)) fun h => no fun q => h q.1.2)) fun h => no fun q => h q.1.1)
  rw [w64_id (n := -100 * f.2) (by omega) (by omega)]
  refine Ok.ite (fun h3 => Ok.cld c (.head _) rfl (Ok.cld c (.head _) rfl ?_)) fun h => no fun q => h q.2.1.1
  rw [w64_id (n := 100 * f.2) (by omega) (by omega)]
  refine Ok.ite (fun h4 => Ok.cld c (.head _) rfl (Ok.cld c (.head _) rfl ?_)) fun h => no fun q => h q.2.1.2
  refine Ok.own (b := (Nat.gcd f.1.natAbs f.2.natAbs : Int)) ⟨_, _, gcdI FUEL f.1 f.2 (by unfold FUEL; omega) (by omega) (by omega), rfl⟩ fun X => Ok.ret ?_
  refine decide_eq_decide.2 ?_
  unfold frP
  dsimp only
  omega
end Go.Lt.P2

namespace Go.Lt.P2
open Go Go.Lt Go.Proofs
theorem floor_bd2 {q : Rat} {N D : Int} (h : qb N D q) (hN : 0 ≤ N) : -N - 1 ≤ q.floor ∧ q.floor ≤ N := by
  obtain ⟨h1, h2, h3⟩ := h
  have hp := fq_pos q
  have := (floor_iff (f := q.floor) (n := (fq q).1) hp).1 (by rw [dv_fq])
  generalize q.floor = f at *
  generalize (fq q).1 = n at *
  generalize (fq q).2 = d at *
  constructor
  · refine Classical.byContradiction fun hc => ?_
    have : (f + 1) * d ≤ (-N - 1) * 1 := by
      have h4 : 0 ≤ (-N - 1 - (f + 1)) * d := Int.mul_nonneg (by omega) (by omega)
      have h5 : 0 ≤ (N + 1) * (d - 1) := Int.mul_nonneg (by omega) (by omega)
      grind
    omega
  · refine Classical.byContradiction fun hc => ?_
    have : (N + 1) * 1 ≤ f * d := by
      have h4 : 0 ≤ (f - (N + 1)) * d := Int.mul_nonneg (by omega) (by omega)
      have h5 : 0 ≤ (N + 1) * (d - 1) := Int.mul_nonneg (by omega) (by omega)
      grind
    omega
/-- a point keeps the cut with a, b at a corner -/
def rk (c p : Pq) (w : Pr) : Prop := lqs (w.1, w.2, (atq w.1 w.2 c).floor) p
instance (c p : Pq) (w : Pr) : Decidable (rk c p w) := by unfold rk; infer_instance
def rkC (p : Pq) (c : Cn) : Prop := ∀ w ∈ bt c.2.1 c.2.2, rk c.1 p w
def rndP (l : List Sd) (p : Pq) : Prop := ∀ c ∈ cs l, rkC p c
section
variable {l2 d eb rb xb : Nat} {p : Pq}
def F2 (xb rb eb : Nat) : Fr := [(3, .ptr xb 0), (4, .ptr rb 0), (5, .ptr eb 0)]
def F3 (xb rb eb y : Nat) : Fr := [(3, .ptr xb 0), (4, .ptr rb 0), (5, .ptr eb 0), (7, .ptr y 0)]
def restE (d eb rb xb : Nat) (p : Pq) : List (Nat × Blk) := [(d, .dfr), (eb, cel [.int .i64 0]), (rb, cel [.bool false]), (xb, cel (pc4 p))]
def outE (l2 d eb rb xb : Nat) (p : Pq) (ls : LoopState) (pe : Option Code) : List (Nat × Blk) := (l2, .loop ls pe 2 51 (F2 xb rb eb)) :: restE d eb rb xb p
def tenC (c : Cn) : List AV := [.int .i64 (fq c.1.1).1, .int .i64 (fq c.1.1).2, .int .i64 (fq c.1.2).1, .int .i64 (fq c.1.2).2, .int .i64 c.2.1.1, .int .i64 c.2.1.2.1, .int .i64 c.2.1.2.2, .int .i64 c.2.2.1, .int .i64 c.2.2.2.1, .int .i64 c.2.2.2.2]
def inE (l3 y l2 d eb rb xb : Nat) (p : Pq) (c : Cn) (ls : LoopState) (pe : Option Code) : List (Nat × Blk) := (l3, .loop ls pe 3 51 (F3 xb rb eb y)) :: (y, cel (tenC c)) :: outE l2 d eb rb xb p .busy none
/-- a round of the inner loop -/
theorem rnd3 {k l3 y : Nat} {H : Hp} {c : Cn} {w : Pr} (cb : Cb H H (inE l3 y l2 d eb rb xb p c .ready none)) (hc : qp c.1) (hp : qp p) (hw : (-8 ≤ w.1 ∧ w.1 ≤ 8) ∧ -8 ≤ w.2 ∧ w.2 ≤ 8) :
    Ok (callv (app (k + 1)) (.yld l3) (argB w) H) fun r H' => (r = .bool true ∧ Cb H H' (inE l3 y l2 d eb rb xb p c .ready none) ∧ rk c.1 p w) ∨ (r = .bool false ∧ Cb H H' (inE l3 y l2 d eb rb xb p c .done (some .ret)) ∧ ¬ rk c.1 p w) := by
  show Ok (ydisp (app k) l3 (argB w) H) _
  unfold ydisp
  have hl : H.get l3 = _ := cb.e (l3, .loop .ready none 3 51 (F3 xb rb eb y)) (.head _)
  rw [hl]
  unfold F3
  have hq := atq_qb (a := w.1) (b := w.2) (p := c.1) (by omega) (by omega) hc
  have hfl := floor_bd2 hq (by decide)
  refine Ok.bind (P := fun r H' => (r = none ∧ Cb H H' (inE l3 y l2 d eb rb xb p c .busy none) ∧ rk c.1 p w) ∨ (r = some .ret ∧ Cb H H' (inE l3 y l2 d eb rb xb p c .busy none) ∧ ¬ rk c.1 p w)) ?_ ?_
  · unfold r17q3
    refine Ok.kbeg cb 0 rfl fun A nA _ cb => Ok.kalo cb fun B gB cb => ?_
    refine Ok.kld cb (.head _) rfl (Ok.kld cb (.head _) rfl (Ok.kld cb (.head _) rfl (Ok.kld cb (.tail _ (.tail _ (.head _))) rfl (Ok.kld cb (.tail _ (.tail _ (.head _))) rfl (Ok.kld cb (.tail _ (.tail _ (.head _))) rfl (Ok.kld cb (.tail _ (.tail _ (.head _))) rfl ?_))))))
    refine Ok.own (r69_q (p := c.1) (by omega) (by omega) hc) fun _ => Ok.own (r68_q hq (by decide) (by decide)) fun _ => ?_
    refine Ok.kst1 cb 0 rfl (by show _ < 3; decide) fun C nC _ cb => ?_
    refine Ok.kld cb (.head _) rfl (Ok.kld cb (.head _) rfl (Ok.kld cb (.head _) rfl ?_))
    refine Ok.kld cb (.tail _ (.tail _ (.tail _ (.tail _ (.tail _ (.tail _ (.tail _ (.head _)))))))) rfl (Ok.kld cb (.tail _ (.tail _ (.tail _ (.tail _ (.tail _ (.tail _ (.tail _ (.head _)))))))) rfl (Ok.kld cb (.tail _ (.tail _ (.tail _ (.tail _ (.tail _ (.tail _ (.tail _ (.head _)))))))) rfl (Ok.kld cb (.tail _ (.tail _ (.tail _ (.tail _ (.tail _ (.tail _ (.tail _ (.head _)))))))) rfl ?_)))
    refine Ok.own (r70_q (p := p) (by omega) (by omega) (by omega) hp) fun _ => ?_
    have hlo : H.n ≤ A.n := by rw [nA]; exact Nat.le_refl _
    refine Ok.ite (fun h => Ok.ret (.inl ⟨rfl, cb.tl rfl hlo, of_decide_eq_true h⟩)) fun h => ?_
    refine Ok.kst1 cb 6 rfl (by show _ < 1; decide) fun D nD _ cb => Ok.kst1 cb 5 rfl (by show _ < 1; decide) fun E nE _ cb => Ok.ret (.inr ⟨rfl, cb.tl rfl hlo, fun q => h (decide_eq_true q)⟩)
  · rintro r H' (⟨rfl, cb, hk⟩ | ⟨rfl, cb, hk⟩)
    · exact Ok.knext cb 0 rfl fun A _ _ cb => .inl ⟨rfl, cb, hk⟩
    · exact Ok.knext cb 0 rfl fun A _ _ cb => .inr ⟨rfl, cb, hk⟩
/-- a round of the outer loop -/
theorem rnd2 {k : Nat} {H : Hp} {l : List Sd} {c : Cn} (cb : Cb H H (outE l2 d eb rb xb p .ready none)) (hs : ∀ s ∈ l, sideP s) (hc : c ∈ cs l) (hp : qp p) :
    Ok (callv (app (k + 3)) (.yld l2) (argC c) H) fun r H' => (r = .bool true ∧ Cb H H' (outE l2 d eb rb xb p .ready none) ∧ rkC p c) ∨ (r = .bool false ∧ Cb H H' (outE l2 d eb rb xb p .done (some .ret)) ∧ ¬ rkC p c) := by
  have hm := cs_mem hc
  have hcq : qp c.1 := by rw [hm.2.2.2.1]; exact meet_qp (hs _ hm.1) (hs _ hm.2.1) hm.2.2.1
  show Ok (ydisp (app (k + 2)) l2 (argC c) H) _
  unfold ydisp
  have hl : H.get l2 = _ := cb.e (l2, .loop .ready none 2 51 (F2 xb rb eb)) (.head _)
  rw [hl]
  unfold F2
  refine Ok.bind (P := fun r H' => (r = none ∧ Cb H H' (outE l2 d eb rb xb p .busy none) ∧ rkC p c) ∨ (r = some .ret ∧ Cb H H' (outE l2 d eb rb xb p .busy none) ∧ ¬ rkC p c)) ?_ ?_
  · unfold r17q2
    refine Ok.kalo cb fun A gA cb => Ok.kbeg cb 1 rfl fun B nB _ cb => ?_
    refine Ok.kld cb (.head _) rfl (Ok.kld cb (.head _) rfl (Ok.kld cb (.head _) rfl (Ok.kld cb (.head _) rfl (Ok.kld cb (.head _) rfl (Ok.kld cb (.head _) rfl (Ok.kld cb (.head _) rfl (Ok.kld cb (.head _) rfl (Ok.kld cb (.head _) rfl (Ok.kld cb (.head _) rfl ?_)))))))))
    have hl2 : B.get l2 = _ := cb.e (l2, .loop .busy none 2 51 (F2 xb rb eb)) (.tail _ (.head _))
    refine Ok.ck (by unfold Hp.isLoop; rw [hl2]) ?_
    have cb3 := cb.push (.loop .ready none 3 51 (F3 xb rb eb H.n))
    have gA1 := gA.1
    have hHB : H.n ≤ B.n := by omega
    show Ok ((callr (app (k + 2)) (.fn 67 [.agg (tenC c)] []) B.n (B.push (.loop .ready none 3 51 (F3 xb rb eb H.n)))).bind _) _
    generalize hC : B.push (.loop .ready none 3 51 (F3 xb rb eb H.n)) = C at *
    have cb3 : Cb H C (inE B.n H.n l2 d eb rb xb p c .ready none) := cb3
    have hnd := cb3.nd
    have Y := mkYd (a := app (k + 1)) (yv := .yld B.n) (arg := argB) (L := bt c.2.1 c.2.2) (ks := [B.n, H.n, l2, d, eb, rb, xb]) (fun _ => inE B.n H.n l2 d eb rb xb p c .ready none) (fun _ => inE B.n H.n l2 d eb rb xb p c .done (some .ret)) (fun _ => rfl) (fun q => ∀ w ∈ q, rk c.1 p w) (fun q => ∃ w ∈ q, ¬ rk c.1 p w) (B := H0) (Hs := C) ⟨Nat.zero_le _, fun b hb => absurd hb (Nat.not_lt_zero _)⟩ (fun _ _ => Nat.zero_le _)
      (fun q x H2 cbq hG hx => by
        refine Ok.mono (rnd3 (k := k) cbq hcq hp (mem_bt.1 hx).1) fun r H' h => ?_
        rcases h with ⟨hr, h1, h2⟩ | ⟨hr, h1, h2⟩
        · refine .inl ⟨hr, h1, fun w hw => ?_⟩
          rcases List.mem_append.1 hw with hw | hw
          · exact hG w hw
          · rw [List.mem_singleton] at hw; subst hw; exact h2
        · exact .inr ⟨hr, h1, x, by simp, h2⟩) (fun _ => rfl)
    refine Ok.bind (P := fun _ H' => (Cb H H' (inE B.n H.n l2 d eb rb xb p c .ready none) ∧ rkC p c) ∨ (Cb H H' (inE B.n H.n l2 d eb rb xb p c .done (some .ret)) ∧ ¬ rkC p c)) ?_ ?_
    · show Ok ((r67 (app (k + 1)) (fq c.1.1).1 (fq c.1.1).2 (fq c.1.2).1 (fq c.1.2).2 c.2.1.1 c.2.1.2.1 c.2.1.2.2 c.2.2.1 c.2.2.2.1 c.2.2.2.2 (.yld B.n) C).map fun p => (AV.tup [], p.2)) _
      have h1 := r67_ok (a := app (k + 1)) (x1 := (fq c.1.1).1) (x2 := (fq c.1.1).2) (x3 := (fq c.1.2).1) (x4 := (fq c.1.2).2) Y (hs _ hm.1) (hs _ hm.2.1) (H := C) (P := fun _ => False) ⟨Cb.start cb3.e hnd, fun _ h => (by cases h), fun _ h => h.elim⟩
      obtain ⟨r, H', e, h⟩ := h1
      rw [e]
      refine Ok.ret ?_
      rcases h with ⟨h1, h2, _⟩ | ⟨q, hq, h1, w, hw, h2⟩
      · exact .inl ⟨cb3.trans h1 rfl, h2⟩
      · exact .inr ⟨cb3.trans h1 rfl, fun hk => h2 (hk w (hq.subset hw))⟩
    · rintro r D (⟨cb, hk⟩ | ⟨cb, hk⟩)
      · refine Ok.kend cb 0 rfl (.inl rfl) fun E _ _ cb => Ok.pos rfl (Ok.ret (.inl ⟨rfl, ?_, hk⟩))
        exact (cb.tl rfl hHB).tl rfl (Nat.le_refl _)
      · refine Ok.kend cb 0 rfl (.inr rfl) fun E _ _ cb => Ok.neg (by simp [jmp]) (Ok.pos rfl (Ok.ret (.inr ⟨rfl, ?_, hk⟩)))
        exact (cb.tl rfl hHB).tl rfl (Nat.le_refl _)
  · rintro r H' (⟨rfl, cb, hk⟩ | ⟨rfl, cb, hk⟩)
    · exact Ok.knext cb 0 rfl fun A _ _ cb => .inl ⟨rfl, cb, hk⟩
    · exact Ok.knext cb 0 rfl fun A _ _ cb => .inr ⟨rfl, cb, hk⟩
end
end Go.Lt.P2

namespace Go.Lt.P2
open Go Go.Lt Go.Proofs
/-- a point as it is given -/
abbrev Pa := Pr × Pr
def ptP (x : Pa) : Prop := frP x.1 ∧ frP x.2
instance (x : Pa) : Decidable (ptP x) := by unfold ptP; infer_instance
def paq (x : Pa) : Pq := (dv x.1.1 x.1.2, dv x.2.1 x.2.2)
theorem paq_qp {x : Pa} (h : ptP x) : qp (paq x) := ⟨frP_qb h.1, frP_qb h.2⟩
theorem paq_pc {x : Pa} (h : ptP x) : pc4 (paq x) = [.int .i64 x.1.1, .int .i64 x.1.2, .int .i64 x.2.1, .int .i64 x.2.2] := by
  unfold pc4 paq
  dsimp only
  rw [frP_fq h.1, frP_fq h.2]
/-- InRound -/
theorem r17_ok {k : Nat} {H : Hp} {v : Sl} {l : List Sd} {x : Pa} (hv : SL H v l) (hb : l.length ≤ 1000) : Ok (r17 (appA (k + 4)) v x.1.1 x.1.2 x.2.1 x.2.2 H) fun r H' => Gr H H' ∧ (plateP l ∧ ptP x → (r.1 = true ↔ inP l (paq x) ∧ rndP l (paq x)) ∧ r.2 = 0) ∧ (¬ (plateP l ∧ ptP x) → r = (false, 2)) := by
  unfold r17
  refine Ok.lt ?_
  have c0 : Cb H H [] := .start (fun _ h => by cases h) .nil
  have c := ((c0.push (cel [.int .i64 x.1.1, .int .i64 x.1.2, .int .i64 x.2.1, .int .i64 x.2.2])).push (cel [.bool false])).push (cel [.int .i64 0])
  have gA := ((Gr.push H (cel [.int .i64 x.1.1, .int .i64 x.1.2, .int .i64 x.2.1, .int .i64 x.2.2])).trans (Gr.push _ (cel [.bool false]))).trans (Gr.push _ (cel [.int .i64 0]))
  simp only [Hp.n_push] at c ⊢
  generalize ((H.push (cel [.int .i64 x.1.1, .int .i64 x.1.2, .int .i64 x.2.1, .int .i64 x.2.2])).push (cel [.bool false])).push (cel [.int .i64 0]) = A at *
  have toG : ∀ {D : Hp} {E : List (Nat × Blk)}, Cb H D E → (∀ p ∈ E, H.n ≤ p.1) → Gr H D := fun {D E} cb h => ⟨cb.n, fun b hb => cb.g b hb fun p hp e => by have := h p hp; omega⟩
  have bad : ∀ {B : Hp}, ¬ (plateP l ∧ ptP x) → Cb H B [(H.n + 1 + 1, cel [.int .i64 0]), (H.n + 1, cel [.bool false]), (H.n, cel [.int .i64 x.1.1, .int .i64 x.1.2, .int .i64 x.2.1, .int .i64 x.2.2])] → Ok (r17_j0 (appA (k + 4)) H.n (H.n + 1) (H.n + 1 + 1) v true B) fun r H' => Gr H H' ∧ (plateP l ∧ ptP x → (r.1 = true ↔ inP l (paq x) ∧ rndP l (paq x)) ∧ r.2 = 0) ∧ (¬ (plateP l ∧ ptP x) → r = (false, 2)) := fun {B} hn c => by
    unfold r17_j0
    refine Ok.pos rfl (Ok.kst1 c 1 rfl (by show _ < 1; decide) fun D nD _ c => Ok.kst1 c 0 rfl (by show _ < 1; decide) fun E nE _ c => Ok.kldB c (.tail _ (.head _)) rfl (Ok.kld c (.head _) rfl (Ok.ret ⟨toG c ?_, fun h => absurd h hn, fun _ => rfl⟩)))
    simp only [List.set, List.mem_cons, List.not_mem_nil, or_false]
    rintro p (rfl | rfl | rfl) <;> dsimp only <;> omega
  refine Ok.bind (r63_ok (k := k + 3) (hv.gr gA) hb) fun b B ⟨gB, hbb⟩ => ?_
  subst hbb
  have c := c.gr gB
  have gHB := gA.trans gB
  by_cases hpl : plateP l
  case neg =>
    rw [decide_eq_false hpl]
    exact Ok.neg (by simp) (bad (fun q => hpl q.1) c)
  rw [decide_eq_true hpl]
  refine Ok.pos rfl (Ok.kld c (.tail _ (.tail _ (.head _))) rfl (Ok.kld c (.tail _ (.tail _ (.head _))) rfl (Ok.own (r64_ok (f := x.1)) fun _ => ?_)))
  by_cases h1 : frP x.1
  case neg =>
    rw [decide_eq_false h1]
    exact Ok.neg (by simp) (bad (fun q => h1 q.2.1) c)
  rw [decide_eq_true h1]
  refine Ok.pos rfl (Ok.kld c (.tail _ (.tail _ (.head _))) rfl (Ok.kld c (.tail _ (.tail _ (.head _))) rfl (Ok.own (r64_ok (f := x.2)) fun _ => ?_)))
  by_cases h2 : frP x.2
  case neg =>
    rw [decide_eq_false h2]
    exact bad (fun q => h2 q.2.2) c
  rw [decide_eq_true h2]
  have hx : ptP x := ⟨h1, h2⟩
  have hq := paq_qp hx
  have epc := paq_pc hx
  rw [← epc] at c
  have tt : plateP l ∧ ptP x := ⟨hpl, hx⟩
  unfold r17_j0
  refine Ok.neg (by simp) (Ok.kld c (.tail _ (.tail _ (.head _))) rfl (Ok.kld c (.tail _ (.tail _ (.head _))) rfl (Ok.kld c (.tail _ (.tail _ (.head _))) rfl (Ok.kld c (.tail _ (.tail _ (.head _))) rfl ?_))))
  refine Ok.bind (r65_ok (a95A (k + 3)) (p := paq x) (hv.gr gHB) hb hpl.2.1 hq) fun r D ⟨gD, hr⟩ => ?_
  subst hr
  have c := c.gr gD
  have gHD := gHB.trans gD
  by_cases hin : inP l (paq x)
  case neg =>
    rw [decide_eq_false hin]
    refine Ok.neg (by simp) (Ok.kst1 c 1 rfl (by show _ < 1; decide) fun E nE _ c => Ok.kst1 c 0 rfl (by show _ < 1; decide) fun F nF _ c => Ok.kldB c (.tail _ (.head _)) rfl (Ok.kld c (.head _) rfl (Ok.ret ⟨toG c ?_, fun _ => ⟨⟨fun h => (by cases h), fun h => absurd h.1 hin⟩, rfl⟩, fun h => absurd tt h⟩)))
    simp only [List.set, List.mem_cons, List.not_mem_nil, or_false]
    rintro p (rfl | rfl | rfl) <;> dsimp only <;> omega
  rw [decide_eq_true hin]
  refine Ok.pos rfl ?_
  have c := (c.push .dfr).push (.loop .ready none 2 51 (F2 H.n (H.n + 1) (H.n + 1 + 1)))
  have nHD := gHD.1
  have gE := (Gr.push D .dfr).trans (Gr.push _ (.loop .ready none 2 51 (F2 H.n (H.n + 1) (H.n + 1 + 1))))
  show Ok ((callr (appA (k + 4)) (.fn 66 [.sl v] []) (D.n + 1) ((D.push .dfr).push (.loop .ready none 2 51 (F2 H.n (H.n + 1) (H.n + 1 + 1))))).bind _) _
  simp only [Hp.n_push] at c ⊢
  generalize (D.push .dfr).push (.loop .ready none 2 51 (F2 H.n (H.n + 1) (H.n + 1 + 1))) = E at *
  have c : Cb H E (outE (D.n + 1) D.n (H.n + 1 + 1) (H.n + 1) H.n (paq x) .ready none) := c
  have hkeys : ∀ p ∈ outE (D.n + 1) D.n (H.n + 1 + 1) (H.n + 1) H.n (paq x) .ready none, H.n ≤ p.1 := by
    unfold outE restE
    simp only [List.mem_cons, List.not_mem_nil, or_false]
    rintro p (rfl | rfl | rfl | rfl | rfl) <;> dsimp only <;> omega
  have gHE := toG c hkeys
  have hks : ∀ kk ∈ [D.n + 1, D.n, H.n + 1 + 1, H.n + 1, H.n], H.n ≤ kk := by
    simp only [List.mem_cons, List.not_mem_nil, or_false]
    rintro p (rfl | rfl | rfl | rfl | rfl) <;> omega
  have Y := mkYd (a := app (k + 3)) (yv := .yld (D.n + 1)) (arg := argC) (L := cs l) (ks := [D.n + 1, D.n, H.n + 1 + 1, H.n + 1, H.n]) (fun _ => outE (D.n + 1) D.n (H.n + 1 + 1) (H.n + 1) H.n (paq x) .ready none) (fun _ => outE (D.n + 1) D.n (H.n + 1 + 1) (H.n + 1) H.n (paq x) .done (some .ret)) (fun _ => rfl) (fun q => ∀ w ∈ q, rkC (paq x) w) (fun q => ∃ w ∈ q, ¬ rkC (paq x) w) (B := H) (Hs := E) gHE hks
    (fun q y H2 cbq hG hy => by
      refine Ok.mono (rnd2 (k := k) cbq hpl.2.1 hy hq) fun r H' h => ?_
      rcases h with ⟨hr, h1, h2⟩ | ⟨hr, h1, h2⟩
      · refine .inl ⟨hr, h1, fun w hw => ?_⟩
        rcases List.mem_append.1 hw with hw | hw
        · exact hG w hw
        · rw [List.mem_singleton] at hw; subst hw; exact h2
      · exact .inr ⟨hr, h1, y, by simp, h2⟩) (fun _ => rfl)
  refine Ok.bind (P := fun _ H' => (Cb H H' (outE (D.n + 1) D.n (H.n + 1 + 1) (H.n + 1) H.n (paq x) .ready none) ∧ rndP l (paq x)) ∨ (Cb H H' (outE (D.n + 1) D.n (H.n + 1 + 1) (H.n + 1) H.n (paq x) .done (some .ret)) ∧ ¬ rndP l (paq x))) ?_ ?_
  · show Ok ((r66 (app (k + 3)) v (.yld (D.n + 1)) E).map fun p => (AV.tup [], p.2)) _
    have h1 := r66_ok (a := app (k + 3)) (a95 (k + 2)) Y hv hb hpl.2.1 (H := E) (P := fun _ => False) ⟨Cb.start c.e c.nd, fun _ h => (by cases h), fun _ h => h.elim⟩
    obtain ⟨r, H', e, h⟩ := h1
    rw [e]
    refine Ok.ret ?_
    rcases h with ⟨h1, h2, _⟩ | ⟨q, hq, h1, w, hw, h2⟩
    · exact .inl ⟨c.trans h1 rfl, h2⟩
    · exact .inr ⟨c.trans h1 rfl, fun hk => h2 (hk w (hq.subset hw))⟩
  · rintro r G (⟨cb, hk⟩ | ⟨cb, hk⟩)
    · refine Ok.kend cb 0 rfl (.inl rfl) fun I nI _ cb => Ok.pos rfl ?_
      refine Ok.kst1 cb 3 rfl (by show _ < 1; decide) fun J nJ _ cb => Ok.kst1 cb 2 rfl (by show _ < 1; decide) fun L nL _ cb => Ok.kldB cb (.tail _ (.tail _ (.tail _ (.head _)))) rfl (Ok.kld cb (.tail _ (.tail _ (.head _))) rfl (Ok.kdfr cb (.tail _ (.head _)) (Ok.ret ⟨toG (cb.kill 1 rfl) ?_, fun _ => ⟨⟨fun _ => ⟨hin, hk⟩, fun _ => rfl⟩, rfl⟩, fun h => absurd tt h⟩)))
      simp only [outE, restE, List.set, List.mem_cons, List.not_mem_nil, or_false]
      rintro p (rfl | rfl | rfl | rfl | rfl) <;> dsimp only <;> omega
    · refine Ok.kend cb 0 rfl (.inr rfl) fun I nI _ cb => Ok.neg (by simp [jmp]) (Ok.pos rfl ?_)
      refine Ok.kldB cb (.tail _ (.tail _ (.tail _ (.head _)))) rfl (Ok.kld cb (.tail _ (.tail _ (.head _))) rfl (Ok.kdfr cb (.tail _ (.head _)) (Ok.ret ⟨toG (cb.kill 1 rfl) ?_, fun _ => ⟨⟨fun h => (by cases h), fun h => absurd h.2 hk⟩, rfl⟩, fun h => absurd tt h⟩)))
      simp only [outE, restE, List.set, List.mem_cons, List.not_mem_nil, or_false]
      rintro p (rfl | rfl | rfl | rfl | rfl) <;> dsimp only <;> omega
end Go.Lt.P2

namespace Go.Lt.P2
open Go Go.Lt Go.Proofs
/-! ### what is between two sides says no more than they -/
theorem btw_le {s t : Sd} {a b : Int} (h0 : crI s t ≠ 0) (hb : btw s t a b) {p : Pq} (hs : lqs s p) (ht : lqs t p) : atq a b p ≤ atq a b (meetq s t) := by
  have on := meet_on h0
  unfold lqs atq at *
  generalize meetq s t = c at *
  have e : ((crI s t : Int) : Rat) = (s.1 : Rat) * t.2.1 - (s.2.1 : Rat) * t.1 := by unfold crI; push_cast; rfl
  have eu : ((a * t.2.1 - b * t.1 : Int) : Rat) = (a : Rat) * t.2.1 - (b : Rat) * t.1 := by push_cast; rfl
  have ev : ((s.1 * b - s.2.1 * a : Int) : Rat) = (s.1 : Rat) * b - (s.2.1 : Rat) * a := by push_cast; rfl
  have key : ∀ (D u v : Rat), 0 < D → 0 ≤ u → 0 ≤ v → D * ((a : Rat)) = u * s.1 + v * t.1 → D * (b : Rat) = u * s.2.1 + v * t.2.1 → (a : Rat) * p.1 + (b : Rat) * p.2 ≤ (a : Rat) * c.1 + (b : Rat) * c.2 := fun D u v hD hu hv ea eb => by
    have q1 := Rat.mul_nonneg hu (show 0 ≤ (s.2.2 : Rat) - ((s.1 : Rat) * p.1 + (s.2.1 : Rat) * p.2) by grind)
    have q2 := Rat.mul_nonneg hv (show 0 ≤ (t.2.2 : Rat) - ((t.1 : Rat) * p.1 + (t.2.1 : Rat) * p.2) by grind)
    have f : ∀ z : Pq, D * ((a : Rat) * z.1 + (b : Rat) * z.2) = u * ((s.1 : Rat) * z.1 + (s.2.1 : Rat) * z.2) + v * ((t.1 : Rat) * z.1 + (t.2.1 : Rat) * z.2) := fun z => by
      rw [show D * ((a : Rat) * z.1 + (b : Rat) * z.2) = (D * (a : Rat)) * z.1 + (D * (b : Rat)) * z.2 by grind, ea, eb]
      grind
    have q3 : D * ((a : Rat) * p.1 + (b : Rat) * p.2) ≤ D * ((a : Rat) * c.1 + (b : Rat) * c.2) := by
      rw [f p, f c, on.1, on.2]
      grind
    exact Rat.le_of_mul_le_mul_left q3 hD
  unfold btw at hb
  split at hb
  · rename_i hneg
    have hD : (0 : Rat) < ((-crI s t : Int) : Rat) := castLt.2 (show (0 : Int) < -crI s t by omega)
    have hu : (0 : Rat) ≤ ((-(a * t.2.1 - b * t.1) : Int) : Rat) := castLe.2 hb.1.1
    have hv : (0 : Rat) ≤ ((-(s.1 * b - s.2.1 * a) : Int) : Rat) := castLe.2 hb.1.2
    rw [Rat.intCast_neg] at hD hu hv
    rw [e] at hD
    rw [eu] at hu
    rw [ev] at hv
    exact key _ _ _ hD hu hv (by grind) (by grind)
  · rename_i hneg
    have hD : (0 : Rat) < ((crI s t : Int) : Rat) := castLt.2 (show (0 : Int) < crI s t by omega)
    have hu : (0 : Rat) ≤ ((a * t.2.1 - b * t.1 : Int) : Rat) := castLe.2 hb.1.1
    have hv : (0 : Rat) ≤ ((s.1 * b - s.2.1 * a : Int) : Rat) := castLe.2 hb.1.2
    rw [e] at hD
    rw [eu] at hu
    rw [ev] at hv
    exact key _ _ _ hD hu hv (by grind) (by grind)
/-- a whole point of the plate is one of its round -/
theorem whole_rnd {l : List Sd} {x y : Int} (hin : inP l ((x : Rat), (y : Rat))) : rndP l ((x : Rat), (y : Rat)) := fun c hc w hw => by
  have hm := cs_mem hc
  have hb := (mem_bt.1 hw).2
  have h1 := btw_le hm.2.2.1 hb (hin _ hm.1) (hin _ hm.2.1)
  rw [← hm.2.2.2.1] at h1
  unfold rk
  rw [lqs_int]
  dsimp only
  refine Rat.le_floor_iff.2 ?_
  rw [Rat.intCast_add, Rat.intCast_mul, Rat.intCast_mul]
  exact h1
end Go.Lt.P2

namespace Go.Lt.P2
open Go Go.Lt Go.Proofs
/-! ### points in order -/
instance elPq : El Pq := ⟨4, pc4, fun _ => rfl, fun _ => rfl, by decide⟩
def ptlt (p q : Pq) : Prop := p.1 < q.1 ∨ (p.1 = q.1 ∧ p.2 < q.2)
instance (p q : Pq) : Decidable (ptlt p q) := by unfold ptlt; infer_instance
theorem ptlt_irr (p : Pq) : ¬ ptlt p p := by unfold ptlt; grind
theorem ptlt_trans {p q r : Pq} (h : ptlt p q) (k : ptlt q r) : ptlt p r := by unfold ptlt at *; grind
theorem ptlt_tri {p q : Pq} (h : ¬ ptlt p q) (k : p ≠ q) : ptlt q p := by
  unfold ptlt at *
  have : ¬ (p.1 = q.1 ∧ p.2 = q.2) := fun h => k (Prod.ext h.1 h.2)
  grind
def wth (p : Pq) : List Pq → List Pq
  | [] => [p]
  | q :: l => if ptlt q p then q :: wth p l else if q = p then q :: l else p :: q :: l
theorem mem_wth {p x : Pq} : ∀ {l : List Pq}, x ∈ wth p l ↔ x = p ∨ x ∈ l
  | [] => by simp [wth]
  | q :: l => by
    rw [wth]
    split
    · rw [List.mem_cons, mem_wth, List.mem_cons]; grind
    · split
      · rename_i h; subst h; simp only [List.mem_cons]; grind
      · simp only [List.mem_cons]
theorem wth_srt {p : Pq} : ∀ {l : List Pq}, l.Pairwise ptlt → (wth p l).Pairwise ptlt
  | [], _ => List.pairwise_singleton _ _
  | q :: l, h => by
    have h0 := h
    rw [List.pairwise_cons] at h
    rw [wth]
    split
    · rename_i h1
      refine List.pairwise_cons.2 ⟨fun x hx => ?_, wth_srt h.2⟩
      rcases mem_wth.1 hx with rfl | hx
      · exact h1
      · exact h.1 x hx
    · rename_i h1
      split
      · exact h0
      · rename_i h2
        have h3 := ptlt_tri h1 h2
        refine List.pairwise_cons.2 ⟨fun x hx => ?_, h0⟩
        rcases List.mem_cons.1 hx with rfl | hx
        · exact h3
        · exact ptlt_trans h3 (h.1 x hx)
theorem srt_uniq : ∀ {l l' : List Pq}, l.Pairwise ptlt → l'.Pairwise ptlt → (∀ x, x ∈ l ↔ x ∈ l') → l = l'
  | [], [], _, _, _ => rfl
  | [], y :: l', _, _, h => absurd ((h y).2 (.head _)) (by simp)
  | x :: l, [], _, _, h => absurd ((h x).1 (.head _)) (by simp)
  | x :: l, y :: l', h1, h2, h => by
    rw [List.pairwise_cons] at h1 h2
    have e : x = y := by
      rcases List.mem_cons.1 ((h x).1 (.head _)) with e | hx
      · exact e
      · rcases List.mem_cons.1 ((h y).2 (.head _)) with e | hy
        · exact e.symm
        · exact absurd (ptlt_trans (h1.1 y hy) (h2.1 x hx)) (ptlt_irr x)
    subst e
    congr 1
    refine srt_uniq h1.2 h2.2 fun z => ?_
    constructor <;> intro hz
    · rcases List.mem_cons.1 ((h z).1 (.tail _ hz)) with rfl | k
      · exact absurd (h1.1 z hz) (ptlt_irr z)
      · exact k
    · rcases List.mem_cons.1 ((h z).2 (.tail _ hz)) with rfl | k
      · exact absurd (h2.1 z hz) (ptlt_irr z)
      · exact k
end Go.Lt.P2

namespace Go.Lt.P2
open Go Go.Lt Go.Proofs
/-- the corners as the reference makes them -/
def rcs (q : List Cn) : List Pq := q.foldl (fun acc c => wth c.1 acc) []
theorem rcs_srt (q : List Cn) : (rcs q).Pairwise ptlt := by
  unfold rcs
  have key : ∀ (q : List Cn) (acc : List Pq), acc.Pairwise ptlt → (q.foldl (fun acc c => wth c.1 acc) acc).Pairwise ptlt := by
    intro q
    induction q with
    | nil => intro acc h; exact h
    | cons c q ih => intro acc h; exact ih _ (wth_srt h)
  exact key q [] .nil
theorem mem_rcs {q : List Cn} {p : Pq} : p ∈ rcs q ↔ ∃ c ∈ q, c.1 = p := by
  unfold rcs
  have key : ∀ (q : List Cn) (acc : List Pq), p ∈ q.foldl (fun acc c => wth c.1 acc) acc ↔ p ∈ acc ∨ ∃ c ∈ q, c.1 = p := by
    intro q
    induction q with
    | nil => intro acc; simp
    | cons c q ih =>
      intro acc
      rw [List.foldl_cons, ih, mem_wth]
      constructor
      · rintro ((rfl | h) | ⟨d, hd, h⟩)
        · exact .inr ⟨c, .head _, rfl⟩
        · exact .inl h
        · exact .inr ⟨d, .tail _ hd, h⟩
      · rintro (h | ⟨d, hd, h⟩)
        · exact .inl (.inr h)
        · rcases List.mem_cons.1 hd with rfl | hd
          · exact .inl (.inl h.symm)
          · exact .inr ⟨d, hd, h⟩
  rw [key]
  simp
theorem wth_len {p : Pq} : ∀ {l : List Pq}, (wth p l).length ≤ l.length + 1
  | [] => by simp [wth]
  | q :: l => by
    rw [wth]
    have := wth_len (p := p) (l := l)
    split
    · simp only [List.length_cons]; omega
    · split
      · simp
      · simp
theorem rcs_len (q : List Cn) : (rcs q).length ≤ q.length := by
  unfold rcs
  have key : ∀ (q : List Cn) (acc : List Pq), (q.foldl (fun acc c => wth c.1 acc) acc).length ≤ acc.length + q.length := by
    intro q
    induction q with
    | nil => intro acc; simp
    | cons c q ih =>
      intro acc
      rw [List.foldl_cons, List.length_cons]
      have := ih (wth c.1 acc)
      have := wth_len (p := c.1) (l := acc)
      omega
  have := key q []
  simpa using this
theorem rcs_snoc (q : List Cn) (c : Cn) : rcs (q ++ [c]) = wth c.1 (rcs q) := by unfold rcs; rw [List.foldl_append]; rfl
theorem cno_len (l : List Sd) (i : Nat) : (cno l i).length ≤ i := by
  unfold cno
  exact Nat.le_trans (List.length_filterMap_le _ _) (by rw [List.length_take]; omega)
theorem flatm_len {β : Type} {f : Nat → List β} {k : Nat} : ∀ {l : List Nat}, (∀ x ∈ l, (f x).length ≤ k) → (l.flatMap f).length ≤ l.length * k
  | [], _ => by simp
  | x :: l, h => by
    rw [List.flatMap_cons, List.length_append, List.length_cons, Nat.add_mul, Nat.one_mul]
    have a := h x (.head _)
    have b := flatm_len (l := l) fun y hy => h y (.tail _ hy)
    omega
theorem lqs_dv {u : Sd} {x y d : Int} (hd : 0 < d) : lqs u (dv x d, dv y d) ↔ u.1 * x + u.2.1 * y ≤ u.2.2 * d := by
  have h0 := cast_pos hd
  have e : atq u.1 u.2.1 (dv x d, dv y d) = dv (u.1 * x + u.2.1 * y) d := by
    unfold atq dv
    push_cast
    grind
  unfold lqs
  rw [e, ← dv_int, dv_le_iff hd (by decide), Int.mul_one]
theorem rcs_qp {l : List Sd} {q : List Cn} (hs : ∀ s ∈ l, sideP s) (h : ∀ c ∈ q, c ∈ cs l) : ∀ p ∈ rcs q, qp p := fun p hp => by
  obtain ⟨c, hc, rfl⟩ := mem_rcs.1 hp
  have k := cs_mem (h c hc)
  rw [k.2.2.2.1]
  exact meet_qp (hs _ k.1) (hs _ k.2.1) k.2.2.1
theorem cs_len {l : List Sd} (hb : l.length ≤ 1000) : (cs l).length ≤ 1000000 := by
  unfold cs
  have := flatm_len (f := cno l) (l := List.range l.length) (k := l.length) fun i hi => Nat.le_trans (cno_len l i) (by rw [List.mem_range] at hi; omega)
  rw [List.length_range] at this
  have h2 := Nat.mul_le_mul hb hb
  omega
theorem pre_cs {l : List Sd} {i : Nat} (h : i < l.length) : (List.range i).flatMap (cno l) ++ cno l i <+: cs l := by
  rw [← range_succ_flatMap]
  unfold cs
  have : l.length = (i + 1) + (l.length - (i + 1)) := by omega
  rw [this, List.range_add (n := i + 1), List.flatMap_append]
  exact List.prefix_append _ _
end Go.Lt.P2

namespace Go.Lt.P2
open Go Go.Lt Go.Proofs
/-! ### greatest values -/
def isMxQ (f : Pq → Rat) (l : List Pq) (m : Rat) : Prop := (∃ p ∈ l, f p = m) ∧ ∀ p ∈ l, f p ≤ m
theorem isMxQ.uniq {f : Pq → Rat} {l : List Pq} {a b : Rat} (h : isMxQ f l a) (k : isMxQ f l b) : a = b := by
  obtain ⟨⟨p, hp, e⟩, h2⟩ := h
  obtain ⟨⟨q, hq, e'⟩, k2⟩ := k
  have := h2 q hq; have := k2 p hp; grind
def isMxI (f : Pr → Int) (l : List Pr) (m : Int) : Prop := (∃ p ∈ l, f p = m) ∧ ∀ p ∈ l, f p ≤ m
theorem isMxI.uniq {f : Pr → Int} {l : List Pr} {a b : Int} (h : isMxI f l a) (k : isMxI f l b) : a = b := by
  obtain ⟨⟨p, hp, e⟩, h2⟩ := h
  obtain ⟨⟨q, hq, e'⟩, k2⟩ := k
  have := h2 q hq; have := k2 p hp; omega
def near9 (a b : Int) : Prop := (-9 ≤ a ∧ a ≤ 9) ∧ -9 ≤ b ∧ b ≤ 9
instance (a b : Int) : Decidable (near9 a b) := by unfold near9; infer_instance
theorem cmp_gt {p q : Rat} : (0 < cmpq p q) ↔ q < p := by
  unfold cmpq
  by_cases h : p < q
  · rw [if_pos h]; constructor
    · intro k; exact absurd k (by decide)
    · intro k; grind
  · rw [if_neg h]
    by_cases k : q < p
    · rw [if_pos k]; simp [k]
    · rw [if_neg k]; simp [k]
/-- a slice with something in it lies in the heap -/
theorem SL.blt {T : Type} [El T] {H : Hp} {v : Sl} {l : List T} (h : SL H v l) (hne : l ≠ []) : v.b < H.n := by
  have hl := List.length_pos_iff.2 hne
  have hlen := h.len
  have hz := El.pos (T := T)
  have h2 : 0 < v.len * El.sz T := Nat.mul_pos (by omega) hz
  have hd := h.lds
  obtain ⟨n, hn⟩ : ∃ n, v.len * El.sz T = n + 1 := ⟨v.len * El.sz T - 1, by omega⟩
  rw [hn] at hd
  unfold Hp.lds at hd
  cases hld : H.ld v.b v.o with
  | none => rw [hld] at hd; simp at hd
  | some x =>
    unfold Hp.ld at hld
    cases hg : H.get v.b with
    | none => rw [hg] at hld; simp at hld
    | some k => exact Hp.get_lt hg
end Go.Lt.P2

namespace Go.Lt.P2
open Go Go.Lt Go.Proofs
/-! ### every whole arrow is a sum of arrows between two sides -/
theorem ex_maxC {l : List Sd} (hne : cs l ≠ []) (a b : Int) : ∃ c ∈ cs l, ∀ d ∈ cs l, atq a b d.1 ≤ atq a b c.1 := by
  obtain ⟨c, hc, h⟩ := ex_min (fun c : Cn => -(atq a b c.1)) (cs l) hne
  exact ⟨c, hc, fun d hd => by have := h d hd; grind⟩
theorem dt_on {t : Sd} {z : Pq} : dt t z = atq t.1 t.2.1 z := rfl
/-- at a best corner: what leads on leads over a side that is reached there -/
theorem farkas {l : List Sd} (hp : plateP l) {a b : Int} {m : Pq} (hm : inP l m) (hmax : ∀ d ∈ cs l, atq a b d.1 ≤ atq a b m) {d : Pq} (hd : 0 < (a : Rat) * d.1 + (b : Rat) * d.2) : ∃ t ∈ l, on t m ∧ 0 < dt t d := by
  have hd0 : ¬ (d.1 = 0 ∧ d.2 = 0) := by
    rintro ⟨h1, h2⟩
    rw [h1, h2] at hd
    grind
  obtain ⟨s, hs, hin, t, ht, hg, he⟩ := shoot hp hm hd0
  obtain ⟨c, hc, hle⟩ := lp hp hin a b
  have h2 := hmax c hc
  have h3 : s * ((a : Rat) * d.1 + (b : Rat) * d.2) ≤ 0 := by
    unfold atq at hle h2
    dsimp only at hle
    grind
  have hs0 : s = 0 := by
    refine Classical.byContradiction fun q => ?_
    have := Rat.mul_pos (show 0 < s by grind) hd
    grind
  subst hs0
  refine ⟨t, ht, ?_, hg⟩
  unfold on
  rw [← he]
  unfold dt atq
  dsimp only
  grind
/-- crosses of a whole arrow with a side -/
def cr (a b : Int) (t : Sd) : Int := a * t.2.1 - b * t.1
theorem crsum (s t : Sd) (a b : Int) : crI s t * a = cr a b t * s.1 + -(cr a b s) * t.1 ∧ crI s t * b = cr a b t * s.2.1 + -(cr a b s) * t.2.1 := by
  unfold crI cr
  constructor <;> grind
theorem divc (x : Rat) {B C : Rat} (h : 0 < B) : x / B * (B * C) = x * C := by
  have : B ≠ 0 := by grind
  have e : x / B * B = x := by grind
  rw [← Rat.mul_assoc, e]
/-- two sides reached at a best corner, with the arrow between them -/
theorem cone {l : List Sd} (hp : plateP l) (hne : cs l ≠ []) {a b : Int} (hw : ¬ (a = 0 ∧ b = 0)) : ∃ m, inP l m ∧ (∀ d ∈ cs l, atq a b d.1 ≤ atq a b m) ∧ ∃ s ∈ l, ∃ t ∈ l, on s m ∧ on t m ∧ 0 < crI s t ∧ 0 ≤ cr a b t ∧ cr a b s ≤ 0 := by
  obtain ⟨c0, hc0, hmax⟩ := ex_maxC hne a b
  have hc := cs_mem hc0
  have m0 := meet_on hc.2.2.1
  rw [← hc.2.2.2.1] at m0
  have hm := hc.2.2.2.2
  generalize c0.1 = m at *
  refine ⟨m, hm, hmax, ?_⟩
  have sq : 0 < (a : Rat) * a + (b : Rat) * b := by
    have h3 : 0 < a * a + b * b := by
      have x1 := sq_nn a
      have x2 := sq_nn b
      by_cases ha : a = 0
      · have := sq_pos (x := b) (fun q => hw ⟨ha, q⟩); omega
      · have := sq_pos ha; omega
    have := castLt.2 h3
    rw [Rat.intCast_add, Rat.intCast_mul, Rat.intCast_mul] at this
    exact this
  have castcr : ∀ t : Sd, ((cr a b t : Int) : Rat) = (a : Rat) * t.2.1 - (b : Rat) * t.1 := fun t => by unfold cr; push_cast; rfl
  obtain ⟨t0, ht0, on0, hg0⟩ := farkas hp hm hmax (d := ((a : Rat), (b : Rat))) sq
  -- a side that leads the same way
  by_cases hpar : ∃ t ∈ l, on t m ∧ 0 < dt t ((a : Rat), (b : Rat)) ∧ cr a b t = 0
  · obtain ⟨t, ht, hon, hg, h0⟩ := hpar
    have hts := (hp.2.1 t ht).2.2.1
    -- a partner
    have hpart : ∃ u ∈ l, on u m ∧ crI t u ≠ 0 := by
      by_cases h1 : crI t c0.2.1 = 0
      · refine ⟨c0.2.2, hc.2.1, m0.2, fun h2 => ?_⟩
        have hn := hc.2.2.1
        unfold crI at h1 h2 hn
        refine hn ?_
        by_cases z : t.1 = 0
        · have z2 : t.2.1 ≠ 0 := fun q => hts ⟨z, q⟩
          rw [z] at h1 h2
          have e1 : c0.2.1.1 = 0 := by
            have : t.2.1 * c0.2.1.1 = 0 := by omega
            rcases Int.mul_eq_zero.1 this with q | q
            · exact absurd q z2
            · exact q
          have e2 : c0.2.2.1 = 0 := by
            have : t.2.1 * c0.2.2.1 = 0 := by omega
            rcases Int.mul_eq_zero.1 this with q | q
            · exact absurd q z2
            · exact q
          rw [e1, e2]; simp
        · have : t.1 * (c0.2.1.1 * c0.2.2.2.1 - c0.2.1.2.1 * c0.2.2.1) = 0 := by grind
          rcases Int.mul_eq_zero.1 this with q | q
          · exact absurd q z
          · exact q
      · exact ⟨c0.2.1, hc.1, m0.1, h1⟩
    obtain ⟨u, hu, onu, hcu⟩ := hpart
    have e := crsum t u a b
    have hk : 0 < dt t ((a : Rat), (b : Rat)) := hg
    -- the sign of cr a b u is that of crI t u
    have hid : ((cr a b u : Int) : Rat) * ((t.1 : Rat) * t.1 + (t.2.1 : Rat) * t.2.1) = dt t ((a : Rat), (b : Rat)) * ((crI t u : Int) : Rat) := by
      rw [castcr, crI_rat]
      have hz := castcr t
      rw [h0] at hz
      unfold dt
      dsimp only
      have hz' : (a : Rat) * t.2.1 - (b : Rat) * t.1 = 0 := by rw [← hz]; rfl
      grind
    have hpos : 0 < (t.1 : Rat) * t.1 + (t.2.1 : Rat) * t.2.1 := by
      have h3 : 0 < t.1 * t.1 + t.2.1 * t.2.1 := by
        have x1 := sq_nn t.1
        have x2 := sq_nn t.2.1
        by_cases ha : t.1 = 0
        · have := sq_pos (x := t.2.1) (fun q => hts ⟨ha, q⟩); omega
        · have := sq_pos ha; omega
      have := castLt.2 h3
      rw [Rat.intCast_add, Rat.intCast_mul, Rat.intCast_mul] at this
      exact this
    by_cases hs : 0 < crI t u
    · refine ⟨t, ht, u, hu, hon, onu, hs, ?_, by omega⟩
      refine Classical.byContradiction fun q => ?_
      have h1 := Rat.mul_pos hk (castLt.2 hs)
      have h2 : (0 : Rat) < ((-cr a b u : Int) : Rat) := castLt.2 (show (0 : Int) < -cr a b u by omega)
      have h3 := Rat.mul_pos h2 hpos
      rw [Rat.intCast_neg] at h3
      have h1' : (0 : Rat) < dt t ((a : Rat), (b : Rat)) * ((crI t u : Int) : Rat) := h1
      grind
    · refine ⟨u, hu, t, ht, onu, hon, by rw [crI_sym]; omega, by omega, ?_⟩
      refine Classical.byContradiction fun q => ?_
      have h2 : (0 : Rat) < ((-crI t u : Int) : Rat) := castLt.2 (show (0 : Int) < -crI t u by omega)
      have h1 := Rat.mul_pos hk h2
      have h4 : (0 : Rat) < ((cr a b u : Int) : Rat) := castLt.2 (show (0 : Int) < cr a b u by omega)
      have h3 := Rat.mul_pos h4 hpos
      rw [Rat.intCast_neg] at h1
      grind
  · -- the nearest one to one hand
    have hcr0 : cr a b t0 ≠ 0 := fun q => hpar ⟨t0, ht0, on0, hg0, q⟩
    have main : ∀ (g : Int), (g = 1 ∨ g = -1) → 0 < g * cr a b t0 → ∃ t ∈ l, ∃ s ∈ l, on t m ∧ on s m ∧ 0 < g * cr a b t ∧ 0 < g * crI s t ∧ g * cr a b s ≤ 0 := fun g hg hpos => by
      have hgq : (g : Rat) = 1 ∨ (g : Rat) = -1 := by rcases hg with rfl | rfl <;> simp
      let r : Sd → Rat := fun t => -(dt t ((a : Rat), (b : Rat)) / (((g * cr a b t : Int)) : Rat))
      have hfne : l.filter (fun t => decide (atq t.1 t.2.1 m = (t.2.2 : Rat) ∧ 0 < g * cr a b t)) ≠ [] := List.ne_nil_of_mem (List.mem_filter.2 ⟨ht0, decide_eq_true ⟨on0, hpos⟩⟩)
      obtain ⟨t, ht, hmin⟩ := ex_min r _ hfne
      obtain ⟨htl, htd⟩ := List.mem_filter.1 ht
      obtain ⟨ont, htg⟩ := of_decide_eq_true htd
      have htg' : (0 : Rat) < ((g * cr a b t : Int) : Rat) := castLt.2 (show (0 : Int) < g * cr a b t from htg)
      obtain ⟨s, hs, ons, hgs⟩ := farkas hp hm hmax (d := ((g : Rat) * (t.2.1 : Rat), -((g : Rat) * (t.1 : Rat)))) (by
        rw [Rat.intCast_mul, castcr] at htg'
        dsimp only
        grind)
      have hst : 0 < g * crI s t := by
        refine castLt.1 (show ((0 : Int) : Rat) < ((g * crI s t : Int) : Rat) from ?_)
        rw [Rat.intCast_mul, crI_rat]
        unfold dt at hgs
        dsimp only at hgs
        have : (0 : Rat) < (g : Rat) * ((s.1 : Rat) * t.2.1 - (s.2.1 : Rat) * t.1) := by grind
        exact this
      refine ⟨t, htl, s, hs, ont, ons, htg, hst, ?_⟩
      refine Classical.byContradiction fun q => ?_
      have hsg : 0 < g * cr a b s := by omega
      have hsg' : (0 : Rat) < ((g * cr a b s : Int) : Rat) := castLt.2 hsg
      have hle := hmin s (List.mem_filter.2 ⟨hs, decide_eq_true ⟨ons, hsg⟩⟩)
      have hst' : (0 : Rat) < ((g * crI s t : Int) : Rat) := castLt.2 hst
      have hle2 : dt s ((a : Rat), (b : Rat)) / ((g * cr a b s : Int) : Rat) ≤ dt t ((a : Rat), (b : Rat)) / ((g * cr a b t : Int) : Rat) := by
        have : -(dt t ((a : Rat), (b : Rat)) / ((g * cr a b t : Int) : Rat)) ≤ -(dt s ((a : Rat), (b : Rat)) / ((g * cr a b s : Int) : Rat)) := hle
        grind
      have hx := Rat.mul_le_mul_of_nonneg_right hle2 (Rat.le_of_lt (Rat.mul_pos hsg' htg'))
      have ex1 : dt s ((a : Rat), (b : Rat)) / ((g * cr a b s : Int) : Rat) * (((g * cr a b s : Int) : Rat) * ((g * cr a b t : Int) : Rat)) = dt s ((a : Rat), (b : Rat)) * ((g * cr a b t : Int) : Rat) := divc _ hsg'
      have ex2 : dt t ((a : Rat), (b : Rat)) / ((g * cr a b t : Int) : Rat) * (((g * cr a b s : Int) : Rat) * ((g * cr a b t : Int) : Rat)) = dt t ((a : Rat), (b : Rat)) * ((g * cr a b s : Int) : Rat) := by
        rw [Rat.mul_comm (((g * cr a b s : Int)) : Rat)]
        exact divc _ htg'
      rw [ex1, ex2] at hx
      have hy := Rat.mul_pos sq hst'
      rw [Rat.intCast_mul, Rat.intCast_mul, castcr, castcr] at hx
      rw [Rat.intCast_mul, crI_rat] at hy
      unfold dt at hx
      dsimp only at hx
      rcases hgq with e | e <;> rw [e] at hx hy <;> grind
    rcases Int.lt_or_gt_of_ne hcr0 with h | h
    · obtain ⟨t, ht, s, hs, ont, ons, h1, h2, h3⟩ := main (-1) (.inr rfl) (by omega)
      refine ⟨t, ht, s, hs, ont, ons, by rw [crI_sym]; omega, by omega, by omega⟩
    · obtain ⟨t, ht, s, hs, ont, ons, h1, h2, h3⟩ := main 1 (.inl rfl) (by omega)
      exact ⟨s, hs, t, ht, ons, ont, by omega, by omega, by omega⟩
end Go.Lt.P2

namespace Go.Lt.P2
open Go Go.Lt Go.Proofs
/-- the reference's round -/
def refQ (P : List Pq) (p : Pq) (a b : Int) : Prop := ∃ m, isMxQ (atq a b) P m ∧ atq a b p ≤ (m.floor : Rat)
def refR (P : List Pq) (p : Pq) : Prop := P ≠ [] ∧ ∀ a b : Int, -24 ≤ a → a ≤ 24 → -24 ≤ b → b ≤ 24 → refQ P p a b
theorem rcs_inP {l : List Sd} : ∀ z ∈ rcs (cs l), inP l z := fun z hz => by
  obtain ⟨c, hc, rfl⟩ := mem_rcs.1 hz
  exact (cs_mem hc).2.2.2.2
theorem btw_swap {s t : Sd} {a b : Int} (h : 0 < crI s t) (h1 : 0 ≤ a * t.2.1 - b * t.1 ∧ a * t.2.1 - b * t.1 ≤ crI s t) (h2 : 0 ≤ s.1 * b - s.2.1 * a ∧ s.1 * b - s.2.1 * a ≤ crI s t) : btw s t a b ∧ btw t s a b := by
  constructor
  · unfold btw
    rw [if_neg (by omega)]
    exact ⟨⟨h1.1, h2.1⟩, h1.2, h2.2⟩
  · have e := crI_sym s t
    have m1 := Int.mul_comm a s.2.1
    have m2 := Int.mul_comm b s.1
    have m3 := Int.mul_comm t.1 b
    have m4 := Int.mul_comm t.2.1 a
    unfold btw
    rw [if_pos (by omega), e]
    omega
/-- a whole arrow is a sum of two sides and one between them -/
theorem split_arrow {s t : Sd} (hs : sideP s) (ht : sideP t) {a b : Int} (hD : 0 < crI s t) (hA : 0 ≤ cr a b t) (hB : cr a b s ≤ 0) : ∃ n1 n2 a' b' : Int, 0 ≤ n1 ∧ 0 ≤ n2 ∧ a = n1 * s.1 + n2 * t.1 + a' ∧ b = n1 * s.2.1 + n2 * t.2.1 + b' ∧ ((-8 ≤ a' ∧ a' ≤ 8) ∧ -8 ≤ b' ∧ b' ≤ 8) ∧ btw s t a' b' ∧ btw t s a' b' := by
  have e1 := Int.ediv_mul_add_emod (cr a b t) (crI s t)
  have e2 := Int.ediv_mul_add_emod (-(cr a b s)) (crI s t)
  have r1 := Int.emod_nonneg (cr a b t) (show crI s t ≠ 0 by omega)
  have r2 := Int.emod_lt_of_pos (cr a b t) hD
  have r3 := Int.emod_nonneg (-(cr a b s)) (show crI s t ≠ 0 by omega)
  have r4 := Int.emod_lt_of_pos (-(cr a b s)) hD
  have p1 : 0 ≤ cr a b t / crI s t := Int.ediv_nonneg hA (by omega)
  have p2 : 0 ≤ -(cr a b s) / crI s t := Int.ediv_nonneg (by omega) (by omega)
  generalize cr a b t / crI s t = n1 at *
  generalize -(cr a b s) / crI s t = n2 at *
  generalize cr a b t % crI s t = u at *
  generalize -(cr a b s) % crI s t = w at *
  have hu : (a - n1 * s.1 - n2 * t.1) * t.2.1 - (b - n1 * s.2.1 - n2 * t.2.1) * t.1 = u := by
    unfold cr crI at *
    grind
  have hv : s.1 * (b - n1 * s.2.1 - n2 * t.2.1) - s.2.1 * (a - n1 * s.1 - n2 * t.1) = w := by
    unfold cr crI at *
    grind
  have ea : crI s t * (a - n1 * s.1 - n2 * t.1) = u * s.1 + w * t.1 := by
    rw [← hu, ← hv]; unfold crI; grind
  have eb : crI s t * (b - n1 * s.2.1 - n2 * t.2.1) = u * s.2.1 + w * t.2.1 := by
    rw [← hu, ← hv]; unfold crI; grind
  refine ⟨n1, n2, a - n1 * s.1 - n2 * t.1, b - n1 * s.2.1 - n2 * t.2.1, p1, p2, by omega, by omega, ?_, btw_swap hD (by omega) (by omega)⟩
  generalize a - n1 * s.1 - n2 * t.1 = x at *
  generalize b - n1 * s.2.1 - n2 * t.2.1 = y at *
  generalize crI s t = D at *
  have hs' := hs
  have ht' := ht
  unfold sideP at hs' ht'
  have bd : ∀ (f g z : Int), (-4 ≤ f ∧ f ≤ 4) → (-4 ≤ g ∧ g ≤ 4) → D * z = u * f + w * g → -8 ≤ z ∧ z ≤ 8 := fun f g z hf hg e => by
    have k1 : 0 ≤ u * (4 - f) := Int.mul_nonneg r1 (by omega)
    have k2 : 0 ≤ u * (4 + f) := Int.mul_nonneg r1 (by omega)
    have k3 : 0 ≤ w * (4 - g) := Int.mul_nonneg r3 (by omega)
    have k4 : 0 ≤ w * (4 + g) := Int.mul_nonneg r3 (by omega)
    rw [Int.mul_sub] at k1 k3
    rw [Int.mul_add] at k2 k4
    constructor
    · refine Classical.byContradiction fun q => ?_
      have k5 : 0 ≤ D * (-9 - z) := Int.mul_nonneg (by omega) (by omega)
      rw [Int.mul_sub] at k5
      omega
    · refine Classical.byContradiction fun q => ?_
      have k5 : 0 ≤ D * (z - 9) := Int.mul_nonneg (by omega) (by omega)
      rw [Int.mul_sub] at k5
      omega
  exact ⟨bd _ _ _ hs'.1 ht'.1 ea, bd _ _ _ hs'.2.1 ht'.2.1 eb⟩
/-- the program's round keeps every cut -/
theorem rnd_ref {l : List Sd} (hp : plateP l) {p : Pq} (hin : inP l p) (hr : rndP l p) (a b : Int) : refQ (rcs (cs l)) p a b := by
  have hne : cs l ≠ [] := by
    obtain ⟨c, hc, _⟩ := lp hp hin 0 0
    exact List.ne_nil_of_mem hc
  by_cases hw : a = 0 ∧ b = 0
  · obtain ⟨rfl, rfl⟩ := hw
    obtain ⟨c, hc, _⟩ := lp hp hin 0 0
    have z : ∀ q : Pq, atq 0 0 q = 0 := fun q => by unfold atq; grind
    refine ⟨0, ⟨⟨c.1, mem_rcs.2 ⟨c, hc, rfl⟩, z _⟩, fun q _ => by rw [z]; exact Rat.le_refl⟩, ?_⟩
    rw [z, show (0 : Rat) = ((0 : Int) : Rat) from rfl, Rat.floor_intCast]
    exact Rat.le_refl
  obtain ⟨m, hm, hmax, s, hs, t, ht, ons, ont, hD, hA, hB⟩ := cone hp hne hw
  obtain ⟨n1, n2, a', b', p1, p2, ea, eb, hbd, hb1, hb2⟩ := split_arrow (hp.2.1 s hs) (hp.2.1 t ht) hD hA hB
  have hmm : m = meetq s t := meet_uniq (by omega) ons ont
  have hcs := mem_cs hs ht (by omega) (by rw [← hmm]; exact hm)
  have hrk : rk m p (a', b') := by
    rcases hcs with h | h
    · have := hr _ h (a', b') (mem_bt.2 ⟨hbd, hb1⟩)
      dsimp only at this
      rw [← hmm] at this
      exact this
    · have := hr _ h (a', b') (mem_bt.2 ⟨hbd, hb2⟩)
      dsimp only at this
      rw [← hmm] at this
      exact this
  have hmP : m ∈ rcs (cs l) := by
    rcases hcs with h | h
    · exact mem_rcs.2 ⟨_, h, hmm.symm⟩
    · exact mem_rcs.2 ⟨_, h, hmm.symm⟩
  have hsum : ∀ z : Pq, atq a b z = (n1 : Rat) * atq s.1 s.2.1 z + (n2 : Rat) * atq t.1 t.2.1 z + atq a' b' z := fun z => by
    rw [ea, eb]
    unfold atq
    rw [Rat.intCast_add, Rat.intCast_add, Rat.intCast_mul, Rat.intCast_mul, Rat.intCast_add, Rat.intCast_add, Rat.intCast_mul, Rat.intCast_mul]
    grind
  refine ⟨atq a b m, ⟨⟨m, hmP, rfl⟩, fun z hz => ?_⟩, ?_⟩
  · obtain ⟨c, hc, rfl⟩ := mem_rcs.1 hz
    exact hmax c hc
  · have hsp := hin s hs
    have htp := hin t ht
    unfold lqs at hsp htp
    unfold on at ons ont
    unfold rk lqs at hrk
    dsimp only at hrk
    have k1 := Rat.mul_nonneg (show (0 : Rat) ≤ (n1 : Rat) from castLe.2 p1) (show 0 ≤ (s.2.2 : Rat) - atq s.1 s.2.1 p by grind)
    have k2 := Rat.mul_nonneg (show (0 : Rat) ≤ (n2 : Rat) from castLe.2 p2) (show 0 ≤ (t.2.2 : Rat) - atq t.1 t.2.1 p by grind)
    have e : atq a b m = atq a' b' m + ((n1 * s.2.2 + n2 * t.2.2 : Int) : Rat) := by
      rw [hsum, ons, ont, Rat.intCast_add, Rat.intCast_mul, Rat.intCast_mul]
      grind
    rw [e, Rat.floor_add_intCast, Rat.intCast_add, Rat.intCast_add, Rat.intCast_mul, Rat.intCast_mul, hsum p]
    grind
theorem ref_rnd {l : List Sd} (hp : plateP l) {p : Pq} (h : refR (rcs (cs l)) p) : inP l p ∧ rndP l p := by
  constructor
  · intro s hs
    have hsd := hp.2.1 s hs
    unfold sideP at hsd
    obtain ⟨mx, ⟨⟨z, hz, e⟩, _⟩, hle⟩ := h.2 s.1 s.2.1 (by omega) (by omega) (by omega) (by omega)
    have hz2 := rcs_inP z hz s hs
    unfold lqs at hz2 ⊢
    rw [e] at hz2
    have := Rat.floor_monotone hz2
    rw [Rat.floor_intCast] at this
    have := castLe.2 this
    grind
  · intro c hc w hw
    have hm := cs_mem hc
    have hb := mem_bt.1 hw
    obtain ⟨mx, ⟨⟨z, hz, e⟩, _⟩, hle⟩ := h.2 w.1 w.2 (by omega) (by omega) (by omega) (by omega)
    have hz2 := rcs_inP z hz
    have h1 := btw_le hm.2.2.1 hb.2 (hz2 _ hm.1) (hz2 _ hm.2.1)
    rw [← hm.2.2.2.1, e] at h1
    have := castLe.2 (Rat.floor_monotone h1)
    unfold rk lqs
    dsimp only
    grind
theorem round_iff {l : List Sd} (hp : plateP l) {p : Pq} : refR (rcs (cs l)) p ↔ inP l p ∧ rndP l p := by
  refine ⟨ref_rnd hp, fun ⟨h1, h2⟩ => ⟨fun h0 => ?_, fun a b _ _ _ _ => rnd_ref hp h1 h2 a b⟩⟩
  obtain ⟨c, hc, _⟩ := lp hp h1 0 0
  have : c.1 ∈ rcs (cs l) := mem_rcs.2 ⟨c, hc, rfl⟩
  rw [h0] at this
  cases this
end Go.Lt.P2

namespace Go.Lt.P2
open Go Go.Lt Go.Proofs
/-! ### multipliers -/
def frM (f : Pr) : Prop := (1 ≤ f.2 ∧ f.2 ≤ 100) ∧ (0 ≤ f.1 ∧ f.1 ≤ 100 * f.2) ∧ Nat.gcd f.1.natAbs f.2.natAbs = 1
instance (f : Pr) : Decidable (frM f) := by unfold frM; infer_instance
theorem frM_fq {f : Pr} (h : frM f) : fq (dv f.1 f.2) = f := fq_dv (by unfold frM at h; omega) h.2.2
theorem frM_qb {f : Pr} (h : frM f) : qb 10000 100 (dv f.1 f.2) := by
  unfold frM at h
  exact qb_dv (by omega) (by omega) (by omega) (by omega)
def mulP (m : List Pr) : Prop := ∀ f ∈ m, frM f
instance (m : List Pr) : Decidable (mulP m) := by unfold mulP; infer_instance
/-- isFrac from 0 to 100 -/
theorem r64_mul {f : Pr} : Ok (r64 f.1 f.2 0 100 H0) fun r _ => r = decide (frM f) := by
  have no : ∀ {A : Hp}, ¬ frM f → Ok (some (false, A)) fun r _ => r = decide (frM f) := fun hn => Ok.ret (by rw [decide_eq_false hn])
  unfold r64
  refine Ok.box (.nil H0) fun A _ c => Ok.cld c (.head _) rfl (Ok.ite (fun h1 => Ok.cld c (.head _) rfl (Ok.ite (fun h2 => Ok.cld c (.head _) rfl (Ok.cld c (.head _) rfl ?_)) fun h => no fun q => h q.1.2)) fun h => no fun q => h q.1.1)
  rw [w64_id (n := 0 * f.2) (by omega) (by omega)]
  refine Ok.ite (fun h3 => Ok.cld c (.head _) rfl (Ok.cld c (.head _) rfl ?_)) fun h => no fun q => h (by have := q.2.1.1; omega)
  rw [w64_id (n := 100 * f.2) (by omega) (by omega)]
  refine Ok.ite (fun h4 => Ok.cld c (.head _) rfl (Ok.cld c (.head _) rfl ?_)) fun h => no fun q => h q.2.1.2
  refine Ok.own (b := (Nat.gcd f.1.natAbs f.2.natAbs : Int)) ⟨_, _, gcdI FUEL f.1 f.2 (by unfold FUEL; omega) (by omega) (by omega), rfl⟩ fun X => Ok.ret ?_
  refine decide_eq_decide.2 ?_
  unfold frM
  dsimp only
  omega
theorem says104 (k : Nat) (B : Hp) : Says (appA (k + 1)) (.fn 104 [] []) B argP (fun f => ¬ frM f) fun _ => True := fun H x g _ => by
  show Ok ((r104 x.1 x.2 H).map fun p => (AV.bool p.1, p.2)) _
  have h1 : Ok (r104 x.1 x.2 H) fun r H' => Gr H H' ∧ r = decide (¬ frM x) := by
    unfold r104
    refine Ok.box (.nil H) fun A gA c => Ok.cld c (.head _) rfl (Ok.cld c (.head _) rfl (Ok.own r64_mul fun X => Ok.ret ⟨gA, ?_⟩))
    dsimp only
    rw [decide_not]
  obtain ⟨r, H', e, g2, rfl⟩ := h1
  rw [e]
  exact Ok.ret ⟨g2, rfl⟩
theorem r103_ok {a : App} {fv : AV} {B : Hp} {P : Pr → Prop} [DecidablePred P] {D : Pr → Prop} (hf : Says a fv B argP P D) {v : Sl} {l : List Pr} (hv : SL B v l) (hb : l.length ≤ 1000000) (hD : ∀ x ∈ l, D x) : Ok (r103 a v fv B) fun r H' => Gr B H' ∧ r = decide (∃ x ∈ l, P x) := by
  unfold r103
  refine Ok.bind (P := fun r H' => Gr B H' ∧ (0 ≤ r ↔ ∃ x ∈ l, P x)) ?_ fun r H' h => Ok.ret ⟨h.1, decide_eq_decide.2 h.2⟩
  unfold r112
  have hlen := hv.len
  rw [hlen]
  refine Ok.loop (L := fun K (s : Int) H2 => r112_l0 a K v fv l.length s H2) (fun m s H' => Gr B H' ∧ ∃ i : Nat, s = i ∧ i + m = l.length ∧ ∀ x ∈ l.take i, ¬ P x) ?_ FUEL l.length 0 B (by unfold FUEL; omega) ⟨.refl _, 0, rfl, by omega, by simp⟩
  rintro K m s H1 ⟨g1, i, rfl, hm, ht⟩ ih
  try dsimp only at *
  rw [r112_l0]
  by_cases h : i < l.length
  · have hg := hv.gr g1
    refine Ok.pos (by omega) (Ok.ck (by omega) (Ok.ld (hg.ldI (i := i) (j := 0) h rfl) (Ok.ld (hg.ldI (i := i) (j := 1) h rfl) (Ok.bind (hf H1 l[i] g1 (hD _ (List.getElem_mem h))) fun r H2 ⟨g2, hr⟩ => ?_))))
    subst hr
    refine Ok.ld rfl (Ok.ite (fun c => Ok.ret ⟨g1.trans g2, ⟨fun _ => ⟨l[i], List.getElem_mem h, of_decide_eq_true c⟩, fun _ => by omega⟩⟩) fun c => ?_)
    rw [w64_succ (by omega)]
    exact ih (m - 1) _ H2 (by omega) ⟨g1.trans g2, i + 1, rfl, by omega, forall_take h ht (fun p => c (decide_eq_true p))⟩
  · rw [List.take_of_length_le (by omega)] at ht
    exact Ok.neg (by omega) (Ok.ret ⟨g1, ⟨fun q => by omega, fun ⟨x, hx, hp⟩ => absurd hp (ht x hx)⟩⟩)
/-- isMultipliers -/
theorem r76_ok {k : Nat} {H : Hp} {vp vm : Sl} {p : List Sd} {m : List Pr} (hp : SL H vp p) (hm : SL H vm m) (hb : p.length ≤ 1000) (hb2 : m.length ≤ 1000) : Ok (r76 (appA (k + 1)) vp vm H) fun r H' => Gr H H' ∧ r = decide (plateP p ∧ m.length = p.length ∧ mulP m) := by
  unfold r76
  have hpl := hp.len
  have hml := hm.len
  refine Ok.bind (r63_ok hp hb) fun r H1 ⟨g1, hr⟩ => ?_
  subst hr
  by_cases h1 : plateP p
  · rw [decide_eq_true h1]
    refine Ok.pos rfl ?_
    by_cases h2 : m.length = p.length
    · refine Ok.pos (by omega) (Ok.bind (r103_ok (says104 k H1) (hm.gr g1) (by omega) fun _ _ => trivial) fun r H2 ⟨g2, hr⟩ => Ok.ret ⟨g1.trans g2, ?_⟩)
      subst hr
      dsimp only
      rw [← decide_not]
      refine decide_eq_decide.2 ⟨fun q => ⟨h1, h2, fun f hf => Classical.not_not.1 fun c => q ⟨f, hf, c⟩⟩, fun q ⟨f, hf, c⟩ => c (q.2.2 f hf)⟩
    · exact Ok.neg (by omega) (Ok.ret ⟨g1, by rw [decide_eq_false (fun q => h2 q.2.1)]⟩)
  · rw [decide_eq_false h1]
    exact Ok.neg (by simp) (Ok.ret ⟨g1, by rw [decide_eq_false (fun q => h1 q.1)]⟩)
end Go.Lt.P2
