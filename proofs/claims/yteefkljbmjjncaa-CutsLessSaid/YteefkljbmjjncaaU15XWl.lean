/- PLAIN LAWS OF WHAT IS COMPUTED, for the statement 'CutsLess'. Nothing is asked of the input. -/
import Derived.Test.YteefkljbmjjncaaU15XGd
import Derived.Test.YteefkljbmjjncaaLB
set_option linter.unusedVariables false
set_option linter.unusedSimpArgs false
namespace Go.Lt.P2
open Go Go.Lt Go.Proofs
def flp (p : Pq) : Pr := (p.1.floor, p.2.floor)
def bup (st : Bst) (c : Cn) : Bst := ((up1 (up0 st (flp c.1)) (flp c.1)).1, (up1 (up0 st (flp c.1)) (flp c.1)).2.1, true)
def bxs (q : List Cn) : Bst := q.foldl bup ((0, 0), (0, 0), false)
theorem rnd0 {k n : Nat} {H : Hp} {st : Bst} {x : Cn} (c : Cb H H (bxE n st .ready)) (hx : qb 320 32 x.1.1 ∧ qb 320 32 x.1.2) : Ok (callv (app (k + 1)) (.yld (n + 4)) (argC x) H) fun r H' => r = .bool true ∧ Cb H H' (bxE n (bup st x) .ready) := by
  show Ok (ydisp (app k) (n + 4) (argC x) H) _
  unfold ydisp
  have hl : H.get (n + 4) = _ := c.e (n + 4, .loop .ready none 0 59 [(2, .ptr n 0), (3, .ptr (n + 1) 0), (4, .ptr (n + 2) 0)]) (by unfold bxE; simp)
  rw [hl]
  refine Ok.bind (P := fun r H' => r = none ∧ Cb H H' (bxE n (bup st x) .busy)) ?_ ?_
  · unfold r101q0
    refine Ok.kalo c fun A gA c => Ok.kbeg c 5 rfl fun B nB _ c => ?_
    have gA1 := gA.1
    refine Ok.kld c (.head _) rfl (Ok.kld c (.head _) rfl (Ok.own (r68_q hx.1 (by decide) (by decide)) fun X => ?_))
    refine Ok.kld c (.head _) rfl (Ok.kld c (.head _) rfl (Ok.own (r68_q hx.2 (by decide) (by decide)) fun X => ?_))
    refine Ok.kalo c fun C _ c => ?_
    have hF : FUEL = (FUEL - 3) + 3 := by unfold FUEL; omega
    rw [hF]
    have c : Cb H C ((B.n, cel [.int .i64 (flp x.1).1, .int .i64 (flp x.1).2]) :: (H.n, _) :: bxE n st .busy) := c
    refine it0 c fun D nD c => it1 c fun E nE c => ?_
    rw [r101q0_l0]
    refine Ok.neg (by decide) (Ok.kst1 c 4 rfl (by show _ < 1; decide) fun F nF _ c => Ok.ret ⟨rfl, ?_⟩)
    have c : Cb H F ((B.n, cel [.int .i64 (flp x.1).1, .int .i64 (flp x.1).2]) :: (H.n, _) :: bxE n (bup st x) .busy) := c
    exact (c.tl rfl (by show H.n ≤ B.n; omega)).tl rfl (Nat.le_refl _)
  · rintro r H' ⟨rfl, c⟩
    exact Ok.knext c 4 rfl fun A _ _ c => ⟨rfl, c⟩
/-- box's rounds -/
def bxI (B : Hp) (P : Nat → Prop) (q : List Cn) (H : Hp) : Prop := Gr B H ∧ (∀ p ∈ bxE B.n (bxs q) .ready, H.get p.1 = some p.2) ∧ ∀ b, P b → b < B.n ∨ B.n + 5 ≤ b
theorem bxE_nd (n : Nat) (st : Bst) (ls : LoopState) : (bxE n st ls).Pairwise fun p q => p.1 ≠ q.1 := by unfold bxE; simp
theorem bxE_key {n : Nat} {st : Bst} {ls : LoopState} {p : Nat × Blk} (h : p ∈ bxE n st ls) : n ≤ p.1 ∧ p.1 < n + 5 := by
  unfold bxE at h
  simp only [List.mem_cons, List.not_mem_nil, or_false] at h
  rcases h with rfl | rfl | rfl | rfl | rfl <;> dsimp only <;> omega
theorem bxY {k : Nat} {l : List Sd} (hs : ∀ s ∈ l, sideP s) (B : Hp) : Yd (app (k + 1)) (.yld (B.n + 4)) argC (cs l) B (bxI B) (fun _ _ => False) where
  grow := fun {P P' q H H'} h g hP => ⟨h.1.trans g, fun p hp => by rw [g.2 _ (Hp.get_lt (h.2.1 p hp))]; exact h.2.1 p hp, fun b hb => by
    rcases hP b hb with h1 | h1
    · exact h.2.2 b h1
    · have : B.n + 4 < H.n := Hp.get_lt (h.2.1 (B.n + 4, .loop .ready none 0 59 [(2, .ptr B.n 0), (3, .ptr (B.n + 1) 0), (4, .ptr (B.n + 2) 0)]) (by unfold bxE; simp))
      omega⟩
  base := fun h => h.1
  step := fun {P q H x} h hx => by
    have hm := cs_mem (c := x) (hx.subset (by simp))
    have c : Cb H H (bxE B.n (bxs q) .ready) := .start h.2.1 (bxE_nd _ _ _)
    refine Ok.mono (rnd0 (k := k) c (by rw [hm.2.2.2.1]; exact meet_qb (hs _ hm.1) (hs _ hm.2.1) hm.2.2.1)) fun r H' ⟨hr, c'⟩ => ⟨c'.n, .inl ⟨hr, ⟨⟨Nat.le_trans h.1.1 c'.n, fun b hb => ?_⟩, ?_, h.2.2⟩, fun b hb hP => ?_⟩⟩
    · rw [c'.g b (Nat.lt_of_lt_of_le hb h.1.1) fun p hp => by have := bxE_key hp; omega]
      exact h.1.2 b hb
    · have : bxs (q ++ [x]) = bup (bxs q) x := by unfold bxs; rw [List.foldl_append]; rfl
      rw [this]
      exact c'.e
    · exact c'.g b hb fun p hp => by have := bxE_key hp; have := h.2.2 b hP; omega
/-- box -/
theorem r101_ok {k : Nat} {H : Hp} {v : Sl} {l : List Sd} (hv : SL H v l) (hb : l.length ≤ 1000) (hs : ∀ s ∈ l, sideP s) : Ok (r101 (appA (k + 2)) v H) fun r H' => Gr H H' ∧ r = ((bxs (cs l)).1.1, (bxs (cs l)).1.2, (bxs (cs l)).2.1.1, (bxs (cs l)).2.1.2, (bxs (cs l)).2.2) := by
  unfold r101
  refine Ok.lt ?_
  have c0 : Cb H H [] := .start (fun _ h => by cases h) .nil
  have c := (((c0.push (cel [.int .i64 0, .int .i64 0])).push (cel [.int .i64 0, .int .i64 0])).push (cel [.bool false])).push .dfr
  have c := c.push (.loop .ready none 0 59 [(2, .ptr H.n 0), (3, .ptr (H.n + 1) 0), (4, .ptr (H.n + 2) 0)])
  simp only [Hp.n_push] at c ⊢
  generalize ((((H.push (cel [.int .i64 0, .int .i64 0])).push (cel [.int .i64 0, .int .i64 0])).push (cel [.bool false])).push .dfr).push (.loop .ready none 0 59 [(2, .ptr H.n 0), (3, .ptr (H.n + 1) 0), (4, .ptr (H.n + 2) 0)]) = A at *
  have gA : Gr H A := ⟨c.n, fun b hb => c.g b hb fun p hp => by simp only [List.mem_cons, List.not_mem_nil, or_false] at hp; rcases hp with rfl | rfl | rfl | rfl | rfl <;> dsimp only <;> omega⟩
  have hI : bxI H (fun _ => False) [] A := ⟨gA, fun p hp => c.e p (by
    unfold bxE bxs at hp
    simp only [List.mem_cons, List.not_mem_nil, or_false, List.foldl_nil] at hp ⊢
    rcases hp with rfl | rfl | rfl | rfl | rfl <;> simp), fun _ h => h.elim⟩
  refine Ok.bind (P := fun _ H' => bxI H (fun _ => False) (cs l) H') ?_ fun r D hD => ?_
  · show Ok ((r66 (app (k + 1)) v (.yld (H.n + 4)) A).map fun p => (AV.tup [], p.2)) _
    have h1 : Ok (r66 (app (k + 1)) v (.yld (H.n + 4)) A) fun _ H' => bxI H (fun _ => False) (cs l) H' := by
      refine Ok.mono (r66_ok (a95 k) (bxY hs H) hv hb hs hI) fun _ H' h => ?_
      rcases h with h | ⟨_, _, h⟩
      · exact h
      · exact h.elim
    obtain ⟨r, H', e, h⟩ := h1
    rw [e]
    exact Ok.ret h
  · obtain ⟨g, hE, _⟩ := hD
    generalize bxs (cs l) = st at *
    have c : Cb D D (bxE H.n st .ready) := .start hE (bxE_nd _ _ _)
    refine Ok.kend c 4 rfl (.inl rfl) fun E nE _ c => Ok.pos rfl ?_
    refine Ok.kld c (.head _) rfl (Ok.kld c (.head _) rfl (Ok.kld c (.tail _ (.head _)) rfl (Ok.kld c (.tail _ (.head _)) rfl (Ok.kldB c (.tail _ (.tail _ (.head _))) rfl ?_))))
    refine Ok.kst c 0 rfl rfl fun F nF _ c => ?_
    have c1 := c
    refine Ok.kst c 1 rfl rfl fun G nG _ c => ?_
    have c2 := c
    refine Ok.kst1 c 2 rfl (by show _ < 1; decide) fun I nI _ c => ?_
    refine Ok.kck c1 (.tail _ (.head _)) rfl (Ok.kck c1 (.tail _ (.head _)) rfl (Ok.kckB c1 (.tail _ (.tail _ (.head _))) rfl (Ok.kck c2 (.tail _ (.head _)) rfl (Ok.kck c2 (.tail _ (.head _)) rfl (Ok.kckB c2 (.tail _ (.tail _ (.head _))) rfl ?_)))))
    refine Ok.kld c (.head _) rfl (Ok.kld c (.head _) rfl (Ok.kld c (.tail _ (.head _)) rfl (Ok.kld c (.tail _ (.head _)) rfl (Ok.kldB c (.tail _ (.tail _ (.head _))) rfl ?_))))
    refine Ok.kdfr c (.tail _ (.tail _ (.tail _ (.head _)))) (Ok.ret ⟨⟨?_, fun b hb => ?_⟩, rfl⟩)
    · have := (c.kill 3 rfl).n
      exact Nat.le_trans g.1 this
    · have c := c.kill 3 rfl
      have hb' : b < D.n := Nat.lt_of_lt_of_le hb g.1
      rw [c.g b hb' fun p hp => ?_]
      · exact g.2 b hb
      · simp only [bxE, List.set, List.mem_cons, List.not_mem_nil, or_false] at hp
        rcases hp with rfl | rfl | rfl | rfl | rfl <;> dsimp only <;> omega
end Go.Lt.P2

namespace Go.Lt.P2
open Go Go.Lt Go.Proofs
theorem AccL.lo {T : Type} [El T] {n0 n1 : Nat} {H : Hp} {v : Sl} {l : List T} (h : AccL n0 H v l) (hn : n1 ≤ n0) : AccL n1 H v l := by
  rcases h with h | ⟨a, b, c, d, e, f⟩
  · exact .inl h
  · exact .inr ⟨a, b, c, d, Nat.le_trans hn e, f⟩
/-- all floors of corners are near -/
theorem floor_bd {q : Rat} {N D : Int} (h : qb N D q) (hN : 0 ≤ N) : -N - 1 ≤ q.floor ∧ q.floor ≤ N := by
  obtain ⟨h1, h2, h3⟩ := h
  have hp := fq_pos q
  have := (floor_iff (f := q.floor) (n := (fq q).1) hp).1 (by rw [dv_fq])
  generalize q.floor = f at *
  generalize (fq q).1 = n at *
  generalize (fq q).2 = d at *
  constructor
  · refine Classical.byContradiction fun hc => ?_
    have : (f + 1) * d ≤ (-N - 1) * 1 := by
      have h4 : 0 ≤ (-N - 1 - (f + 1)) * d := Int.mul_nonneg (by omega) (by omega)
      have h5 : 0 ≤ (N + 1) * (d - 1) := Int.mul_nonneg (by omega) (by omega)
      grind
    omega
  · refine Classical.byContradiction fun hc => ?_
    have : (N + 1) * 1 ≤ f * d := by
      have h4 : 0 ≤ (f - (N + 1)) * d := Int.mul_nonneg (by omega) (by omega)
      have h5 : 0 ≤ (N + 1) * (d - 1) := Int.mul_nonneg (by omega) (by omega)
      grind
    omega
def bbd (st : Bst) : Prop := ((-1000 ≤ st.1.1 ∧ st.1.1 ≤ 1000) ∧ -1000 ≤ st.1.2 ∧ st.1.2 ≤ 1000) ∧ (-1000 ≤ st.2.1.1 ∧ st.2.1.1 ≤ 1000) ∧ -1000 ≤ st.2.1.2 ∧ st.2.1.2 ≤ 1000
theorem bup_bd {st : Bst} {c : Cn} (h : bbd st) (hc : qb 320 32 c.1.1 ∧ qb 320 32 c.1.2) : bbd (bup st c) := by
  have h1 := floor_bd hc.1 (by decide)
  have h2 := floor_bd hc.2 (by decide)
  unfold bbd bup up1 up0 nlo nhi flp at *
  dsimp only
  refine ⟨⟨?_, ?_⟩, ?_, ?_⟩ <;> split <;> omega
theorem bxs_bd {l : List Sd} (hs : ∀ s ∈ l, sideP s) : bbd (bxs (cs l)) := by
  have key : ∀ (q : List Cn) (st : Bst), bbd st → (∀ c ∈ q, c ∈ cs l) → bbd (q.foldl bup st) := by
    intro q
    induction q with
    | nil => intro st h _; exact h
    | cons c q ih =>
      intro st h hm
      have hc := cs_mem (hm c (.head _))
      exact ih _ (bup_bd h (by rw [hc.2.2.2.1]; exact meet_qb (hs _ hc.1) (hs _ hc.2.1) hc.2.2.1)) fun x hx => hm x (.tail _ hx)
  exact key (cs l) _ (by unfold bbd; dsimp only; omega) fun _ h => h
def pts (l : List Sd) : List Pr := if (bxs (cs l)).2.2 = true then grid l (bxs (cs l)).1 (bxs (cs l)).2.1 else []
theorem pts_len {l : List Sd} (hs : ∀ s ∈ l, sideP s) : (pts l).length ≤ 4100000 := by
  unfold pts
  split
  · have h := grid_len l (bxs (cs l)).1 (bxs (cs l)).2.1
    have b := bxs_bd hs
    unfold bbd at b
    have : ((bxs (cs l)).2.1.1 + 1 - (bxs (cs l)).1.1).toNat * ((bxs (cs l)).2.1.2 + 1 - (bxs (cs l)).1.2).toNat ≤ 2001 * 2001 := Nat.mul_le_mul (by omega) (by omega)
    omega
  · simp
theorem row_bd {l : List Sd} {lo hi x : Int} (h : -1000 ≤ lo) (h2 : hi ≤ 1000) : (row l lo hi x).length ≤ 2001 := by
  have := row_len l lo hi x
  omega
theorem keep_in {l : List Sd} {x y : Int} : inP l ((x : Rat), (y : Rat)) ↔ ∀ s ∈ l, kp (x, y) s := by
  unfold inP kp
  constructor <;> intro h s hs
  · exact lqs_int.1 (h s hs)
  · exact lqs_int.2 (h s hs)
section
variable {a : App}
theorem r71_l1_ok (ha : A95 a) {A H : Hp} {v w : Sl} {l : List Sd} (hv : SL A v l) (hb : l.length ≤ 1000) (hs : ∀ s ∈ l, sideP s) {n1 n2 : Nat} {hi : Pr} {lo2 x : Int} (h2 : A.get n2 = some (.cells [.int .i64 hi.1, .int .i64 hi.2] false)) (g : Gr A H) {q : List Pr} (hacc : AccL A.n H w q) (hq : q.length ≤ 4100000)
    (hx : -1000 ≤ x ∧ x ≤ 1000) (hlo : -1000 ≤ lo2 ∧ lo2 ≤ 1000) (hhi : -1000 ≤ hi.2 ∧ hi.2 ≤ 1000) {kt : Sl → Nat → Nat → Sl → Int → Hp → Option (Sl × Hp)} {Q : Sl → Hp → Prop} (kN : ∀ w' H', Gr A H' → AccL A.n H' w' (q ++ row l lo2 hi.2 x) → Ok (kt v n1 n2 w' (x + 1) H') Q) :
    Ok (r71_l1 a kt FUEL v n1 n2 w x lo2 H) Q := by
  refine Ok.loop (L := fun K (s : Sl × Int) H2 => r71_l1 a kt K v n1 n2 s.1 x s.2 H2) (fun m s H' => Gr A H' ∧ (lo2 ≤ s.2 ∧ (s.2 ≤ hi.2 + 1 ∨ s.2 = lo2)) ∧ m = (hi.2 + 1 - s.2).toNat ∧ AccL A.n H' s.1 (q ++ row l lo2 (s.2 - 1) x)) ?_ FUEL (hi.2 + 1 - lo2).toNat (w, lo2) H (by unfold FUEL; omega) ⟨g, ⟨by simp, .inr rfl⟩, rfl, by
    have : row l lo2 (lo2 - 1) x = [] := by unfold row; rw [ints_nil (by omega)]; rfl
    rw [this, List.append_nil]; exact hacc⟩
  rintro K m ⟨w, y⟩ H1 ⟨g1, hy, hm, hacc⟩ ih
  try dsimp only at *
  rw [r71_l1]
  have h2' : H1.get n2 = some (.cells [.int .i64 hi.1, .int .i64 hi.2] false) := by rw [g1.2 _ (Hp.get_lt h2)]; exact h2
  refine Ok.ld (ldI_get h2' rfl) ?_
  by_cases h : y ≤ hi.2
  · refine Ok.pos h (Ok.own (r80_q (by omega) (by omega)) fun X => Ok.bind (r65_ok ha (p := ((x : Rat), (y : Rat))) (hv.gr g1) hb hs (qp_int (by omega) (by omega))) fun r D ⟨gD, hr⟩ => ?_)
    subst hr
    rw [w64_id (n := y + 1) (by omega) (by omega)]
    have er := row_snoc (l := l) (x := x) (show lo2 ≤ y by omega)
    have hlen := row_bd (l := l) (x := x) (lo := lo2) (hi := y - 1) (by omega) (by omega)
    by_cases hk : ∀ s ∈ l, kp (x, y) s
    · rw [decide_eq_true (keep_in.2 hk)]
      rw [if_pos hk] at er
      refine Ok.pos rfl (Ok.bind ((hacc.gr gD).push (g1.trans gD) (x, y) rfl rfl (by rw [List.length_append]; omega)) fun w' E ⟨ha', gE, _⟩ => ?_)
      refine ih (m - 1) (w', y + 1) E (by omega) ⟨gE, by omega, by omega, ?_⟩
      dsimp only
      rw [show y + 1 - 1 = y by omega, er, ← List.append_assoc]
      exact ha'
    · rw [decide_eq_false (fun q => hk (keep_in.1 q))]
      rw [if_neg hk, List.append_nil] at er
      refine Ok.neg (by simp) (ih (m - 1) (w, y + 1) D (by omega) ⟨g1.trans gD, by omega, by omega, ?_⟩)
      dsimp only
      rw [show y + 1 - 1 = y by omega, er]
      exact hacc.gr gD
  · refine Ok.neg h ?_
    rw [w64_id (n := x + 1) (by omega) (by omega)]
    refine kN w H1 g1 ?_
    have : row l lo2 (y - 1) x = row l lo2 hi.2 x := by
      by_cases h3 : y ≤ hi.2 + 1
      · rw [show y - 1 = hi.2 by omega]
      · unfold row; rw [ints_nil (by omega), ints_nil (by omega)]
    rw [← this]; exact hacc
/-- points -/
theorem r71_ok {k : Nat} {H : Hp} {v : Sl} {l : List Sd} (hv : SL H v l) (hb : l.length ≤ 1000) (hs : ∀ s ∈ l, sideP s) : Ok (r71 (appA (k + 2)) v H) fun w H' => Gr H H' ∧ AccL H.n H' w (pts l) := by
  unfold r71
  refine Ok.bind (r101_ok hv hb hs) fun r A ⟨gA, hr⟩ => ?_
  subst hr
  have bd := bxs_bd hs
  unfold pts
  generalize bxs (cs l) = st at *
  obtain ⟨lo, hi, ok⟩ := st
  unfold bbd at bd
  dsimp only at bd ⊢
  have c0 : Cx A A [] := .nil A
  have c := (c0.push [.int .i64 0, .int .i64 0]).push [.int .i64 0, .int .i64 0]
  refine Ok.cst c 1 rfl rfl fun B _ _ c => Ok.cst c 0 rfl rfl fun C _ _ c => ?_
  have gC := gA.trans c.g
  by_cases hok : ok = true
  · simp only [if_pos hok]
    refine Ok.cld c (.tail _ (.head _)) rfl ?_
    have h1 := c.e _ (.tail _ (.head _))
    have h2 := c.e _ (.head _)
    have hvC := hv.gr gC
    refine Ok.mono (P := fun w H' => Gr C H' ∧ AccL C.n H' w (grid l lo hi)) ?_ fun w H' h => ⟨gC.trans h.1, AccL.lo h.2 gC.1⟩
    refine Ok.loop (L := fun K (s : Sl × Int) H2 => r71_l0 (appA (k + 2)) K v A.n _ s.1 s.2 H2) (fun m s H' => Gr C H' ∧ (lo.1 ≤ s.2 ∧ (s.2 ≤ hi.1 + 1 ∨ s.2 = lo.1)) ∧ m = (hi.1 + 1 - s.2).toNat ∧ AccL C.n H' s.1 ((ints lo.1 (s.2 - 1)).flatMap (row l lo.2 hi.2))) ?_ FUEL (hi.1 + 1 - lo.1).toNat (⟨true, 0, 0, 0, 0, 0⟩, lo.1) C (by unfold FUEL; omega) ⟨.refl _, ⟨by simp, .inr rfl⟩, rfl, by dsimp only; rw [ints_nil (by omega)]; exact AccL.nilS⟩
    rintro K m ⟨w, x⟩ H1 ⟨g1, hx, hm, hacc⟩ ih
    try dsimp only at *
    rw [r71_l0]
    have h1' := h1
    have h2' := h2
    rw [← g1.2 _ (Hp.get_lt h1)] at h1'
    rw [← g1.2 _ (Hp.get_lt h2)] at h2'
    refine Ok.ld (ldI_get h2' rfl) ?_
    by_cases h : x ≤ hi.1
    · refine Ok.pos h (Ok.ld (ldI_get h1' rfl) ?_)
      have hlen : ((ints lo.1 (x - 1)).flatMap (row l lo.2 hi.2)).length ≤ 4100000 := by
        have := grid_len l lo (x - 1, hi.2)
        have h3 : ((x - 1 : Int) + 1 - lo.1).toNat * (hi.2 + 1 - lo.2).toNat ≤ 2001 * 2001 := Nat.mul_le_mul (by omega) (by omega)
        unfold grid at this
        dsimp only at this
        omega
      refine r71_l1_ok (a95A _) hvC hb hs h2 g1 hacc hlen (by omega) bd.1.2 bd.2.2 fun w' H' g' hacc' => ?_
      refine ih (m - 1) (w', x + 1) H' (by omega) ⟨g', by omega, by omega, ?_⟩
      dsimp only
      rw [show x + 1 - 1 = x by omega, ints_snoc (show lo.1 ≤ x by omega), List.flatMap_append, List.flatMap_singleton]
      exact hacc'
    · refine Ok.neg h (Ok.ret ⟨g1, ?_⟩)
      unfold grid
      by_cases h3 : x ≤ hi.1 + 1
      · rw [show hi.1 = x - 1 by omega]; exact hacc
      · rw [ints_nil (by omega)] at hacc ⊢; exact hacc
  · simp only [if_neg hok]
    exact Ok.ret ⟨gC, AccL.nilS⟩
/-- Points -/
theorem r40_ok {k : Nat} {H : Hp} {v : Sl} {l : List Sd} (hv : SL H v l) (hb : l.length ≤ 1000) : Ok (r40 (appA (k + 2)) v H) fun r H' => Gr H H' ∧ if plateP l then AccL H.n H' r.1 (pts l) ∧ r.2 = 0 else r = (⟨true, 0, 0, 0, 0, 0⟩, 2) := by
  unfold r40
  refine Ok.bind (r63_ok (k := k + 1) hv hb) fun b A ⟨gA, hbb⟩ => ?_
  subst hbb
  by_cases hp : plateP l
  · rw [decide_eq_true hp]
    simp only [if_pos hp]
    exact Ok.pos (by simp) (Ok.bind (r71_ok (hv.gr gA) hb hp.2.1) fun w B ⟨gB, hw⟩ => Ok.ret ⟨gA.trans gB, AccL.lo hw gA.1, rfl⟩)
  · rw [decide_eq_false hp]
    simp only [if_neg hp]
    exact Ok.neg (by simp) (Ok.ret ⟨gA, rfl⟩)
end
end Go.Lt.P2

namespace Go.Lt.P2
open Go Go.Lt Go.Proofs
theorem pts_near {l : List Sd} (hs : ∀ s ∈ l, sideP s) : ∀ p ∈ pts l, near3 p := fun p hp => by
  unfold pts at hp
  have b := bxs_bd hs
  unfold bbd at b
  split at hp
  · have := (mem_grid.1 hp).1
    unfold near3
    omega
  · cases hp
end Go.Lt.P2

namespace Go.Lt.P2
open Go Go.Lt Go.Proofs
def sumI (a b : Int) (p : Pr) : Int := a * p.1 + b * p.2
theorem sum_bd {a b : Int} {p : Pr} (h9 : near9 a b) (hp : near3 p) : (-9000 ≤ a * p.1 ∧ a * p.1 ≤ 9000) ∧ (-9000 ≤ b * p.2 ∧ b * p.2 ≤ 9000) ∧ -18000 ≤ sumI a b p ∧ sumI a b p ≤ 18000 := by
  unfold near9 at h9
  unfold near3 at hp
  have n1 : -9000 ≤ a * p.1 ∧ a * p.1 ≤ 9000 := mul_bd (A := 9) (B := 1000) (by omega) (by omega) (by omega) (by omega)
  have n2 : -9000 ≤ b * p.2 ∧ b * p.2 ≤ 9000 := mul_bd (A := 9) (B := 1000) (by omega) (by omega) (by omega) (by omega)
  unfold sumI
  omega
end Go.Lt.P2

namespace Go.Lt.P2
open Go Go.Lt Go.Proofs
theorem fn81_isV {H : Hp} {b n m : Nat} (h : H.get b = some (.cells [.fn 81 [] [.ptr n 0, .ptr m 0]] false)) : H.isV b 0 (.fn 81 [] [.ptr n 0, .ptr m 0]) = true := by
  unfold Hp.isV
  rw [ld_of_get h]
  simp [AV.eqb, AV.eqbs]
theorem fn81_ldV {H : Hp} {b n m : Nat} (h : H.get b = some (.cells [.fn 81 [] [.ptr n 0, .ptr m 0]] false)) : H.ldV b 0 = some (.fn 81 [] [.ptr n 0, .ptr m 0]) := ldV_get h rfl rfl
section
variable {a b : Int} {n m : Nat}
/-- the two numbers stand in their boxes -/
def Nm (H : Hp) (n m : Nat) (a b : Int) : Prop := H.get n = some (.cells [.int .i64 a] false) ∧ H.get m = some (.cells [.int .i64 b] false)
theorem Nm.gr {H H' : Hp} (h : Nm H n m a b) (g : Gr H H') : Nm H' n m a b := ⟨by rw [g.2 _ (Hp.get_lt h.1)]; exact h.1, by rw [g.2 _ (Hp.get_lt h.2)]; exact h.2⟩
theorem r81_ok {H : Hp} {p : Pr} (h : Nm H n m a b) (h9 : near9 a b) (hp : near3 p) : Ok (r81 p.1 p.2 n m H) fun r H' => Gr H H' ∧ r = sumI a b p := by
  have bd := sum_bd h9 hp
  unfold r81
  refine Ok.box (.nil H) fun A gA c => ?_
  have h := h.gr gA
  refine Ok.ld (ldI_get h.1 rfl) (Ok.cld c (.head _) rfl (Ok.ld (ldI_get h.2 rfl) (Ok.cld c (.head _) rfl ?_)))
  rw [w64_id (n := a * _) (by omega) (by omega), w64_id (n := b * _) (by omega) (by omega)]
  refine Ok.ret ⟨gA, ?_⟩
  exact w64_id (by unfold sumI at bd; omega) (by unfold sumI at bd; omega)
def A81 (ap : App) : Prop := ∀ (p : Pr) (n m : Nat) (H : Hp), callv ap (.fn 81 [] [.ptr n 0, .ptr m 0]) [argP p] H = (r81 p.1 p.2 n m H).map fun p => (.int .i64 p.1, p.2)
theorem call81 {ap : App} (hap : A81 ap) {H : Hp} {p : Pr} (h : Nm H n m a b) (h9 : near9 a b) (hp : near3 p) : Ok (callv ap (.fn 81 [] [.ptr n 0, .ptr m 0]) [argP p] H) fun r H' => Gr H H' ∧ r = .int .i64 (sumI a b p) := by
  rw [hap]
  obtain ⟨r, H', e, g, rfl⟩ := r81_ok h h9 hp
  rw [e]
  exact Ok.ret ⟨g, rfl⟩
theorem r83_ok {k : Nat} {H : Hp} {f : Nat} {p q : Pr} (h : Nm H n m a b) (hf : H.get f = some (.cells [.fn 81 [] [.ptr n 0, .ptr m 0]] false)) (h9 : near9 a b) (hp : near3 p) (hq : near3 q) : Ok (r83 (app (k + 1)) p.1 p.2 q.1 q.2 f H) fun r H' => Gr H H' ∧ r = sumI a b p - sumI a b q := by
  have b1 := sum_bd h9 hp
  have b2 := sum_bd h9 hq
  have hap : A81 (app (k + 1)) := fun _ _ _ _ => rfl
  unfold r83
  refine Ok.box2 (.nil H) fun A gA c => ?_
  have cA := c
  have hfA : A.get f = some (.cells [.fn 81 [] [.ptr n 0, .ptr m 0]] false) := by rw [gA.2 _ (Hp.get_lt hf)]; exact hf
  refine Ok.ld (fn81_ldV hfA) (Ok.cld c (.tail _ (.head _)) rfl (Ok.cld c (.tail _ (.head _)) rfl ?_))
  refine Ok.bind (call81 hap (h.gr gA) h9 hp) fun r B ⟨gB, hr⟩ => ?_
  subst hr
  have c := c.gr gB
  have hfB : B.get f = some (.cells [.fn 81 [] [.ptr n 0, .ptr m 0]] false) := by rw [gB.2 _ (Hp.get_lt hfA)]; exact hfA
  refine Ok.ld rfl (Ok.ld (fn81_ldV hfB) (Ok.cld c (.head _) rfl (Ok.cld c (.head _) rfl ?_)))
  refine Ok.bind (call81 hap (h.gr (gA.trans gB)) h9 hq) fun r C ⟨gC, hr⟩ => ?_
  subst hr
  refine Ok.ld rfl (Ok.ck (fn81_isV hfA) (Ok.cck cA (.head _) rfl (Ok.cck cA (.head _) rfl (Ok.ret ⟨gA.trans (gB.trans gC), ?_⟩))))
  exact w64_id (by omega) (by omega)
/-- MaxFunc -/
theorem r82_ok {k : Nat} {H : Hp} {f : Nat} {v : Sl} {P : List Pr} (h : Nm H n m a b) (hf : H.get f = some (.cells [.fn 81 [] [.ptr n 0, .ptr m 0]] false)) (h9 : near9 a b) (hv : SL H v P) (hb : P.length ≤ 10000000) (hn : ∀ p ∈ P, near3 p) (h0 : P ≠ []) : Ok (r82 (appA (k + 2)) v (.fn 83 [] [.ptr f 0]) H) fun r H' => Gr H H' ∧ r ∈ P ∧ ∀ p ∈ P, sumI a b p ≤ sumI a b r := by
  unfold r82
  have hlen := hv.len
  have hpos := List.length_pos_iff.2 h0
  refine Ok.box (.nil H) fun A gA c => Ok.neg (by omega) ?_
  have hvA := hv.gr gA
  refine Ok.ck (by omega) (Ok.ld (hvA.ldI (i := 0) (j := 0) hpos rfl) (Ok.ld (hvA.ldI (i := 0) (j := 1) hpos rfl) (Ok.alo c fun B gB c => ?_)))
  have m0 := List.getElem_mem hpos
  refine Ok.loop (L := fun K (s : Int) H2 => r82_l0 (appA (k + 2)) K v (.fn 83 [] [.ptr f 0]) H.n A.n s H2) (fun m' s H' => ∃ (i : Nat) (z : Pr), s = i ∧ i + m' = P.length ∧ 1 ≤ i ∧ Cx H H' [(A.n, [.int .i64 z.1, .int .i64 z.2]), (H.n, [.int .i64 0, .int .i64 0])] ∧ z ∈ P ∧ ∀ p ∈ P.take i, sumI a b p ≤ sumI a b z) ?_ FUEL (P.length - 1) 1 B (by unfold FUEL; omega) ⟨1, P[0], rfl, by omega, by omega, c, m0, fun p hp => ?_⟩
  rotate_left
  · rw [List.take_succ_eq_append_getElem hpos, List.take_zero, List.nil_append, List.mem_singleton] at hp
    subst hp; exact Int.le_refl _
  rintro K m' s H1 ⟨i, z, rfl, hm, hi1, c, hz, hle⟩ ih
  try dsimp only at *
  rw [r82_l0]
  by_cases h3 : i < P.length
  · have hg := hv.gr c.g
    have mi := List.getElem_mem h3
    have e2 := List.take_succ_eq_append_getElem h3
    have l0 := hg.ldI (i := i) (j := 0) h3 rfl
    have l1 := hg.ldI (i := i) (j := 1) h3 rfl
    refine Ok.pos (by omega) (Ok.ck (by omega) (Ok.ld l0 (Ok.ld l1 (Ok.cld c (.head _) rfl (Ok.cld c (.head _) rfl ?_)))))
    have hfH : H1.get f = some (.cells [.fn 81 [] [.ptr n 0, .ptr m 0]] false) := by rw [c.g.2 _ (Hp.get_lt hf)]; exact hf
    have h83 := r83_ok (k := k) (p := P[i]) (q := z) (h.gr c.g) hfH h9 (hn _ mi) (hn _ hz)
    have hcall : Ok (callv (appA (k + 2)) (.fn 83 [] [.ptr f 0]) [.agg [.int .i64 P[i].1, .int .i64 P[i].2], .agg [.int .i64 z.1, .int .i64 z.2]] H1) fun r H' => Gr H1 H' ∧ r = .int .i64 (sumI a b P[i] - sumI a b z) := by
      show Ok ((r83 (app (k + 1)) P[i].1 P[i].2 z.1 z.2 f H1).map fun p => (AV.int .i64 p.1, p.2)) _
      obtain ⟨r, H', e, g, rfl⟩ := h83
      rw [e]
      exact Ok.ret ⟨g, rfl⟩
    refine Ok.bind hcall fun r D ⟨gD, hr⟩ => ?_
    subst hr
    have c := c.gr gD
    have hgD := hg.gr gD
    refine Ok.ld rfl (Ok.ite (fun hc => ?_) fun hc => ?_)
    · rw [w64_succ (by omega)]
      refine Ok.ck (by omega) (Ok.ld (hgD.ldI (i := i) (j := 0) h3 rfl) (Ok.ld (hgD.ldI (i := i) (j := 1) h3 rfl) (Ok.cst c 0 rfl rfl fun E nE oE c => ?_)))
      refine ih (m' - 1) _ E (by omega) ⟨i + 1, P[i], rfl, by omega, by omega, c, mi, fun p hp => ?_⟩
      rw [e2] at hp
      rcases List.mem_append.1 hp with hp | hp
      · have := hle p hp; omega
      · rw [List.mem_singleton] at hp; subst hp; exact Int.le_refl _
    · rw [w64_succ (by omega)]
      refine ih (m' - 1) _ D (by omega) ⟨i + 1, z, rfl, by omega, by omega, c, hz, fun p hp => ?_⟩
      rw [e2] at hp
      rcases List.mem_append.1 hp with hp | hp
      · exact hle p hp
      · rw [List.mem_singleton] at hp; subst hp; omega
  · rw [List.take_of_length_le (by omega)] at hle
    exact Ok.neg (by omega) (Ok.cld c (.head _) rfl (Ok.cld c (.head _) rfl (Ok.cst c 1 rfl rfl fun E nE oE c => Ok.cld c (.tail _ (.head _)) rfl (Ok.cld c (.tail _ (.head _)) rfl (Ok.ret ⟨c.g, hz, hle⟩)))))
end
/-- Best -/
theorem r42_ok {k : Nat} {H : Hp} {v : Sl} {l : List Sd} {a b : Int} (hv : SL H v l) (hb : l.length ≤ 1000) : Ok (r42 (appA (k + 2)) v a b H) fun r H' => Gr H H' ∧ (¬ (plateP l ∧ near9 a b) → r = (0, 2)) ∧ (plateP l ∧ near9 a b → (pts l = [] → r = (0, 4)) ∧ (pts l ≠ [] → ∃ m, isMxI (sumI a b) (pts l) m ∧ r = (m, 0))) := by
  unfold r42
  refine Ok.box2 (.nil H) fun A gA c => Ok.bind (r63_ok (k := k + 1) (hv.gr gA) hb) fun z B ⟨gB, hz⟩ => ?_
  subst hz
  have c := c.gr gB
  have bad : ∀ {B : Hp} {n m : Nat}, ¬ (plateP l ∧ near9 a b) → Gr H B → Ok (r42_j0 (appA (k + 2)) v n m true B) fun r H' => Gr H H' ∧ (¬ (plateP l ∧ near9 a b) → r = (0, 2)) ∧ (plateP l ∧ near9 a b → (pts l = [] → r = (0, 4)) ∧ (pts l ≠ [] → ∃ m, isMxI (sumI a b) (pts l) m ∧ r = (m, 0))) := fun {B n m} hn g => by
    unfold r42_j0
    exact Ok.pos rfl (Ok.ret ⟨g, fun _ => rfl, fun h => absurd h hn⟩)
  by_cases hp : plateP l
  case neg =>
    rw [decide_eq_false hp]
    exact Ok.neg (by simp) (bad (fun q => hp q.1) c.g)
  rw [decide_eq_true hp]
  refine Ok.pos rfl (Ok.cld c (.tail _ (.head _)) rfl (Ok.cld c (.head _) rfl ?_))
  have gp := Gr.push B (.cells [.int .i64 a, .int .i64 b] false)
  have hs : SL (T := Int) (B.push (.cells [.int .i64 a, .int .i64 b] false)) ⟨false, B.n, 0, 2, 2, 0⟩ [a, b] := .of_get (ro := false) (Hp.get_push_new _ _) rfl rfl (Nat.le_refl _) (.inl rfl) rfl
  refine Ok.bind (r79_ok (k := k + 1) (c := 9) (by omega) hs (by simp)) fun r C ⟨gC, hr⟩ => ?_
  subst hr
  have c := c.gr (gp.trans gC)
  rw [Bool.not_not]
  by_cases h1 : ∃ y ∈ [a, b], y < -9 ∨ 9 < y
  · rw [decide_eq_true h1]
    refine bad (fun hn => ?_) c.g
    have h9 := hn.2
    unfold near9 at h9
    obtain ⟨y, hy, h2⟩ := h1
    simp only [List.mem_cons, List.not_mem_nil, or_false] at hy
    rcases hy with rfl | rfl <;> omega
  rw [decide_eq_false h1]
  have q1 : ¬ (a < -9 ∨ 9 < a) := fun q => h1 ⟨a, by simp, q⟩
  have q2 : ¬ (b < -9 ∨ 9 < b) := fun q => h1 ⟨b, by simp, q⟩
  have h9 : near9 a b := by unfold near9; omega
  have tt : plateP l ∧ near9 a b := ⟨hp, h9⟩
  unfold r42_j0
  refine Ok.neg (by simp) (Ok.bind (r71_ok (k := k) (hv.gr c.g) hb hp.2.1) fun w D ⟨gD, hw⟩ => ?_)
  have c := c.gr gD
  have hsl := AccL.sl hw
  have hlen := hsl.len
  have hn := pts_near hp.2.1
  have hpl := pts_len hp.2.1
  generalize pts l = P at *
  dsimp only
  rw [hlen]
  by_cases h0 : P = []
  · subst h0
    exact Ok.pos rfl (Ok.ret ⟨c.g, fun h => absurd tt h, fun _ => ⟨fun _ => rfl, fun h => absurd rfl h⟩⟩)
  have hpos := List.length_pos_iff.2 h0
  refine Ok.neg (by omega) ?_
  have c := c.push [.nilfn]
  have gE := Gr.push D (.cells [.nilfn] false)
  refine Ok.cst1 c 0 rfl (by simp) fun E nE oE c => ?_
  have gDE : Gr D E := ⟨by rw [nE]; exact gE.1, fun x hx => by rw [oE x (by omega)]; exact gE.2 x hx⟩
  have hf : E.get D.n = some (.cells [.fn 81 [] [.ptr H.n 0, .ptr (H.push (.cells [.int .i64 a] false)).n 0]] false) := c.e _ (.head _)
  have hNm : Nm E H.n (H.push (.cells [.int .i64 a] false)).n a b := ⟨c.e _ (.tail _ (.tail _ (.head _))), c.e _ (.tail _ (.head _))⟩
  refine Ok.ld (fn81_ldV hf) (Ok.bind (r82_ok (k := k) hNm hf h9 (hsl.gr gDE) (by omega) hn h0) fun z F ⟨gF, hz, hle⟩ => ?_)
  have hap : A81 (appA (k + 2)) := fun _ _ _ _ => rfl
  refine Ok.bind (call81 hap (hNm.gr gF) h9 (hn _ hz)) fun r G ⟨gG, hr⟩ => ?_
  subst hr
  refine Ok.ld rfl (Ok.ck (fn81_isV (by rw [gF.2 _ (Hp.get_lt hf)]; exact hf)) (Ok.ret ⟨c.g.trans (gF.trans gG), fun h => absurd tt h, fun _ => ⟨fun h => absurd h h0, fun _ => ⟨_, ⟨⟨z, hz, rfl⟩, hle⟩, rfl⟩⟩⟩))
end Go.Lt.P2

namespace Go.Lt.P2
open Go Go.Lt Go.Proofs
/-! ### points in order -/
instance elPq : El Pq := ⟨4, pc4, fun _ => rfl, fun _ => rfl, by decide⟩
def ptlt (p q : Pq) : Prop := p.1 < q.1 ∨ (p.1 = q.1 ∧ p.2 < q.2)
instance (p q : Pq) : Decidable (ptlt p q) := by unfold ptlt; infer_instance
theorem ptlt_irr (p : Pq) : ¬ ptlt p p := by unfold ptlt; grind
theorem ptlt_trans {p q r : Pq} (h : ptlt p q) (k : ptlt q r) : ptlt p r := by unfold ptlt at *; grind
theorem ptlt_tri {p q : Pq} (h : ¬ ptlt p q) (k : p ≠ q) : ptlt q p := by
  unfold ptlt at *
  have : ¬ (p.1 = q.1 ∧ p.2 = q.2) := fun h => k (Prod.ext h.1 h.2)
  grind
def wth (p : Pq) : List Pq → List Pq
  | [] => [p]
  | q :: l => if ptlt q p then q :: wth p l else if q = p then q :: l else p :: q :: l
theorem mem_wth {p x : Pq} : ∀ {l : List Pq}, x ∈ wth p l ↔ x = p ∨ x ∈ l
  | [] => by simp [wth]
  | q :: l => by
    rw [wth]
    split
    · rw [List.mem_cons, mem_wth, List.mem_cons]; grind
    · split
      · rename_i h; subst h; simp only [List.mem_cons]; grind
      · simp only [List.mem_cons]
theorem wth_srt {p : Pq} : ∀ {l : List Pq}, l.Pairwise ptlt → (wth p l).Pairwise ptlt
  | [], _ => List.pairwise_singleton _ _
  | q :: l, h => by
    have h0 := h
    rw [List.pairwise_cons] at h
    rw [wth]
    split
    · rename_i h1
      refine List.pairwise_cons.2 ⟨fun x hx => ?_, wth_srt h.2⟩
      rcases mem_wth.1 hx with rfl | hx
      · exact h1
      · exact h.1 x hx
    · rename_i h1
      split
      · exact h0
      · rename_i h2
        have h3 := ptlt_tri h1 h2
        refine List.pairwise_cons.2 ⟨fun x hx => ?_, h0⟩
        rcases List.mem_cons.1 hx with rfl | hx
        · exact h3
        · exact ptlt_trans h3 (h.1 x hx)
theorem srt_uniq : ∀ {l l' : List Pq}, l.Pairwise ptlt → l'.Pairwise ptlt → (∀ x, x ∈ l ↔ x ∈ l') → l = l'
  | [], [], _, _, _ => rfl
  | [], y :: l', _, _, h => absurd ((h y).2 (.head _)) (by simp)
  | x :: l, [], _, _, h => absurd ((h x).1 (.head _)) (by simp)
  | x :: l, y :: l', h1, h2, h => by
    rw [List.pairwise_cons] at h1 h2
    have e : x = y := by
      rcases List.mem_cons.1 ((h x).1 (.head _)) with e | hx
      · exact e
      · rcases List.mem_cons.1 ((h y).2 (.head _)) with e | hy
        · exact e.symm
        · exact absurd (ptlt_trans (h1.1 y hy) (h2.1 x hx)) (ptlt_irr x)
    subst e
    congr 1
    refine srt_uniq h1.2 h2.2 fun z => ?_
    constructor <;> intro hz
    · rcases List.mem_cons.1 ((h z).1 (.tail _ hz)) with rfl | k
      · exact absurd (h1.1 z hz) (ptlt_irr z)
      · exact k
    · rcases List.mem_cons.1 ((h z).2 (.tail _ hz)) with rfl | k
      · exact absurd (h2.1 z hz) (ptlt_irr z)
      · exact k
end Go.Lt.P2

namespace Go.Lt.P2
open Go Go.Lt Go.Proofs
/-- Corners' rounds -/
structure ccI (B : Hp) (P : Nat → Prop) (q : List Cn) (w : Sl) (H : Hp) : Prop where
  g : Gr B H
  o : H.get B.n = some (.cells [.sl w] false)
  d : H.get (B.n + 1) = some .dfr
  l : H.get (B.n + 2) = some (.loop .ready none 1 21 [(4, .ptr B.n 0)])
  a : AccL (B.n + 3) H w (q.map (·.1))
  n : B.n + 3 ≤ H.n
  p : ∀ b, P b → b < H.n ∧ (b < B.n ∨ (B.n + 3 ≤ b ∧ (w.nil = false → b ≠ w.b)))
theorem low {T : Type} [El T] {n0 : Nat} {H : Hp} {w : Sl} {l : List T} (h : AccL n0 H w l) (hn : w.nil = false) : n0 ≤ w.b ∧ w.b < H.n := by
  rcases h with ⟨rfl, _⟩ | ⟨_, _, _, _, h5, h6, _⟩
  · simp [nilS] at hn
  · exact ⟨h5, Hp.get_lt h6⟩
theorem rnd1 {k : Nat} {B H : Hp} {P : Nat → Prop} {q : List Cn} {w : Sl} {x : Cn} (h : ccI B P q w H) (hb : q.length ≤ 1000000) :
    Ok (callv (app (k + 1)) (.yld (B.n + 2)) (argC x) H) fun r H' => H.n ≤ H'.n ∧ r = .bool true ∧ (∃ w', ccI B P (q ++ [x]) w' H') ∧ ∀ b, b < H.n → P b → H'.get b = H.get b := by
  show Ok (ydisp (app k) (B.n + 2) (argC x) H) _
  unfold ydisp
  rw [h.l]
  refine Ok.bind (P := fun r H' => r = none ∧ ∃ w', H.n ≤ H'.n ∧ Gr B H' ∧ H'.get B.n = some (.cells [.sl w'] false) ∧ H'.get (B.n + 1) = some .dfr ∧ H'.get (B.n + 2) = some (.loop .busy none 1 21 [(4, .ptr B.n 0)]) ∧ AccL (B.n + 3) H' w' ((q ++ [x]).map (·.1)) ∧ (∀ b, b < H.n → B.n + 3 ≤ b → (w.nil = false → b ≠ w.b) → H'.get b = H.get b) ∧ (w'.nil = false → (w.nil = false ∧ w'.b = w.b) ∨ H.n ≤ w'.b)) ?_ ?_
  · unfold r51q1
    have hn := h.n
    have c0 : Cx H H [] := .nil H
    refine Ok.alo c0 fun D gD cD => ?_
    have pD : D.get (B.n + 2) = some (.loop .ready none 1 21 [(4, .ptr B.n 0)]) := by rw [gD.2 _ (by omega)]; exact h.l
    have hbeg : D.lbegin (B.n + 2) = some (D.set (B.n + 2) (.loop .busy none 1 21 [(4, .ptr B.n 0)])) := by unfold Hp.lbegin; rw [pD]
    refine Ok.ld hbeg ?_
    have hx := cD.e _ (.head _)
    have nD := cD.lt (.head _)
    have gD1 := gD.1
    generalize hE : D.set (B.n + 2) (.loop .busy none 1 21 [(4, .ptr B.n 0)]) = E
    have oE : ∀ x, x ≠ B.n + 2 → E.get x = D.get x := fun x hx => by rw [← hE, Hp.get_set_other _ _ hx]
    have pE : E.get (B.n + 2) = some (.loop .busy none 1 21 [(4, .ptr B.n 0)]) := by rw [← hE, Hp.get_set_same _ _ (by omega)]
    have nE : E.n = D.n := by rw [← hE]; simp
    clear hE
    have sE : E.get B.n = some (.cells [.sl w] false) := by rw [oE _ (by omega), gD.2 _ (by omega)]; exact h.o
    have cE : E.get H.n = some (.cells [.int .i64 (fq x.1.1).1, .int .i64 (fq x.1.1).2, .int .i64 (fq x.1.2).1, .int .i64 (fq x.1.2).2, .int .i64 x.2.1.1, .int .i64 x.2.1.2.1, .int .i64 x.2.1.2.2, .int .i64 x.2.2.1, .int .i64 x.2.2.2.1, .int .i64 x.2.2.2.2] false) := by rw [oE _ (by omega)]; exact hx
    refine Ok.ld (ldSl_get sE rfl) (Ok.ld (ldI_get cE rfl) (Ok.ld (ldI_get cE rfl) (Ok.ld (ldI_get cE rfl) (Ok.ld (ldI_get cE rfl) ?_))))
    have aE : AccL (B.n + 3) E w (q.map (·.1)) := by
      refine Acc.keep (AccL.gr h.a gD) fun hn => ?_
      have := low h.a hn
      exact oE _ (by omega)
    have hlw := aE.len
    rw [List.length_map] at hlw
    obtain ⟨w', H', e1, a1, b1, c1, _, _, _⟩ := Acc.apN (k := 1) (xs := pc4 x.1) aE (by decide) rfl (by omega) (by omega)
    refine Ok.ld e1 ?_
    have kp : ∀ y, y < B.n + 3 → H'.get y = E.get y := fun y hy => b1.2 y (by omega) fun hn => by have := low h.a hn; omega
    have sF : H'.get B.n = some (.cells [.sl w] false) := by rw [kp _ (by omega)]; exact sE
    refine Ok.st sF (by simp) fun G eG hG => Ok.ret ⟨rfl, w', ?_, ⟨?_, fun b hb => ?_⟩, hG, ?_, ?_, ?_, fun b hb1 hb2 hb3 => ?_, fun hn' => ?_⟩
    · rw [eG]; have := b1.1; simp; omega
    · rw [eG]; have := b1.1; have := h.g.1; simp; omega
    · rw [eG, Hp.get_set_other _ _ (by omega), kp _ (by omega), oE _ (by omega), gD.2 _ (by omega)]; exact h.g.2 b hb
    · rw [eG, Hp.get_set_other _ _ (by omega), kp _ (by omega), oE _ (by omega), gD.2 _ (by omega)]; exact h.d
    · rw [eG, Hp.get_set_other _ _ (by omega), kp _ (by omega)]; exact pE
    · rw [List.map_append]
      unfold AccL
      rw [encs_append, show encs (List.map (·.1) [x]) = pc4 x.1 from encs_one _]
      refine Acc.keep a1 fun hn => ?_
      rw [eG, Hp.get_set_other]
      have : B.n + 3 ≤ w'.b := by
        rcases a1 with ⟨rfl, _⟩ | ⟨_, _, _, _, h5, _⟩
        · simp [nilS] at hn
        · exact h5
      omega
    · rw [eG, Hp.get_set_other _ _ (by omega), b1.2 b (by omega) hb3, oE _ (by omega), gD.2 _ hb1]
    · rcases c1 with rfl | c1
      · exact .inl ⟨hn', rfl⟩
      · exact .inr (by omega)
  · rintro r H' ⟨rfl, w', n1, h1, h2, h3, h4, h5, h6, h7⟩
    have hnx : H'.lnext (B.n + 2) 1 none = some (H'.set (B.n + 2) (.loop .ready none 1 21 [(4, .ptr B.n 0)])) := by
      unfold Hp.lnext; rw [h4]; simp
    dsimp only
    rw [hnx]
    have hl4 := Hp.get_lt h4
    have hn3 := h.n
    refine Ok.ret ⟨by simpa using n1, rfl, ⟨w', ⟨⟨by have := h1.1; simpa using this, fun b hb => ?_⟩, ?_, ?_, ?_, ?_, by simp; omega, fun b hb => ?_⟩⟩, fun b hb hP => ?_⟩
    · rw [Hp.get_set_other _ _ (by omega)]; exact h1.2 b hb
    · rw [Hp.get_set_other _ _ (by omega)]; exact h2
    · rw [Hp.get_set_other _ _ (by omega)]; exact h3
    · rw [Hp.get_set_same _ _ hl4]
    · refine Acc.keep h5 fun hn => ?_
      have := low h5 hn
      rw [Hp.get_set_other _ _ (by omega)]
    · have hp := h.p b hb
      refine ⟨by simp; omega, ?_⟩
      rcases hp.2 with k1 | ⟨k1, k2⟩
      · exact .inl k1
      · refine .inr ⟨k1, fun hn' => ?_⟩
        rcases h7 hn' with ⟨a, b'⟩ | a
        · rw [b']; exact k2 a
        · omega
    · have hp := h.p b hP
      rw [Hp.get_set_other _ _ (by omega)]
      rcases hp.2 with k1 | ⟨k1, k2⟩
      · rw [h1.2 b k1, h.g.2 b k1]
      · exact h6 b hb k1 k2
theorem ccY {k : Nat} {l : List Sd} (hl : (cs l).length ≤ 1000000) (B : Hp) : Yd (app (k + 1)) (.yld (B.n + 2)) argC (cs l) B (fun P q H => ∃ w, ccI B P q w H) (fun _ _ => False) where
  grow := fun {P P' q H H'} h g hP => by
    obtain ⟨w, h⟩ := h
    have hn := h.n
    refine ⟨w, h.g.trans g, by rw [g.2 _ (by omega)]; exact h.o, by rw [g.2 _ (by omega)]; exact h.d, by rw [g.2 _ (by omega)]; exact h.l, h.a.gr g, Nat.le_trans h.n g.1, fun b hb => ?_⟩
    rcases hP b hb with h1 | h1
    · have := h.p b h1
      exact ⟨Nat.lt_of_lt_of_le this.1 g.1, this.2⟩
    · refine ⟨h1.2, .inr ⟨by omega, fun hn => ?_⟩⟩
      have := low h.a hn
      omega
  base := fun ⟨_, h⟩ => h.g
  step := fun {P q H x} ⟨w, h⟩ hx => by
    have hq := hx.length_le
    rw [List.length_append] at hq
    refine Ok.mono (rnd1 (k := k) (x := x) h (by simp at hq; omega)) fun r H' ⟨h1, h2, h3, h4⟩ => ⟨h1, .inl ⟨h2, h3, h4⟩⟩
end Go.Lt.P2

namespace Go.Lt.P2
open Go Go.Lt Go.Proofs
def ltP (p q : Pq) : Bool := decide (ptlt p q)
def cmpQ (p q : Pq) : Int := if cmpq p.1 q.1 ≠ 0 then cmpq p.1 q.1 else cmpq p.2 q.2
theorem cmpQ_lt (p q : Pq) : cmpQ p q < 0 ↔ ltP p q = true := by
  unfold ltP
  rw [decide_eq_true_iff]
  unfold cmpQ cmpq ptlt
  by_cases a : p.1 < q.1
  · rw [if_pos a, if_pos (by decide)]; simp [a]
  · rw [if_neg a]
    by_cases b : q.1 < p.1
    · rw [if_pos b, if_pos (by decide)]
      constructor
      · intro h; exact absurd h (by decide)
      · rintro (h | h)
        · exact absurd h a
        · grind
    · rw [if_neg b, if_neg (by decide)]
      have e : p.1 = q.1 := by grind
      by_cases c : p.2 < q.2
      · rw [if_pos c]; simp [e, c]
      · rw [if_neg c]
        constructor
        · intro h
          split at h <;> exact absurd h (by decide)
        · rintro (h | h)
          · exact absurd h a
          · exact absurd h.2 c
def CmpSays (a : App) (fv : AV) : Prop := ∀ H (p q : Pq), qp p → qp q → Ok (callv a fv [.agg (pc4 p), .agg (pc4 q)] H) fun r H' => Gr H H' ∧ r = .int .i64 (cmpQ p q)
def at' (q : List Pq) (t : Nat) : Pq := q.getD t (0, 0)
theorem at_eq {q : List Pq} {t : Nat} (h : t < q.length) : q[t] = at' q t := by
  unfold at'
  rw [List.getD_eq_getElem?_getD, List.getElem?_eq_getElem h]; rfl
theorem at_set {q : List Pq} {j : Nat} (h : j < q.length) (x : Pq) (t : Nat) : at' (q.set j x) t = if t = j then x else at' q t := by
  unfold at'
  rw [List.getD_eq_getElem?_getD, List.getD_eq_getElem?_getD, List.getElem?_set]
  by_cases e : j = t
  · subst e; simp [h]
  · rw [if_neg e, if_neg (fun c => e c.symm)]
theorem ltP_asym {p q : Pq} (h : ltP p q = true) : ltP q p = false := by
  simp only [ltP, decide_eq_true_eq, decide_eq_false_iff_not] at *
  unfold ptlt at *
  grind
theorem ltP_ntr {p q r : Pq} (h : ltP q p = false) (k : ltP r q = false) : ltP r p = false := by
  simp only [ltP, decide_eq_false_iff_not] at *
  unfold ptlt at *
  grind
def so (q : List Pq) : Prop := ∀ t t', t < t' → t' < q.length → ltP (at' q t') (at' q t) = false
def sb (q : List Pq) (i j : Nat) : Prop := ∀ t t', t < t' → t' ≤ i → t' ≠ j → ltP (at' q t') (at' q t) = false
theorem sb_swap {q : List Pq} {i j : Nat} (hi : i < q.length) (hj : j + 1 ≤ i) (h : sb q i (j + 1)) (hl : ltP (at' q (j + 1)) (at' q j) = true) : sb ((q.set (j + 1) (at' q j)).set j (at' q (j + 1))) i j := by
  have e : ∀ t, at' ((q.set (j + 1) (at' q j)).set j (at' q (j + 1))) t = if t = j then at' q (j + 1) else if t = j + 1 then at' q j else at' q t := fun t => by
    rw [at_set (by simp; omega), at_set (by omega)]
  intro t t' h1 h2 h3
  rw [e, e, if_neg h3]
  by_cases c1 : t' = j + 1
  · subst c1
    rw [if_pos rfl]
    by_cases c2 : t = j
    · subst c2; rw [if_pos rfl]; exact ltP_asym hl
    · rw [if_neg c2, if_neg (by omega)]
      exact h t j (by omega) (by omega) (by omega)
  · rw [if_neg c1]
    by_cases c2 : t = j
    · subst c2; rw [if_pos rfl]; exact h (t + 1) t' (by omega) h2 c1
    · rw [if_neg c2]
      by_cases c3 : t = j + 1
      · subst c3; rw [if_pos rfl]; exact h j t' (by omega) h2 c1
      · rw [if_neg c3]; exact h t t' h1 h2 c1
theorem sb_stop {q : List Pq} {i j : Nat} (hj : j ≤ i) (h : sb q i j) (hs : 0 < j → ltP (at' q j) (at' q (j - 1)) = false) : ∀ t t', t < t' → t' ≤ i → ltP (at' q t') (at' q t) = false := by
  intro t t' h1 h2
  by_cases e : t' = j
  · subst e
    have := hs (by omega)
    by_cases e2 : t = t' - 1
    · subst e2; exact this
    · exact ltP_ntr (h t (t' - 1) (by omega) (by omega) (by omega)) this
  · exact h t t' h1 h2 e
section
variable {a : App} {fv : AV} {v : Sl} {Q : Unit → Hp → Prop}
theorem r114_l1_ok (hc : CmpSays a fv) {kt : Sl → Int → Int → AV → Int → Hp → Option (Unit × Hp)} {q : List Pq} (hqp : ∀ x ∈ q, qp x) (hb : q.length ≤ 1000000) {i : Nat} {n : Int} {H : Hp} (ho : Own H v q) (hi : i < q.length) (hs : sb q i i)
    (k : ∀ q' H', Own H' v q' → Only v.b H H' → q'.Perm q → (∀ t t', t < t' → t' ≤ i → ltP (at' q' t') (at' q' t) = false) → Ok (kt v 0 n fv ((i + 1 : Nat) : Int) H') Q) :
    Ok (r114_l1 a kt FUEL v 0 n fv i i H) Q := by
  refine Ok.loop (L := fun K (s : Int) H' => r114_l1 a kt K v 0 n fv i s H') (fun m s H' => ∃ j : Nat, s = j ∧ j ≤ i ∧ m = j ∧ ∃ q', Own H' v q' ∧ Only v.b H H' ∧ q'.Perm q ∧ sb q' i j) ?_ FUEL i i H (by unfold FUEL; omega) ⟨i, rfl, Nat.le_refl _, rfl, q, ho, .refl _ _, .refl _, hs⟩
  rintro K m s H1 ⟨j, rfl, hj, rfl, q', h1, g1, hp, hsb⟩ ih
  try dsimp only at *
  have hql := hp.length_eq
  have hvl := h1.len
  rw [r114_l1]
  have stop : (0 < m → ltP (at' q' m) (at' q' (m - 1)) = false) → ∀ kt1 H2, Own H2 v q' → Only v.b H H2 → Ok (r114_j2 a kt kt1 v 0 n fv i m false H2) Q := by
    intro h kt1 H2 o2 g2
    unfold r114_j2
    refine Ok.neg (by simp) ?_
    rw [w64_succ (by omega)]
    exact k q' H2 o2 g2 hp (sb_stop hj hsb h)
  by_cases h : 0 < m
  · obtain ⟨j, rfl⟩ : ∃ j, m = j + 1 := ⟨m - 1, by omega⟩
    have ej : w64 (((j + 1 : Nat) : Int) - 1) = (j : Int) := by rw [w64_id (by omega) (by omega)]; omega
    rw [ej]
    have hg := h1.sl
    refine Ok.pos (by omega) (Ok.ck (by omega) (Ok.ld (hg.ldI (i := j + 1) (j := 0) (by omega) rfl) (Ok.ld (hg.ldI (i := j + 1) (j := 1) (by omega) rfl) (Ok.ld (hg.ldI (i := j + 1) (j := 2) (by omega) rfl) (Ok.ld (hg.ldI (i := j + 1) (j := 3) (by omega) rfl) (Ok.ck (by omega) (Ok.ld (hg.ldI (i := j) (j := 0) (by omega) rfl) (Ok.ld (hg.ldI (i := j) (j := 1) (by omega) rfl) (Ok.ld (hg.ldI (i := j) (j := 2) (by omega) rfl) (Ok.ld (hg.ldI (i := j) (j := 3) (by omega) rfl) ?_))))))))))
    refine Ok.bind (hc H1 q'[j + 1] q'[j] (hqp _ (hp.mem_iff.1 (List.getElem_mem _))) (hqp _ (hp.mem_iff.1 (List.getElem_mem _)))) fun r H2 ⟨g2, hr⟩ => ?_
    subst hr
    refine Ok.ld rfl ?_
    have o2 := h1.gr g2
    have gg := g1.trans (Gr.only (b := v.b) g2)
    by_cases hl : cmpQ q'[j + 1] q'[j] < 0
    · rw [decide_eq_true hl]
      unfold r114_j2
      rw [ej]
      have hg2 := o2.sl
      refine Ok.pos rfl (Ok.ck (by omega) (Ok.ld (hg2.ldI (i := j) (j := 0) (by omega) rfl) (Ok.ld (hg2.ldI (i := j) (j := 1) (by omega) rfl) (Ok.ld (hg2.ldI (i := j) (j := 2) (by omega) rfl) (Ok.ld (hg2.ldI (i := j) (j := 3) (by omega) rfl) (Ok.ck (by omega) (Ok.ld (hg2.ldI (i := j + 1) (j := 0) (by omega) rfl) (Ok.ld (hg2.ldI (i := j + 1) (j := 1) (by omega) rfl) (Ok.ld (hg2.ldI (i := j + 1) (j := 2) (by omega) rfl) (Ok.ld (hg2.ldI (i := j + 1) (j := 3) (by omega) rfl) (Ok.ck (by omega) ?_)))))))))))
      refine o2.put (j := j + 1) (by omega) q'[j] rfl rfl fun H3 o3 g3 n3 => Ok.ck (by omega) (o3.put (j := j) (by simp; omega) q'[j + 1] rfl rfl fun H4 o4 g4 n4 => ?_)
      dsimp only
      refine ih j _ H4 (by omega) ⟨j, rfl, by omega, rfl, _, o4, gg.trans (g3.trans g4), (swap_perm (by omega)).trans hp, ?_⟩
      rw [at_eq (show j < q'.length by omega), at_eq (show j + 1 < q'.length by omega)]
      refine sb_swap (by omega) (by omega) hsb ?_
      rw [← at_eq (show j < q'.length by omega), ← at_eq (show j + 1 < q'.length by omega)]
      exact (cmpQ_lt _ _).1 hl
    · rw [decide_eq_false hl]
      refine stop (fun _ => ?_) _ H2 o2 gg
      rw [Nat.add_sub_cancel, ← at_eq (show j < q'.length by omega), ← at_eq (show j + 1 < q'.length by omega)]
      cases hb2 : ltP q'[j + 1] q'[j] with
      | false => rfl
      | true => exact absurd ((cmpQ_lt _ _).2 hb2) hl
  · exact Ok.neg (by omega) (stop (fun h' => absurd h' h) _ H1 h1 g1)
/-- slices.insertionSortCmpFunc -/
theorem r114_ok (hc : CmpSays a fv) {q : List Pq} (hqp : ∀ x ∈ q, qp x) (hb : q.length ≤ 1000000) {H : Hp} (ho : Own H v q) :
    Ok (r114 a v 0 q.length fv H) fun _ H' => ∃ q', Own H' v q' ∧ Only v.b H H' ∧ q'.Perm q ∧ so q' := by
  unfold r114
  rw [show w64 (0 + 1) = ((1 : Nat) : Int) by decide]
  refine Ok.loop (L := fun K (s : Int) H' => r114_l0 a K v 0 q.length fv s H') (fun m s H' => ∃ i : Nat, s = i ∧ 1 ≤ i ∧ q.length ≤ i + m ∧ ∃ q', Own H' v q' ∧ Only v.b H H' ∧ q'.Perm q ∧ ∀ t t', t < t' → t' < i → ltP (at' q' t') (at' q' t) = false) ?_ FUEL q.length _ H (by unfold FUEL; omega) ⟨1, rfl, Nat.le_refl _, by omega, q, ho, .refl _ _, .refl _, fun t t' h1 h2 => by omega⟩
  rintro K m s H1 ⟨i, rfl, hi1, hm, q', h1, g1, hp, hs⟩ ih
  try dsimp only at *
  have hql := hp.length_eq
  rw [r114_l0]
  by_cases h : i < q.length
  · refine Ok.pos (by omega) (r114_l1_ok hc (fun x hx => hqp x (hp.mem_iff.1 hx)) (by omega) h1 (by omega) (fun t t' a1 a2 a3 => hs t t' a1 (by omega)) fun q2 H2 o2 g2 p2 s2 => ?_)
    exact ih (m - 1) _ H2 (by omega) ⟨i + 1, rfl, by omega, by omega, q2, o2, g1.trans g2, p2.trans hp, fun t t' a1 a2 => s2 t t' a1 (by omega)⟩
  · exact Ok.neg (by omega) (Ok.ret ⟨q', h1, g1, hp, fun t t' a1 a2 => hs t t' a1 (by omega)⟩)
end
end Go.Lt.P2

namespace Go.Lt.P2
open Go Go.Lt Go.Proofs
theorem pc_beq2 {q p : Pq} : ((((fq q.1).1 == (fq p.1).1) && ((fq q.1).2 == (fq p.1).2)) && (((fq q.2).1 == (fq p.2).1) && ((fq q.2).2 == (fq p.2).2))) = decide (q = p) := by
  have e : ∀ {p q : Rat}, (((fq p).1 == (fq q).1) && ((fq p).2 == (fq q).2)) = decide (p = q) := fun {p q} => by
    refine Bool.eq_iff_iff.2 ?_
    simp only [Bool.and_eq_true, beq_iff_eq, decide_eq_true_iff]
    exact ⟨fun h => fq_inj (Prod.ext h.1 h.2), fun h => by rw [h]; exact ⟨rfl, rfl⟩⟩
  rw [e, e]
  refine Bool.eq_iff_iff.2 ?_
  simp only [Bool.and_eq_true, decide_eq_true_iff]
  exact ⟨fun h => Prod.ext h.1 h.2, fun h => by rw [h]; exact ⟨rfl, rfl⟩⟩
/-- a list without doubles, that says as much as the beginning of a sorted one -/
structure Dd (q : List Pq) (t : Nat) (r : List Pq) : Prop where
  srt : r.Pairwise ptlt
  mem : ∀ x, x ∈ r ↔ x ∈ q.take t
  top : ∀ x ∈ r, ∀ h : t - 1 < q.length, x = q[t - 1] ∨ ptlt x q[t - 1]
theorem Dd.same {q r : List Pq} {t : Nat} (h : Dd q t r) (h1 : 1 ≤ t) (ht : t < q.length) (e : q[t] = q[t - 1]) : Dd q (t + 1) r := by
  refine ⟨h.srt, fun x => ?_, fun x hx _ => ?_⟩
  · rw [h.mem, List.take_succ_eq_append_getElem ht, List.mem_append, List.mem_singleton]
    constructor
    · exact .inl
    · rintro (k | rfl)
      · exact k
      · rw [e]; exact List.mem_take_iff_getElem.2 ⟨t - 1, by omega, rfl⟩
  · have := h.top x hx (by omega)
    rw [← e] at this
    exact this
theorem Dd.push {q r : List Pq} {t : Nat} (h : Dd q t r) (hs : so q) (h1 : 1 ≤ t) (ht : t < q.length) (e : q[t] ≠ q[t - 1]) : Dd q (t + 1) (r ++ [q[t]]) := by
  have h2 := hs (t - 1) t (by omega) ht
  rw [← at_eq ht, ← at_eq (show t - 1 < q.length by omega)] at h2
  have h3 : ¬ ptlt q[t] q[t - 1] := of_decide_eq_false h2
  have h4 : ptlt q[t - 1] q[t] := ptlt_tri h3 e
  refine ⟨?_, fun x => ?_, fun x hx _ => ?_⟩
  · rw [List.pairwise_append]
    refine ⟨h.srt, List.pairwise_singleton _ _, fun x hx y hy => ?_⟩
    rw [List.mem_singleton] at hy
    subst hy
    rcases h.top x hx (by omega) with rfl | k
    · exact h4
    · exact ptlt_trans k h4
  · rw [List.mem_append, h.mem, List.take_succ_eq_append_getElem ht, List.mem_append]
  · rcases List.mem_append.1 hx with hx | hx
    · right
      show ptlt x q[t]
      rcases h.top x hx (by omega) with rfl | k
      · exact h4
      · exact ptlt_trans k h4
    · rw [List.mem_singleton] at hx
      exact .inl hx
/-- Compact -/
theorem r90_ok {H : Hp} {v : Sl} {q : List Pq} (ho : Own H v q) (hb : q.length ≤ 1000) (hs : so q) : Ok (r90 v H) fun w H' => (Only v.b H H' ∧ w.b = v.b) ∧ ∃ r, SL H' w r ∧ r.Pairwise ptlt ∧ ∀ x, x ∈ r ↔ x ∈ q := by
  unfold r90
  have hlen := ho.len
  refine Ok.ite (fun h2 => Ok.ret ⟨⟨.refl _ _, rfl⟩, q, ho.sl, ?_, fun _ => Iff.rfl⟩) fun h2 => ?_
  · match q, hlen, h2 with
    | [], _, _ => exact .nil
    | [x], _, _ => exact List.pairwise_singleton _ _
    | x :: y :: r, hlen, h2 => simp only [List.length_cons] at hlen; omega
  refine Ok.loop (L := fun K (s : Int) H2 => r90_l0 K v s H2) (fun m s H' => H' = H ∧ ∃ k : Nat, s = k ∧ 1 ≤ k ∧ k + m = q.length ∧ Dd q k (q.take k)) ?_ FUEL (q.length - 1) 1 H (by unfold FUEL; omega) ⟨rfl, 1, rfl, by omega, by omega, ⟨?_, fun _ => Iff.rfl, fun x hx _ => ?_⟩⟩
  rotate_left
  · match q, hlen with
    | x :: r, _ => exact List.pairwise_singleton _ _
    | [], _ => exact .nil
  · match q, hx with
    | y :: r, hx => left; simpa using hx
  rintro K m s H1 ⟨rfl, k, rfl, hk1, hm, hd⟩ ih
  try dsimp only at *
  rw [r90_l0]
  by_cases h : k < q.length
  case neg =>
    rw [List.take_of_length_le (by omega)] at hd
    exact Ok.neg (by omega) (Ok.ret ⟨⟨.refl _ _, rfl⟩, q, ho.sl, hd.srt, fun _ => Iff.rfl⟩)
  have hg := ho.sl
  have hj : k - 1 < q.length := by omega
  have ej : w64 ((k : Int) - 1) = ((k - 1 : Nat) : Int) := by rw [w64_id (by omega) (by omega)]; omega
  rw [ej]
  refine Ok.pos (by omega) (Ok.ck (by omega) (Ok.ld (hg.ldI (i := k) (j := 0) h rfl) (Ok.ld (hg.ldI (i := k) (j := 1) h rfl) (Ok.ld (hg.ldI (i := k) (j := 2) h rfl) (Ok.ld (hg.ldI (i := k) (j := 3) h rfl) (Ok.ck (by omega) (Ok.ld (hg.ldI (i := k - 1) (j := 0) hj rfl) (Ok.ld (hg.ldI (i := k - 1) (j := 1) hj rfl) (Ok.ld (hg.ldI (i := k - 1) (j := 2) hj rfl) (Ok.ld (hg.ldI (i := k - 1) (j := 3) hj rfl) ?_))))))))))
  rw [pc_beq2]
  by_cases he : q[k] = q[k - 1]
  case neg =>
    rw [decide_eq_false he, w64_succ (by omega)]
    refine Ok.neg (by simp) (ih (m - 1) _ _ (by omega) ⟨rfl, k + 1, rfl, by omega, by omega, ?_⟩)
    have := hd.push hs hk1 h he
    rw [← List.take_succ_eq_append_getElem h] at this
    exact this
  rw [decide_eq_true he]
  have hcap := ho.cap
  have hopn := ho.opn
  have es : El.sz Pq = 4 := rfl
  rw [es] at hopn
  refine Ok.pos rfl (Ok.ck ⟨by omega, hopn⟩ ?_)
  rw [Int.toNat_natCast, hlen, Int.toNat_natCast]
  have hnn := ho.nn
  have hoo := ho.o
  have ec : v.cut 4 k q.length = ⟨false, v.b, v.o + k * 4, q.length - k, v.cap - k, v.opn⟩ := by unfold Sl.cut; rw [if_neg (by simp [hnn])]
  rw [ec]
  clear ih
  refine Ok.loop (L := fun K (s : Int × Int) H2 => r90_l1 K v s.1 ⟨false, v.b, v.o + k * 4, q.length - k, v.cap - k, v.opn⟩ s.2 H2) (fun m s H' => ∃ (i t : Nat) (q' r : List Pq), s.1 = i ∧ s.2 = t ∧ 1 ≤ t ∧ k + t + m = q.length ∧ i + 1 ≤ k + t ∧ Own H' v q' ∧ Only v.b H1 H' ∧ q'.length = q.length ∧ q'.take i = r ∧ r.length = i ∧ Dd q (k + t) r ∧ ∀ j, k + t ≤ j + 1 → q'[j]? = q[j]?) ?_ FUEL (q.length - (k + 1)) (((k : Nat) : Int), 1) H1 (by unfold FUEL; omega) ⟨k, 1, q, q.take k, rfl, rfl, by omega, by omega, by omega, ho, .refl _ _, rfl, rfl, by rw [List.length_take]; omega, hd.same hk1 h he, fun _ _ => rfl⟩
  rintro K' m' ⟨s1, s2⟩ H2 ⟨i, t, q', r, rfl, rfl, ht1, hmt, hit, o2, on2, hql, hr, hri, hd2, hq'⟩ ih
  try dsimp only at *
  rw [r90_l1]
  have o2l := o2.len
  by_cases h3 : k + t < q.length
  · have hg2 := o2.sl
    have et : w64 ((t : Int) - 1) = ((t - 1 : Nat) : Int) := by rw [w64_id (by omega) (by omega)]; omega
    have a1 : k + t < q'.length := by omega
    have a2 : k + (t - 1) < q'.length := by omega
    have e1 : q'[k + t] = q[k + t] := by
      have := hq' (k + t) (by omega)
      rw [List.getElem?_eq_getElem a1, List.getElem?_eq_getElem h3] at this
      exact Option.some.inj this
    have e2 : q'[k + (t - 1)] = q[k + (t - 1)]'(by omega) := by
      have := hq' (k + (t - 1)) (by omega)
      rw [List.getElem?_eq_getElem a2, List.getElem?_eq_getElem (by omega)] at this
      exact Option.some.inj this
    have p1 : ∀ n : Nat, v.o + k * 4 + n * 4 = v.o + (k + n) * 4 := fun n => by rw [Nat.add_mul]; omega
    rw [et]
    simp only [Int.toNat_natCast, p1]
    refine Ok.pos (by omega) (Ok.ck (by omega) (Ok.ld (hg2.ldI (i := k + t) (j := 0) a1 rfl) (Ok.ld (hg2.ldI (i := k + t) (j := 1) a1 rfl) (Ok.ld (hg2.ldI (i := k + t) (j := 2) a1 rfl) (Ok.ld (hg2.ldI (i := k + t) (j := 3) a1 rfl) (Ok.ck (by omega) (Ok.ld (hg2.ldI (i := k + (t - 1)) (j := 0) a2 rfl) (Ok.ld (hg2.ldI (i := k + (t - 1)) (j := 1) a2 rfl) (Ok.ld (hg2.ldI (i := k + (t - 1)) (j := 2) a2 rfl) (Ok.ld (hg2.ldI (i := k + (t - 1)) (j := 3) a2 rfl) ?_))))))))))
    rw [pc_beq2, w64_succ (by omega)]
    have ek : k + (t - 1) = k + t - 1 := by omega
    have e2' : q'[k + (t - 1)] = q[k + t - 1] := by rw [e2]; congr 1
    by_cases h4 : q'[k + t] = q'[k + (t - 1)]
    · rw [decide_eq_true h4]
      refine Ok.pos rfl (ih (m' - 1) (_, _) H2 (by omega) ⟨i, t + 1, q', r, rfl, by simp, by omega, by omega, by omega, o2, on2, hql, hr, hri, ?_, fun j hj => hq' j (by omega)⟩)
      exact hd2.same (by omega) h3 (by rw [← e1, h4, e2'])
    · rw [decide_eq_false h4]
      have hiq : i < q'.length := by omega
      refine Ok.neg (by simp) (Ok.ck (by omega) (Ok.ld (hg2.ldI (i := k + t) (j := 0) a1 rfl) (Ok.ld (hg2.ldI (i := k + t) (j := 1) a1 rfl) (Ok.ld (hg2.ldI (i := k + t) (j := 2) a1 rfl) (Ok.ld (hg2.ldI (i := k + t) (j := 3) a1 rfl) (Ok.ck (by omega) ?_))))))
      refine Own.put o2 hiq q'[k + t] rfl rfl fun H3 o3 on3 n3 => ?_
      rw [w64_succ (by omega)]
      have hd3 := hd2.push hs (by omega) h3 (by rw [← e1, ← e2']; exact h4)
      refine ih (m' - 1) (_, _) H3 (by omega) ⟨i + 1, t + 1, _, _, by simp, by simp, by omega, by omega, by omega, o3, on2.trans on3, by rw [List.length_set]; exact hql, ?_, by rw [List.length_append, hri]; rfl, hd3, fun j hj => ?_⟩
      · rw [List.take_succ_eq_append_getElem (by rw [List.length_set]; exact hiq), List.take_set_of_le (Nat.le_refl _), hr, List.getElem_set_self, e1]
      · rw [List.getElem?_set_ne (by omega)]
        exact hq' j (by omega)
  · have hiq : i ≤ q'.length := by omega
    have e0 : k + t = q.length := by omega
    rw [e0] at hd2
    have hmem : ∀ x, x ∈ r ↔ x ∈ q := fun x => by rw [hd2.mem, List.take_of_length_le (Nat.le_refl _)]
    have ec2 : v.cut 4 i q.length = ⟨false, v.b, v.o + i * 4, q.length - i, v.cap - i, v.opn⟩ := by unfold Sl.cut; rw [if_neg (by simp [hnn])]
    have ec3 : v.cut 4 0 i = ⟨false, v.b, v.o, i, v.cap, v.opn⟩ := by unfold Sl.cut; rw [if_neg (by simp [hnn])]; simp
    rw [hlen] at hcap ⊢
    simp only [Int.toNat_natCast]
    rw [ec2, show (0 : Int).toNat = 0 from rfl, ec3]
    dsimp only
    have hel : (encs q').length = q.length * 4 := by rw [encs_len, es, hql]
    obtain ⟨H3, k1, k2, k3, k4⟩ := sts_blk (zerosA [.int .i64 0, .int .i64 0, .int .i64 0, .int .i64 0] ((q.length - i) * 4)) (v.o + i * 4) H2 _ o2.get (by rw [zerosA_len, hel, hoo, Nat.sub_mul]; omega)
    refine Ok.neg (by omega) (Ok.ck ⟨by omega, hopn⟩ (Ok.ld k1 (Ok.ck ⟨by omega, hopn⟩ (Ok.ret ⟨⟨on2.trans ⟨by omega, fun c _ hc => k4 c hc⟩, rfl⟩, r, ?_, hd2.srt, hmem⟩))))
    have etk : (encs q').take (v.o + i * 4) = encs r := by
      have : encs q' = encs r ++ encs (q'.drop i) := by rw [← encs_append, ← hr, List.take_append_drop]
      rw [this, List.take_append_of_le_length (by rw [encs_len, es, hri, hoo]; omega), List.take_of_length_le (by rw [encs_len, es, hri, hoo]; omega)]
    rw [etk, List.append_assoc] at k2
    refine ⟨⟨by rw [encs_len, hri], lds_of_get fun j hj => ?_⟩, by dsimp only; omega, by rw [es]; exact hopn, fun c => by cases c⟩
    dsimp only
    rw [ld_of_get k2, hoo]
    simp only [Nat.zero_add]
    rw [List.getElem?_append_left hj, List.getElem?_eq_getElem hj]
end Go.Lt.P2

namespace Go.Lt.P2
open Go Go.Lt Go.Proofs
/-- cmp.Or of two -/
theorem r88_ok {H : Hp} {b : Nat} {x y : Int} (hb : H.get b = some (.cells [.int .i64 x, .int .i64 y] false)) : r88 ⟨false, b, 0, 2, 2, 0⟩ H = some (if x ≠ 0 then x else y, H) := by
  have e0 : H.ldI .i64 b (0 + (0 : Int).toNat * 1) = some x := ldI_get hb rfl
  have e1 : H.ldI .i64 b (0 + (1 : Int).toNat * 1) = some y := ldI_get hb rfl
  have s1 : w64 ((0 : Int) + 1) = 1 := by decide +kernel
  have s2 : w64 ((1 : Int) + 1) = 2 := by decide +kernel
  unfold r88
  rw [show FUEL = 18446744073709551613 + 1 + 1 + 1 from rfl, r88_l0]
  simp only [e0, Option.bind_some, s1]
  rw [if_pos (by simp), ck, if_pos (by simp)]
  by_cases h : x ≠ 0
  · rw [if_pos h, if_pos h]
  · rw [if_neg h, if_neg h, r88_l0]
    simp only [e1, Option.bind_some, s2]
    rw [if_pos (by simp), ck, if_pos (by simp)]
    by_cases h2 : y ≠ 0
    · rw [if_pos h2]
    · rw [if_neg h2, r88_l0, if_neg (by simp)]
      simp only [ne_eq, Classical.not_not] at h2
      rw [h2]
/-- the comparison of Corners -/
theorem r87_ok {p q : Pq} {H : Hp} (hp : qp p) (hq : qp q) : Ok (r87 (fq p.1).1 (fq p.1).2 (fq p.2).1 (fq p.2).2 (fq q.1).1 (fq q.1).2 (fq q.2).1 (fq q.2).2 H) fun r H' => Gr H H' ∧ r = cmpQ p q := by
  unfold r87
  refine Ok.box2 (.nil H) fun A gA c => ?_
  refine Ok.cld c (.tail _ (.head _)) rfl (Ok.cld c (.tail _ (.head _)) rfl (Ok.cld c (.head _) rfl (Ok.cld c (.head _) rfl (Ok.own (r89_q hp.1 hq.1 (by decide) (by decide)) fun _ => ?_))))
  refine Ok.cld c (.tail _ (.head _)) rfl (Ok.cld c (.tail _ (.head _)) rfl (Ok.cld c (.head _) rfl (Ok.cld c (.head _) rfl (Ok.own (r89_q hp.2 hq.2 (by decide) (by decide)) fun _ => ?_))))
  have gp := Gr.push A (.cells [.int .i64 (cmpq p.1 q.1), .int .i64 (cmpq p.2 q.2)] false)
  exact Ok.ld (r88_ok (Hp.get_push_new _ _)) (Ok.ret ⟨gA.trans gp, rfl⟩)
theorem says87 (k : Nat) : CmpSays (appA (k + 1)) (.fn 87 [] []) := by
  intro H p q hp hq
  show Ok ((r87 (fq p.1).1 (fq p.1).2 (fq p.2).1 (fq p.2).2 (fq q.1).1 (fq q.1).2 (fq q.2).1 (fq q.2).2 H).map fun p => (AV.int .i64 p.1, p.2)) _
  obtain ⟨r, H', e, g, rfl⟩ := r87_ok (H := H) hp hq
  rw [e]
  exact Ok.ret ⟨g, rfl⟩
theorem cmpQ_refl (p : Pq) : cmpQ p p = 0 := by
  have : ∀ x : Rat, cmpq x x = 0 := fun x => by unfold cmpq; rw [if_neg (by grind), if_neg (by grind)]
  unfold cmpQ
  rw [this, this]; rfl
end Go.Lt.P2

namespace Go.Lt.P2
open Go Go.Lt Go.Proofs
theorem r109_at {n : Nat} (hn : n ∈ [0, 1, 2, 3, 4, 5, 6, 7, 8, 9, 10, 11, 12, 13, 14, 15]) (H : Hp) : r109 (n : Int) H = some (([0, 1, 2, 2, 3, 3, 3, 3, 4, 4, 4, 4, 4, 4, 4, 4] : List Int).getD n 0, H) := by
  simp only [List.mem_cons, List.not_mem_nil, or_false] at hn
  rcases hn with rfl | rfl | rfl | rfl | rfl | rfl | rfl | rfl | rfl | rfl | rfl | rfl | rfl | rfl | rfl | rfl <;> kernel_rfl
theorem r109_small {n : Nat} (hn : n ≤ 15) (H : Hp) : ∃ x, r109 (IntKind.wrap .u64 (n : Int)) H = some (x, H) ∧ (12 < n → x = 4) := by
  have e : IntKind.wrap .u64 (n : Int) = n := by
    simp only [IntKind.wrap, IntKind.signed, IntKind.bits]
    simp
    omega
  rw [e]
  refine ⟨_, r109_at (by simp; omega) H, fun h => ?_⟩
  rcases (show n = 13 ∨ n = 14 ∨ n = 15 by omega) with rfl | rfl | rfl <;> rfl
section
variable {a : App} {fv : AV} {v : Sl} {q : List Pq} {P : Pq}
/-- order2 where all is alike -/
theorem r129_eq (hc : CmpSays a fv) (hP : qp P) (hq : ∀ x ∈ q, x = P) {H : Hp} (hv : SL H v q) {i j : Nat} (hi : i < q.length) (hj : j < q.length) {b o : Nat} : Ok (r129 a v i j b o fv H) fun r H' => Gr H H' ∧ r = ((i : Int), (j : Int)) := by
  unfold r129
  have hl := hv.len
  have ei : q[i] = P := hq _ (List.getElem_mem hi)
  have ej : q[j] = P := hq _ (List.getElem_mem hj)
  refine Ok.ck (by omega) (Ok.ld (hv.ldI (i := j) (j := 0) hj (by rw [ej]; rfl)) (Ok.ld (hv.ldI (i := j) (j := 1) hj (by rw [ej]; rfl)) (Ok.ld (hv.ldI (i := j) (j := 2) hj (by rw [ej]; rfl)) (Ok.ld (hv.ldI (i := j) (j := 3) hj (by rw [ej]; rfl)) (Ok.ck (by omega) (Ok.ld (hv.ldI (i := i) (j := 0) hi (by rw [ei]; rfl)) (Ok.ld (hv.ldI (i := i) (j := 1) hi (by rw [ei]; rfl)) (Ok.ld (hv.ldI (i := i) (j := 2) hi (by rw [ei]; rfl)) (Ok.ld (hv.ldI (i := i) (j := 3) hi (by rw [ei]; rfl)) ?_)))))))))
  refine Ok.bind (hc H P P hP hP) fun r H2 ⟨g2, hr⟩ => ?_
  subst hr
  rw [cmpQ_refl]
  exact Ok.ld rfl (Ok.neg (by decide) (Ok.ret ⟨g2, rfl⟩))
theorem r117_eq (hc : CmpSays a fv) (hP : qp P) (hq : ∀ x ∈ q, x = P) {H : Hp} (hv : SL H v q) (hn : 12 < q.length) (hn2 : q.length ≤ 15) : Ok (r117 a v 0 q.length fv H) fun r H' => Gr H H' ∧ r.2 = 1 := by
  unfold r117
  refine Ok.box (.nil H) fun A gA c => ?_
  have ew : w64 ((q.length : Int) - 0) = q.length := by rw [w64_id (by omega) (by omega)]; omega
  have hvA := hv.gr gA
  rw [ew]
  refine Ok.pos (by omega) (Ok.neg (by omega) ?_)
  have et : Int.tdiv (q.length : Int) 4 = 3 := by
    rcases (show q.length = 13 ∨ q.length = 14 ∨ q.length = 15 by omega) with h | h | h <;> rw [h] <;> decide
  rw [et]
  have e1 : w64 (0 + w64 (w64 3 * 1)) = ((3 : Nat) : Int) := by decide +kernel
  have e2 : w64 (0 + w64 (w64 3 * 2)) = ((6 : Nat) : Int) := by decide +kernel
  have e3 : w64 (0 + w64 (w64 3 * 3)) = ((9 : Nat) : Int) := by decide +kernel
  rw [e1, e2, e3]
  unfold r117_j0 r128
  refine Ok.bind (P := fun _ H' => Gr A H') ?_ fun r D gD => ?_
  · refine Ok.bind (r129_eq hc hP hq hvA (i := 3) (j := 6) (by omega) (by omega)) fun r1 B ⟨gB, h1⟩ => ?_
    subst h1
    refine Ok.bind (r129_eq hc hP hq (hvA.gr gB) (i := 6) (j := 9) (by omega) (by omega)) fun r2 C ⟨gC, h2⟩ => ?_
    subst h2
    refine Ok.bind (r129_eq hc hP hq (hvA.gr (gB.trans gC)) (i := 3) (j := 6) (by omega) (by omega)) fun r3 D ⟨gD, h3⟩ => ?_
    subst h3
    exact Ok.ret (gB.trans (gC.trans gD))
  · have c := c.gr gD
    unfold r117_j1
    exact Ok.cld c (.head _) rfl (Ok.pos rfl (Ok.ret ⟨c.g, rfl⟩))
theorem r119_eq (hc : CmpSays a fv) (hP : qp P) (hq : ∀ x ∈ q, x = P) {H : Hp} (hv : SL H v q) (hn : 12 < q.length) (hn2 : q.length ≤ 15) : Ok (r119 a v 0 q.length fv H) fun r H' => Gr H H' ∧ r = true := by
  unfold r119
  rw [show w64 (0 + 1) = ((1 : Nat) : Int) by decide, show FUEL = 18446744073709551615 + 1 from rfl, r119_l0]
  have hl := hv.len
  refine Ok.pos (by decide) ?_
  refine Ok.loop (L := fun K (s : Int) H' => r119_l1 a (fun v1_ v2_ v3_ v4_ v5_ v6_ H_ => r119_l0 a 18446744073709551615 v1_ v2_ v3_ v4_ v5_ v6_ H_) K v 0 q.length fv s 0 H') (fun m s H' => Gr H H' ∧ ∃ i : Nat, s = i ∧ 1 ≤ i ∧ i + m = q.length) ?_ FUEL (q.length - 1) _ H (by unfold FUEL; omega) ⟨.refl _, 1, rfl, by omega, by omega⟩
  rintro K m s H1 ⟨g1, i, rfl, hi1, hm⟩ ih
  try dsimp only at *
  rw [r119_l1]
  by_cases h : i < q.length
  · have hg := hv.gr g1
    have ej : w64 ((i : Int) - 1) = ((i - 1 : Nat) : Int) := by rw [w64_id (by omega) (by omega)]; omega
    have hj : i - 1 < q.length := by omega
    have e1 : q[i] = P := hq _ (List.getElem_mem h)
    have e2 : q[i - 1] = P := hq _ (List.getElem_mem hj)
    rw [ej]
    refine Ok.pos (by omega) (Ok.ck (by omega) (Ok.ld (hg.ldI (i := i) (j := 0) h (by rw [e1]; rfl)) (Ok.ld (hg.ldI (i := i) (j := 1) h (by rw [e1]; rfl)) (Ok.ld (hg.ldI (i := i) (j := 2) h (by rw [e1]; rfl)) (Ok.ld (hg.ldI (i := i) (j := 3) h (by rw [e1]; rfl)) (Ok.ck (by omega) (Ok.ld (hg.ldI (i := i - 1) (j := 0) hj (by rw [e2]; rfl)) (Ok.ld (hg.ldI (i := i - 1) (j := 1) hj (by rw [e2]; rfl)) (Ok.ld (hg.ldI (i := i - 1) (j := 2) hj (by rw [e2]; rfl)) (Ok.ld (hg.ldI (i := i - 1) (j := 3) hj (by rw [e2]; rfl)) ?_))))))))))
    refine Ok.bind (hc H1 P P hP hP) fun r H2 ⟨g2, hr⟩ => ?_
    subst hr
    rw [cmpQ_refl]
    refine Ok.ld rfl ?_
    unfold r119_j4
    rw [w64_succ (by omega)]
    exact Ok.pos rfl (ih (m - 1) _ H2 (by omega) ⟨g1.trans g2, i + 1, rfl, by omega, by omega⟩)
  · refine Ok.neg (by omega) ?_
    unfold r119_j4
    exact Ok.neg (by simp) (Ok.pos (by omega) (Ok.ret ⟨g1, rfl⟩))
end
/-- slices.SortFunc of corners -/
theorem r86_ok {k : Nat} {fv : AV} (hc : CmpSays (appA (k + 1)) fv) {v : Sl} {q : List Pq} (hqp : ∀ x ∈ q, qp x) (hb : q.length ≤ 15) (hbig : 12 < q.length → ∃ P, ∀ x ∈ q, x = P) {H : Hp} (ho : Own H v q) :
    Ok (r86 (appA (k + 1)) v fv H) fun _ H' => ∃ q', Own H' v q' ∧ Only v.b H H' ∧ q'.Perm q ∧ so q' := by
  unfold r86
  have hl := ho.len
  rw [hl]
  obtain ⟨x, e, hx⟩ := r109_small hb H
  refine Ok.ld e ?_
  unfold r108
  rw [show FUEL = 18446744073709551615 + 1 from rfl, r108_l0]
  refine Ok.bind (P := fun _ H' => ∃ q', Own H' v q' ∧ Only v.b H H' ∧ q'.Perm q ∧ so q') ?_ fun _ H' h => Ok.ret h
  have ew : w64 ((q.length : Int) - 0) = q.length := by rw [w64_id (by omega) (by omega)]; omega
  rw [ew]
  by_cases h12 : q.length ≤ 12
  · exact Ok.pos (by omega) (Ok.bind (r114_ok hc hqp (by omega) ho) fun _ H' h => Ok.ret h)
  · obtain ⟨P, hP⟩ := hbig (by omega)
    have hPq : qp P := by
      have h0 : 0 < q.length := by omega
      rw [← hP _ (List.getElem_mem h0)]; exact hqp _ (List.getElem_mem h0)
    have hx4 := hx (by omega)
    dsimp only
    subst hx4
    refine Ok.neg (by omega) (Ok.neg (by decide) (Ok.pos rfl ?_))
    unfold r108_j5
    refine Ok.bind (r117_eq hc hPq hP ho.sl (by omega) (by omega)) fun r A ⟨gA, hr⟩ => Ok.neg (by rw [hr]; decide) ?_
    unfold r108_j4
    refine Ok.pos rfl (Ok.pos rfl ?_)
    dsimp only
    rw [hr]
    unfold r108_j3
    refine Ok.pos (by decide) (Ok.bind (r119_eq hc hPq hP (ho.sl.gr gA) (by omega) (by omega)) fun r B ⟨gB, hr⟩ => ?_)
    refine Ok.pos hr (Ok.ret ⟨q, ho.gr (gA.trans gB), Gr.only (gA.trans gB), .refl _, fun t t' h1 h2 => ?_⟩)
    rw [← at_eq h2, ← at_eq (show t < q.length by omega), hP _ (List.getElem_mem _), hP _ (List.getElem_mem _)]
    unfold ltP
    exact decide_eq_false (ptlt_irr P)
end Go.Lt.P2

namespace Go.Lt.P2
open Go Go.Lt Go.Proofs
/-! ### with more than twelve pairs of sides at corners, all corners are one -/
theorem sq_nn (x : Int) : 0 ≤ x * x := by
  rcases Int.le_total 0 x with h | h
  · exact Int.mul_nonneg h h
  · have := Int.mul_nonneg (show 0 ≤ -x by omega) (show 0 ≤ -x by omega)
    rw [Int.neg_mul_neg] at this; exact this
theorem sq_pos {x : Int} (h : x ≠ 0) : 0 < x * x := by
  have := sq_nn x
  have h2 : x * x ≠ 0 := fun e => h (by rcases Int.mul_eq_zero.1 e with h | h <;> exact h)
  omega
def on (s : Sd) (z : Pq) : Prop := atq s.1 s.2.1 z = (s.2.2 : Rat)
theorem crI_rat (s t : Sd) : ((crI s t : Int) : Rat) = (s.1 : Rat) * t.2.1 - (s.2.1 : Rat) * t.1 := by unfold crI; push_cast; rfl
theorem meet_uniq {s t : Sd} {z : Pq} (h : crI s t ≠ 0) (h1 : on s z) (h2 : on t z) : z = meetq s t := by
  have m := meet_on h
  have h0 := cast_ne h
  rw [crI_rat] at h0
  unfold on atq at *
  refine Prod.ext ?_ ?_
  · have : ((s.1 : Rat) * t.2.1 - (s.2.1 : Rat) * t.1) * (z.1 - (meetq s t).1) = 0 := by grind
    rcases Rat.mul_eq_zero.1 this with h | h
    · exact absurd h h0
    · grind
  · have : ((s.1 : Rat) * t.2.1 - (s.2.1 : Rat) * t.1) * (z.2 - (meetq s t).2) = 0 := by grind
    rcases Rat.mul_eq_zero.1 this with h | h
    · exact absurd h h0
    · grind
section
variable {l : List Sd}
def Ed (l : List Sd) (s t : Sd) : Prop := crI s t ≠ 0 ∧ inP l (meetq s t)
theorem Ed.sym {s t : Sd} (h : Ed l s t) : Ed l t s := ⟨by rw [crI_sym]; have := h.1; omega, by rw [meet_sym]; exact h.2⟩
/-- along a side -/
def al (s : Sd) (z : Pq) : Rat := (s.1 : Rat) * z.2 - (s.2.1 : Rat) * z.1
theorem al_inj {s : Sd} (hs : ¬ (s.1 = 0 ∧ s.2.1 = 0)) {z w : Pq} (h1 : on s z) (h2 : on s w) (h : al s z = al s w) : z = w := by
  unfold on al atq at *
  have hn : (s.1 : Rat) * s.1 + (s.2.1 : Rat) * s.2.1 ≠ 0 := by
    have h3 : 0 < s.1 * s.1 + s.2.1 * s.2.1 := by
      have a := sq_nn s.1
      have b := sq_nn s.2.1
      by_cases c : s.1 = 0
      · have d : s.2.1 ≠ 0 := fun d => hs ⟨c, d⟩
        have := sq_pos d
        omega
      · have := sq_pos c
        omega
    have := cast_ne (b := s.1 * s.1 + s.2.1 * s.2.1) (by omega)
    rw [Rat.intCast_add, Rat.intCast_mul, Rat.intCast_mul] at this
    exact this
  refine Prod.ext ?_ ?_
  · have : ((s.1 : Rat) * s.1 + (s.2.1 : Rat) * s.2.1) * (z.1 - w.1) = 0 := by grind
    rcases Rat.mul_eq_zero.1 this with h | h
    · exact absurd h hn
    · grind
  · have : ((s.1 : Rat) * s.1 + (s.2.1 : Rat) * s.2.1) * (z.2 - w.2) = 0 := by grind
    rcases Rat.mul_eq_zero.1 this with h | h
    · exact absurd h hn
    · grind
/-- what a side says grows or falls along another one -/
theorem al_step {s t : Sd} {z w : Pq} (h1 : on s z) (h2 : on s w) : ((s.1 : Rat) * s.1 + (s.2.1 : Rat) * s.2.1) * (atq t.1 t.2.1 z - atq t.1 t.2.1 w) = (crI s t : Rat) * (al s z - al s w) := by
  rw [crI_rat]
  unfold on al atq at *
  grind
/-- no corner on a side is between two other points of the plate on it -/
theorem no_mid {s t : Sd} (h : Ed l s t) (ht : t ∈ l) {p q : Pq} (hp : on s p) (hq : on s q) (ip : inP l p) (iq : inP l q) (h1 : al s p < al s (meetq s t)) (h2 : al s (meetq s t) < al s q) : False := by
  have m := meet_on h.1
  have a := al_step (t := t) hp m.1
  have b := al_step (t := t) hq m.1
  have kp := ip t ht
  have kq := iq t ht
  unfold lqs at kp kq
  have hn : 0 ≤ (s.1 : Rat) * s.1 + (s.2.1 : Rat) * s.2.1 := by
    have a := sq_nn s.1
    have b := sq_nn s.2.1
    have := castLe.2 (show (0 : Int) ≤ s.1 * s.1 + s.2.1 * s.2.1 by omega)
    rw [Rat.intCast_add, Rat.intCast_mul, Rat.intCast_mul] at this
    exact this
  have e1 := Rat.mul_nonneg hn (show 0 ≤ atq t.1 t.2.1 (meetq s t) - atq t.1 t.2.1 p by rw [m.2]; grind)
  have e2 := Rat.mul_nonneg hn (show 0 ≤ atq t.1 t.2.1 (meetq s t) - atq t.1 t.2.1 q by rw [m.2]; grind)
  have f1 : (crI s t : Rat) * (al s p - al s (meetq s t)) ≤ 0 := by grind
  have f2 : (crI s t : Rat) * (al s q - al s (meetq s t)) ≤ 0 := by grind
  by_cases hc : 0 < crI s t
  · have hc' : (0 : Rat) < (crI s t : Rat) := castLt.2 hc
    have := Rat.mul_pos hc' (show 0 < al s q - al s (meetq s t) by grind)
    grind
  · have hc' : (0 : Rat) < ((-crI s t : Int) : Rat) := castLt.2 (show (0 : Int) < -crI s t by have := h.1; omega)
    have := Rat.mul_pos hc' (show 0 < al s (meetq s t) - al s p by grind)
    rw [Rat.intCast_neg] at this
    grind
/-- of three corners on a side two are one -/
theorem two_of {s t u w : Sd} (hs : s ∈ l) (hp : ∀ s ∈ l, sideP s) (ht : t ∈ l) (hu : u ∈ l) (hw : w ∈ l) (h1 : Ed l s t) (h2 : Ed l s u) (h3 : Ed l s w) : meetq s t = meetq s u ∨ meetq s t = meetq s w ∨ meetq s u = meetq s w := by
  have hs0 : ¬ (s.1 = 0 ∧ s.2.1 = 0) := (hp s hs).2.2.1
  have m1 := (meet_on h1.1).1
  have m2 := (meet_on h2.1).1
  have m3 := (meet_on h3.1).1
  refine Classical.byContradiction fun hc => ?_
  have n1 : al s (meetq s t) ≠ al s (meetq s u) := fun e => hc (.inl (al_inj hs0 m1 m2 e))
  have n2 : al s (meetq s t) ≠ al s (meetq s w) := fun e => hc (.inr (.inl (al_inj hs0 m1 m3 e)))
  have n3 : al s (meetq s u) ≠ al s (meetq s w) := fun e => hc (.inr (.inr (al_inj hs0 m2 m3 e)))
  have k1 := fun p q hp hq ip iq => no_mid (p := p) (q := q) h1 ht hp hq ip iq
  have k2 := fun p q hp hq ip iq => no_mid (p := p) (q := q) h2 hu hp hq ip iq
  have k3 := fun p q hp hq ip iq => no_mid (p := p) (q := q) h3 hw hp hq ip iq
  have a1 := k1 _ _ m2 m3 h2.2 h3.2
  have a2 := k1 _ _ m3 m2 h3.2 h2.2
  have b1 := k2 _ _ m1 m3 h1.2 h3.2
  have b2 := k2 _ _ m3 m1 h3.2 h1.2
  have c1 := k3 _ _ m1 m2 h1.2 h2.2
  have c2 := k3 _ _ m2 m1 h2.2 h1.2
  clear k1 k2 k3
  generalize al s (meetq s t) = A at *
  generalize al s (meetq s u) = B at *
  generalize al s (meetq s w) = C at *
  grind
/-- two sides at one corner of a side, that meet a third side from another of its corners, go along -/
theorem no_two {u x x' y : Sd} (hp : ∀ s ∈ l, sideP s) (hu : u ∈ l) (hx : x ∈ l) (hx' : x' ∈ l) (hy : y ∈ l) (h1 : Ed l u x) (h2 : Ed l u x') (h3 : Ed l u y) (e : meetq u x = meetq u x') (ne : meetq u y ≠ meetq u x) (k1 : Ed l x y) (k2 : Ed l x' y) : ¬ Ed l x x' := by
  intro k
  have a1 := meet_on h1.1
  have a2 := meet_on h2.1
  have a3 := meet_on h3.1
  have b1 := meet_on k1.1
  have b2 := meet_on k2.1
  -- on y: the corner with u, with x, with x'
  have c1 : meetq y x ≠ meetq y u := fun q => by
    rw [meet_sym x y, meet_sym u y] at q
    exact ne (meet_uniq h1.1 a3.1 (by rw [← q]; exact b1.1))
  have c2 : meetq y x' ≠ meetq y u := fun q => by
    rw [meet_sym x' y, meet_sym u y] at q
    have := meet_uniq h2.1 a3.1 (by rw [← q]; exact b2.1)
    exact ne (by rw [this, e])
  rcases two_of hy hp hu hx hx' h3.sym k1.sym k2.sym with q | q | q
  · exact c1 q.symm
  · exact c2 q.symm
  · rw [meet_sym x y, meet_sym x' y] at q
    have d1 := meet_uniq k.1 b1.1 (by rw [q]; exact b2.1)
    have d2 := meet_uniq k.1 a1.2 (by rw [e]; exact a2.2)
    have d3 : meetq x y = meetq u x := by rw [d1, d2]
    have := meet_uniq h3.1 (by rw [← d3] at a1; exact a1.1) b1.2
    exact ne (by rw [← this, d3])
end
/-- of booleans alone -/
def T (s s' t a b c : Bool) : Bool := (s == s') && (s != t) && a && b && c
theorem bools : ∀ s2 s3 s4 s5 e12 e13 e14 e15 e23 e24 e25 e34 e35 e45 : Bool, 8 ≤ e12.toNat + e13.toNat + e14.toNat + e15.toNat + e23.toNat + e24.toNat + e25.toNat + e34.toNat + e35.toNat + e45.toNat → (T true s2 s3 e13 e23 e12 || T true s2 s4 e14 e24 e12 || T true s2 s5 e15 e25 e12 || T true s3 s2 e12 e23 e13 || T true s3 s4 e14 e34 e13 || T true s3 s5 e15 e35 e13 || T true s4 s2 e12 e24 e14 || T true s4 s3 e13 e34 e14 || T true s4 s5 e15 e45 e14 || T true s5 s2 e12 e25 e15 || T true s5 s3 e13 e35 e15 || T true s5 s4 e14 e45 e15 || T s2 s3 true e12 e13 e23 || T s2 s3 s4 e24 e34 e23 || T s2 s3 s5 e25 e35 e23 || T s2 s4 true e12 e14 e24 || T s2 s4 s3 e23 e34 e24 || T s2 s4 s5 e25 e45 e24 || T s2 s5 true e12 e15 e25 || T s2 s5 s3 e23 e35 e25 || T s2 s5 s4 e24 e45 e25 || T s3 s4 true e13 e14 e34 || T s3 s4 s2 e23 e24 e34 || T s3 s4 s5 e35 e45 e34 || T s3 s5 true e13 e15 e35 || T s3 s5 s2 e23 e25 e35 || T s3 s5 s4 e34 e45 e35 || T s4 s5 true e14 e15 e45 || T s4 s5 s2 e24 e25 e45 || T s4 s5 s3 e34 e35 e45) = false → (s2 && s3 && s4 && s5) = true := by decide +kernel
/-- one side meets all others -/
theorem bools6 : ∀ a1 a2 a3 a4 a5 b2 b3 b4 b5 c3 c4 c5 d4 d5 e5 : Bool, 13 ≤ a1.toNat + a2.toNat + a3.toNat + a4.toNat + a5.toNat + b2.toNat + b3.toNat + b4.toNat + b5.toNat + c3.toNat + c4.toNat + c5.toNat + d4.toNat + d5.toNat + e5.toNat →
    ((a1 && a2 && a3 && a4 && a5) || (a1 && b2 && b3 && b4 && b5) || (a2 && b2 && c3 && c4 && c5) || (a3 && b3 && c3 && d4 && d5) || (a4 && b4 && c4 && d4 && e5) || (a5 && b5 && c5 && d5 && e5)) = true := by decide +kernel
def ed (l : List Sd) (s t : Sd) : Bool := decide (crI s t ≠ 0 ∧ inP l (meetq s t))
theorem ed_iff {l : List Sd} {s t : Sd} : ed l s t = true ↔ Ed l s t := decide_eq_true_iff
theorem ed_symm (l : List Sd) (s t : Sd) : ed l s t = ed l t s := by
  refine Bool.eq_iff_iff.2 ?_
  rw [ed_iff, ed_iff]
  exact ⟨Ed.sym, Ed.sym⟩
section
variable {l : List Sd}
theorem colour (hp : ∀ s ∈ l, sideP s) {u x1 : Sd} (hu : u ∈ l) (h1 : x1 ∈ l) (E1 : Ed l u x1) {x x' y : Sd} (hx : x ∈ l) (hx' : x' ∈ l) (hy : y ∈ l) (ex : Ed l u x) (ex' : Ed l u x') (ey : Ed l u y) :
    T (decide (meetq u x = meetq u x1)) (decide (meetq u x' = meetq u x1)) (decide (meetq u y = meetq u x1)) (ed l x y) (ed l x' y) (ed l x x') = false := by
  refine Bool.eq_false_iff.2 fun h => ?_
  unfold T at h
  simp only [Bool.and_eq_true, beq_iff_eq, bne_iff_ne, ne_eq] at h
  obtain ⟨⟨⟨⟨a, b⟩, k1⟩, k2⟩, k3⟩ := h
  have hab : meetq u x = meetq u x' := by
    by_cases c : meetq u x = meetq u x1
    · have : meetq u x' = meetq u x1 := of_decide_eq_true (by rw [← a]; exact decide_eq_true c)
      rw [c, this]
    · have c' : ¬ meetq u x' = meetq u x1 := of_decide_eq_false (by rw [← a]; exact decide_eq_false c)
      rcases two_of hu hp hx hx' h1 ex ex' E1 with q | q | q
      · exact q
      · exact absurd q c
      · exact absurd q c'
  have hne : meetq u y ≠ meetq u x := fun q => b (by rw [q])
  exact no_two hp hu hx hx' hy ex ex' ey hab hne (ed_iff.1 k1) (ed_iff.1 k2) (ed_iff.1 k3)
theorem one_pt (hp : ∀ s ∈ l, sideP s) {u x1 x2 x3 x4 x5 : Sd} (hu : u ∈ l) (h1 : x1 ∈ l) (h2 : x2 ∈ l) (h3 : x3 ∈ l) (h4 : x4 ∈ l) (h5 : x5 ∈ l) (E1 : Ed l u x1) (E2 : Ed l u x2) (E3 : Ed l u x3) (E4 : Ed l u x4) (E5 : Ed l u x5)
    (hc : 8 ≤ (ed l x1 x2).toNat + (ed l x1 x3).toNat + (ed l x1 x4).toNat + (ed l x1 x5).toNat + (ed l x2 x3).toNat + (ed l x2 x4).toNat + (ed l x2 x5).toNat + (ed l x3 x4).toNat + (ed l x3 x5).toNat + (ed l x4 x5).toNat) : ∀ x ∈ [u, x1, x2, x3, x4, x5], on x (meetq u x1) := by
  have key := bools (decide (meetq u x2 = meetq u x1)) (decide (meetq u x3 = meetq u x1)) (decide (meetq u x4 = meetq u x1)) (decide (meetq u x5 = meetq u x1)) (ed l x1 x2) (ed l x1 x3) (ed l x1 x4) (ed l x1 x5) (ed l x2 x3) (ed l x2 x4) (ed l x2 x5) (ed l x3 x4) (ed l x3 x5) (ed l x4 x5) hc ?_
  · simp only [Bool.and_eq_true, decide_eq_true_iff] at key
    obtain ⟨⟨⟨k2, k3⟩, k4⟩, k5⟩ := key
    intro x hx
    simp only [List.mem_cons, List.not_mem_nil, or_false] at hx
    rcases hx with rfl | rfl | rfl | rfl | rfl | rfl
    · exact (meet_on E1.1).1
    · exact (meet_on E1.1).2
    · rw [← k2]; exact (meet_on E2.1).2
    · rw [← k3]; exact (meet_on E3.1).2
    · rw [← k4]; exact (meet_on E4.1).2
    · rw [← k5]; exact (meet_on E5.1).2
  · have z : true = decide (meetq u x1 = meetq u x1) := (decide_eq_true rfl).symm
    have t123 : T true (decide (meetq u x2 = meetq u x1)) (decide (meetq u x3 = meetq u x1)) (ed l x1 x3) (ed l x2 x3) (ed l x1 x2) = false := by
      have f := colour hp hu h1 E1 h1 h2 h3 E1 E2 E3
      rw [← z] at f
      exact f
    have t124 : T true (decide (meetq u x2 = meetq u x1)) (decide (meetq u x4 = meetq u x1)) (ed l x1 x4) (ed l x2 x4) (ed l x1 x2) = false := by
      have f := colour hp hu h1 E1 h1 h2 h4 E1 E2 E4
      rw [← z] at f
      exact f
    have t125 : T true (decide (meetq u x2 = meetq u x1)) (decide (meetq u x5 = meetq u x1)) (ed l x1 x5) (ed l x2 x5) (ed l x1 x2) = false := by
      have f := colour hp hu h1 E1 h1 h2 h5 E1 E2 E5
      rw [← z] at f
      exact f
    have t132 : T true (decide (meetq u x3 = meetq u x1)) (decide (meetq u x2 = meetq u x1)) (ed l x1 x2) (ed l x2 x3) (ed l x1 x3) = false := by
      have f := colour hp hu h1 E1 h1 h3 h2 E1 E3 E2
      rw [← z, ed_symm l x3 x2] at f
      exact f
    have t134 : T true (decide (meetq u x3 = meetq u x1)) (decide (meetq u x4 = meetq u x1)) (ed l x1 x4) (ed l x3 x4) (ed l x1 x3) = false := by
      have f := colour hp hu h1 E1 h1 h3 h4 E1 E3 E4
      rw [← z] at f
      exact f
    have t135 : T true (decide (meetq u x3 = meetq u x1)) (decide (meetq u x5 = meetq u x1)) (ed l x1 x5) (ed l x3 x5) (ed l x1 x3) = false := by
      have f := colour hp hu h1 E1 h1 h3 h5 E1 E3 E5
      rw [← z] at f
      exact f
    have t142 : T true (decide (meetq u x4 = meetq u x1)) (decide (meetq u x2 = meetq u x1)) (ed l x1 x2) (ed l x2 x4) (ed l x1 x4) = false := by
      have f := colour hp hu h1 E1 h1 h4 h2 E1 E4 E2
      rw [← z, ed_symm l x4 x2] at f
      exact f
    have t143 : T true (decide (meetq u x4 = meetq u x1)) (decide (meetq u x3 = meetq u x1)) (ed l x1 x3) (ed l x3 x4) (ed l x1 x4) = false := by
      have f := colour hp hu h1 E1 h1 h4 h3 E1 E4 E3
      rw [← z, ed_symm l x4 x3] at f
      exact f
    have t145 : T true (decide (meetq u x4 = meetq u x1)) (decide (meetq u x5 = meetq u x1)) (ed l x1 x5) (ed l x4 x5) (ed l x1 x4) = false := by
      have f := colour hp hu h1 E1 h1 h4 h5 E1 E4 E5
      rw [← z] at f
      exact f
    have t152 : T true (decide (meetq u x5 = meetq u x1)) (decide (meetq u x2 = meetq u x1)) (ed l x1 x2) (ed l x2 x5) (ed l x1 x5) = false := by
      have f := colour hp hu h1 E1 h1 h5 h2 E1 E5 E2
      rw [← z, ed_symm l x5 x2] at f
      exact f
    have t153 : T true (decide (meetq u x5 = meetq u x1)) (decide (meetq u x3 = meetq u x1)) (ed l x1 x3) (ed l x3 x5) (ed l x1 x5) = false := by
      have f := colour hp hu h1 E1 h1 h5 h3 E1 E5 E3
      rw [← z, ed_symm l x5 x3] at f
      exact f
    have t154 : T true (decide (meetq u x5 = meetq u x1)) (decide (meetq u x4 = meetq u x1)) (ed l x1 x4) (ed l x4 x5) (ed l x1 x5) = false := by
      have f := colour hp hu h1 E1 h1 h5 h4 E1 E5 E4
      rw [← z, ed_symm l x5 x4] at f
      exact f
    have t231 : T (decide (meetq u x2 = meetq u x1)) (decide (meetq u x3 = meetq u x1)) true (ed l x1 x2) (ed l x1 x3) (ed l x2 x3) = false := by
      have f := colour hp hu h1 E1 h2 h3 h1 E2 E3 E1
      rw [← z, ed_symm l x2 x1, ed_symm l x3 x1] at f
      exact f
    have t234 : T (decide (meetq u x2 = meetq u x1)) (decide (meetq u x3 = meetq u x1)) (decide (meetq u x4 = meetq u x1)) (ed l x2 x4) (ed l x3 x4) (ed l x2 x3) = false := by
      have f := colour hp hu h1 E1 h2 h3 h4 E2 E3 E4
      exact f
    have t235 : T (decide (meetq u x2 = meetq u x1)) (decide (meetq u x3 = meetq u x1)) (decide (meetq u x5 = meetq u x1)) (ed l x2 x5) (ed l x3 x5) (ed l x2 x3) = false := by
      have f := colour hp hu h1 E1 h2 h3 h5 E2 E3 E5
      exact f
    have t241 : T (decide (meetq u x2 = meetq u x1)) (decide (meetq u x4 = meetq u x1)) true (ed l x1 x2) (ed l x1 x4) (ed l x2 x4) = false := by
      have f := colour hp hu h1 E1 h2 h4 h1 E2 E4 E1
      rw [← z, ed_symm l x2 x1, ed_symm l x4 x1] at f
      exact f
    have t243 : T (decide (meetq u x2 = meetq u x1)) (decide (meetq u x4 = meetq u x1)) (decide (meetq u x3 = meetq u x1)) (ed l x2 x3) (ed l x3 x4) (ed l x2 x4) = false := by
      have f := colour hp hu h1 E1 h2 h4 h3 E2 E4 E3
      rw [ed_symm l x4 x3] at f
      exact f
    have t245 : T (decide (meetq u x2 = meetq u x1)) (decide (meetq u x4 = meetq u x1)) (decide (meetq u x5 = meetq u x1)) (ed l x2 x5) (ed l x4 x5) (ed l x2 x4) = false := by
      have f := colour hp hu h1 E1 h2 h4 h5 E2 E4 E5
      exact f
    have t251 : T (decide (meetq u x2 = meetq u x1)) (decide (meetq u x5 = meetq u x1)) true (ed l x1 x2) (ed l x1 x5) (ed l x2 x5) = false := by
      have f := colour hp hu h1 E1 h2 h5 h1 E2 E5 E1
      rw [← z, ed_symm l x2 x1, ed_symm l x5 x1] at f
      exact f
    have t253 : T (decide (meetq u x2 = meetq u x1)) (decide (meetq u x5 = meetq u x1)) (decide (meetq u x3 = meetq u x1)) (ed l x2 x3) (ed l x3 x5) (ed l x2 x5) = false := by
      have f := colour hp hu h1 E1 h2 h5 h3 E2 E5 E3
      rw [ed_symm l x5 x3] at f
      exact f
    have t254 : T (decide (meetq u x2 = meetq u x1)) (decide (meetq u x5 = meetq u x1)) (decide (meetq u x4 = meetq u x1)) (ed l x2 x4) (ed l x4 x5) (ed l x2 x5) = false := by
      have f := colour hp hu h1 E1 h2 h5 h4 E2 E5 E4
      rw [ed_symm l x5 x4] at f
      exact f
    have t341 : T (decide (meetq u x3 = meetq u x1)) (decide (meetq u x4 = meetq u x1)) true (ed l x1 x3) (ed l x1 x4) (ed l x3 x4) = false := by
      have f := colour hp hu h1 E1 h3 h4 h1 E3 E4 E1
      rw [← z, ed_symm l x3 x1, ed_symm l x4 x1] at f
      exact f
    have t342 : T (decide (meetq u x3 = meetq u x1)) (decide (meetq u x4 = meetq u x1)) (decide (meetq u x2 = meetq u x1)) (ed l x2 x3) (ed l x2 x4) (ed l x3 x4) = false := by
      have f := colour hp hu h1 E1 h3 h4 h2 E3 E4 E2
      rw [ed_symm l x3 x2, ed_symm l x4 x2] at f
      exact f
    have t345 : T (decide (meetq u x3 = meetq u x1)) (decide (meetq u x4 = meetq u x1)) (decide (meetq u x5 = meetq u x1)) (ed l x3 x5) (ed l x4 x5) (ed l x3 x4) = false := by
      have f := colour hp hu h1 E1 h3 h4 h5 E3 E4 E5
      exact f
    have t351 : T (decide (meetq u x3 = meetq u x1)) (decide (meetq u x5 = meetq u x1)) true (ed l x1 x3) (ed l x1 x5) (ed l x3 x5) = false := by
      have f := colour hp hu h1 E1 h3 h5 h1 E3 E5 E1
      rw [← z, ed_symm l x3 x1, ed_symm l x5 x1] at f
      exact f
    have t352 : T (decide (meetq u x3 = meetq u x1)) (decide (meetq u x5 = meetq u x1)) (decide (meetq u x2 = meetq u x1)) (ed l x2 x3) (ed l x2 x5) (ed l x3 x5) = false := by
      have f := colour hp hu h1 E1 h3 h5 h2 E3 E5 E2
      rw [ed_symm l x3 x2, ed_symm l x5 x2] at f
      exact f
    have t354 : T (decide (meetq u x3 = meetq u x1)) (decide (meetq u x5 = meetq u x1)) (decide (meetq u x4 = meetq u x1)) (ed l x3 x4) (ed l x4 x5) (ed l x3 x5) = false := by
      have f := colour hp hu h1 E1 h3 h5 h4 E3 E5 E4
      rw [ed_symm l x5 x4] at f
      exact f
    have t451 : T (decide (meetq u x4 = meetq u x1)) (decide (meetq u x5 = meetq u x1)) true (ed l x1 x4) (ed l x1 x5) (ed l x4 x5) = false := by
      have f := colour hp hu h1 E1 h4 h5 h1 E4 E5 E1
      rw [← z, ed_symm l x4 x1, ed_symm l x5 x1] at f
      exact f
    have t452 : T (decide (meetq u x4 = meetq u x1)) (decide (meetq u x5 = meetq u x1)) (decide (meetq u x2 = meetq u x1)) (ed l x2 x4) (ed l x2 x5) (ed l x4 x5) = false := by
      have f := colour hp hu h1 E1 h4 h5 h2 E4 E5 E2
      rw [ed_symm l x4 x2, ed_symm l x5 x2] at f
      exact f
    have t453 : T (decide (meetq u x4 = meetq u x1)) (decide (meetq u x5 = meetq u x1)) (decide (meetq u x3 = meetq u x1)) (ed l x3 x4) (ed l x3 x5) (ed l x4 x5) = false := by
      have f := colour hp hu h1 E1 h4 h5 h3 E4 E5 E3
      rw [ed_symm l x4 x3, ed_symm l x5 x3] at f
      exact f
    rw [t123, t124, t125, t132, t134, t135, t142, t143, t145, t152, t153, t154, t231, t234, t235, t241, t243, t245, t251, t253, t254, t341, t342, t345, t351, t352, t354, t451, t452, t453]
    rfl
end
end Go.Lt.P2
