/- PLAIN LAWS OF WHAT IS COMPUTED, for the statement 'CutsCorners'. Nothing is asked of the input. -/
import Derived.Test.YteefkljbmjjncaaU11XAp
import Derived.Test.YteefkljbmjjncaaU11XSf
set_option linter.unusedVariables false
set_option linter.unusedSimpArgs false
namespace Go.Lt.P2
open Go Go.Lt Go.Proofs
/-! ### the whole points of a box -/
def ints (lo hi : Int) : List Int := (List.range (hi + 1 - lo).toNat).map fun n : Nat => lo + (n : Int)
theorem ints_nil {lo hi : Int} (h : hi < lo) : ints lo hi = [] := by
  unfold ints
  rw [show (hi + 1 - lo).toNat = 0 by omega]; rfl
theorem ints_snoc {lo hi : Int} (h : lo ≤ hi) : ints lo hi = ints lo (hi - 1) ++ [hi] := by
  unfold ints
  rw [show (hi + 1 - lo).toNat = (hi - 1 + 1 - lo).toNat + 1 by omega, List.range_succ, List.map_append]
  simp; omega
theorem mem_ints {lo hi x : Int} : x ∈ ints lo hi ↔ lo ≤ x ∧ x ≤ hi := by
  unfold ints
  rw [List.mem_map]
  constructor
  · rintro ⟨n, hn, rfl⟩
    rw [List.mem_range] at hn
    omega
  · intro h
    exact ⟨(x - lo).toNat, List.mem_range.2 (by omega), by omega⟩
theorem ints_len {lo hi : Int} : (ints lo hi).length = (hi + 1 - lo).toNat := by unfold ints; simp
theorem ints_lt (lo hi : Int) : (ints lo hi).Pairwise (· < ·) := by
  unfold ints
  rw [List.pairwise_map]
  exact List.pairwise_lt_range.imp fun h => by omega
def row (l : List Sd) (lo hi x : Int) : List Pr := ((ints lo hi).filter fun y => decide (∀ s ∈ l, kp (x, y) s)).map fun y => (x, y)
def grid (l : List Sd) (lo hi : Pr) : List Pr := (ints lo.1 hi.1).flatMap (row l lo.2 hi.2)
theorem row_len (l : List Sd) (lo hi x : Int) : (row l lo hi x).length ≤ (hi + 1 - lo).toNat := by
  unfold row
  rw [List.length_map, ← ints_len]
  exact List.length_filter_le _ _
theorem row_snoc {l : List Sd} {lo hi x : Int} (h : lo ≤ hi) : row l lo hi x = row l lo (hi - 1) x ++ if ∀ s ∈ l, kp (x, hi) s then [(x, hi)] else [] := by
  unfold row
  rw [ints_snoc h, List.filter_append, List.map_append]
  congr 1
  by_cases hk : ∀ s ∈ l, kp (x, hi) s
  · rw [if_pos hk, List.filter_cons, if_pos (by exact decide_eq_true hk)]; rfl
  · rw [if_neg hk, List.filter_cons, if_neg (by rw [decide_eq_false hk]; simp)]; rfl
theorem flat_len {α β : Type} {f : α → List β} {k : Nat} : ∀ {l : List α}, (∀ x ∈ l, (f x).length ≤ k) → (l.flatMap f).length ≤ l.length * k
  | [], _ => by simp
  | x :: l, h => by
    rw [List.flatMap_cons, List.length_append, List.length_cons, Nat.add_mul, Nat.one_mul]
    have a := h x (.head _)
    have b := flat_len (l := l) fun y hy => h y (.tail _ hy)
    omega
theorem grid_len (l : List Sd) (lo hi : Pr) : (grid l lo hi).length ≤ (hi.1 + 1 - lo.1).toNat * (hi.2 + 1 - lo.2).toNat := by
  unfold grid
  rw [← ints_len]
  exact flat_len fun x _ => row_len l _ _ x
theorem mem_grid {l : List Sd} {lo hi p : Pr} : p ∈ grid l lo hi ↔ ((lo.1 ≤ p.1 ∧ p.1 ≤ hi.1) ∧ lo.2 ≤ p.2 ∧ p.2 ≤ hi.2) ∧ ∀ s ∈ l, kp p s := by
  unfold grid row
  rw [List.mem_flatMap]
  constructor
  · rintro ⟨x, hx, h⟩
    obtain ⟨y, hy, rfl⟩ := List.mem_map.1 h
    obtain ⟨hy, hk⟩ := List.mem_filter.1 hy
    exact ⟨⟨mem_ints.1 hx, mem_ints.1 hy⟩, of_decide_eq_true hk⟩
  · rintro ⟨⟨hx, hy⟩, hk⟩
    exact ⟨p.1, mem_ints.2 hx, List.mem_map.2 ⟨p.2, List.mem_filter.2 ⟨mem_ints.2 hy, decide_eq_true hk⟩, rfl⟩⟩
/-- points in order -/
def plt (p q : Pr) : Prop := p.1 < q.1 ∨ (p.1 = q.1 ∧ p.2 < q.2)
theorem row_plt (l : List Sd) (lo hi x : Int) : (row l lo hi x).Pairwise plt := by
  unfold row
  rw [List.pairwise_map]
  exact ((ints_lt lo hi).filter _).imp fun h => .inr ⟨rfl, h⟩
theorem row_fst {l : List Sd} {lo hi x : Int} {p : Pr} (h : p ∈ row l lo hi x) : p.1 = x := by
  unfold row at h
  obtain ⟨y, _, rfl⟩ := List.mem_map.1 h
  rfl
theorem grid_plt (l : List Sd) (lo hi : Pr) : (grid l lo hi).Pairwise plt := by
  unfold grid
  have key : ∀ {xs : List Int}, xs.Pairwise (· < ·) → (xs.flatMap (row l lo.2 hi.2)).Pairwise plt := fun {xs} h => by
    induction xs with
    | nil => exact .nil
    | cons x xs ih =>
      rw [List.pairwise_cons] at h
      rw [List.flatMap_cons, List.pairwise_append]
      refine ⟨row_plt _ _ _ _, ih h.2, fun p hp q hq => ?_⟩
      obtain ⟨x', hx', hq⟩ := List.mem_flatMap.1 hq
      left
      rw [row_fst hp, row_fst hq]
      exact h.1 x' hx'
  exact key (ints_lt _ _)
end Go.Lt.P2

namespace Go.Lt.P2
open Go Go.Lt Go.Proofs
def flp (p : Pq) : Pr := (p.1.floor, p.2.floor)
def bup (st : Bst) (c : Cn) : Bst := ((up1 (up0 st (flp c.1)) (flp c.1)).1, (up1 (up0 st (flp c.1)) (flp c.1)).2.1, true)
def bxs (q : List Cn) : Bst := q.foldl bup ((0, 0), (0, 0), false)
theorem rnd0 {k n : Nat} {H : Hp} {st : Bst} {x : Cn} (c : Cb H H (bxE n st .ready)) (hx : qb 320 32 x.1.1 ∧ qb 320 32 x.1.2) : Ok (callv (app (k + 1)) (.yld (n + 4)) (argC x) H) fun r H' => r = .bool true ∧ Cb H H' (bxE n (bup st x) .ready) := by
  show Ok (ydisp (app k) (n + 4) (argC x) H) _
  unfold ydisp
  have hl : H.get (n + 4) = _ := c.e (n + 4, .loop .ready none 0 59 [(2, .ptr n 0), (3, .ptr (n + 1) 0), (4, .ptr (n + 2) 0)]) (by unfold bxE; simp)
  rw [hl]
  refine Ok.bind (P := fun r H' => r = none ∧ Cb H H' (bxE n (bup st x) .busy)) ?_ ?_
  · unfold r101q0
    refine Ok.kalo c fun A gA c => Ok.kbeg c 5 rfl fun B nB _ c => ?_
    have gA1 := gA.1
    refine Ok.kld c (.head _) rfl (Ok.kld c (.head _) rfl (Ok.own (r68_q hx.1 (by decide) (by decide)) fun X => ?_))
    refine Ok.kld c (.head _) rfl (Ok.kld c (.head _) rfl (Ok.own (r68_q hx.2 (by decide) (by decide)) fun X => ?_))
    refine Ok.kalo c fun C _ c => ?_
    have hF : FUEL = (FUEL - 3) + 3 := by unfold FUEL; omega
    rw [hF]
    have c : Cb H C ((B.n, cel [.int .i64 (flp x.1).1, .int .i64 (flp x.1).2]) :: (H.n, _) :: bxE n st .busy) := c
    refine it0 c fun D nD c => it1 c fun E nE c => ?_
    rw [r101q0_l0]
    refine Ok.neg (by decide) (Ok.kst1 c 4 rfl (by show _ < 1; decide) fun F nF _ c => Ok.ret ⟨rfl, ?_⟩)
    have c : Cb H F ((B.n, cel [.int .i64 (flp x.1).1, .int .i64 (flp x.1).2]) :: (H.n, _) :: bxE n (bup st x) .busy) := c
    exact (c.tl rfl (by show H.n ≤ B.n; omega)).tl rfl (Nat.le_refl _)
  · rintro r H' ⟨rfl, c⟩
    exact Ok.knext c 4 rfl fun A _ _ c => ⟨rfl, c⟩
/-- box's rounds -/
def bxI (B : Hp) (P : Nat → Prop) (q : List Cn) (H : Hp) : Prop := Gr B H ∧ (∀ p ∈ bxE B.n (bxs q) .ready, H.get p.1 = some p.2) ∧ ∀ b, P b → b < B.n ∨ B.n + 5 ≤ b
theorem bxE_nd (n : Nat) (st : Bst) (ls : LoopState) : (bxE n st ls).Pairwise fun p q => p.1 ≠ q.1 := by unfold bxE; simp
theorem bxE_key {n : Nat} {st : Bst} {ls : LoopState} {p : Nat × Blk} (h : p ∈ bxE n st ls) : n ≤ p.1 ∧ p.1 < n + 5 := by
  unfold bxE at h
  simp only [List.mem_cons, List.not_mem_nil, or_false] at h
  rcases h with rfl | rfl | rfl | rfl | rfl <;> dsimp only <;> omega
theorem bxY {k : Nat} {l : List Sd} (hs : ∀ s ∈ l, sideP s) (B : Hp) : Yd (app (k + 1)) (.yld (B.n + 4)) argC (cs l) B (bxI B) (fun _ _ => False) where
  grow := fun {P P' q H H'} h g hP => ⟨h.1.trans g, fun p hp => by rw [g.2 _ (Hp.get_lt (h.2.1 p hp))]; exact h.2.1 p hp, fun b hb => by
    rcases hP b hb with h1 | h1
    · exact h.2.2 b h1
    · have : B.n + 4 < H.n := Hp.get_lt (h.2.1 (B.n + 4, .loop .ready none 0 59 [(2, .ptr B.n 0), (3, .ptr (B.n + 1) 0), (4, .ptr (B.n + 2) 0)]) (by unfold bxE; simp))
      omega⟩
  base := fun h => h.1
  step := fun {P q H x} h hx => by
    have hm := cs_mem (c := x) (hx.subset (by simp))
    have c : Cb H H (bxE B.n (bxs q) .ready) := .start h.2.1 (bxE_nd _ _ _)
    refine Ok.mono (rnd0 (k := k) c (by rw [hm.2.2.2.1]; exact meet_qb (hs _ hm.1) (hs _ hm.2.1) hm.2.2.1)) fun r H' ⟨hr, c'⟩ => ⟨c'.n, .inl ⟨hr, ⟨⟨Nat.le_trans h.1.1 c'.n, fun b hb => ?_⟩, ?_, h.2.2⟩, fun b hb hP => ?_⟩⟩
    · rw [c'.g b (Nat.lt_of_lt_of_le hb h.1.1) fun p hp => by have := bxE_key hp; omega]
      exact h.1.2 b hb
    · have : bxs (q ++ [x]) = bup (bxs q) x := by unfold bxs; rw [List.foldl_append]; rfl
      rw [this]
      exact c'.e
    · exact c'.g b hb fun p hp => by have := bxE_key hp; have := h.2.2 b hP; omega
/-- box -/
theorem r101_ok {k : Nat} {H : Hp} {v : Sl} {l : List Sd} (hv : SL H v l) (hb : l.length ≤ 1000) (hs : ∀ s ∈ l, sideP s) : Ok (r101 (appA (k + 2)) v H) fun r H' => Gr H H' ∧ r = ((bxs (cs l)).1.1, (bxs (cs l)).1.2, (bxs (cs l)).2.1.1, (bxs (cs l)).2.1.2, (bxs (cs l)).2.2) := by
  unfold r101
  refine Ok.lt ?_
  have c0 : Cb H H [] := .start (fun _ h => by cases h) .nil
  have c := (((c0.push (cel [.int .i64 0, .int .i64 0])).push (cel [.int .i64 0, .int .i64 0])).push (cel [.bool false])).push .dfr
  have c := c.push (.loop .ready none 0 59 [(2, .ptr H.n 0), (3, .ptr (H.n + 1) 0), (4, .ptr (H.n + 2) 0)])
  simp only [Hp.n_push] at c ⊢
  generalize ((((H.push (cel [.int .i64 0, .int .i64 0])).push (cel [.int .i64 0, .int .i64 0])).push (cel [.bool false])).push .dfr).push (.loop .ready none 0 59 [(2, .ptr H.n 0), (3, .ptr (H.n + 1) 0), (4, .ptr (H.n + 2) 0)]) = A at *
  have gA : Gr H A := ⟨c.n, fun b hb => c.g b hb fun p hp => by simp only [List.mem_cons, List.not_mem_nil, or_false] at hp; rcases hp with rfl | rfl | rfl | rfl | rfl <;> dsimp only <;> omega⟩
  have hI : bxI H (fun _ => False) [] A := ⟨gA, fun p hp => c.e p (by
    unfold bxE bxs at hp
    simp only [List.mem_cons, List.not_mem_nil, or_false, List.foldl_nil] at hp ⊢
    rcases hp with rfl | rfl | rfl | rfl | rfl <;> simp), fun _ h => h.elim⟩
  refine Ok.bind (P := fun _ H' => bxI H (fun _ => False) (cs l) H') ?_ fun r D hD => ?_
  · show Ok ((r66 (app (k + 1)) v (.yld (H.n + 4)) A).map fun p => (AV.tup [], p.2)) _
    have h1 : Ok (r66 (app (k + 1)) v (.yld (H.n + 4)) A) fun _ H' => bxI H (fun _ => False) (cs l) H' := by
      refine Ok.mono (r66_ok (a95 k) (bxY hs H) hv hb hs hI) fun _ H' h => ?_
      rcases h with h | ⟨_, _, h⟩
      · exact h
      · exact h.elim
    obtain ⟨r, H', e, h⟩ := h1
    rw [e]
    exact Ok.ret h
  · obtain ⟨g, hE, _⟩ := hD
    generalize bxs (cs l) = st at *
    have c : Cb D D (bxE H.n st .ready) := .start hE (bxE_nd _ _ _)
    refine Ok.kend c 4 rfl (.inl rfl) fun E nE _ c => Ok.pos rfl ?_
    refine Ok.kld c (.head _) rfl (Ok.kld c (.head _) rfl (Ok.kld c (.tail _ (.head _)) rfl (Ok.kld c (.tail _ (.head _)) rfl (Ok.kldB c (.tail _ (.tail _ (.head _))) rfl ?_))))
    refine Ok.kst c 0 rfl rfl fun F nF _ c => ?_
    have c1 := c
    refine Ok.kst c 1 rfl rfl fun G nG _ c => ?_
    have c2 := c
    refine Ok.kst1 c 2 rfl (by show _ < 1; decide) fun I nI _ c => ?_
    refine Ok.kck c1 (.tail _ (.head _)) rfl (Ok.kck c1 (.tail _ (.head _)) rfl (Ok.kckB c1 (.tail _ (.tail _ (.head _))) rfl (Ok.kck c2 (.tail _ (.head _)) rfl (Ok.kck c2 (.tail _ (.head _)) rfl (Ok.kckB c2 (.tail _ (.tail _ (.head _))) rfl ?_)))))
    refine Ok.kld c (.head _) rfl (Ok.kld c (.head _) rfl (Ok.kld c (.tail _ (.head _)) rfl (Ok.kld c (.tail _ (.head _)) rfl (Ok.kldB c (.tail _ (.tail _ (.head _))) rfl ?_))))
    refine Ok.kdfr c (.tail _ (.tail _ (.tail _ (.head _)))) (Ok.ret ⟨⟨?_, fun b hb => ?_⟩, rfl⟩)
    · have := (c.kill 3 rfl).n
      exact Nat.le_trans g.1 this
    · have c := c.kill 3 rfl
      have hb' : b < D.n := Nat.lt_of_lt_of_le hb g.1
      rw [c.g b hb' fun p hp => ?_]
      · exact g.2 b hb
      · simp only [bxE, List.set, List.mem_cons, List.not_mem_nil, or_false] at hp
        rcases hp with rfl | rfl | rfl | rfl | rfl <;> dsimp only <;> omega
end Go.Lt.P2

namespace Go.Lt.P2
open Go Go.Lt Go.Proofs
theorem AccL.lo {T : Type} [El T] {n0 n1 : Nat} {H : Hp} {v : Sl} {l : List T} (h : AccL n0 H v l) (hn : n1 ≤ n0) : AccL n1 H v l := by
  rcases h with h | ⟨a, b, c, d, e, f⟩
  · exact .inl h
  · exact .inr ⟨a, b, c, d, Nat.le_trans hn e, f⟩
/-- all floors of corners are near -/
theorem floor_bd {q : Rat} {N D : Int} (h : qb N D q) (hN : 0 ≤ N) : -N - 1 ≤ q.floor ∧ q.floor ≤ N := by
  obtain ⟨h1, h2, h3⟩ := h
  have hp := fq_pos q
  have := (floor_iff (f := q.floor) (n := (fq q).1) hp).1 (by rw [dv_fq])
  generalize q.floor = f at *
  generalize (fq q).1 = n at *
  generalize (fq q).2 = d at *
  constructor
  · refine Classical.byContradiction fun hc => ?_
    have : (f + 1) * d ≤ (-N - 1) * 1 := by
      have h4 : 0 ≤ (-N - 1 - (f + 1)) * d := Int.mul_nonneg (by omega) (by omega)
      have h5 : 0 ≤ (N + 1) * (d - 1) := Int.mul_nonneg (by omega) (by omega)
      grind
    omega
  · refine Classical.byContradiction fun hc => ?_
    have : (N + 1) * 1 ≤ f * d := by
      have h4 : 0 ≤ (f - (N + 1)) * d := Int.mul_nonneg (by omega) (by omega)
      have h5 : 0 ≤ (N + 1) * (d - 1) := Int.mul_nonneg (by omega) (by omega)
      grind
    omega
def bbd (st : Bst) : Prop := ((-1000 ≤ st.1.1 ∧ st.1.1 ≤ 1000) ∧ -1000 ≤ st.1.2 ∧ st.1.2 ≤ 1000) ∧ (-1000 ≤ st.2.1.1 ∧ st.2.1.1 ≤ 1000) ∧ -1000 ≤ st.2.1.2 ∧ st.2.1.2 ≤ 1000
theorem bup_bd {st : Bst} {c : Cn} (h : bbd st) (hc : qb 320 32 c.1.1 ∧ qb 320 32 c.1.2) : bbd (bup st c) := by
  have h1 := floor_bd hc.1 (by decide)
  have h2 := floor_bd hc.2 (by decide)
  unfold bbd bup up1 up0 nlo nhi flp at *
  dsimp only
  refine ⟨⟨?_, ?_⟩, ?_, ?_⟩ <;> split <;> omega
theorem bxs_bd {l : List Sd} (hs : ∀ s ∈ l, sideP s) : bbd (bxs (cs l)) := by
  have key : ∀ (q : List Cn) (st : Bst), bbd st → (∀ c ∈ q, c ∈ cs l) → bbd (q.foldl bup st) := by
    intro q
    induction q with
    | nil => intro st h _; exact h
    | cons c q ih =>
      intro st h hm
      have hc := cs_mem (hm c (.head _))
      exact ih _ (bup_bd h (by rw [hc.2.2.2.1]; exact meet_qb (hs _ hc.1) (hs _ hc.2.1) hc.2.2.1)) fun x hx => hm x (.tail _ hx)
  exact key (cs l) _ (by unfold bbd; dsimp only; omega) fun _ h => h
def pts (l : List Sd) : List Pr := if (bxs (cs l)).2.2 = true then grid l (bxs (cs l)).1 (bxs (cs l)).2.1 else []
theorem pts_len {l : List Sd} (hs : ∀ s ∈ l, sideP s) : (pts l).length ≤ 4100000 := by
  unfold pts
  split
  · have h := grid_len l (bxs (cs l)).1 (bxs (cs l)).2.1
    have b := bxs_bd hs
    unfold bbd at b
    have : ((bxs (cs l)).2.1.1 + 1 - (bxs (cs l)).1.1).toNat * ((bxs (cs l)).2.1.2 + 1 - (bxs (cs l)).1.2).toNat ≤ 2001 * 2001 := Nat.mul_le_mul (by omega) (by omega)
    omega
  · simp
theorem row_bd {l : List Sd} {lo hi x : Int} (h : -1000 ≤ lo) (h2 : hi ≤ 1000) : (row l lo hi x).length ≤ 2001 := by
  have := row_len l lo hi x
  omega
theorem keep_in {l : List Sd} {x y : Int} : inP l ((x : Rat), (y : Rat)) ↔ ∀ s ∈ l, kp (x, y) s := by
  unfold inP kp
  constructor <;> intro h s hs
  · exact lqs_int.1 (h s hs)
  · exact lqs_int.2 (h s hs)
section
variable {a : App}
theorem r71_l1_ok (ha : A95 a) {A H : Hp} {v w : Sl} {l : List Sd} (hv : SL A v l) (hb : l.length ≤ 1000) (hs : ∀ s ∈ l, sideP s) {n1 n2 : Nat} {hi : Pr} {lo2 x : Int} (h2 : A.get n2 = some (.cells [.int .i64 hi.1, .int .i64 hi.2] false)) (g : Gr A H) {q : List Pr} (hacc : AccL A.n H w q) (hq : q.length ≤ 4100000)
    (hx : -1000 ≤ x ∧ x ≤ 1000) (hlo : -1000 ≤ lo2 ∧ lo2 ≤ 1000) (hhi : -1000 ≤ hi.2 ∧ hi.2 ≤ 1000) {kt : Sl → Nat → Nat → Sl → Int → Hp → Option (Sl × Hp)} {Q : Sl → Hp → Prop} (kN : ∀ w' H', Gr A H' → AccL A.n H' w' (q ++ row l lo2 hi.2 x) → Ok (kt v n1 n2 w' (x + 1) H') Q) :
    Ok (r71_l1 a kt FUEL v n1 n2 w x lo2 H) Q := by
  refine Ok.loop (L := fun K (s : Sl × Int) H2 => r71_l1 a kt K v n1 n2 s.1 x s.2 H2) (fun m s H' => Gr A H' ∧ (lo2 ≤ s.2 ∧ (s.2 ≤ hi.2 + 1 ∨ s.2 = lo2)) ∧ m = (hi.2 + 1 - s.2).toNat ∧ AccL A.n H' s.1 (q ++ row l lo2 (s.2 - 1) x)) ?_ FUEL (hi.2 + 1 - lo2).toNat (w, lo2) H (by unfold FUEL; omega) ⟨g, ⟨by simp, .inr rfl⟩, rfl, by
    have : row l lo2 (lo2 - 1) x = [] := by unfold row; rw [ints_nil (by omega)]; rfl
    rw [this, List.append_nil]; exact hacc⟩
  rintro K m ⟨w, y⟩ H1 ⟨g1, hy, hm, hacc⟩ ih
  try dsimp only at *
  rw [r71_l1]
  have h2' : H1.get n2 = some (.cells [.int .i64 hi.1, .int .i64 hi.2] false) := by rw [g1.2 _ (Hp.get_lt h2)]; exact h2
  refine Ok.ld (ldI_get h2' rfl) ?_
  by_cases h : y ≤ hi.2
  · refine Ok.pos h (Ok.own (r80_q (by omega) (by omega)) fun X => Ok.bind (r65_ok ha (p := ((x : Rat), (y : Rat))) (hv.gr g1) hb hs (qp_int (by omega) (by omega))) fun r D ⟨gD, hr⟩ => ?_)
    subst hr
    rw [w64_id (n := y + 1) (by omega) (by omega)]
    have er := row_snoc (l := l) (x := x) (show lo2 ≤ y by omega)
    have hlen := row_bd (l := l) (x := x) (lo := lo2) (hi := y - 1) (by omega) (by omega)
    by_cases hk : ∀ s ∈ l, kp (x, y) s
    · rw [decide_eq_true (keep_in.2 hk)]
      rw [if_pos hk] at er
      refine Ok.pos rfl (Ok.bind ((hacc.gr gD).push (g1.trans gD) (x, y) rfl rfl (by rw [List.length_append]; omega)) fun w' E ⟨ha', gE, _⟩ => ?_)
      refine ih (m - 1) (w', y + 1) E (by omega) ⟨gE, by omega, by omega, ?_⟩
      dsimp only
      rw [show y + 1 - 1 = y by omega, er, ← List.append_assoc]
      exact ha'
    · rw [decide_eq_false (fun q => hk (keep_in.1 q))]
      rw [if_neg hk, List.append_nil] at er
      refine Ok.neg (by simp) (ih (m - 1) (w, y + 1) D (by omega) ⟨g1.trans gD, by omega, by omega, ?_⟩)
      dsimp only
      rw [show y + 1 - 1 = y by omega, er]
      exact hacc.gr gD
  · refine Ok.neg h ?_
    rw [w64_id (n := x + 1) (by omega) (by omega)]
    refine kN w H1 g1 ?_
    have : row l lo2 (y - 1) x = row l lo2 hi.2 x := by
      by_cases h3 : y ≤ hi.2 + 1
      · rw [show y - 1 = hi.2 by omega]
      · unfold row; rw [ints_nil (by omega), ints_nil (by omega)]
    rw [← this]; exact hacc
/-- points -/
theorem r71_ok {k : Nat} {H : Hp} {v : Sl} {l : List Sd} (hv : SL H v l) (hb : l.length ≤ 1000) (hs : ∀ s ∈ l, sideP s) : Ok (r71 (appA (k + 2)) v H) fun w H' => Gr H H' ∧ AccL H.n H' w (pts l) := by
  unfold r71
  refine Ok.bind (r101_ok hv hb hs) fun r A ⟨gA, hr⟩ => ?_
  subst hr
  have bd := bxs_bd hs
  unfold pts
  generalize bxs (cs l) = st at *
  obtain ⟨lo, hi, ok⟩ := st
  unfold bbd at bd
  dsimp only at bd ⊢
  have c0 : Cx A A [] := .nil A
  have c := (c0.push [.int .i64 0, .int .i64 0]).push [.int .i64 0, .int .i64 0]
  refine Ok.cst c 1 rfl rfl fun B _ _ c => Ok.cst c 0 rfl rfl fun C _ _ c => ?_
  have gC := gA.trans c.g
  by_cases hok : ok = true
  · simp only [if_pos hok]
    refine Ok.cld c (.tail _ (.head _)) rfl ?_
    have h1 := c.e _ (.tail _ (.head _))
    have h2 := c.e _ (.head _)
    have hvC := hv.gr gC
    refine Ok.mono (P := fun w H' => Gr C H' ∧ AccL C.n H' w (grid l lo hi)) ?_ fun w H' h => ⟨gC.trans h.1, AccL.lo h.2 gC.1⟩
    refine Ok.loop (L := fun K (s : Sl × Int) H2 => r71_l0 (appA (k + 2)) K v A.n _ s.1 s.2 H2) (fun m s H' => Gr C H' ∧ (lo.1 ≤ s.2 ∧ (s.2 ≤ hi.1 + 1 ∨ s.2 = lo.1)) ∧ m = (hi.1 + 1 - s.2).toNat ∧ AccL C.n H' s.1 ((ints lo.1 (s.2 - 1)).flatMap (row l lo.2 hi.2))) ?_ FUEL (hi.1 + 1 - lo.1).toNat (⟨true, 0, 0, 0, 0, 0⟩, lo.1) C (by unfold FUEL; omega) ⟨.refl _, ⟨by simp, .inr rfl⟩, rfl, by dsimp only; rw [ints_nil (by omega)]; exact AccL.nilS⟩
    rintro K m ⟨w, x⟩ H1 ⟨g1, hx, hm, hacc⟩ ih
    try dsimp only at *
    rw [r71_l0]
    have h1' := h1
    have h2' := h2
    rw [← g1.2 _ (Hp.get_lt h1)] at h1'
    rw [← g1.2 _ (Hp.get_lt h2)] at h2'
    refine Ok.ld (ldI_get h2' rfl) ?_
    by_cases h : x ≤ hi.1
    · refine Ok.pos h (Ok.ld (ldI_get h1' rfl) ?_)
      have hlen : ((ints lo.1 (x - 1)).flatMap (row l lo.2 hi.2)).length ≤ 4100000 := by
        have := grid_len l lo (x - 1, hi.2)
        have h3 : ((x - 1 : Int) + 1 - lo.1).toNat * (hi.2 + 1 - lo.2).toNat ≤ 2001 * 2001 := Nat.mul_le_mul (by omega) (by omega)
        unfold grid at this
        dsimp only at this
        omega
      refine r71_l1_ok (a95A _) hvC hb hs h2 g1 hacc hlen (by omega) bd.1.2 bd.2.2 fun w' H' g' hacc' => ?_
      refine ih (m - 1) (w', x + 1) H' (by omega) ⟨g', by omega, by omega, ?_⟩
      dsimp only
      rw [show x + 1 - 1 = x by omega, ints_snoc (show lo.1 ≤ x by omega), List.flatMap_append, List.flatMap_singleton]
      exact hacc'
    · refine Ok.neg h (Ok.ret ⟨g1, ?_⟩)
      unfold grid
      by_cases h3 : x ≤ hi.1 + 1
      · rw [show hi.1 = x - 1 by omega]; exact hacc
      · rw [ints_nil (by omega)] at hacc ⊢; exact hacc
  · simp only [if_neg hok]
    exact Ok.ret ⟨gC, AccL.nilS⟩
/-- Points -/
theorem r40_ok {k : Nat} {H : Hp} {v : Sl} {l : List Sd} (hv : SL H v l) (hb : l.length ≤ 1000) : Ok (r40 (appA (k + 2)) v H) fun r H' => Gr H H' ∧ if plateP l then AccL H.n H' r.1 (pts l) ∧ r.2 = 0 else r = (⟨true, 0, 0, 0, 0, 0⟩, 2) := by
  unfold r40
  refine Ok.bind (r63_ok (k := k + 1) hv hb) fun b A ⟨gA, hbb⟩ => ?_
  subst hbb
  by_cases hp : plateP l
  · rw [decide_eq_true hp]
    simp only [if_pos hp]
    exact Ok.pos (by simp) (Ok.bind (r71_ok (hv.gr gA) hb hp.2.1) fun w B ⟨gB, hw⟩ => Ok.ret ⟨gA.trans gB, AccL.lo hw gA.1, rfl⟩)
  · rw [decide_eq_false hp]
    simp only [if_neg hp]
    exact Ok.neg (by simp) (Ok.ret ⟨gA, rfl⟩)
end
end Go.Lt.P2

namespace Go.Lt.P2
open Go Go.Lt Go.Proofs
/-! ### the box of some points -/
def isMin (f : Pq → Int) (S : Pq → Prop) (a : Int) : Prop := (∃ p, S p ∧ f p = a) ∧ ∀ p, S p → a ≤ f p
def isMax (f : Pq → Int) (S : Pq → Prop) (a : Int) : Prop := (∃ p, S p ∧ f p = a) ∧ ∀ p, S p → f p ≤ a
def fx (p : Pq) : Int := p.1.floor
def fy (p : Pq) : Int := p.2.floor
theorem isMin.uniq {f : Pq → Int} {S : Pq → Prop} {a b : Int} (h : isMin f S a) (k : isMin f S b) : a = b := by
  obtain ⟨⟨p, hp, e⟩, h2⟩ := h
  obtain ⟨⟨q, hq, e'⟩, k2⟩ := k
  have := h2 q hq; have := k2 p hp; omega
theorem isMax.uniq {f : Pq → Int} {S : Pq → Prop} {a b : Int} (h : isMax f S a) (k : isMax f S b) : a = b := by
  obtain ⟨⟨p, hp, e⟩, h2⟩ := h
  obtain ⟨⟨q, hq, e'⟩, k2⟩ := k
  have := h2 q hq; have := k2 p hp; omega
def IsBx (S : Pq → Prop) (lo hi : Pr) : Prop := (isMin fx S lo.1 ∧ isMin fy S lo.2) ∧ isMax fx S hi.1 ∧ isMax fy S hi.2
theorem IsBx.uniq {S : Pq → Prop} {lo hi lo' hi' : Pr} (h : IsBx S lo hi) (k : IsBx S lo' hi') : lo = lo' ∧ hi = hi' :=
  ⟨Prod.ext (h.1.1.uniq k.1.1) (h.1.2.uniq k.1.2), Prod.ext (h.2.1.uniq k.2.1) (h.2.2.uniq k.2.2)⟩
def isC (q : List Cn) (p : Pq) : Prop := ∃ c ∈ q, c.1 = p
theorem isC_snoc {q : List Cn} {c : Cn} {p : Pq} : isC (q ++ [c]) p ↔ isC q p ∨ c.1 = p := by
  unfold isC
  constructor
  · rintro ⟨d, hd, h⟩
    rcases List.mem_append.1 hd with hd | hd
    · exact .inl ⟨d, hd, h⟩
    · rw [List.mem_singleton] at hd; subst hd; exact .inr h
  · rintro (⟨d, hd, h⟩ | h)
    · exact ⟨d, List.mem_append_left _ hd, h⟩
    · exact ⟨c, by simp, h⟩
theorem isMin_up {f : Pq → Int} {q : List Cn} {c : Cn} {a : Int} (h : isMin f (isC q) a) : isMin f (isC (q ++ [c])) (nlo true (f c.1) a) := by
  obtain ⟨⟨p, hp, e⟩, h2⟩ := h
  unfold nlo
  split
  · rename_i hc
    refine ⟨⟨p, isC_snoc.2 (.inl hp), e⟩, fun r hr => ?_⟩
    rcases isC_snoc.1 hr with hr | rfl
    · exact h2 r hr
    · omega
  · rename_i hc
    have hc : f c.1 < a := Classical.byContradiction fun q => hc ⟨rfl, q⟩
    refine ⟨⟨c.1, isC_snoc.2 (.inr rfl), rfl⟩, fun r hr => ?_⟩
    rcases isC_snoc.1 hr with hr | rfl
    · have := h2 r hr; omega
    · omega
theorem isMax_up {f : Pq → Int} {q : List Cn} {c : Cn} {a : Int} (h : isMax f (isC q) a) : isMax f (isC (q ++ [c])) (nhi true (f c.1) a) := by
  obtain ⟨⟨p, hp, e⟩, h2⟩ := h
  unfold nhi
  split
  · rename_i hc
    refine ⟨⟨p, isC_snoc.2 (.inl hp), e⟩, fun r hr => ?_⟩
    rcases isC_snoc.1 hr with hr | rfl
    · exact h2 r hr
    · omega
  · rename_i hc
    have hc : a < f c.1 := Classical.byContradiction fun q => hc ⟨rfl, q⟩
    refine ⟨⟨c.1, isC_snoc.2 (.inr rfl), rfl⟩, fun r hr => ?_⟩
    rcases isC_snoc.1 hr with hr | rfl
    · have := h2 r hr; omega
    · omega
theorem bxs_is (q : List Cn) : (bxs q).2.2 = decide (q ≠ []) ∧ (q ≠ [] → IsBx (isC q) (bxs q).1 (bxs q).2.1) := by
  have step : ∀ (q : List Cn) (c : Cn), ((bxs q).2.2 = decide (q ≠ []) ∧ (q ≠ [] → IsBx (isC q) (bxs q).1 (bxs q).2.1)) → (bxs (q ++ [c])).2.2 = decide (q ++ [c] ≠ []) ∧ (q ++ [c] ≠ [] → IsBx (isC (q ++ [c])) (bxs (q ++ [c])).1 (bxs (q ++ [c])).2.1) := fun q c ⟨h1, h2⟩ => by
    have e : bxs (q ++ [c]) = bup (bxs q) c := by unfold bxs; rw [List.foldl_append]; rfl
    rw [e]
    refine ⟨by simp [bup], fun _ => ?_⟩
    by_cases hq : q = []
    · subst hq
      have one : ∀ p, isC ([] ++ [c]) p ↔ c.1 = p := fun p => by unfold isC; simp
      unfold IsBx isMin isMax bup up1 up0 nlo nhi bxs
      simp only [List.foldl_nil, Bool.false_eq_true, false_and, if_false]
      refine ⟨⟨⟨⟨c.1, (one _).2 rfl, rfl⟩, fun p hp => ?_⟩, ⟨c.1, (one _).2 rfl, rfl⟩, fun p hp => ?_⟩, ⟨⟨c.1, (one _).2 rfl, rfl⟩, fun p hp => ?_⟩, ⟨c.1, (one _).2 rfl, rfl⟩, fun p hp => ?_⟩ <;>
      · have := (one p).1 hp
        subst this
        exact Int.le_refl _
    · rw [decide_eq_true hq] at h1
      obtain ⟨⟨a1, a2⟩, a3, a4⟩ := h2 hq
      unfold bup up1 up0
      dsimp only
      rw [h1]
      exact ⟨⟨isMin_up (f := fx) a1, isMin_up (f := fy) a2⟩, isMax_up (f := fx) a3, isMax_up (f := fy) a4⟩
  have key : ∀ n (q : List Cn), q.length = n → ((bxs q).2.2 = decide (q ≠ []) ∧ (q ≠ [] → IsBx (isC q) (bxs q).1 (bxs q).2.1)) := by
    intro n
    induction n with
    | zero =>
      intro q hq
      have : q = [] := List.length_eq_zero_iff.1 hq
      subst this
      exact ⟨rfl, fun h => absurd rfl h⟩
    | succ n ih =>
      intro q hq
      have hne : q ≠ [] := by rintro rfl; simp at hq
      rw [← List.dropLast_concat_getLast hne]
      exact step _ _ (ih _ (by simp [hq]))
  exact key _ q rfl
theorem pts_is {l : List Sd} {lo hi : Pr} (h : IsBx (isC (cs l)) lo hi) : pts l = grid l lo hi := by
  have hne : cs l ≠ [] := by
    rintro hc
    obtain ⟨⟨p, ⟨c, hc', _⟩, _⟩, _⟩ := h.1.1
    rw [hc] at hc'
    cases hc'
  have b := bxs_is (cs l)
  obtain ⟨e1, e2⟩ := (b.2 hne).uniq h
  unfold pts
  rw [b.1, decide_eq_true hne, if_pos rfl, e1, e2]
theorem pts_nil {l : List Sd} (h : cs l = []) : pts l = [] := by
  have b := bxs_is (cs l)
  unfold pts
  rw [b.1, h]
  rfl
end Go.Lt.P2

namespace Go.Lt.P2
open Go Go.Lt Go.Proofs
/-- Floor -/
theorem r61_q {q : Rat} {N D : Int} (hq : qb N D q) (hN : N < 1000000000000000000) (hD : D < 1000000000000000000) : Ok (r61 (fq q).1 (fq q).2 H0) fun r _ => r = q.floor := by
  obtain ⟨h1, h2, h3⟩ := hq
  have hp := fq_pos q
  have e1 := Int.mul_tdiv_add_tmod (fq q).1 (fq q).2
  have e2 := Int.tmod_lt_of_pos (fq q).1 hp
  have e3 := Int.lt_tmod_of_pos (fq q).1 hp
  have hf : ∀ f : Int, f * (fq q).2 ≤ (fq q).1 → (fq q).1 < (f + 1) * (fq q).2 → f = q.floor := fun f h1 h2 => by
    have := (floor_iff (f := f) (n := (fq q).1) hp).2 ⟨h1, h2⟩
    rw [dv_fq] at this
    exact this
  have hm0 : 0 ≤ (fq q).1 → 0 ≤ Int.tmod (fq q).1 (fq q).2 := fun h => Int.tmod_nonneg _ h
  have hab : (Int.tdiv (fq q).1 (fq q).2).natAbs ≤ (fq q).1.natAbs := by
    rw [Int.natAbs_tdiv]; exact Nat.div_le_self _ _
  have hmul : (fq q).2 * Int.tdiv (fq q).1 (fq q).2 = Int.tdiv (fq q).1 (fq q).2 * (fq q).2 := Int.mul_comm _ _
  rw [hmul] at e1
  have e4 : (Int.tdiv (fq q).1 (fq q).2 + 1) * (fq q).2 = Int.tdiv (fq q).1 (fq q).2 * (fq q).2 + (fq q).2 := by rw [Int.add_mul, Int.one_mul]
  have e5 : (Int.tdiv (fq q).1 (fq q).2 - 1) * (fq q).2 = Int.tdiv (fq q).1 (fq q).2 * (fq q).2 - (fq q).2 := by rw [Int.sub_mul, Int.one_mul]
  have e6 : (Int.tdiv (fq q).1 (fq q).2 - 1 + 1) * (fq q).2 = Int.tdiv (fq q).1 (fq q).2 * (fq q).2 := by rw [Int.sub_add_cancel]
  unfold r61
  refine Ok.box (.nil H0) fun A _ c => Ok.cld c (.head _) rfl (Ok.cld c (.head _) rfl (Ok.ck (by omega) (Ok.cld c (.head _) rfl (Ok.cld c (.head _) rfl ?_))))
  have hw : w64 (Int.tdiv (fq q).1 (fq q).2) = Int.tdiv (fq q).1 (fq q).2 := w64_id (by omega) (by omega)
  rw [hw]
  generalize Int.tdiv (fq q).1 (fq q).2 = n at *
  generalize Int.tmod (fq q).1 (fq q).2 = m at *
  rw [w64_id (n := n * _) (by omega) (by omega)]
  refine Ok.ite (fun hc => Ok.ret ?_) fun hc => Ok.ret ?_
  · rw [w64_id (by omega) (by omega)]
    exact hf _ (by omega) (by omega)
  · exact hf _ (by omega) (by omega)
end Go.Lt.P2

namespace Go.Lt.P2
open Go Go.Lt Go.Proofs
theorem isC_rcs {q : List Cn} {p : Pq} : p ∈ rcs q ↔ isC q p := mem_rcs
theorem rcs_qb {l : List Sd} (hs : ∀ s ∈ l, sideP s) : ∀ p ∈ rcs (cs l), qb 320 32 p.1 ∧ qb 320 32 p.2 := fun p hp => by
  obtain ⟨c, hc, rfl⟩ := mem_rcs.1 hp
  have k := cs_mem hc
  rw [k.2.2.2.1]
  exact meet_qb (hs _ k.1) (hs _ k.2.1) k.2.2.1
section
variable {l : List Sd} {v w : Sl} {B : Hp}
theorem r25_l3_ok {H : Hp} (hv : SL B v l) (hb : l.length ≤ 1000) (hs : ∀ s ∈ l, sideP s) (g : Gr B H) {u : Sl} {q : List Pr} (hu : AccL B.n H u q) (hq : q.length ≤ 5000000) {lo hi x y : Int} (hx : -1000 ≤ x ∧ x ≤ 1000) (hy : -1000 ≤ y ∧ y ≤ 1000) {kt : Sl → Sl → Int → Int → Sl → Int → Int → Hp → Option (Sl × Hp)} {Q : Sl → Hp → Prop}
    (kN : ∀ u' H', Gr B H' → AccL B.n H' u' (q ++ if ∀ s ∈ l, kp (x, y) s then [(x, y)] else []) → Ok (kt v w lo hi u' x (y + 1) H') Q) :
    Ok (r25_l3 kt FUEL v w lo hi u x y true v l.length 0 H) Q := by
  have hlen := hv.len
  refine Ok.loop (L := fun K (s : Bool × Int) H2 => r25_l3 kt K v w lo hi u x y s.1 v l.length s.2 H2) (fun m s' H' => Gr B H' ∧ AccL B.n H' u q ∧ ∃ i : Nat, s'.2 = i ∧ i + m = l.length ∧ (s'.1 = true ↔ ∀ s ∈ l.take i, kp (x, y) s)) ?_ FUEL l.length (true, 0) H (by unfold FUEL; omega) ⟨g, hu, 0, rfl, by omega, by simp⟩
  rintro K m ⟨fl, j⟩ H1 ⟨g1, hu1, i, rfl, hm, hfl⟩ ih
  try dsimp only at *
  rw [r25_l3]
  by_cases h : i < l.length
  · have hg := hv.gr g1
    have hx' := hs _ (List.getElem_mem h)
    have c0 : Cx H1 H1 [] := .nil H1
    refine Ok.pos (by omega) (Ok.ck (by omega) (Ok.ld (hg.ldI (i := i) (j := 0) h rfl) (Ok.ld (hg.ldI (i := i) (j := 1) h rfl) (Ok.ld (hg.ldI (i := i) (j := 2) h rfl) (Ok.alo c0 fun E gE cx => ?_)))))
    have nxt : ∀ b, (b = true ↔ ∀ s ∈ l.take (i + 1), kp (x, y) s) → Ok (r25_l3 kt K v w lo hi u x y b v l.length (w64 ((i : Int) + 1)) E) Q := fun b hbb => by
      rw [w64_succ (by omega)]
      exact ih (m - 1) (b, _) E (by omega) ⟨g1.trans gE, hu1.gr gE, i + 1, rfl, by omega, hbb⟩
    refine Ok.ite (fun hc => ?_) fun hc => nxt _ ?_
    · refine Ok.cld cx (.head _) rfl (Ok.cld cx (.head _) rfl (Ok.cld cx (.head _) rfl (Ok.own (r75_ok hx' (by omega) (by omega) (by omega)) fun _ => nxt _ ?_)))
      have hc := hfl.1 hc
      rw [decide_eq_true_iff, Int.mul_one, List.take_succ_eq_append_getElem h]
      constructor
      · intro k s hs
        rcases List.mem_append.1 hs with hs | hs
        · exact hc s hs
        · rw [List.mem_singleton] at hs; subst hs; exact k
      · intro k; exact k _ (List.mem_append_right _ (List.mem_singleton_self _))
    · refine ⟨fun c => (by cases c), fun k => ?_⟩
      exact absurd (hfl.2 fun s hs => k s (by rw [List.take_succ_eq_append_getElem h]; exact List.mem_append_left _ hs)) hc
  · rw [List.take_of_length_le (by omega)] at hfl
    rw [w64_id (n := y + 1) (by omega) (by omega)]
    refine Ok.neg (by omega) (Ok.ite (fun hc => ?_) fun hc => ?_)
    · rw [if_pos (hfl.1 hc)] at kN
      refine Ok.bind (hu1.push g1 (x, y) rfl rfl (by omega)) fun u' E ⟨hu', gE, _⟩ => kN u' E gE hu'
    · rw [if_neg (fun k => hc (hfl.2 k)), List.append_nil] at kN
      exact kN u H1 g1 hu1
theorem r25_l2_ok {H : Hp} (hv : SL B v l) (hb : l.length ≤ 1000) (hs : ∀ s ∈ l, sideP s) (g : Gr B H) {u : Sl} {q : List Pr} (hu : AccL B.n H u q) (hq : q.length ≤ 4100000) {lo hi x : Int} (hx : -1000 ≤ x ∧ x ≤ 1000) (hlo : -1000 ≤ lo ∧ lo ≤ 1000) (hhi : -1000 ≤ hi ∧ hi ≤ 1000) {kt : Sl → Sl → Int → Int → Sl → Int → Hp → Option (Sl × Hp)} {Q : Sl → Hp → Prop}
    (kN : ∀ u' H', Gr B H' → AccL B.n H' u' (q ++ row l lo hi x) → Ok (kt v w lo hi u' (x + 1) H') Q) :
    Ok (r25_l2 kt FUEL v w lo hi u x lo H) Q := by
  refine Ok.loop (L := fun K (s : Sl × Int) H2 => r25_l2 kt K v w lo hi s.1 x s.2 H2) (fun m s H' => Gr B H' ∧ (lo ≤ s.2 ∧ (s.2 ≤ hi + 1 ∨ s.2 = lo)) ∧ m = (hi + 1 - s.2).toNat ∧ AccL B.n H' s.1 (q ++ row l lo (s.2 - 1) x)) ?_ FUEL (hi + 1 - lo).toNat (u, lo) H (by unfold FUEL; omega) ⟨g, ⟨by simp, .inr rfl⟩, rfl, by
    have : row l lo (lo - 1) x = [] := by unfold row; rw [ints_nil (by omega)]; rfl
    rw [this, List.append_nil]; exact hu⟩
  rintro K m ⟨u, y⟩ H1 ⟨g1, hy, hm, hacc⟩ ih
  try dsimp only at *
  rw [r25_l2]
  by_cases h : y ≤ hi
  · refine Ok.pos h ?_
    have hlen := row_bd (l := l) (x := x) (lo := lo) (hi := y - 1) (by omega) (by omega)
    rw [hv.len]
    refine r25_l3_ok hv hb hs g1 hacc (by rw [List.length_append]; omega) hx (by omega) fun u' H' g' hu' => ?_
    refine ih (m - 1) (u', y + 1) H' (by omega) ⟨g', by omega, by omega, ?_⟩
    dsimp only
    rw [show y + 1 - 1 = y by omega, row_snoc (show lo ≤ y by omega), ← List.append_assoc]
    exact hu'
  · refine Ok.neg h ?_
    rw [w64_id (n := x + 1) (by omega) (by omega)]
    refine kN u H1 g1 ?_
    have : row l lo (y - 1) x = row l lo hi x := by
      by_cases h3 : y ≤ hi + 1
      · rw [show y - 1 = hi by omega]
      · unfold row; rw [ints_nil (by omega), ints_nil (by omega)]
    rw [← this]; exact hacc
/-- Points of the reference -/
theorem r25_ok {H : Hp} (hv : SL H v l) (hb : l.length ≤ 1000) (hs : ∀ s ∈ l, sideP s) : Ok (r25 v H) fun w H' => Gr H H' ∧ SL H' w (pts l) := by
  unfold r25
  refine Ok.bind (r54_ok hv hb hs) fun w A ⟨gA, hw⟩ => ?_
  have hlen := hw.len
  have hvA := hv.gr gA
  by_cases hn : rcs (cs l) = []
  · have hc : cs l = [] := by
      refine List.eq_nil_iff_forall_not_mem.2 fun c hc => ?_
      have : c.1 ∈ rcs (cs l) := mem_rcs.2 ⟨c, hc, rfl⟩
      rw [hn] at this
      cases this
    rw [pts_nil hc]
    rw [hn] at hlen
    exact Ok.pos (by simpa using hlen) (Ok.ret ⟨gA, .nilS⟩)
  have hqb := rcs_qb hs
  have hsrt := rcs_srt (cs l)
  have hP : ∀ p, p ∈ rcs (cs l) ↔ isC (cs l) p := fun p => isC_rcs
  have hPl : (rcs (cs l)).length ≤ 1000000 := Nat.le_trans (rcs_len _) (cs_len hb)
  generalize hPe : rcs (cs l) = P at *
  have hp0 : 0 < P.length := List.length_pos_iff.2 hn
  have flo : ∀ p ∈ P, (-321 ≤ fx p ∧ fx p ≤ 320) ∧ -321 ≤ fy p ∧ fy p ≤ 320 := fun p hp => by
    have a := floor_bd (hqb p hp).1 (by decide)
    have b := floor_bd (hqb p hp).2 (by decide)
    unfold fx fy; omega
  have m0 := List.getElem_mem hp0
  have ldx : ∀ {D : Hp} {i : Nat} (h : i < P.length), Gr A D → D.ldI .i64 w.b (w.o + i * 4 + 0) = some (fq P[i].1).1 ∧ D.ldI .i64 w.b (w.o + i * 4 + 0 + 1) = some (fq P[i].1).2 ∧ D.ldI .i64 w.b (w.o + i * 4 + 2) = some (fq P[i].2).1 ∧ D.ldI .i64 w.b (w.o + i * 4 + 2 + 1) = some (fq P[i].2).2 := fun {D i} h g =>
    ⟨(hw.gr g).ldI (i := i) (j := 0) h rfl, (hw.gr g).ldI (i := i) (j := 1) h rfl, (hw.gr g).ldI (i := i) (j := 2) h rfl, (hw.gr g).ldI (i := i) (j := 3) h rfl⟩
  have l0 := ldx hp0 (.refl A)
  refine Ok.neg (by dsimp only; omega) (Ok.ck (by dsimp only; omega) (Ok.ld l0.2.2.1 (Ok.ld l0.2.2.2 (Ok.own (r61_q (hqb _ m0).2 (by decide) (by decide)) fun _ => Ok.ck (by dsimp only; omega) (Ok.ld l0.2.2.1 (Ok.ld l0.2.2.2 (Ok.own (r61_q (hqb _ m0).2 (by decide) (by decide)) fun _ => ?_)))))))
  rw [hlen]
  refine Ok.loop (L := fun K (s : Int × Int × Int) H2 => r25_l0 K v w s.1 s.2.1 w P.length s.2.2 H2) (fun m s H' => Gr A H' ∧ ∃ i : Nat, s.2.2 = i ∧ i + m = P.length ∧ ((∃ p ∈ P, fy p = s.1) ∧ ∀ p ∈ P.take i, s.1 ≤ fy p) ∧ (∃ p ∈ P, fy p = s.2.1) ∧ ∀ p ∈ P.take i, fy p ≤ s.2.1) ?_ FUEL P.length (fy P[0], fy P[0], 0) A (by unfold FUEL; omega) ⟨.refl _, 0, rfl, by omega, ⟨⟨_, m0, rfl⟩, by simp⟩, ⟨_, m0, rfl⟩, by simp⟩
  rintro K m ⟨lo, hi, s⟩ H1 ⟨g1, i, rfl, hm, ⟨⟨pl, hpl, elo⟩, hlo⟩, ⟨ph, hph, ehi⟩, hhi⟩ ih
  try dsimp only at *
  rw [r25_l0]
  by_cases h : i < P.length
  · have li := ldx h g1
    have mi := List.getElem_mem h
    have c0 : Cx H1 H1 [] := .nil H1
    refine Ok.pos (by omega) (Ok.ck (by omega) (Ok.ld li.1 (Ok.ld li.2.1 (Ok.ld li.2.2.1 (Ok.ld li.2.2.2 (Ok.alo c0 fun E gE cx => ?_))))))
    refine Ok.cld cx (.head _) rfl (Ok.cld cx (.head _) rfl (Ok.own (r61_q (hqb _ mi).2 (by decide) (by decide)) fun _ => Ok.cld cx (.head _) rfl (Ok.cld cx (.head _) rfl (Ok.own (r61_q (hqb _ mi).2 (by decide) (by decide)) fun _ => ?_))))
    rw [w64_succ (by omega)]
    refine ih (m - 1) (if P[i].2.floor < lo then P[i].2.floor else lo, if hi < P[i].2.floor then P[i].2.floor else hi, _) E (by omega) ⟨g1.trans gE, i + 1, rfl, by omega, ⟨?_, fun p hp => ?_⟩, ?_, fun p hp => ?_⟩
    · dsimp only
      split
      · exact ⟨_, mi, rfl⟩
      · exact ⟨pl, hpl, elo⟩
    · rw [List.take_succ_eq_append_getElem h] at hp
      dsimp only
      rcases List.mem_append.1 hp with hp | hp
      · have := hlo p hp
        split <;> omega
      · rw [List.mem_singleton] at hp
        subst hp
        show _ ≤ P[i].2.floor
        split <;> omega
    · dsimp only
      split
      · exact ⟨_, mi, rfl⟩
      · exact ⟨ph, hph, ehi⟩
    · rw [List.take_succ_eq_append_getElem h] at hp
      dsimp only
      rcases List.mem_append.1 hp with hp | hp
      · have := hhi p hp
        split <;> omega
      · rw [List.mem_singleton] at hp
        subst hp
        show P[i].2.floor ≤ _
        split <;> omega
  · rw [List.take_of_length_le (by omega)] at hlo hhi
    have l0 := ldx hp0 g1
    refine Ok.neg (by omega) (Ok.ck (by omega) (Ok.ld l0.1 (Ok.ld l0.2.1 (Ok.own (r61_q (hqb _ m0).1 (by decide) (by decide)) fun _ => ?_))))
    have hlast : P.length - 1 < P.length := by omega
    have ml := List.getElem_mem hlast
    have fmono : ∀ {i j : Nat} (hi : i < P.length) (hj : j < P.length), i ≤ j → fx P[i] ≤ fx P[j] := fun {i j} hi hj hij => by
      rcases Nat.eq_or_lt_of_le hij with rfl | hij
      · exact Int.le_refl _
      · have := List.pairwise_iff_getElem.1 hsrt i j hi hj hij
        refine Rat.floor_monotone ?_
        rcases this with h | h
        · exact Rat.le_of_lt h
        · rw [h.1]; exact Rat.le_refl
    have hbx : IsBx (isC (cs l)) (fx P[0], lo) (fx P[P.length - 1], hi) := by
      refine ⟨⟨⟨⟨_, (hP _).1 m0, rfl⟩, fun p hp => ?_⟩, ⟨pl, (hP _).1 hpl, elo⟩, fun p hp => hlo p ((hP p).2 hp)⟩, ⟨⟨_, (hP _).1 ml, rfl⟩, fun p hp => ?_⟩, ⟨ph, (hP _).1 hph, ehi⟩, fun p hp => hhi p ((hP p).2 hp)⟩
      · obtain ⟨i, hi, rfl⟩ := List.mem_iff_getElem.1 ((hP p).2 hp)
        exact fmono hp0 hi (by omega)
      · obtain ⟨i, hi, rfl⟩ := List.mem_iff_getElem.1 ((hP p).2 hp)
        exact fmono hi hlast (by omega)
    rw [pts_is hbx]
    have bl := flo pl hpl
    have bh := flo ph hph
    have b0 := flo _ m0
    have bl' := flo _ ml
    have hv1 := hvA.gr g1
    refine Ok.mono (P := fun u H' => Gr H1 H' ∧ AccL H1.n H' u (grid l (fx P[0], lo) (fx P[P.length - 1], hi))) ?_ fun u H' h => ⟨gA.trans (g1.trans h.1), AccL.sl h.2⟩
    refine Ok.loop (L := fun K (s : Sl × Int) H2 => r25_l1 K v w lo hi s.1 s.2 H2) (fun m s H' => Gr H1 H' ∧ (fx P[0] ≤ s.2 ∧ (s.2 ≤ fx P[P.length - 1] + 1 ∨ s.2 = fx P[0])) ∧ m = (fx P[P.length - 1] + 1 - s.2).toNat ∧ AccL H1.n H' s.1 ((ints (fx P[0]) (s.2 - 1)).flatMap (row l lo hi))) ?_ FUEL (fx P[P.length - 1] + 1 - fx P[0]).toNat (⟨true, 0, 0, 0, 0, 0⟩, fx P[0]) H1 (by unfold FUEL; omega) ⟨.refl _, ⟨by simp, .inr rfl⟩, rfl, by dsimp only; rw [ints_nil (by omega)]; exact AccL.nilS⟩
    rintro K' m' ⟨u, x⟩ H2 ⟨g2, hx, hm', hacc⟩ ih'
    try dsimp only at *
    rw [r25_l1]
    have ew : w64 ((w.len : Int) - 1) = ((P.length - 1 : Nat) : Int) := by rw [w64_id (by omega) (by omega)]; omega
    rw [ew]
    have ll := ldx hlast (g1.trans g2)
    refine Ok.ck (by omega) (Ok.ld ll.1 (Ok.ld ll.2.1 (Ok.own (r61_q (hqb _ ml).1 (by decide) (by decide)) fun _ => ?_)))
    show Ok (if x ≤ fx P[P.length - 1] then _ else _) _
    by_cases h : x ≤ fx P[P.length - 1]
    · refine Ok.pos h ?_
      have hlen : ((ints (fx P[0]) (x - 1)).flatMap (row l lo hi)).length ≤ 4100000 := by
        have h3 : ((x - 1 : Int) + 1 - fx P[0]).toNat * (hi + 1 - lo).toNat ≤ 2001 * 2001 := Nat.mul_le_mul (by omega) (by omega)
        exact Nat.le_trans (grid_len l (fx P[0], lo) (x - 1, hi)) (Nat.le_trans h3 (by decide))
      refine r25_l2_ok hv1 hb hs g2 hacc hlen (by omega) (by omega) (by omega) fun u' H' g' hacc' => ?_
      refine ih' (m' - 1) (u', x + 1) H' (by omega) ⟨g', by omega, by omega, ?_⟩
      dsimp only
      rw [show x + 1 - 1 = x by omega, ints_snoc (show fx P[0] ≤ x by omega), List.flatMap_append, List.flatMap_singleton]
      exact hacc'
    · refine Ok.neg h (Ok.ret ⟨g2, ?_⟩)
      unfold grid
      by_cases h3 : x ≤ fx P[P.length - 1] + 1
      · dsimp only
        rw [show fx P[P.length - 1] = x - 1 by omega]; exact hacc
      · dsimp only
        rw [ints_nil (by omega)] at hacc ⊢; exact hacc
end
end Go.Lt.P2

namespace Go.Lt.P2
open Go Go.Lt Go.Proofs
theorem keqs_two (a b c d : Int) : AV.keqs [.int .i64 a, .int .i64 b] [.int .i64 c, .int .i64 d] = decide ((a, b) = (c, d)) := by
  simp only [AV.keqs, AV.keq1, Bool.and_true, Prod.mk.injEq]
  exact Bool.eq_iff_iff.2 (by simp)
/-- Equal -/
theorem r26_ok {l l' : List Pr} {H : Hp} {v w : Sl} (hv : SL H v l) (hw : SL H w l') (hb : l.length ≤ 100000000) : Ok (r26 v w H) fun b H' => H' = H ∧ b = decide (l = l') := by
  unfold r26
  have h1 := hv.len
  have h2 := hw.len
  by_cases hl : l.length = l'.length
  · refine Ok.neg (by omega) ?_
    rw [h1]
    refine Ok.loop (L := fun K (s : Int) H2 => r26_l0 K v w l.length s H2) (fun m s H' => H' = H ∧ ∃ i : Nat, s = i ∧ i + m = l.length ∧ l.take i = l'.take i) ?_ FUEL l.length 0 H (by unfold FUEL; omega) ⟨rfl, 0, rfl, by omega, rfl⟩
    rintro K m s H1 ⟨rfl, i, rfl, hm, ht⟩ ih
    try dsimp only at *
    rw [r26_l0]
    by_cases h : i < l.length
    · refine Ok.pos (by omega) (Ok.ck (by omega) (Ok.ld (hv.ldI (i := i) (j := 0) h rfl) (Ok.ld (hv.ldI (i := i) (j := 1) h rfl) (Ok.ck (by omega) (Ok.ld (hw.ldI (i := i) (j := 0) (by omega) rfl) (Ok.ld (hw.ldI (i := i) (j := 1) (by omega) rfl) ?_))))))
      rw [keqs_two]
      refine Ok.ite (fun hc => ?_) fun hc => Ok.ret ⟨rfl, ?_⟩
      · rw [w64_succ (by omega)]
        refine ih (m - 1) _ _ (by omega) ⟨rfl, i + 1, rfl, by omega, ?_⟩
        rw [List.take_succ_eq_append_getElem h, List.take_succ_eq_append_getElem (by omega), ht]
        congr 2
        exact of_decide_eq_true hc
      · symm
        rw [decide_eq_false_iff_not]
        rintro rfl
        exact hc (by simp)
    · refine Ok.neg (by omega) (Ok.ret ⟨rfl, ?_⟩)
      symm
      rw [decide_eq_true_iff]
      rw [List.take_of_length_le (by omega), List.take_of_length_le (by omega)] at ht
      exact ht
  · refine Ok.pos (by omega) (Ok.ret ⟨rfl, ?_⟩)
    symm
    rw [decide_eq_false_iff_not]
    rintro rfl
    exact hl rfl
end Go.Lt.P2

namespace Go.Lt.P2
open Go Go.Lt Go.Proofs
/-- Of -/
theorem r18_ok {H : Hp} {v : Sl} {l : List Sd} (hv : SL H v l) (hb : l.length < 9223372036854775808) : Ok (r18 v H) fun w H' => Gr H H' ∧ SL H' w (l.take 9) := by
  unfold r18
  have hlen := hv.len
  rw [hlen]
  refine Ok.loop (L := fun K (s : Sl × Int) H2 => r18_l0 K s.1 v l.length s.2 H2) (fun m s H' => Gr H H' ∧ ∃ i : Nat, s.2 = i ∧ i + m = l.length ∧ AccL H.n H' s.1 ((l.take i).take 9)) ?_ FUEL l.length (⟨true, 0, 0, 0, 0, 0⟩, 0) H (by unfold FUEL; omega) ⟨.refl _, 0, rfl, by omega, by simpa using AccL.nilS⟩
  rintro K m ⟨w, s⟩ H1 ⟨g1, i, rfl, hm, ha⟩ ih
  try dsimp only at *
  rw [r18_l0]
  by_cases h : i < l.length
  · have hg := hv.gr g1
    obtain ⟨E, hE, hE', gE, nE⟩ := sts3 H1 (.int .i64 l[i].1) (.int .i64 l[i].2.1) (.int .i64 l[i].2.2) (.int .i64 0) (.int .i64 0) (.int .i64 0)
    have gB := g1.trans gE
    refine Ok.pos (by omega) (Ok.ck (by omega) (Ok.ld (hg.ldI (i := i) (j := 0) h rfl) (Ok.ld (hg.ldI (i := i) (j := 1) h rfl) (Ok.ld (hg.ldI (i := i) (j := 2) h rfl) (Ok.ld hE ?_)))))
    refine Ok.ite (fun c => Ok.ld (ldI_get hE' rfl) (Ok.ld (ldI_get hE' rfl) (Ok.ld (ldI_get hE' rfl) ?_))) fun c => ?_
    · have ha' := ha.gr gE
      rw [List.take_of_length_le (by rw [List.length_take]; omega)] at ha'
      refine Ok.bind (ha'.push gB l[i] rfl rfl (by rw [List.length_take]; omega)) fun w2 H3 ⟨ha3, g3, _⟩ => ?_
      rw [w64_succ (by omega)]
      refine ih (m - 1) (w2, _) H3 (by omega) ⟨g3, i + 1, rfl, by omega, ?_⟩
      rw [List.take_succ_eq_append_getElem h, List.take_of_length_le (by simp; omega)]
      exact ha3
    · rw [w64_succ (by omega)]
      refine ih (m - 1) (w, _) E (by omega) ⟨gB, i + 1, rfl, by omega, ?_⟩
      rw [List.take_take, Nat.min_eq_left (by omega)] at ha ⊢
      exact ha.gr gE
  · have hi : i = l.length := by omega
    subst hi
    rw [List.take_length] at ha
    exact Ok.neg (by omega) (Ok.ret ⟨g1, ha.sl⟩)
end Go.Lt.P2

namespace Go.Lt.P2
open Go Go.Lt Go.Proofs
def onP (l : List Sd) (s : Sd) (g : Int) : Prop := ∀ t ∈ l, g * (t.2.1 * s.1 - t.1 * s.2.1) ≤ 0
instance (l : List Sd) (s : Sd) (g : Int) : Decidable (onP l s g) := by unfold onP; infer_instance
theorem onP_one {l : List Sd} {s : Sd} : ¬ onP l s 1 ↔ dirP l (-s.2.1, s.1) := by
  unfold onP dirP
  simp only [Classical.not_forall]
  constructor
  · rintro ⟨t, ht, h⟩
    refine ⟨t, ht, ?_⟩
    try dsimp only
    rw [Int.mul_neg]
    omega
  · rintro ⟨t, ht, h⟩
    refine ⟨t, ht, ?_⟩
    try dsimp only at h
    rw [Int.mul_neg] at h
    omega
theorem onP_neg {l : List Sd} {s : Sd} : ¬ onP l s (-1) ↔ dirP l (s.2.1, -s.1) := by
  unfold onP dirP
  simp only [Classical.not_forall]
  constructor
  · rintro ⟨t, ht, h⟩
    refine ⟨t, ht, ?_⟩
    try dsimp only
    rw [Int.mul_neg]
    omega
  · rintro ⟨t, ht, h⟩
    refine ⟨t, ht, ?_⟩
    try dsimp only at h
    rw [Int.mul_neg] at h
    omega
section
variable {Q : Bool → Hp → Prop}
theorem r19_l5_ok {H : Hp} {v vv : Sl} {l : List Sd} {sb : Nat} {s : Sd} {g ln iv : Int} (hv : SL H v l) (hb : l.length ≤ 6) (hs : ∀ s ∈ l, sideP s) (hss : sideP s) (hg : g = 1 ∨ g = -1) (hsb : H.get sb = some (.cells [.int .i64 s.1, .int .i64 s.2.1, .int .i64 s.2.2] false))
    {kt4 : Sl → Nat → Int → Sl → Int → Int → Hp → Option (Bool × Hp)} (kf : ∀ H', Gr H H' → onP l s g → Q false H') (k : ∀ H', Gr H H' → ¬ onP l s g → Ok (kt4 v sb (w64 (g + 2)) vv ln iv H') Q) : Ok (r19_l5 kt4 FUEL v sb g true vv ln iv v l.length 0 H) Q := by
  have hlen := hv.len
  refine Ok.loop (L := fun K (t : Bool × Int) H2 => r19_l5 kt4 K v sb g t.1 vv ln iv v l.length t.2 H2) (fun m t H' => ∃ i : Nat, t.2 = i ∧ i + m = l.length ∧ Gr H H' ∧ t.1 = decide (onP (l.take i) s g)) ?_ FUEL l.length (true, 0) H (by unfold FUEL; omega) ⟨0, rfl, by omega, .refl _, by simp [onP]⟩
  rintro K m ⟨b, t⟩ H1 ⟨i, rfl, hm, g1, hbb⟩ ih
  try dsimp only at *
  subst hbb
  rw [r19_l5]
  by_cases h : i < l.length
  · have hgl := hv.gr g1
    have hx := hs _ (List.getElem_mem h)
    obtain ⟨E, hE, hE', gE, nE⟩ := sts3 H1 (.int .i64 l[i].1) (.int .i64 l[i].2.1) (.int .i64 l[i].2.2) (.int .i64 0) (.int .i64 0) (.int .i64 0)
    have gB := g1.trans gE
    have hsE : E.get sb = some (.cells [.int .i64 s.1, .int .i64 s.2.1, .int .i64 s.2.2] false) := by rw [gB.2 _ (Hp.get_lt hsb)]; exact hsb
    have ek : onP (l.take (i + 1)) s g ↔ onP (l.take i) s g ∧ g * (l[i].2.1 * s.1 - l[i].1 * s.2.1) ≤ 0 := by
      unfold onP
      constructor
      · intro q
        rw [List.take_succ_eq_append_getElem h] at q
        exact ⟨fun t ht => q t (List.mem_append_left _ ht), q _ (List.mem_append_right _ (List.mem_singleton.2 rfl))⟩
      · rintro ⟨q1, q2⟩
        exact forall_take h q1 q2
    refine Ok.pos (by omega) (Ok.ck (by omega) (Ok.ld (hgl.ldI (i := i) (j := 0) h rfl) (Ok.ld (hgl.ldI (i := i) (j := 1) h rfl) (Ok.ld (hgl.ldI (i := i) (j := 2) h rfl) (Ok.ld hE ?_)))))
    by_cases c : onP (l.take i) s g
    · rw [decide_eq_true c]
      refine Ok.pos rfl (Ok.ld (ldI_get hE' rfl) (Ok.ld (ldI_get hsE rfl) (Ok.ld (ldI_get hE' rfl) (Ok.ld (ldI_get hsE rfl) ?_))))
      unfold sideP at hss hx
      have b1 := mul_bd (A := 4) (B := 4) (x := l[i].2.1) (y := s.1) (by omega) (by omega) (by omega) (by omega)
      have b2 := mul_bd (A := 4) (B := 4) (x := l[i].1) (y := s.2.1) (by omega) (by omega) (by omega) (by omega)
      rw [w64_id (n := l[i].2.1 * s.1) (by omega) (by omega), w64_id (n := l[i].1 * s.2.1) (by omega) (by omega), w64_id (n := l[i].2.1 * s.1 - l[i].1 * s.2.1) (by omega) (by omega), w64_id (n := g * (l[i].2.1 * s.1 - l[i].1 * s.2.1)) (by rcases hg with rfl | rfl <;> omega) (by rcases hg with rfl | rfl <;> omega), w64_succ (by omega)]
      exact ih (m - 1) (_, _) E (by omega) ⟨i + 1, rfl, by omega, gB, decide_eq_decide.2 (by rw [ek]; exact ⟨fun q => ⟨c, q⟩, fun q => q.2⟩)⟩
    · rw [decide_eq_false c]
      refine Ok.neg (by simp) ?_
      rw [w64_succ (by omega)]
      exact ih (m - 1) (_, _) E (by omega) ⟨i + 1, rfl, by omega, gB, (decide_eq_false (fun q => c (ek.1 q).1)).symm⟩
  · rw [List.take_of_length_le (by omega)]
    refine Ok.neg (by omega) ?_
    by_cases c : onP l s g
    · rw [decide_eq_true c]; exact Ok.pos rfl (Ok.ret (kf H1 g1 c))
    · rw [decide_eq_false c]; exact Ok.neg (by simp) (k H1 g1 c)
end
/-- the directions -/
theorem r19_l3_ok {H0' H : Hp} {v : Sl} {l : List Sd} (hv : SL H v l) (hb : l.length ≤ 6) (hs : ∀ s ∈ l, sideP s) (g : Gr H0' H) : Ok (r19_l3 FUEL v v l.length 0 H) fun r H' => Gr H0' H' ∧ r = decide (∀ s ∈ l, dirP l (-s.2.1, s.1) ∧ dirP l (s.2.1, -s.1)) := by
  have hlen := hv.len
  refine Ok.loop (L := fun K (s : Int) H2 => r19_l3 K v v l.length s H2) (fun m s H' => Gr H H' ∧ ∃ i : Nat, s = i ∧ i + m = l.length ∧ ∀ s ∈ l.take i, dirP l (-s.2.1, s.1) ∧ dirP l (s.2.1, -s.1)) ?_ FUEL l.length 0 H (by unfold FUEL; omega) ⟨.refl _, 0, rfl, by omega, by simp⟩
  rintro K m s H1 ⟨g1, i, rfl, hm, ht⟩ ih
  try dsimp only at *
  rw [r19_l3]
  by_cases h : i < l.length
  · have hg := hv.gr g1
    have hmem : l[i] ∈ l := List.getElem_mem h
    have hsd := hs _ hmem
    obtain ⟨E, hE, hE', gE, nE⟩ := sts3 H1 (.int .i64 l[i].1) (.int .i64 l[i].2.1) (.int .i64 l[i].2.2) (.int .i64 0) (.int .i64 0) (.int .i64 0)
    refine Ok.pos (by omega) (Ok.ck (by omega) (Ok.ld (hg.ldI (i := i) (j := 0) h rfl) (Ok.ld (hg.ldI (i := i) (j := 1) h rfl) (Ok.ld (hg.ldI (i := i) (j := 2) h rfl) (Ok.ld hE ?_)))))
    have gB := g1.trans gE
    have bad : ∀ H', Gr E H' → ¬ (dirP l (-l[i].2.1, l[i].1) ∧ dirP l (l[i].2.1, -l[i].1)) → Gr H0' H' ∧ false = decide (∀ s ∈ l, dirP l (-s.2.1, s.1) ∧ dirP l (s.2.1, -s.1)) := fun H' gH hno => ⟨g.trans (gB.trans gH), by rw [decide_eq_false (fun q => hno (q _ hmem))]⟩
    rw [show FUEL = 18446744073709551613 + 1 + 1 + 1 from rfl, r19_l4]
    refine Ok.pos (by decide) ?_
    rw [hlen]
    refine r19_l5_ok (hv.gr gB) hb hs hsd (.inr rfl) hE' (fun H' gH hon => bad H' gH fun q => (onP_neg.2 q.2) hon) fun H2 g2 hn1 => ?_
    rw [show w64 (-1 + 2) = 1 by decide +kernel, r19_l4]
    refine Ok.pos (by decide) ?_
    rw [hlen]
    refine r19_l5_ok (hv.gr (gB.trans g2)) hb hs hsd (.inl rfl) (by rw [g2.2 _ (Hp.get_lt hE')]; exact hE') (fun H' gH hon => bad H' (g2.trans gH) fun q => (onP_one.2 q.1) hon) fun H3 g3 hn2 => ?_
    rw [show w64 (1 + 2) = 3 by decide +kernel, r19_l4]
    refine Ok.neg (by decide) ?_
    rw [w64_succ (by omega)]
    exact ih (m - 1) _ H3 (by omega) ⟨gB.trans (g2.trans g3), i + 1, rfl, by omega, forall_take h ht ⟨onP_one.1 hn2, onP_neg.1 hn1⟩⟩
  · rw [List.take_of_length_le (by omega)] at ht
    exact Ok.neg (by omega) (Ok.ret ⟨g.trans g1, by rw [decide_eq_true ht]⟩)
/-- Plate of the reference -/
theorem r19_ok {H : Hp} {v : Sl} {l : List Sd} (hv : SL H v l) : Ok (r19 v H) fun r H' => Gr H H' ∧ r = decide (plateP l) := by
  unfold r19
  have hlen := hv.len
  by_cases h3 : l.length < 3
  · refine Ok.pos (by omega) ?_
    unfold r19_j0
    exact Ok.pos rfl (Ok.ret ⟨.refl _, by rw [decide_eq_false (fun h => by have := h.1.1; omega)]⟩)
  · refine Ok.neg (by omega) ?_
    unfold r19_j0
    by_cases h6 : 6 < l.length
    · exact Ok.pos (by rw [decide_eq_true_iff]; omega) (Ok.ret ⟨.refl _, by rw [decide_eq_false (fun h => by have := h.1.2; omega)]⟩)
    · refine Ok.neg (by rw [decide_eq_true_iff]; omega) ?_
      rw [hlen]
      refine Ok.loop (L := fun K (s : Int) H2 => r19_l1 K v v l.length s H2) (fun m s H' => Gr H H' ∧ ∃ i : Nat, s = i ∧ i + m = l.length ∧ ∀ s ∈ l.take i, sideP s) ?_ FUEL l.length 0 H (by unfold FUEL; omega) ⟨.refl _, 0, rfl, by omega, by simp⟩
      rintro K m s H1 ⟨g1, i, rfl, hm, ht⟩ ih
      try dsimp only at *
      rw [r19_l1]
      by_cases h : i < l.length
      · have hg := hv.gr g1
        have hmem : l[i] ∈ l := List.getElem_mem h
        obtain ⟨E, hE, hE', gE, nE⟩ := sts3 H1 (.int .i64 l[i].1) (.int .i64 l[i].2.1) (.int .i64 l[i].2.2) (.int .i64 0) (.int .i64 0) (.int .i64 0)
        have gB := g1.trans gE
        have j2 : ∀ b, b = !decide (sideP l[i]) → Ok (r19_j2 (fun v1_ v2_ v3_ v4_ H_ => r19_l1 K v1_ v2_ v3_ v4_ H_) v v l.length i b E) fun r H' => Gr H H' ∧ r = decide (plateP l) := fun b hbb => by
          subst hbb
          unfold r19_j2
          by_cases c : sideP l[i]
          · rw [decide_eq_true c]
            refine Ok.neg (by simp) ?_
            rw [w64_succ (by omega)]
            exact ih (m - 1) _ E (by omega) ⟨gB, i + 1, rfl, by omega, forall_take h ht c⟩
          · rw [decide_eq_false c]
            exact Ok.pos rfl (Ok.ret ⟨gB, by rw [decide_eq_false (fun q => c (q.2.1 _ hmem))]⟩)
        have no : ¬ sideP l[i] → true = !decide (sideP l[i]) := fun q => by rw [decide_eq_false q]; rfl
        refine Ok.pos (by omega) (Ok.ck (by omega) (Ok.ld (hg.ldI (i := i) (j := 0) h rfl) (Ok.ld (hg.ldI (i := i) (j := 1) h rfl) (Ok.ld (hg.ldI (i := i) (j := 2) h rfl) (Ok.ld hE (Ok.ld (ldI_get hE' rfl) ?_))))))
        refine Ok.ite (fun c => j2 _ (no fun q => by unfold sideP at q; omega)) fun c1 => Ok.ld (ldI_get hE' rfl) ?_
        refine Ok.ite (fun c => j2 _ (no fun q => by unfold sideP at q; omega)) fun c2 => Ok.ld (ldI_get hE' rfl) ?_
        refine Ok.ite (fun c => j2 _ (no fun q => by unfold sideP at q; omega)) fun c3 => Ok.ld (ldI_get hE' rfl) ?_
        refine Ok.ite (fun c => j2 _ (no fun q => by unfold sideP at q; omega)) fun c4 => Ok.ld (ldI_get hE' rfl) ?_
        have last : ¬ (l[i].1 = 0 ∧ l[i].2.1 = 0) → Ok (if l[i].2.2 < -40 then r19_j2 (fun v1_ v2_ v3_ v4_ H_ => r19_l1 K v1_ v2_ v3_ v4_ H_) v v l.length i true E else (E.ldI .i64 H1.n (0 + 2)).bind fun x => r19_j2 (fun v1_ v2_ v3_ v4_ H_ => r19_l1 K v1_ v2_ v3_ v4_ H_) v v l.length i (decide (40 < x)) E) fun r H' => Gr H H' ∧ r = decide (plateP l) := fun hne => by
          refine Ok.ite (fun c => j2 _ (no fun q => by unfold sideP at q; omega)) fun c5 => Ok.ld (ldI_get hE' rfl) (j2 _ ?_)
          refine Bool.eq_iff_iff.2 ?_
          rw [Bool.not_eq_true', decide_eq_false_iff_not, decide_eq_true_iff]
          unfold sideP
          constructor
          · intro q w; omega
          · intro q
            by_cases w : 40 < l[i].2.2
            · exact w
            · exact absurd ⟨⟨by omega, by omega⟩, ⟨by omega, by omega⟩, hne, by omega, by omega⟩ q
        refine Ok.ite (fun c0 => Ok.ld (ldI_get hE' rfl) (Ok.ite (fun c5 => j2 _ (no fun q => q.2.2.1 ⟨c0, c5⟩)) fun c5 => Ok.ld (ldI_get hE' rfl) (last fun q => c5 q.2))) fun c0 => Ok.ld (ldI_get hE' rfl) (last fun q => c0 q.1)
      · rw [List.take_of_length_le (by omega)] at ht
        refine Ok.neg (by omega) ?_
        rw [hlen]
        refine (r19_l3_ok (hv.gr g1) (by omega) ht g1).mono fun r H' hh => ⟨hh.1, ?_⟩
        rw [hh.2]
        exact decide_eq_decide.2 ⟨fun q => ⟨⟨by omega, by omega⟩, ht, q⟩, fun q => q.2.2⟩
end Go.Lt.P2

namespace Go.Lt.P2
open Go Go.Lt Go.Proofs
theorem plate_take {p : List Sd} : plateP (p.take 9) ↔ plateP p := by
  by_cases h : p.length ≤ 9
  · rw [List.take_of_length_le h]
  · constructor
    · intro c; have b := c.1.2; rw [List.length_take] at b; omega
    · intro c; have b := c.1.2; omega
theorem plate_eq {p : List Sd} (h : plateP p) : p.take 9 = p := List.take_of_length_le (by have := h.1.2; omega)
theorem awk (k : Nat) (H : Hp) : appA k 21 [] H = some (.bool true, H) := rfl
end Go.Lt.P2
