/- PLAIN LAWS OF WHAT IS COMPUTED, for the statement 'CutsMoved'. Nothing is asked of the input. -/
import Derived.Test.YteefkljbmjjncaaU16XBy
import Derived.Test.YteefkljbmjjncaaLB
set_option linter.unusedVariables false
set_option linter.unusedSimpArgs false
namespace Go.Lt.P2
open Go Go.Lt Go.Proofs
theorem AccL.lo {T : Type} [El T] {n0 n1 : Nat} {H : Hp} {v : Sl} {l : List T} (h : AccL n0 H v l) (hn : n1 ≤ n0) : AccL n1 H v l := by
  rcases h with h | ⟨a, b, c, d, e, f⟩
  · exact .inl h
  · exact .inr ⟨a, b, c, d, Nat.le_trans hn e, f⟩
/-- all floors of corners are near -/
theorem floor_bd {q : Rat} {N D : Int} (h : qb N D q) (hN : 0 ≤ N) : -N - 1 ≤ q.floor ∧ q.floor ≤ N := by
  obtain ⟨h1, h2, h3⟩ := h
  have hp := fq_pos q
  have := (floor_iff (f := q.floor) (n := (fq q).1) hp).1 (by rw [dv_fq])
  generalize q.floor = f at *
  generalize (fq q).1 = n at *
  generalize (fq q).2 = d at *
  constructor
  · refine Classical.byContradiction fun hc => ?_
    have : (f + 1) * d ≤ (-N - 1) * 1 := by
      have h4 : 0 ≤ (-N - 1 - (f + 1)) * d := Int.mul_nonneg (by omega) (by omega)
      have h5 : 0 ≤ (N + 1) * (d - 1) := Int.mul_nonneg (by omega) (by omega)
      grind
    omega
  · refine Classical.byContradiction fun hc => ?_
    have : (N + 1) * 1 ≤ f * d := by
      have h4 : 0 ≤ (f - (N + 1)) * d := Int.mul_nonneg (by omega) (by omega)
      have h5 : 0 ≤ (N + 1) * (d - 1) := Int.mul_nonneg (by omega) (by omega)
      grind
    omega
def bbd (st : Bst) : Prop := ((-1000 ≤ st.1.1 ∧ st.1.1 ≤ 1000) ∧ -1000 ≤ st.1.2 ∧ st.1.2 ≤ 1000) ∧ (-1000 ≤ st.2.1.1 ∧ st.2.1.1 ≤ 1000) ∧ -1000 ≤ st.2.1.2 ∧ st.2.1.2 ≤ 1000
theorem bup_bd {st : Bst} {c : Cn} (h : bbd st) (hc : qb 320 32 c.1.1 ∧ qb 320 32 c.1.2) : bbd (bup st c) := by
  have h1 := floor_bd hc.1 (by decide)
  have h2 := floor_bd hc.2 (by decide)
  unfold bbd bup up1 up0 nlo nhi flp at *
  dsimp only
  refine ⟨⟨?_, ?_⟩, ?_, ?_⟩ <;> split <;> omega
theorem bxs_bd {l : List Sd} (hs : ∀ s ∈ l, sideP s) : bbd (bxs (cs l)) := by
  have key : ∀ (q : List Cn) (st : Bst), bbd st → (∀ c ∈ q, c ∈ cs l) → bbd (q.foldl bup st) := by
    intro q
    induction q with
    | nil => intro st h _; exact h
    | cons c q ih =>
      intro st h hm
      have hc := cs_mem (hm c (.head _))
      exact ih _ (bup_bd h (by rw [hc.2.2.2.1]; exact meet_qb (hs _ hc.1) (hs _ hc.2.1) hc.2.2.1)) fun x hx => hm x (.tail _ hx)
  exact key (cs l) _ (by unfold bbd; dsimp only; omega) fun _ h => h
def pts (l : List Sd) : List Pr := if (bxs (cs l)).2.2 = true then grid l (bxs (cs l)).1 (bxs (cs l)).2.1 else []
theorem pts_len {l : List Sd} (hs : ∀ s ∈ l, sideP s) : (pts l).length ≤ 4100000 := by
  unfold pts
  split
  · have h := grid_len l (bxs (cs l)).1 (bxs (cs l)).2.1
    have b := bxs_bd hs
    unfold bbd at b
    have : ((bxs (cs l)).2.1.1 + 1 - (bxs (cs l)).1.1).toNat * ((bxs (cs l)).2.1.2 + 1 - (bxs (cs l)).1.2).toNat ≤ 2001 * 2001 := Nat.mul_le_mul (by omega) (by omega)
    omega
  · simp
theorem row_bd {l : List Sd} {lo hi x : Int} (h : -1000 ≤ lo) (h2 : hi ≤ 1000) : (row l lo hi x).length ≤ 2001 := by
  have := row_len l lo hi x
  omega
theorem keep_in {l : List Sd} {x y : Int} : inP l ((x : Rat), (y : Rat)) ↔ ∀ s ∈ l, kp (x, y) s := by
  unfold inP kp
  constructor <;> intro h s hs
  · exact lqs_int.1 (h s hs)
  · exact lqs_int.2 (h s hs)
section
variable {a : App}
theorem r71_l1_ok (ha : A95 a) {A H : Hp} {v w : Sl} {l : List Sd} (hv : SL A v l) (hb : l.length ≤ 1000) (hs : ∀ s ∈ l, sideP s) {n1 n2 : Nat} {hi : Pr} {lo2 x : Int} (h2 : A.get n2 = some (.cells [.int .i64 hi.1, .int .i64 hi.2] false)) (g : Gr A H) {q : List Pr} (hacc : AccL A.n H w q) (hq : q.length ≤ 4100000)
    (hx : -1000 ≤ x ∧ x ≤ 1000) (hlo : -1000 ≤ lo2 ∧ lo2 ≤ 1000) (hhi : -1000 ≤ hi.2 ∧ hi.2 ≤ 1000) {kt : Sl → Nat → Nat → Sl → Int → Hp → Option (Sl × Hp)} {Q : Sl → Hp → Prop} (kN : ∀ w' H', Gr A H' → AccL A.n H' w' (q ++ row l lo2 hi.2 x) → Ok (kt v n1 n2 w' (x + 1) H') Q) :
    Ok (r71_l1 a kt FUEL v n1 n2 w x lo2 H) Q := by
  refine Ok.loop (L := fun K (s : Sl × Int) H2 => r71_l1 a kt K v n1 n2 s.1 x s.2 H2) (fun m s H' => Gr A H' ∧ (lo2 ≤ s.2 ∧ (s.2 ≤ hi.2 + 1 ∨ s.2 = lo2)) ∧ m = (hi.2 + 1 - s.2).toNat ∧ AccL A.n H' s.1 (q ++ row l lo2 (s.2 - 1) x)) ?_ FUEL (hi.2 + 1 - lo2).toNat (w, lo2) H (by unfold FUEL; omega) ⟨g, ⟨by simp, .inr rfl⟩, rfl, by
    have : row l lo2 (lo2 - 1) x = [] := by unfold row; rw [ints_nil (by omega)]; rfl
    rw [this, List.append_nil]; exact hacc⟩
  rintro K m ⟨w, y⟩ H1 ⟨g1, hy, hm, hacc⟩ ih
  try dsimp only at *
  rw [r71_l1]
  have h2' : H1.get n2 = some (.cells [.int .i64 hi.1, .int .i64 hi.2] false) := by rw [g1.2 _ (Hp.get_lt h2)]; exact h2
  refine Ok.ld (ldI_get h2' rfl) ?_
  by_cases h : y ≤ hi.2
  · refine Ok.pos h (Ok.own (r80_q (by omega) (by omega)) fun X => Ok.bind (r65_ok ha (p := ((x : Rat), (y : Rat))) (hv.gr g1) hb hs (qp_int (by omega) (by omega))) fun r D ⟨gD, hr⟩ => ?_)
    subst hr
    rw [w64_id (n := y + 1) (by omega) (by omega)]
    have er := row_snoc (l := l) (x := x) (show lo2 ≤ y by omega)
    have hlen := row_bd (l := l) (x := x) (lo := lo2) (hi := y - 1) (by omega) (by omega)
    by_cases hk : ∀ s ∈ l, kp (x, y) s
    · rw [decide_eq_true (keep_in.2 hk)]
      rw [if_pos hk] at er
      refine Ok.pos rfl (Ok.bind ((hacc.gr gD).push (g1.trans gD) (x, y) rfl rfl (by rw [List.length_append]; omega)) fun w' E ⟨ha', gE, _⟩ => ?_)
      refine ih (m - 1) (w', y + 1) E (by omega) ⟨gE, by omega, by omega, ?_⟩
      dsimp only
      rw [show y + 1 - 1 = y by omega, er, ← List.append_assoc]
      exact ha'
    · rw [decide_eq_false (fun q => hk (keep_in.1 q))]
      rw [if_neg hk, List.append_nil] at er
      refine Ok.neg (by simp) (ih (m - 1) (w, y + 1) D (by omega) ⟨g1.trans gD, by omega, by omega, ?_⟩)
      dsimp only
      rw [show y + 1 - 1 = y by omega, er]
      exact hacc.gr gD
  · refine Ok.neg h ?_
    rw [w64_id (n := x + 1) (by omega) (by omega)]
    refine kN w H1 g1 ?_
    have : row l lo2 (y - 1) x = row l lo2 hi.2 x := by
      by_cases h3 : y ≤ hi.2 + 1
      · rw [show y - 1 = hi.2 by omega]
      · unfold row; rw [ints_nil (by omega), ints_nil (by omega)]
    rw [← this]; exact hacc
/-- points -/
theorem r71_ok {k : Nat} {H : Hp} {v : Sl} {l : List Sd} (hv : SL H v l) (hb : l.length ≤ 1000) (hs : ∀ s ∈ l, sideP s) : Ok (r71 (appA (k + 2)) v H) fun w H' => Gr H H' ∧ AccL H.n H' w (pts l) := by
  unfold r71
  refine Ok.bind (r101_ok hv hb hs) fun r A ⟨gA, hr⟩ => ?_
  subst hr
  have bd := bxs_bd hs
  unfold pts
  generalize bxs (cs l) = st at *
  obtain ⟨lo, hi, ok⟩ := st
  unfold bbd at bd
  dsimp only at bd ⊢
  have c0 : Cx A A [] := .nil A
  have c := (c0.push [.int .i64 0, .int .i64 0]).push [.int .i64 0, .int .i64 0]
  refine Ok.cst c 1 rfl rfl fun B _ _ c => Ok.cst c 0 rfl rfl fun C _ _ c => ?_
  have gC := gA.trans c.g
  by_cases hok : ok = true
  · simp only [if_pos hok]
    refine Ok.cld c (.tail _ (.head _)) rfl ?_
    have h1 := c.e _ (.tail _ (.head _))
    have h2 := c.e _ (.head _)
    have hvC := hv.gr gC
    refine Ok.mono (P := fun w H' => Gr C H' ∧ AccL C.n H' w (grid l lo hi)) ?_ fun w H' h => ⟨gC.trans h.1, AccL.lo h.2 gC.1⟩
    refine Ok.loop (L := fun K (s : Sl × Int) H2 => r71_l0 (appA (k + 2)) K v A.n _ s.1 s.2 H2) (fun m s H' => Gr C H' ∧ (lo.1 ≤ s.2 ∧ (s.2 ≤ hi.1 + 1 ∨ s.2 = lo.1)) ∧ m = (hi.1 + 1 - s.2).toNat ∧ AccL C.n H' s.1 ((ints lo.1 (s.2 - 1)).flatMap (row l lo.2 hi.2))) ?_ FUEL (hi.1 + 1 - lo.1).toNat (⟨true, 0, 0, 0, 0, 0⟩, lo.1) C (by unfold FUEL; omega) ⟨.refl _, ⟨by simp, .inr rfl⟩, rfl, by dsimp only; rw [ints_nil (by omega)]; exact AccL.nilS⟩
    rintro K m ⟨w, x⟩ H1 ⟨g1, hx, hm, hacc⟩ ih
    try dsimp only at *
    rw [r71_l0]
    have h1' := h1
    have h2' := h2
    rw [← g1.2 _ (Hp.get_lt h1)] at h1'
    rw [← g1.2 _ (Hp.get_lt h2)] at h2'
    refine Ok.ld (ldI_get h2' rfl) ?_
    by_cases h : x ≤ hi.1
    · refine Ok.pos h (Ok.ld (ldI_get h1' rfl) ?_)
      have hlen : ((ints lo.1 (x - 1)).flatMap (row l lo.2 hi.2)).length ≤ 4100000 := by
        have := grid_len l lo (x - 1, hi.2)
        have h3 : ((x - 1 : Int) + 1 - lo.1).toNat * (hi.2 + 1 - lo.2).toNat ≤ 2001 * 2001 := Nat.mul_le_mul (by omega) (by omega)
        unfold grid at this
        dsimp only at this
        omega
      refine r71_l1_ok (a95A _) hvC hb hs h2 g1 hacc hlen (by omega) bd.1.2 bd.2.2 fun w' H' g' hacc' => ?_
      refine ih (m - 1) (w', x + 1) H' (by omega) ⟨g', by omega, by omega, ?_⟩
      dsimp only
      rw [show x + 1 - 1 = x by omega, ints_snoc (show lo.1 ≤ x by omega), List.flatMap_append, List.flatMap_singleton]
      exact hacc'
    · refine Ok.neg h (Ok.ret ⟨g1, ?_⟩)
      unfold grid
      by_cases h3 : x ≤ hi.1 + 1
      · rw [show hi.1 = x - 1 by omega]; exact hacc
      · rw [ints_nil (by omega)] at hacc ⊢; exact hacc
  · simp only [if_neg hok]
    exact Ok.ret ⟨gC, AccL.nilS⟩
/-- Points -/
theorem r40_ok {k : Nat} {H : Hp} {v : Sl} {l : List Sd} (hv : SL H v l) (hb : l.length ≤ 1000) : Ok (r40 (appA (k + 2)) v H) fun r H' => Gr H H' ∧ if plateP l then AccL H.n H' r.1 (pts l) ∧ r.2 = 0 else r = (⟨true, 0, 0, 0, 0, 0⟩, 2) := by
  unfold r40
  refine Ok.bind (r63_ok (k := k + 1) hv hb) fun b A ⟨gA, hbb⟩ => ?_
  subst hbb
  by_cases hp : plateP l
  · rw [decide_eq_true hp]
    simp only [if_pos hp]
    exact Ok.pos (by simp) (Ok.bind (r71_ok (hv.gr gA) hb hp.2.1) fun w B ⟨gB, hw⟩ => Ok.ret ⟨gA.trans gB, AccL.lo hw gA.1, rfl⟩)
  · rw [decide_eq_false hp]
    simp only [if_neg hp]
    exact Ok.neg (by simp) (Ok.ret ⟨gA, rfl⟩)
end
end Go.Lt.P2

namespace Go.Lt.P2
open Go Go.Lt Go.Proofs
/-! ### points in order -/
instance elPq : El Pq := ⟨4, pc4, fun _ => rfl, fun _ => rfl, by decide⟩
def ptlt (p q : Pq) : Prop := p.1 < q.1 ∨ (p.1 = q.1 ∧ p.2 < q.2)
instance (p q : Pq) : Decidable (ptlt p q) := by unfold ptlt; infer_instance
theorem ptlt_irr (p : Pq) : ¬ ptlt p p := by unfold ptlt; grind
theorem ptlt_trans {p q r : Pq} (h : ptlt p q) (k : ptlt q r) : ptlt p r := by unfold ptlt at *; grind
theorem ptlt_tri {p q : Pq} (h : ¬ ptlt p q) (k : p ≠ q) : ptlt q p := by
  unfold ptlt at *
  have : ¬ (p.1 = q.1 ∧ p.2 = q.2) := fun h => k (Prod.ext h.1 h.2)
  grind
def wth (p : Pq) : List Pq → List Pq
  | [] => [p]
  | q :: l => if ptlt q p then q :: wth p l else if q = p then q :: l else p :: q :: l
theorem mem_wth {p x : Pq} : ∀ {l : List Pq}, x ∈ wth p l ↔ x = p ∨ x ∈ l
  | [] => by simp [wth]
  | q :: l => by
    rw [wth]
    split
    · rw [List.mem_cons, mem_wth, List.mem_cons]; grind
    · split
      · rename_i h; subst h; simp only [List.mem_cons]; grind
      · simp only [List.mem_cons]
theorem wth_srt {p : Pq} : ∀ {l : List Pq}, l.Pairwise ptlt → (wth p l).Pairwise ptlt
  | [], _ => List.pairwise_singleton _ _
  | q :: l, h => by
    have h0 := h
    rw [List.pairwise_cons] at h
    rw [wth]
    split
    · rename_i h1
      refine List.pairwise_cons.2 ⟨fun x hx => ?_, wth_srt h.2⟩
      rcases mem_wth.1 hx with rfl | hx
      · exact h1
      · exact h.1 x hx
    · rename_i h1
      split
      · exact h0
      · rename_i h2
        have h3 := ptlt_tri h1 h2
        refine List.pairwise_cons.2 ⟨fun x hx => ?_, h0⟩
        rcases List.mem_cons.1 hx with rfl | hx
        · exact h3
        · exact ptlt_trans h3 (h.1 x hx)
theorem srt_uniq : ∀ {l l' : List Pq}, l.Pairwise ptlt → l'.Pairwise ptlt → (∀ x, x ∈ l ↔ x ∈ l') → l = l'
  | [], [], _, _, _ => rfl
  | [], y :: l', _, _, h => absurd ((h y).2 (.head _)) (by simp)
  | x :: l, [], _, _, h => absurd ((h x).1 (.head _)) (by simp)
  | x :: l, y :: l', h1, h2, h => by
    rw [List.pairwise_cons] at h1 h2
    have e : x = y := by
      rcases List.mem_cons.1 ((h x).1 (.head _)) with e | hx
      · exact e
      · rcases List.mem_cons.1 ((h y).2 (.head _)) with e | hy
        · exact e.symm
        · exact absurd (ptlt_trans (h1.1 y hy) (h2.1 x hx)) (ptlt_irr x)
    subst e
    congr 1
    refine srt_uniq h1.2 h2.2 fun z => ?_
    constructor <;> intro hz
    · rcases List.mem_cons.1 ((h z).1 (.tail _ hz)) with rfl | k
      · exact absurd (h1.1 z hz) (ptlt_irr z)
      · exact k
    · rcases List.mem_cons.1 ((h z).2 (.tail _ hz)) with rfl | k
      · exact absurd (h2.1 z hz) (ptlt_irr z)
      · exact k
end Go.Lt.P2

namespace Go.Lt.P2
open Go Go.Lt Go.Proofs
/-- the corners as the reference makes them -/
def rcs (q : List Cn) : List Pq := q.foldl (fun acc c => wth c.1 acc) []
theorem rcs_srt (q : List Cn) : (rcs q).Pairwise ptlt := by
  unfold rcs
  have key : ∀ (q : List Cn) (acc : List Pq), acc.Pairwise ptlt → (q.foldl (fun acc c => wth c.1 acc) acc).Pairwise ptlt := by
    intro q
    induction q with
    | nil => intro acc h; exact h
    | cons c q ih => intro acc h; exact ih _ (wth_srt h)
  exact key q [] .nil
theorem mem_rcs {q : List Cn} {p : Pq} : p ∈ rcs q ↔ ∃ c ∈ q, c.1 = p := by
  unfold rcs
  have key : ∀ (q : List Cn) (acc : List Pq), p ∈ q.foldl (fun acc c => wth c.1 acc) acc ↔ p ∈ acc ∨ ∃ c ∈ q, c.1 = p := by
    intro q
    induction q with
    | nil => intro acc; simp
    | cons c q ih =>
      intro acc
      rw [List.foldl_cons, ih, mem_wth]
      constructor
      · rintro ((rfl | h) | ⟨d, hd, h⟩)
        · exact .inr ⟨c, .head _, rfl⟩
        · exact .inl h
        · exact .inr ⟨d, .tail _ hd, h⟩
      · rintro (h | ⟨d, hd, h⟩)
        · exact .inl (.inr h)
        · rcases List.mem_cons.1 hd with rfl | hd
          · exact .inl (.inl h.symm)
          · exact .inr ⟨d, hd, h⟩
  rw [key]
  simp
theorem wth_len {p : Pq} : ∀ {l : List Pq}, (wth p l).length ≤ l.length + 1
  | [] => by simp [wth]
  | q :: l => by
    rw [wth]
    have := wth_len (p := p) (l := l)
    split
    · simp only [List.length_cons]; omega
    · split
      · simp
      · simp
theorem rcs_len (q : List Cn) : (rcs q).length ≤ q.length := by
  unfold rcs
  have key : ∀ (q : List Cn) (acc : List Pq), (q.foldl (fun acc c => wth c.1 acc) acc).length ≤ acc.length + q.length := by
    intro q
    induction q with
    | nil => intro acc; simp
    | cons c q ih =>
      intro acc
      rw [List.foldl_cons, List.length_cons]
      have := ih (wth c.1 acc)
      have := wth_len (p := c.1) (l := acc)
      omega
  have := key q []
  simpa using this
theorem rcs_snoc (q : List Cn) (c : Cn) : rcs (q ++ [c]) = wth c.1 (rcs q) := by unfold rcs; rw [List.foldl_append]; rfl
theorem cno_len (l : List Sd) (i : Nat) : (cno l i).length ≤ i := by
  unfold cno
  exact Nat.le_trans (List.length_filterMap_le _ _) (by rw [List.length_take]; omega)
theorem flatm_len {β : Type} {f : Nat → List β} {k : Nat} : ∀ {l : List Nat}, (∀ x ∈ l, (f x).length ≤ k) → (l.flatMap f).length ≤ l.length * k
  | [], _ => by simp
  | x :: l, h => by
    rw [List.flatMap_cons, List.length_append, List.length_cons, Nat.add_mul, Nat.one_mul]
    have a := h x (.head _)
    have b := flatm_len (l := l) fun y hy => h y (.tail _ hy)
    omega
theorem lqs_dv {u : Sd} {x y d : Int} (hd : 0 < d) : lqs u (dv x d, dv y d) ↔ u.1 * x + u.2.1 * y ≤ u.2.2 * d := by
  have h0 := cast_pos hd
  have e : atq u.1 u.2.1 (dv x d, dv y d) = dv (u.1 * x + u.2.1 * y) d := by
    unfold atq dv
    push_cast
    grind
  unfold lqs
  rw [e, ← dv_int, dv_le_iff hd (by decide), Int.mul_one]
theorem rcs_qp {l : List Sd} {q : List Cn} (hs : ∀ s ∈ l, sideP s) (h : ∀ c ∈ q, c ∈ cs l) : ∀ p ∈ rcs q, qp p := fun p hp => by
  obtain ⟨c, hc, rfl⟩ := mem_rcs.1 hp
  have k := cs_mem (h c hc)
  rw [k.2.2.2.1]
  exact meet_qp (hs _ k.1) (hs _ k.2.1) k.2.2.1
theorem cs_len {l : List Sd} (hb : l.length ≤ 1000) : (cs l).length ≤ 1000000 := by
  unfold cs
  have := flatm_len (f := cno l) (l := List.range l.length) (k := l.length) fun i hi => Nat.le_trans (cno_len l i) (by rw [List.mem_range] at hi; omega)
  rw [List.length_range] at this
  have h2 := Nat.mul_le_mul hb hb
  omega
theorem pre_cs {l : List Sd} {i : Nat} (h : i < l.length) : (List.range i).flatMap (cno l) ++ cno l i <+: cs l := by
  rw [← range_succ_flatMap]
  unfold cs
  have : l.length = (i + 1) + (l.length - (i + 1)) := by omega
  rw [this, List.range_add (n := i + 1), List.flatMap_append]
  exact List.prefix_append _ _
end Go.Lt.P2

namespace Go.Lt.P2
open Go Go.Lt Go.Proofs
/-! ### the box of some points -/
def isMin (f : Pq → Int) (S : Pq → Prop) (a : Int) : Prop := (∃ p, S p ∧ f p = a) ∧ ∀ p, S p → a ≤ f p
def isMax (f : Pq → Int) (S : Pq → Prop) (a : Int) : Prop := (∃ p, S p ∧ f p = a) ∧ ∀ p, S p → f p ≤ a
def fx (p : Pq) : Int := p.1.floor
def fy (p : Pq) : Int := p.2.floor
theorem isMin.uniq {f : Pq → Int} {S : Pq → Prop} {a b : Int} (h : isMin f S a) (k : isMin f S b) : a = b := by
  obtain ⟨⟨p, hp, e⟩, h2⟩ := h
  obtain ⟨⟨q, hq, e'⟩, k2⟩ := k
  have := h2 q hq; have := k2 p hp; omega
theorem isMax.uniq {f : Pq → Int} {S : Pq → Prop} {a b : Int} (h : isMax f S a) (k : isMax f S b) : a = b := by
  obtain ⟨⟨p, hp, e⟩, h2⟩ := h
  obtain ⟨⟨q, hq, e'⟩, k2⟩ := k
  have := h2 q hq; have := k2 p hp; omega
def IsBx (S : Pq → Prop) (lo hi : Pr) : Prop := (isMin fx S lo.1 ∧ isMin fy S lo.2) ∧ isMax fx S hi.1 ∧ isMax fy S hi.2
theorem IsBx.uniq {S : Pq → Prop} {lo hi lo' hi' : Pr} (h : IsBx S lo hi) (k : IsBx S lo' hi') : lo = lo' ∧ hi = hi' :=
  ⟨Prod.ext (h.1.1.uniq k.1.1) (h.1.2.uniq k.1.2), Prod.ext (h.2.1.uniq k.2.1) (h.2.2.uniq k.2.2)⟩
def isC (q : List Cn) (p : Pq) : Prop := ∃ c ∈ q, c.1 = p
theorem isC_snoc {q : List Cn} {c : Cn} {p : Pq} : isC (q ++ [c]) p ↔ isC q p ∨ c.1 = p := by
  unfold isC
  constructor
  · rintro ⟨d, hd, h⟩
    rcases List.mem_append.1 hd with hd | hd
    · exact .inl ⟨d, hd, h⟩
    · rw [List.mem_singleton] at hd; subst hd; exact .inr h
  · rintro (⟨d, hd, h⟩ | h)
    · exact ⟨d, List.mem_append_left _ hd, h⟩
    · exact ⟨c, by simp, h⟩
theorem isMin_up {f : Pq → Int} {q : List Cn} {c : Cn} {a : Int} (h : isMin f (isC q) a) : isMin f (isC (q ++ [c])) (nlo true (f c.1) a) := by
  obtain ⟨⟨p, hp, e⟩, h2⟩ := h
  unfold nlo
  split
  · rename_i hc
    refine ⟨⟨p, isC_snoc.2 (.inl hp), e⟩, fun r hr => ?_⟩
    rcases isC_snoc.1 hr with hr | rfl
    · exact h2 r hr
    · omega
  · rename_i hc
    have hc : f c.1 < a := Classical.byContradiction fun q => hc ⟨rfl, q⟩
    refine ⟨⟨c.1, isC_snoc.2 (.inr rfl), rfl⟩, fun r hr => ?_⟩
    rcases isC_snoc.1 hr with hr | rfl
    · have := h2 r hr; omega
    · omega
theorem isMax_up {f : Pq → Int} {q : List Cn} {c : Cn} {a : Int} (h : isMax f (isC q) a) : isMax f (isC (q ++ [c])) (nhi true (f c.1) a) := by
  obtain ⟨⟨p, hp, e⟩, h2⟩ := h
  unfold nhi
  split
  · rename_i hc
    refine ⟨⟨p, isC_snoc.2 (.inl hp), e⟩, fun r hr => ?_⟩
    rcases isC_snoc.1 hr with hr | rfl
    · exact h2 r hr
    · omega
  · rename_i hc
    have hc : a < f c.1 := Classical.byContradiction fun q => hc ⟨rfl, q⟩
    refine ⟨⟨c.1, isC_snoc.2 (.inr rfl), rfl⟩, fun r hr => ?_⟩
    rcases isC_snoc.1 hr with hr | rfl
    · have := h2 r hr; omega
    · omega
theorem bxs_is (q : List Cn) : (bxs q).2.2 = decide (q ≠ []) ∧ (q ≠ [] → IsBx (isC q) (bxs q).1 (bxs q).2.1) := by
  have step : ∀ (q : List Cn) (c : Cn), ((bxs q).2.2 = decide (q ≠ []) ∧ (q ≠ [] → IsBx (isC q) (bxs q).1 (bxs q).2.1)) → (bxs (q ++ [c])).2.2 = decide (q ++ [c] ≠ []) ∧ (q ++ [c] ≠ [] → IsBx (isC (q ++ [c])) (bxs (q ++ [c])).1 (bxs (q ++ [c])).2.1) := fun q c ⟨h1, h2⟩ => by
    have e : bxs (q ++ [c]) = bup (bxs q) c := by unfold bxs; rw [List.foldl_append]; rfl
    rw [e]
    refine ⟨by simp [bup], fun _ => ?_⟩
    by_cases hq : q = []
    · subst hq
      have one : ∀ p, isC ([] ++ [c]) p ↔ c.1 = p := fun p => by unfold isC; simp
      unfold IsBx isMin isMax bup up1 up0 nlo nhi bxs
      simp only [List.foldl_nil, Bool.false_eq_true, false_and, if_false]
      refine ⟨⟨⟨⟨c.1, (one _).2 rfl, rfl⟩, fun p hp => ?_⟩, ⟨c.1, (one _).2 rfl, rfl⟩, fun p hp => ?_⟩, ⟨⟨c.1, (one _).2 rfl, rfl⟩, fun p hp => ?_⟩, ⟨c.1, (one _).2 rfl, rfl⟩, fun p hp => ?_⟩ <;>
      · have := (one p).1 hp
        subst this
        exact Int.le_refl _
    · rw [decide_eq_true hq] at h1
      obtain ⟨⟨a1, a2⟩, a3, a4⟩ := h2 hq
      unfold bup up1 up0
      dsimp only
      rw [h1]
      exact ⟨⟨isMin_up (f := fx) a1, isMin_up (f := fy) a2⟩, isMax_up (f := fx) a3, isMax_up (f := fy) a4⟩
  have key : ∀ n (q : List Cn), q.length = n → ((bxs q).2.2 = decide (q ≠ []) ∧ (q ≠ [] → IsBx (isC q) (bxs q).1 (bxs q).2.1)) := by
    intro n
    induction n with
    | zero =>
      intro q hq
      have : q = [] := List.length_eq_zero_iff.1 hq
      subst this
      exact ⟨rfl, fun h => absurd rfl h⟩
    | succ n ih =>
      intro q hq
      have hne : q ≠ [] := by rintro rfl; simp at hq
      rw [← List.dropLast_concat_getLast hne]
      exact step _ _ (ih _ (by simp [hq]))
  exact key _ q rfl
theorem pts_is {l : List Sd} {lo hi : Pr} (h : IsBx (isC (cs l)) lo hi) : pts l = grid l lo hi := by
  have hne : cs l ≠ [] := by
    rintro hc
    obtain ⟨⟨p, ⟨c, hc', _⟩, _⟩, _⟩ := h.1.1
    rw [hc] at hc'
    cases hc'
  have b := bxs_is (cs l)
  obtain ⟨e1, e2⟩ := (b.2 hne).uniq h
  unfold pts
  rw [b.1, decide_eq_true hne, if_pos rfl, e1, e2]
theorem pts_nil {l : List Sd} (h : cs l = []) : pts l = [] := by
  have b := bxs_is (cs l)
  unfold pts
  rw [b.1, h]
  rfl
end Go.Lt.P2

namespace Go.Lt.P2
open Go Go.Lt Go.Proofs
/-- the whole points of a plate are all in the box -/
theorem mem_pts {l : List Sd} (hp : plateP l) {x : Pr} : x ∈ pts l ↔ ∀ s ∈ l, kp x s := by
  constructor
  · intro h
    unfold pts at h
    split at h
    · exact (mem_grid.1 h).2
    · cases h
  · intro h
    have hin : inP l ((x.1 : Rat), (x.2 : Rat)) := keep_in.2 h
    have hne : cs l ≠ [] := by
      obtain ⟨c, hc, _⟩ := lp hp hin 0 0
      exact List.ne_nil_of_mem hc
    have b := bxs_is (cs l)
    have bx := b.2 hne
    unfold pts
    rw [b.1, decide_eq_true hne, if_pos rfl]
    refine mem_grid.2 ⟨?_, h⟩
    generalize (bxs (cs l)).1 = lo at *
    generalize (bxs (cs l)).2.1 = hi at *
    have at10 : ∀ z : Pq, atq 1 0 z = z.1 := fun z => by unfold atq; grind
    have at01 : ∀ z : Pq, atq 0 1 z = z.2 := fun z => by unfold atq; grind
    have atm0 : ∀ z : Pq, atq (-1) 0 z = -z.1 := fun z => by unfold atq; grind
    have at0m : ∀ z : Pq, atq 0 (-1) z = -z.2 := fun z => by unfold atq; grind
    obtain ⟨c1, m1, k1⟩ := lp hp hin (-1) 0
    obtain ⟨c2, m2, k2⟩ := lp hp hin 1 0
    obtain ⟨c3, m3, k3⟩ := lp hp hin 0 (-1)
    obtain ⟨c4, m4, k4⟩ := lp hp hin 0 1
    rw [atm0, atm0] at k1
    rw [at10, at10] at k2
    rw [at0m, at0m] at k3
    rw [at01, at01] at k4
    have fl : ∀ {q : Rat} {n : Int}, q ≤ (n : Rat) → q.floor ≤ n := fun {q n} h => by
      have := Rat.floor_monotone h
      rwa [Rat.floor_intCast] at this
    have g1 := fl (show c1.1.1 ≤ ((x.1 : Int) : Rat) by dsimp only at k1; grind)
    have g2 := Rat.le_floor_iff.2 (show ((x.1 : Int) : Rat) ≤ c2.1.1 by exact k2)
    have g3 := fl (show c3.1.2 ≤ ((x.2 : Int) : Rat) by dsimp only at k3; grind)
    have g4 := Rat.le_floor_iff.2 (show ((x.2 : Int) : Rat) ≤ c4.1.2 by exact k4)
    have h1 := bx.1.1.2 c1.1 ⟨c1, m1, rfl⟩
    have h2 := bx.2.1.2 c2.1 ⟨c2, m2, rfl⟩
    have h3 := bx.1.2.2 c3.1 ⟨c3, m3, rfl⟩
    have h4 := bx.2.2.2 c4.1 ⟨c4, m4, rfl⟩
    unfold fx at h1 h2
    unfold fy at h3 h4
    omega
theorem pts_plt (l : List Sd) : (pts l).Pairwise plt := by
  unfold pts
  split
  · exact grid_plt _ _ _
  · exact .nil
theorem pts_nodup (l : List Sd) : (pts l).Nodup := (pts_plt l).imp fun {a b} h e => by
  subst e
  unfold plt at h
  omega
/-- two lists in order with the same points are one -/
theorem plt_uniq : ∀ {l l' : List Pr}, l.Pairwise plt → l'.Pairwise plt → (∀ x, x ∈ l ↔ x ∈ l') → l = l'
  | [], [], _, _, _ => rfl
  | [], y :: l', _, _, h => absurd ((h y).2 (.head _)) (by simp)
  | x :: l, [], _, _, h => absurd ((h x).1 (.head _)) (by simp)
  | x :: l, y :: l', h1, h2, h => by
    have irr : ∀ z : Pr, ¬ plt z z := fun z hz => by unfold plt at hz; omega
    have tr : ∀ {a b c : Pr}, plt a b → plt b c → plt a c := fun {a b c} p q => by unfold plt at *; omega
    rw [List.pairwise_cons] at h1 h2
    have e : x = y := by
      rcases List.mem_cons.1 ((h x).1 (.head _)) with e | hx
      · exact e
      · rcases List.mem_cons.1 ((h y).2 (.head _)) with e | hy
        · exact e.symm
        · exact absurd (tr (h1.1 y hy) (h2.1 x hx)) (irr x)
    subst e
    congr 1
    refine plt_uniq h1.2 h2.2 fun z => ?_
    constructor <;> intro hz
    · rcases List.mem_cons.1 ((h z).1 (.tail _ hz)) with rfl | k
      · exact absurd (h1.1 z hz) (irr z)
      · exact k
    · rcases List.mem_cons.1 ((h z).2 (.tail _ hz)) with rfl | k
      · exact absurd (h2.1 z hz) (irr z)
      · exact k
end Go.Lt.P2

namespace Go.Lt.P2
open Go Go.Lt Go.Proofs
def mv (u v : Int) (s : Sd) : Sd := (s.1, s.2.1, s.2.2 + (s.1 * u + s.2.1 * v))
def mvOk (u v : Int) (s : Sd) : Prop := -40 ≤ (mv u v s).2.2 ∧ (mv u v s).2.2 ≤ 40
instance (u v : Int) (s : Sd) : Decidable (mvOk u v s) := by unfold mvOk; infer_instance
theorem mv_bd {u v : Int} {s : Sd} (hs : sideP s) (hu : -5 ≤ u ∧ u ≤ 5) (hv : -5 ≤ v ∧ v ≤ 5) : (-20 ≤ s.1 * u ∧ s.1 * u ≤ 20) ∧ (-20 ≤ s.2.1 * v ∧ s.2.1 * v ≤ 20) := by
  unfold sideP at hs
  have b1 := mul_bd (A := 4) (B := 5) (x := s.1) (y := u) (by omega) (by omega) (by omega) (by omega)
  have b2 := mul_bd (A := 4) (B := 5) (x := s.2.1) (y := v) (by omega) (by omega) (by omega) (by omega)
  omega
theorem dir_mv {l : List Sd} {u v : Int} {d : Pr} : dirP (l.map (mv u v)) d ↔ dirP l d := by
  unfold dirP
  constructor
  · rintro ⟨t, ht, h⟩
    obtain ⟨s, hs, rfl⟩ := List.mem_map.1 ht
    exact ⟨s, hs, h⟩
  · rintro ⟨s, hs, h⟩
    exact ⟨_, List.mem_map.2 ⟨s, hs, rfl⟩, h⟩
theorem plate_mv {l : List Sd} {u v : Int} (h : plateP l) : plateP (l.map (mv u v)) ↔ ∀ s ∈ l, mvOk u v s := by
  obtain ⟨h1, h2, h3⟩ := h
  constructor
  · rintro ⟨_, k2, _⟩ s hs
    have := k2 _ (List.mem_map.2 ⟨s, hs, rfl⟩)
    unfold sideP at this
    unfold mvOk
    omega
  · intro hk
    refine ⟨by simpa using h1, fun t ht => ?_, fun t ht => ?_⟩
    · obtain ⟨s, hs, rfl⟩ := List.mem_map.1 ht
      have a := h2 s hs
      have b := hk s hs
      unfold sideP at *
      unfold mvOk at b
      show ((-4 ≤ s.1 ∧ _) ∧ _)
      refine ⟨a.1, a.2.1, ?_⟩
      first | exact ⟨a.2.2.1, b.1, b.2⟩ | exact ⟨b.1, b.2⟩ | (unfold mv at *; dsimp only at *; omega)
    · obtain ⟨s, hs, rfl⟩ := List.mem_map.1 ht
      have := h3 s hs
      exact ⟨dir_mv.2 this.1, dir_mv.2 this.2⟩
end Go.Lt.P2

namespace Go.Lt.P2
open Go Go.Lt Go.Proofs
/-! ### chains -/
def lft (a b c : Pr) : Int := (b.1 - a.1) * (c.2 - b.2) - (b.2 - a.2) * (c.1 - b.1)
theorem lft_eq (a b c : Pr) : (b.1 - a.1) * (c.2 - a.2) - (b.2 - a.2) * (c.1 - a.1) = lft a b c := by unfold lft; grind
def near3 (p : Pr) : Prop := (-1000 ≤ p.1 ∧ p.1 ≤ 1000) ∧ -1000 ≤ p.2 ∧ p.2 ≤ 1000
/-- what is left of a stack, the last one first -/
def pp (x : Pr) : List Pr → List Pr
  | b :: a :: r => if lft a b x ≤ 0 then pp x (a :: r) else b :: a :: r
  | s => s
def stk (l : List Pr) : List Pr := l.foldl (fun st x => x :: pp x st) []
def chn (l : List Pr) : List Pr := (stk l).reverse
theorem stk_snoc (l : List Pr) (x : Pr) : stk (l ++ [x]) = x :: pp x (stk l) := by unfold stk; rw [List.foldl_append]; rfl
theorem pp_sub (x : Pr) : ∀ (s : List Pr), ∀ p ∈ pp x s, p ∈ s
  | [], _, h => h
  | [_], _, h => h
  | b :: a :: r, p, h => by
    rw [pp] at h
    split at h
    · exact .tail _ (pp_sub x (a :: r) p h)
    · exact h
theorem pp_len (x : Pr) : ∀ (s : List Pr), (pp x s).length ≤ s.length
  | [] => Nat.le_refl _
  | [_] => Nat.le_refl _
  | b :: a :: r => by
    rw [pp]
    split
    · have := pp_len x (a :: r); simp only [List.length_cons] at *; omega
    · exact Nat.le_refl _
theorem pp_last (x d : Pr) : ∀ (s : List Pr), (pp x s).getLastD d = s.getLastD d
  | [] => rfl
  | [_] => rfl
  | b :: a :: r => by
    rw [pp]
    split
    · rw [pp_last x d (a :: r)]; simp
    · rfl
theorem pp_ne (x : Pr) : ∀ {s : List Pr}, s ≠ [] → pp x s ≠ []
  | [], h => absurd rfl h
  | [_], h => h
  | b :: a :: r, _ => by
    rw [pp]
    split
    · exact pp_ne x (by simp)
    · simp
theorem stk_sub : ∀ (l : List Pr), ∀ p ∈ stk l, p ∈ l := by
  have key : ∀ n (l : List Pr), l.length = n → ∀ p ∈ stk l, p ∈ l := by
    intro n
    induction n with
    | zero => intro l hl p hp; rw [List.length_eq_zero_iff.1 hl] at hp; exact absurd hp (by simp [stk])
    | succ n ih =>
      intro l hl p hp
      have hne : l ≠ [] := by rintro rfl; simp at hl
      rw [← List.dropLast_concat_getLast hne, stk_snoc] at hp
      rcases List.mem_cons.1 hp with rfl | hp
      · exact List.getLast_mem hne
      · exact List.dropLast_subset l (ih _ (by simp [hl]) p (pp_sub _ _ p hp))
  exact fun l => key _ l rfl
theorem stk_len : ∀ (l : List Pr), (stk l).length ≤ l.length := by
  have key : ∀ n (l : List Pr), l.length = n → (stk l).length ≤ l.length := by
    intro n
    induction n with
    | zero => intro l hl; rw [List.length_eq_zero_iff.1 hl]; simp [stk]
    | succ n ih =>
      intro l hl
      have hne : l ≠ [] := by rintro rfl; simp at hl
      have h1 := ih l.dropLast (by simp [hl])
      rw [← List.dropLast_concat_getLast hne, stk_snoc]
      have h2 := pp_len (l.getLast hne) (stk l.dropLast)
      simp only [List.length_cons, List.length_append, List.length_singleton]
      omega
  exact fun l => key _ l rfl
def hul (l : List Pr) : List Pr := (chn l).dropLast ++ (chn l.reverse).dropLast
theorem But.grB {T : Type} [El T] {H0 H H' : Hp} {v : Sl} {l : List T} (h : But v H H') (b : Buf H0.n H v l) (g : Gr H0 H) : Gr H0 H' :=
  ⟨Nat.le_trans g.1 h.1, fun x hx => by rw [h.2 x (Nat.lt_of_lt_of_le hx g.1) fun hn => by have := (b.lt hn).2; omega]; exact g.2 x hx⟩
/-- the two last ones of a stack -/
theorem rd2 {H : Hp} {v : Sl} {pre r : List Pr} {a b : Pr} {n : Nat} (h : SL H v (pre ++ (b :: a :: r).reverse)) (hn : n = v.len) :
    (H.ldI .i64 v.b (v.o + (n - 2) * 2) = some a.1 ∧ H.ldI .i64 v.b (v.o + (n - 2) * 2 + 1) = some a.2) ∧ H.ldI .i64 v.b (v.o + (n - 1) * 2) = some b.1 ∧ H.ldI .i64 v.b (v.o + (n - 1) * 2 + 1) = some b.2 := by
  have hl := h.len
  have e : pre ++ (b :: a :: r).reverse = (pre ++ r.reverse) ++ [a, b] := by simp
  rw [e] at h hl
  have hlen : ((pre ++ r.reverse) ++ [a, b]).length = (pre ++ r.reverse).length + 2 := by rw [List.length_append]; rfl
  have i1 : n - 2 < ((pre ++ r.reverse) ++ [a, b]).length := by omega
  have i2 : n - 1 < ((pre ++ r.reverse) ++ [a, b]).length := by omega
  have e1 : ((pre ++ r.reverse) ++ [a, b])[n - 2] = a := by
    have hd : n - 2 - (pre ++ r.reverse).length = 0 := by omega
    rw [List.getElem_append_right (by omega)]; simp only [hd]; rfl
  have e2 : ((pre ++ r.reverse) ++ [a, b])[n - 1] = b := by
    have hd : n - 1 - (pre ++ r.reverse).length = 1 := by omega
    rw [List.getElem_append_right (by omega)]; simp only [hd]; rfl
  exact ⟨⟨h.ldI (i := n - 2) (j := 0) i1 (by rw [e1]; rfl), h.ldI (i := n - 2) (j := 1) i1 (by rw [e1]; rfl)⟩, h.ldI (i := n - 1) (j := 0) i2 (by rw [e2]; rfl), h.ldI (i := n - 1) (j := 1) i2 (by rw [e2]; rfl)⟩
/-- append behind a slice without room -/
theorem SL.app0 {T : Type} [El T] {H : Hp} {v : Sl} {l x : List T} (h : SL H v l) (hc : v.cap = v.len) (ho : v.opn = 0) {es k : Nat} {cs : List AV} (hes : es = El.sz T) (hcs : cs = encs x) (hk : k = x.length) (hb : l.length + x.length ≤ 4294967296) : Ok (H.app es v cs k) fun w H' => Gr H H' ∧ SL H' w (l ++ x) := by
  subst hes; subst hcs; subst hk
  have hlen := h.len
  unfold Hp.app
  rw [if_pos (by omega)]
  by_cases h0 : x = []
  · subst h0
    rw [if_pos (by simp; omega), List.append_nil]
    refine Ok.ite (fun hn => Ok.ret ⟨.refl _, h⟩) fun hn => ?_
    simp only [encs, List.flatMap_nil, Hp.sts, Option.map_some]
    have : (⟨false, v.b, v.o, v.len + ([] : List T).length, v.cap, v.opn⟩ : Sl) = v := by
      cases v; simp at hn ⊢; exact hn
    rw [this]
    exact Ok.ret ⟨.refl _, h⟩
  · have hp := List.length_pos_iff.2 h0
    rw [if_neg (by omega), h.lds]
    simp only [Option.bind_some]
    rw [if_pos ho]
    refine Ok.ret ⟨.push _ _, .of_get (ro := false) ?_ rfl (by rw [List.length_append]; dsimp only; omega) (Nat.le_refl _) (.inr rfl) rfl⟩
    rw [encs_append]
    exact Hp.get_push_new _ _
end Go.Lt.P2

namespace Go.Lt
theorem Cb.trans {H0 H H' : Hp} {E E' : List (Nat × Blk)} (c : Cb H0 H E) (d : Cb H H' E') (hk : E'.map (·.1) = E.map (·.1)) : Cb H0 H' E' := ⟨Nat.le_trans c.n d.n, fun b h1 h2 => by
    rw [d.g b (Nat.lt_of_lt_of_le h1 c.n) h2]
    refine c.g b h1 fun p hp => ?_
    have : p.1 ∈ E'.map (·.1) := by rw [hk]; exact List.mem_map.2 ⟨p, hp, rfl⟩
    obtain ⟨q, hq, e⟩ := List.mem_map.1 this
    rw [← e]; exact h2 q hq, d.e, d.nd⟩
end Go.Lt
namespace Go.Lt.P2
open Go Go.Lt Go.Proofs
/-- a consumer with blocks of its own -/
theorem mkYd {T : Type} {a : App} {yv : AV} {arg : T → List AV} {L : List T} {ks : List Nat} (E E' : List T → List (Nat × Blk)) (hk : ∀ q, (E q).map (·.1) = ks) (Gn Sp : List T → Prop) {B Hs : Hp} (gB : Gr B Hs) (hks : ∀ k ∈ ks, B.n ≤ k)
    (step : ∀ q x H, Cb H H (E q) → Gn q → x ∈ L → Ok (callv a yv (arg x) H) fun r H' => (r = .bool true ∧ Cb H H' (E (q ++ [x])) ∧ Gn (q ++ [x])) ∨ (r = .bool false ∧ Cb H H' (E' (q ++ [x])) ∧ Sp (q ++ [x])))
    (hk' : ∀ q, (E' q).map (·.1) = ks) : Yd a yv arg L B (fun P q H => Cb Hs H (E q) ∧ Gn q ∧ ∀ b, P b → b ∉ ks) (fun q H => Cb Hs H (E' q) ∧ Sp q) where
  grow := fun {P P' q H H'} h g hP => ⟨h.1.gr g, h.2.1, fun b hb hk2 => by
    rcases hP b hb with h1 | h1
    · exact h.2.2 b h1 hk2
    · rw [← hk q] at hk2
      obtain ⟨p, hp, e⟩ := List.mem_map.1 hk2
      have := h.1.lt hp
      omega⟩
  base := fun {P q H} h => ⟨Nat.le_trans gB.1 h.1.n, fun b hb => by
    rw [h.1.g b (Nat.lt_of_lt_of_le hb gB.1) fun p hp e => ?_]
    · exact gB.2 b hb
    · have : p.1 ∈ ks := by rw [← hk q]; exact List.mem_map.2 ⟨p, hp, rfl⟩
      have := hks _ this
      omega⟩
  step := fun {P q H x} h hx => by
    have c : Cb H H (E q) := .start h.1.e h.1.nd
    refine Ok.mono (step q x H c h.2.1 (hx.subset (by simp))) fun r H' h' => ?_
    rcases h' with ⟨hr, c', g'⟩ | ⟨hr, c', g'⟩
    · refine ⟨c'.n, .inl ⟨hr, ⟨h.1.trans c' (by rw [hk, hk]), g', h.2.2⟩, fun b hb hP => c'.g b hb fun p hp e => h.2.2 b hP ?_⟩⟩
      rw [← hk (q ++ [x]), ← e]
      exact List.mem_map.2 ⟨p, hp, rfl⟩
    · exact ⟨c'.n, .inr ⟨hr, h.1.trans c' (by rw [hk, hk']), g'⟩⟩
/-! ### arrows between those of two sides -/
def btw (s t : Sd) (a b : Int) : Prop := if crI s t < 0 then (0 ≤ -(a * t.2.1 - b * t.1) ∧ 0 ≤ -(s.1 * b - s.2.1 * a)) ∧ -(a * t.2.1 - b * t.1) ≤ -crI s t ∧ -(s.1 * b - s.2.1 * a) ≤ -crI s t else (0 ≤ a * t.2.1 - b * t.1 ∧ 0 ≤ s.1 * b - s.2.1 * a) ∧ a * t.2.1 - b * t.1 ≤ crI s t ∧ s.1 * b - s.2.1 * a ≤ crI s t
instance (s t : Sd) (a b : Int) : Decidable (btw s t a b) := by unfold btw; infer_instance
def bts (s t : Sd) (lo hi a : Int) : List Pr := ((ints lo hi).filter fun b => decide (btw s t a b)).map fun b => (a, b)
def bt (s t : Sd) : List Pr := (ints (-8) 8).flatMap (bts s t (-8) 8)
theorem bts_snoc {s t : Sd} {lo hi a : Int} (h : lo ≤ hi) : bts s t lo hi a = bts s t lo (hi - 1) a ++ if btw s t a hi then [(a, hi)] else [] := by
  unfold bts
  rw [ints_snoc h, List.filter_append, List.map_append]
  congr 1
  by_cases hk : btw s t a hi
  · rw [if_pos hk, List.filter_cons, if_pos (by exact decide_eq_true hk)]; rfl
  · rw [if_neg hk, List.filter_cons, if_neg (by rw [decide_eq_false hk]; simp)]; rfl
theorem mem_bt {s t : Sd} {p : Pr} : p ∈ bt s t ↔ ((-8 ≤ p.1 ∧ p.1 ≤ 8) ∧ -8 ≤ p.2 ∧ p.2 ≤ 8) ∧ btw s t p.1 p.2 := by
  unfold bt bts
  rw [List.mem_flatMap]
  constructor
  · rintro ⟨x, hx, h⟩
    obtain ⟨y, hy, rfl⟩ := List.mem_map.1 h
    obtain ⟨hy, hk⟩ := List.mem_filter.1 hy
    exact ⟨⟨mem_ints.1 hx, mem_ints.1 hy⟩, of_decide_eq_true hk⟩
  · rintro ⟨⟨hx, hy⟩, hk⟩
    exact ⟨p.1, mem_ints.2 hx, List.mem_map.2 ⟨p.2, List.mem_filter.2 ⟨mem_ints.2 hy, decide_eq_true hk⟩, rfl⟩⟩
theorem bt_pre {s t : Sd} {a b : Int} (ha : -8 ≤ a ∧ a ≤ 8) (hb : -9 ≤ b ∧ b ≤ 8) : (ints (-8) (a - 1)).flatMap (bts s t (-8) 8) ++ bts s t (-8) b a <+: bt s t := by
  have h1 : ∀ n : Nat, n ≤ 16 → ∀ b : Int, b = 8 - n → bts s t (-8) b a <+: bts s t (-8) 8 a := by
    intro n
    induction n with
    | zero => intro _ b e; rw [show b = 8 by omega]; exact List.prefix_rfl
    | succ n ih =>
      intro hn b e
      refine List.IsPrefix.trans ?_ (ih (by omega) (b + 1) (by omega))
      rw [bts_snoc (show (-8 : Int) ≤ b + 1 by omega), show b + 1 - 1 = b by omega]
      exact List.prefix_append _ _
  have h1' : bts s t (-8) b a <+: bts s t (-8) 8 a := by
    by_cases h9 : b = -9
    · subst h9
      have : bts s t (-8) (-9) a = [] := by unfold bts; rw [ints_nil (by omega)]; rfl
      rw [this]; exact List.nil_prefix
    · exact h1 (8 - b).toNat (by omega) b (by omega)
  have h2 : ∀ n : Nat, n ≤ 16 → ∀ a : Int, a = 8 - n → (ints (-8) a).flatMap (bts s t (-8) 8) <+: bt s t := by
    intro n
    induction n with
    | zero => intro _ a e; rw [show a = 8 by omega]; exact List.prefix_rfl
    | succ n ih =>
      intro hn a e
      refine List.IsPrefix.trans ?_ (ih (by omega) (a + 1) (by omega))
      rw [ints_snoc (show (-8 : Int) ≤ a + 1 by omega), show a + 1 - 1 = a by omega, List.flatMap_append]
      exact List.prefix_append _ _
  refine List.IsPrefix.trans ((List.prefix_append_right_inj _).2 h1') ?_
  have := h2 (8 - a).toNat (by omega) a (by omega)
  rw [ints_snoc (show (-8 : Int) ≤ a by omega), List.flatMap_append, List.flatMap_singleton] at this
  exact this
def argB (p : Pr) : List AV := [.int .i64 p.1, .int .i64 p.2]
section
variable {a : App} {yv : AV} {B : Hp} {I : (Nat → Prop) → List Pr → Hp → Prop} {St : List Pr → Hp → Prop} {P : Nat → Prop} {s t : Sd} {x1 x2 x3 x4 : Int}
/-- between -/
theorem r67_ok (Y : Yd a yv argB (bt s t) B I St) (hs : sideP s) (ht : sideP t) {H : Hp} (hI : I P [] H) :
    Ok (r67 a x1 x2 x3 x4 s.1 s.2.1 s.2.2 t.1 t.2.1 t.2.2 yv H) fun _ H' => I P (bt s t) H' ∨ ∃ q, q <+: bt s t ∧ St q H' := by
  have bd := meet_bd hs ht
  have hs' := hs
  have ht' := ht
  unfold sideP at hs' ht'
  unfold r67
  refine Ok.box (.nil H) fun A gA c => ?_
  refine Ok.cld c (.head _) rfl (Ok.cld c (.head _) rfl (Ok.cld c (.head _) rfl (Ok.cld c (.head _) rfl (Ok.own (r97_ok (by omega) (by omega) (by omega) (by omega)) fun X => ?_))))
  show Ok (r67_l0 a FUEL yv H.n (crI s t) (-8) A) _
  have hlt := c.lt (.head _)
  have hIA := Y.grow hI gA (P' := fun b => P b ∨ b = H.n) fun b hb => hb.elim .inl fun e => .inr (by dsimp only at hlt; omega)
  have hcA := c.e _ (.head _)
  clear c hI
  have hmax : (if crI s t < w64 (0 - crI s t) then w64 (0 - crI s t) else crI s t) = if crI s t < 0 then -crI s t else crI s t := by
    rw [w64_id (by omega) (by omega)]
    split <;> split <;> omega
  refine Ok.loop (L := fun K (u : Int) H2 => r67_l0 a K yv H.n (crI s t) u H2) (fun m u H' => (-8 ≤ u ∧ u ≤ 9) ∧ m = (9 - u).toNat ∧ I (fun b => P b ∨ b = H.n) ((ints (-8) (u - 1)).flatMap (bts s t (-8) 8)) H' ∧ H'.get H.n = A.get H.n) ?_ FUEL 17 (-8) A (by unfold FUEL; omega) ⟨by omega, rfl, by rw [ints_nil (by omega)]; exact hIA, rfl⟩
  rintro K m u H1 ⟨hu, rfl, hI1, hc1⟩ ih
  try dsimp only at *
  rw [r67_l0]
  by_cases h : u ≤ 8
  · refine Ok.pos h ?_
    refine Ok.loop (L := fun K' (w : Int) H2 => r67_l1 a (fun v1_ v2_ v3_ v4_ H_ => r67_l0 a K v1_ v2_ v3_ v4_ H_) K' yv H.n (crI s t) u w H2) (fun m w H' => (-8 ≤ w ∧ w ≤ 9) ∧ m = (9 - w).toNat ∧ I (fun b => P b ∨ b = H.n) ((ints (-8) (u - 1)).flatMap (bts s t (-8) 8) ++ bts s t (-8) (w - 1) u) H' ∧ H'.get H.n = A.get H.n) ?_ FUEL 17 (-8) H1 (by unfold FUEL; omega) ⟨by omega, rfl, by
      have : bts s t (-8) (-8 - 1) u = [] := by unfold bts; rw [ints_nil (by omega)]; rfl
      rw [this, List.append_nil]; exact hI1, hc1⟩
    rintro K' m' w H2 ⟨hw, rfl, hI2, hc2⟩ ih'
    try dsimp only at *
    rw [r67_l1]
    have hc2' := hc2.trans hcA
    by_cases h2 : w ≤ 8
    · refine Ok.pos h2 (Ok.ld (ldI_get hc2' rfl) (Ok.ld (ldI_get hc2' rfl) (Ok.own (r97_ok (by omega) (by omega) (by omega) (by omega)) fun _ => Ok.ld (ldI_get hc2' rfl) (Ok.ld (ldI_get hc2' rfl) (Ok.own (r97_ok (by omega) (by omega) (by omega) (by omega)) fun _ => ?_)))))
      dsimp only
      have m1 : -32 ≤ u * t.2.1 ∧ u * t.2.1 ≤ 32 := mul_bd (A := 8) (B := 4) (by omega) (by omega) (by omega) (by omega)
      have m2 : -32 ≤ w * t.1 ∧ w * t.1 ≤ 32 := mul_bd (A := 8) (B := 4) (by omega) (by omega) (by omega) (by omega)
      have m3 : -32 ≤ s.1 * w ∧ s.1 * w ≤ 32 := mul_bd (A := 4) (B := 8) (by omega) (by omega) (by omega) (by omega)
      have m4 : -32 ≤ s.2.1 * u ∧ s.2.1 * u ≤ 32 := mul_bd (A := 4) (B := 8) (by omega) (by omega) (by omega) (by omega)
      have esn := bts_snoc (s := s) (t := t) (a := u) (show (-8 : Int) ≤ w by omega)
      have skip : ¬ btw s t u w → Ok (r67_j2 a (fun v1_ v2_ v3_ v4_ v5_ H_ => r67_l1 a (fun v1_ v2_ v3_ v4_ H_ => r67_l0 a K v1_ v2_ v3_ v4_ H_) K' v1_ v2_ v3_ v4_ v5_ H_) yv H.n (crI s t) u w false H2) fun _ H' => I P (bt s t) H' ∨ ∃ q, q <+: bt s t ∧ St q H' := fun hn => by
        unfold r67_j2
        rw [w64_id (n := w + 1) (by omega) (by omega)]
        refine Ok.neg (by simp) (ih' (9 - (w + 1)).toNat (w + 1) H2 (by omega) ⟨by omega, rfl, ?_, hc2⟩)
        rw [show w + 1 - 1 = w by omega, esn, if_neg hn, List.append_nil]
        exact hI2
      have step : btw s t u w → Ok ((callv a yv [.int .i64 u, .int .i64 w] H2).bind fun p5 => (p5.1.asB).bind fun x6 => r67_j2 a (fun v1_ v2_ v3_ v4_ v5_ H_ => r67_l1 a (fun v1_ v2_ v3_ v4_ H_ => r67_l0 a K v1_ v2_ v3_ v4_ H_) K' v1_ v2_ v3_ v4_ v5_ H_) yv H.n (crI s t) u w (!x6) p5.2) fun _ H' => I P (bt s t) H' ∨ ∃ q, q <+: bt s t ∧ St q H' := fun hn => by
        have hpre := bt_pre (s := s) (t := t) (a := u) (b := w) (by omega) (by omega)
        rw [esn, if_pos hn, ← List.append_assoc] at hpre
        refine Ok.bind (Y.step (x := (u, w)) hI2 hpre) fun r G ⟨nG, hG⟩ => ?_
        rcases hG with ⟨rfl, hIG, kG⟩ | ⟨rfl, hSt⟩
        · refine Ok.ld rfl ?_
          unfold r67_j2
          rw [w64_id (n := w + 1) (by omega) (by omega)]
          refine Ok.neg (by simp) (ih' (9 - (w + 1)).toNat (w + 1) G (by omega) ⟨by omega, rfl, ?_, by rw [kG _ (Hp.get_lt hc2') (.inr rfl)]; exact hc2⟩)
          rw [show w + 1 - 1 = w by omega, esn, if_pos hn, ← List.append_assoc]
          exact hIG
        · refine Ok.ld rfl ?_
          unfold r67_j2
          exact Ok.pos (by simp) (Ok.ret (.inr ⟨_, hpre, hSt⟩))
      have fin : ∀ u' w' : Int, (btw s t u w ↔ ((0 ≤ u' ∧ 0 ≤ w') ∧ u' ≤ (if crI s t < 0 then -crI s t else crI s t) ∧ w' ≤ (if crI s t < 0 then -crI s t else crI s t))) → Ok (r67_j3 a (fun v1_ v2_ v3_ v4_ v5_ H_ => r67_l1 a (fun v1_ v2_ v3_ v4_ H_ => r67_l0 a K v1_ v2_ v3_ v4_ H_) K' v1_ v2_ v3_ v4_ v5_ H_) yv H.n (crI s t) u w u' w' H2) fun _ H' => I P (bt s t) H' ∨ ∃ q, q <+: bt s t ∧ St q H' := fun u' w' hiff => by
        unfold r67_j3
        rw [hmax]
        refine Ok.ite (fun k1 => Ok.ite (fun k2 => Ok.ite (fun k3 => Ok.ite (fun k4 => step (hiff.2 ⟨⟨k1, k2⟩, k3, k4⟩)) fun k => skip fun q => k (hiff.1 q).2.2) fun k => skip fun q => k (hiff.1 q).2.1) fun k => skip fun q => k (hiff.1 q).1.2) fun k => skip fun q => k (hiff.1 q).1.1
      refine Ok.ite (fun hneg => ?_) fun hneg => ?_
      · rw [w64_id (n := 0 - (u * t.2.1 - w * t.1)) (by omega) (by omega), w64_id (n := 0 - (s.1 * w - s.2.1 * u)) (by omega) (by omega)]
        refine fin _ _ ?_
        unfold btw
        rw [if_pos hneg, if_pos hneg, Int.zero_sub, Int.zero_sub]
      · refine fin _ _ ?_
        unfold btw
        rw [if_neg hneg, if_neg hneg]
    · refine Ok.neg h2 ?_
      rw [w64_id (n := u + 1) (by omega) (by omega)]
      refine ih (9 - (u + 1)).toNat (u + 1) H2 (by omega) ⟨by omega, rfl, ?_, hc2⟩
      rw [show w - 1 = 8 by omega] at hI2
      rw [show u + 1 - 1 = u by omega, ints_snoc (show (-8 : Int) ≤ u by omega), List.flatMap_append, List.flatMap_singleton]
      exact hI2
  · refine Ok.neg h (Ok.ret (.inl ?_))
    rw [show u - 1 = 8 by omega] at hI1
    exact Y.grow hI1 (.refl _) fun b hb => .inl (.inl hb)
end
end Go.Lt.P2

namespace Go.Lt.P2
open Go Go.Lt Go.Proofs
/-! ### arguments of InRound -/
def frP (f : Pr) : Prop := (1 ≤ f.2 ∧ f.2 ≤ 100) ∧ (-100 * f.2 ≤ f.1 ∧ f.1 ≤ 100 * f.2) ∧ Nat.gcd f.1.natAbs f.2.natAbs = 1
instance (f : Pr) : Decidable (frP f) := by unfold frP; infer_instance
theorem frP_fq {f : Pr} (h : frP f) : fq (dv f.1 f.2) = f := fq_dv (by unfold frP at h; omega) h.2.2
theorem frP_qb {f : Pr} (h : frP f) : qb 10000 100 (dv f.1 f.2) := by
  unfold frP at h
  exact qb_dv (by omega) (by omega) (by omega) (by omega)
/-- isFrac -/
theorem r64_ok {f : Pr} : Ok (r64 f.1 f.2 (-100) 100 H0) fun r _ => r = decide (frP f) := by
  have no : ∀ {A : Hp}, ¬ frP f → Ok (some (false, A)) fun r _ => r = decide (frP f) := fun hn => Ok.ret (by rw [decide_eq_false hn])
  unfold r64
  refine Ok.box (.nil H0) fun A _ c => Ok.cld c (.head _) rfl (Ok.ite (fun h1 => Ok.cld c (.head _) rfl (Ok.ite (fun h2 => Ok.cld c (.head _) rfl (Ok.cld c (.head _) rfl ?_)) fun h => no fun q => h q.1.2)) fun h => no fun q => h q.1.1)
  rw [w64_id (n := -100 * f.2) (by omega) (by omega)]
  refine Ok.ite (fun h3 => Ok.cld c (.head _) rfl (Ok.cld c (.head _) rfl ?_)) fun h => no fun q => h q.2.1.1
  rw [w64_id (n := 100 * f.2) (by omega) (by omega)]
  refine Ok.ite (fun h4 => Ok.cld c (.head _) rfl (Ok.cld c (.head _) rfl ?_)) fun h => no fun q => h q.2.1.2
  refine Ok.own (b := (Nat.gcd f.1.natAbs f.2.natAbs : Int)) ⟨_, _, gcdI FUEL f.1 f.2 (by unfold FUEL; omega) (by omega) (by omega), rfl⟩ fun X => Ok.ret ?_
  refine decide_eq_decide.2 ?_
  unfold frP
  dsimp only
  omega
end Go.Lt.P2

namespace Go.Lt.P2
open Go Go.Lt Go.Proofs
theorem floor_bd2 {q : Rat} {N D : Int} (h : qb N D q) (hN : 0 ≤ N) : -N - 1 ≤ q.floor ∧ q.floor ≤ N := by
  obtain ⟨h1, h2, h3⟩ := h
  have hp := fq_pos q
  have := (floor_iff (f := q.floor) (n := (fq q).1) hp).1 (by rw [dv_fq])
  generalize q.floor = f at *
  generalize (fq q).1 = n at *
  generalize (fq q).2 = d at *
  constructor
  · refine Classical.byContradiction fun hc => ?_
    have : (f + 1) * d ≤ (-N - 1) * 1 := by
      have h4 : 0 ≤ (-N - 1 - (f + 1)) * d := Int.mul_nonneg (by omega) (by omega)
      have h5 : 0 ≤ (N + 1) * (d - 1) := Int.mul_nonneg (by omega) (by omega)
      grind
    omega
  · refine Classical.byContradiction fun hc => ?_
    have : (N + 1) * 1 ≤ f * d := by
      have h4 : 0 ≤ (f - (N + 1)) * d := Int.mul_nonneg (by omega) (by omega)
      have h5 : 0 ≤ (N + 1) * (d - 1) := Int.mul_nonneg (by omega) (by omega)
      grind
    omega
/-- a point keeps the cut with a, b at a corner -/
def rk (c p : Pq) (w : Pr) : Prop := lqs (w.1, w.2, (atq w.1 w.2 c).floor) p
instance (c p : Pq) (w : Pr) : Decidable (rk c p w) := by unfold rk; infer_instance
def rkC (p : Pq) (c : Cn) : Prop := ∀ w ∈ bt c.2.1 c.2.2, rk c.1 p w
def rndP (l : List Sd) (p : Pq) : Prop := ∀ c ∈ cs l, rkC p c
section
variable {l2 d eb rb xb : Nat} {p : Pq}
def F2 (xb rb eb : Nat) : Fr := [(3, .ptr xb 0), (4, .ptr rb 0), (5, .ptr eb 0)]
def F3 (xb rb eb y : Nat) : Fr := [(3, .ptr xb 0), (4, .ptr rb 0), (5, .ptr eb 0), (7, .ptr y 0)]
def restE (d eb rb xb : Nat) (p : Pq) : List (Nat × Blk) := [(d, .dfr), (eb, cel [.int .i64 0]), (rb, cel [.bool false]), (xb, cel (pc4 p))]
def outE (l2 d eb rb xb : Nat) (p : Pq) (ls : LoopState) (pe : Option Code) : List (Nat × Blk) := (l2, .loop ls pe 2 51 (F2 xb rb eb)) :: restE d eb rb xb p
def tenC (c : Cn) : List AV := [.int .i64 (fq c.1.1).1, .int .i64 (fq c.1.1).2, .int .i64 (fq c.1.2).1, .int .i64 (fq c.1.2).2, .int .i64 c.2.1.1, .int .i64 c.2.1.2.1, .int .i64 c.2.1.2.2, .int .i64 c.2.2.1, .int .i64 c.2.2.2.1, .int .i64 c.2.2.2.2]
def inE (l3 y l2 d eb rb xb : Nat) (p : Pq) (c : Cn) (ls : LoopState) (pe : Option Code) : List (Nat × Blk) := (l3, .loop ls pe 3 51 (F3 xb rb eb y)) :: (y, cel (tenC c)) :: outE l2 d eb rb xb p .busy none
/-- a round of the inner loop -/
theorem rnd3 {k l3 y : Nat} {H : Hp} {c : Cn} {w : Pr} (cb : Cb H H (inE l3 y l2 d eb rb xb p c .ready none)) (hc : qp c.1) (hp : qp p) (hw : (-8 ≤ w.1 ∧ w.1 ≤ 8) ∧ -8 ≤ w.2 ∧ w.2 ≤ 8) :
    Ok (callv (app (k + 1)) (.yld l3) (argB w) H) fun r H' => (r = .bool true ∧ Cb H H' (inE l3 y l2 d eb rb xb p c .ready none) ∧ rk c.1 p w) ∨ (r = .bool false ∧ Cb H H' (inE l3 y l2 d eb rb xb p c .done (some .ret)) ∧ ¬ rk c.1 p w) := by
  show Ok (ydisp (app k) l3 (argB w) H) _
  unfold ydisp
  have hl : H.get l3 = _ := cb.e (l3, .loop .ready none 3 51 (F3 xb rb eb y)) (.head _)
  rw [hl]
  unfold F3
  have hq := atq_qb (a := w.1) (b := w.2) (p := c.1) (by omega) (by omega) hc
  have hfl := floor_bd2 hq (by decide)
  refine Ok.bind (P := fun r H' => (r = none ∧ Cb H H' (inE l3 y l2 d eb rb xb p c .busy none) ∧ rk c.1 p w) ∨ (r = some .ret ∧ Cb H H' (inE l3 y l2 d eb rb xb p c .busy none) ∧ ¬ rk c.1 p w)) ?_ ?_
  · unfold r17q3
    refine Ok.kbeg cb 0 rfl fun A nA _ cb => Ok.kalo cb fun B gB cb => ?_
    refine Ok.kld cb (.head _) rfl (Ok.kld cb (.head _) rfl (Ok.kld cb (.head _) rfl (Ok.kld cb (.tail _ (.tail _ (.head _))) rfl (Ok.kld cb (.tail _ (.tail _ (.head _))) rfl (Ok.kld cb (.tail _ (.tail _ (.head _))) rfl (Ok.kld cb (.tail _ (.tail _ (.head _))) rfl ?_))))))
    refine Ok.own (r69_q (p := c.1) (by omega) (by omega) hc) fun _ => Ok.own (r68_q hq (by decide) (by decide)) fun _ => ?_
    refine Ok.kst1 cb 0 rfl (by show _ < 3; decide) fun C nC _ cb => ?_
    refine Ok.kld cb (.head _) rfl (Ok.kld cb (.head _) rfl (Ok.kld cb (.head _) rfl ?_))
    refine Ok.kld cb (.tail _ (.tail _ (.tail _ (.tail _ (.tail _ (.tail _ (.tail _ (.head _)))))))) rfl (Ok.kld cb (.tail _ (.tail _ (.tail _ (.tail _ (.tail _ (.tail _ (.tail _ (.head _)))))))) rfl (Ok.kld cb (.tail _ (.tail _ (.tail _ (.tail _ (.tail _ (.tail _ (.tail _ (.head _)))))))) rfl (Ok.kld cb (.tail _ (.tail _ (.tail _ (.tail _ (.tail _ (.tail _ (.tail _ (.head _)))))))) rfl ?_)))
    refine Ok.own (r70_q (p := p) (by omega) (by omega) (by omega) hp) fun _ => ?_
    have hlo : H.n ≤ A.n := by rw [nA]; exact Nat.le_refl _
    refine Ok.ite (fun h => Ok.ret (.inl ⟨rfl, cb.tl rfl hlo, of_decide_eq_true h⟩)) fun h => ?_
    refine Ok.kst1 cb 6 rfl (by show _ < 1; decide) fun D nD _ cb => Ok.kst1 cb 5 rfl (by show _ < 1; decide) fun E nE _ cb => Ok.ret (.inr ⟨rfl, cb.tl rfl hlo, fun q => h (decide_eq_true q)⟩)
  · rintro r H' (⟨rfl, cb, hk⟩ | ⟨rfl, cb, hk⟩)
    · exact Ok.knext cb 0 rfl fun A _ _ cb => .inl ⟨rfl, cb, hk⟩
    · exact Ok.knext cb 0 rfl fun A _ _ cb => .inr ⟨rfl, cb, hk⟩
/-- a round of the outer loop -/
theorem rnd2 {k : Nat} {H : Hp} {l : List Sd} {c : Cn} (cb : Cb H H (outE l2 d eb rb xb p .ready none)) (hs : ∀ s ∈ l, sideP s) (hc : c ∈ cs l) (hp : qp p) :
    Ok (callv (app (k + 3)) (.yld l2) (argC c) H) fun r H' => (r = .bool true ∧ Cb H H' (outE l2 d eb rb xb p .ready none) ∧ rkC p c) ∨ (r = .bool false ∧ Cb H H' (outE l2 d eb rb xb p .done (some .ret)) ∧ ¬ rkC p c) := by
  have hm := cs_mem hc
  have hcq : qp c.1 := by rw [hm.2.2.2.1]; exact meet_qp (hs _ hm.1) (hs _ hm.2.1) hm.2.2.1
  show Ok (ydisp (app (k + 2)) l2 (argC c) H) _
  unfold ydisp
  have hl : H.get l2 = _ := cb.e (l2, .loop .ready none 2 51 (F2 xb rb eb)) (.head _)
  rw [hl]
  unfold F2
  refine Ok.bind (P := fun r H' => (r = none ∧ Cb H H' (outE l2 d eb rb xb p .busy none) ∧ rkC p c) ∨ (r = some .ret ∧ Cb H H' (outE l2 d eb rb xb p .busy none) ∧ ¬ rkC p c)) ?_ ?_
  · unfold r17q2
    refine Ok.kalo cb fun A gA cb => Ok.kbeg cb 1 rfl fun B nB _ cb => ?_
    refine Ok.kld cb (.head _) rfl (Ok.kld cb (.head _) rfl (Ok.kld cb (.head _) rfl (Ok.kld cb (.head _) rfl (Ok.kld cb (.head _) rfl (Ok.kld cb (.head _) rfl (Ok.kld cb (.head _) rfl (Ok.kld cb (.head _) rfl (Ok.kld cb (.head _) rfl (Ok.kld cb (.head _) rfl ?_)))))))))
    have hl2 : B.get l2 = _ := cb.e (l2, .loop .busy none 2 51 (F2 xb rb eb)) (.tail _ (.head _))
    refine Ok.ck (by unfold Hp.isLoop; rw [hl2]) ?_
    have cb3 := cb.push (.loop .ready none 3 51 (F3 xb rb eb H.n))
    have gA1 := gA.1
    have hHB : H.n ≤ B.n := by omega
    show Ok ((callr (app (k + 2)) (.fn 67 [.agg (tenC c)] []) B.n (B.push (.loop .ready none 3 51 (F3 xb rb eb H.n)))).bind _) _
    generalize hC : B.push (.loop .ready none 3 51 (F3 xb rb eb H.n)) = C at *
    have cb3 : Cb H C (inE B.n H.n l2 d eb rb xb p c .ready none) := cb3
    have hnd := cb3.nd
    have Y := mkYd (a := app (k + 1)) (yv := .yld B.n) (arg := argB) (L := bt c.2.1 c.2.2) (ks := [B.n, H.n, l2, d, eb, rb, xb]) (fun _ => inE B.n H.n l2 d eb rb xb p c .ready none) (fun _ => inE B.n H.n l2 d eb rb xb p c .done (some .ret)) (fun _ => rfl) (fun q => ∀ w ∈ q, rk c.1 p w) (fun q => ∃ w ∈ q, ¬ rk c.1 p w) (B := H0) (Hs := C) ⟨Nat.zero_le _, fun b hb => absurd hb (Nat.not_lt_zero _)⟩ (fun _ _ => Nat.zero_le _)
      (fun q x H2 cbq hG hx => by
        refine Ok.mono (rnd3 (k := k) cbq hcq hp (mem_bt.1 hx).1) fun r H' h => ?_
        rcases h with ⟨hr, h1, h2⟩ | ⟨hr, h1, h2⟩
        · refine .inl ⟨hr, h1, fun w hw => ?_⟩
          rcases List.mem_append.1 hw with hw | hw
          · exact hG w hw
          · rw [List.mem_singleton] at hw; subst hw; exact h2
        · exact .inr ⟨hr, h1, x, by simp, h2⟩) (fun _ => rfl)
    refine Ok.bind (P := fun _ H' => (Cb H H' (inE B.n H.n l2 d eb rb xb p c .ready none) ∧ rkC p c) ∨ (Cb H H' (inE B.n H.n l2 d eb rb xb p c .done (some .ret)) ∧ ¬ rkC p c)) ?_ ?_
    · show Ok ((r67 (app (k + 1)) (fq c.1.1).1 (fq c.1.1).2 (fq c.1.2).1 (fq c.1.2).2 c.2.1.1 c.2.1.2.1 c.2.1.2.2 c.2.2.1 c.2.2.2.1 c.2.2.2.2 (.yld B.n) C).map fun p => (AV.tup [], p.2)) _
      have h1 := r67_ok (a := app (k + 1)) (x1 := (fq c.1.1).1) (x2 := (fq c.1.1).2) (x3 := (fq c.1.2).1) (x4 := (fq c.1.2).2) Y (hs _ hm.1) (hs _ hm.2.1) (H := C) (P := fun _ => False) ⟨Cb.start cb3.e hnd, fun _ h => (by cases h), fun _ h => h.elim⟩
      obtain ⟨r, H', e, h⟩ := h1
      rw [e]
      refine Ok.ret ?_
      rcases h with ⟨h1, h2, _⟩ | ⟨q, hq, h1, w, hw, h2⟩
      · exact .inl ⟨cb3.trans h1 rfl, h2⟩
      · exact .inr ⟨cb3.trans h1 rfl, fun hk => h2 (hk w (hq.subset hw))⟩
    · rintro r D (⟨cb, hk⟩ | ⟨cb, hk⟩)
      · refine Ok.kend cb 0 rfl (.inl rfl) fun E _ _ cb => Ok.pos rfl (Ok.ret (.inl ⟨rfl, ?_, hk⟩))
        exact (cb.tl rfl hHB).tl rfl (Nat.le_refl _)
      · refine Ok.kend cb 0 rfl (.inr rfl) fun E _ _ cb => Ok.neg (by simp [jmp]) (Ok.pos rfl (Ok.ret (.inr ⟨rfl, ?_, hk⟩)))
        exact (cb.tl rfl hHB).tl rfl (Nat.le_refl _)
  · rintro r H' (⟨rfl, cb, hk⟩ | ⟨rfl, cb, hk⟩)
    · exact Ok.knext cb 0 rfl fun A _ _ cb => .inl ⟨rfl, cb, hk⟩
    · exact Ok.knext cb 0 rfl fun A _ _ cb => .inr ⟨rfl, cb, hk⟩
end
end Go.Lt.P2

namespace Go.Lt.P2
open Go Go.Lt Go.Proofs
/-- a point as it is given -/
abbrev Pa := Pr × Pr
def ptP (x : Pa) : Prop := frP x.1 ∧ frP x.2
instance (x : Pa) : Decidable (ptP x) := by unfold ptP; infer_instance
def paq (x : Pa) : Pq := (dv x.1.1 x.1.2, dv x.2.1 x.2.2)
theorem paq_qp {x : Pa} (h : ptP x) : qp (paq x) := ⟨frP_qb h.1, frP_qb h.2⟩
theorem paq_pc {x : Pa} (h : ptP x) : pc4 (paq x) = [.int .i64 x.1.1, .int .i64 x.1.2, .int .i64 x.2.1, .int .i64 x.2.2] := by
  unfold pc4 paq
  dsimp only
  rw [frP_fq h.1, frP_fq h.2]
/-- InRound -/
theorem r17_ok {k : Nat} {H : Hp} {v : Sl} {l : List Sd} {x : Pa} (hv : SL H v l) (hb : l.length ≤ 1000) : Ok (r17 (appA (k + 4)) v x.1.1 x.1.2 x.2.1 x.2.2 H) fun r H' => Gr H H' ∧ (plateP l ∧ ptP x → (r.1 = true ↔ inP l (paq x) ∧ rndP l (paq x)) ∧ r.2 = 0) ∧ (¬ (plateP l ∧ ptP x) → r = (false, 2)) := by
  unfold r17
  refine Ok.lt ?_
  have c0 : Cb H H [] := .start (fun _ h => by cases h) .nil
  have c := ((c0.push (cel [.int .i64 x.1.1, .int .i64 x.1.2, .int .i64 x.2.1, .int .i64 x.2.2])).push (cel [.bool false])).push (cel [.int .i64 0])
  have gA := ((Gr.push H (cel [.int .i64 x.1.1, .int .i64 x.1.2, .int .i64 x.2.1, .int .i64 x.2.2])).trans (Gr.push _ (cel [.bool false]))).trans (Gr.push _ (cel [.int .i64 0]))
  simp only [Hp.n_push] at c ⊢
  generalize ((H.push (cel [.int .i64 x.1.1, .int .i64 x.1.2, .int .i64 x.2.1, .int .i64 x.2.2])).push (cel [.bool false])).push (cel [.int .i64 0]) = A at *
  have toG : ∀ {D : Hp} {E : List (Nat × Blk)}, Cb H D E → (∀ p ∈ E, H.n ≤ p.1) → Gr H D := fun {D E} cb h => ⟨cb.n, fun b hb => cb.g b hb fun p hp e => by have := h p hp; omega⟩
  have bad : ∀ {B : Hp}, ¬ (plateP l ∧ ptP x) → Cb H B [(H.n + 1 + 1, cel [.int .i64 0]), (H.n + 1, cel [.bool false]), (H.n, cel [.int .i64 x.1.1, .int .i64 x.1.2, .int .i64 x.2.1, .int .i64 x.2.2])] → Ok (r17_j0 (appA (k + 4)) H.n (H.n + 1) (H.n + 1 + 1) v true B) fun r H' => Gr H H' ∧ (plateP l ∧ ptP x → (r.1 = true ↔ inP l (paq x) ∧ rndP l (paq x)) ∧ r.2 = 0) ∧ (¬ (plateP l ∧ ptP x) → r = (false, 2)) := fun {B} hn c => by
    unfold r17_j0
    refine Ok.pos rfl (Ok.kst1 c 1 rfl (by show _ < 1; decide) fun D nD _ c => Ok.kst1 c 0 rfl (by show _ < 1; decide) fun E nE _ c => Ok.kldB c (.tail _ (.head _)) rfl (Ok.kld c (.head _) rfl (Ok.ret ⟨toG c ?_, fun h => absurd h hn, fun _ => rfl⟩)))
    simp only [List.set, List.mem_cons, List.not_mem_nil, or_false]
    rintro p (rfl | rfl | rfl) <;> dsimp only <;> omega
  refine Ok.bind (r63_ok (k := k + 3) (hv.gr gA) hb) fun b B ⟨gB, hbb⟩ => ?_
  subst hbb
  have c := c.gr gB
  have gHB := gA.trans gB
  by_cases hpl : plateP l
  case neg =>
    rw [decide_eq_false hpl]
    exact Ok.neg (by simp) (bad (fun q => hpl q.1) c)
  rw [decide_eq_true hpl]
  refine Ok.pos rfl (Ok.kld c (.tail _ (.tail _ (.head _))) rfl (Ok.kld c (.tail _ (.tail _ (.head _))) rfl (Ok.own (r64_ok (f := x.1)) fun _ => ?_)))
  by_cases h1 : frP x.1
  case neg =>
    rw [decide_eq_false h1]
    exact Ok.neg (by simp) (bad (fun q => h1 q.2.1) c)
  rw [decide_eq_true h1]
  refine Ok.pos rfl (Ok.kld c (.tail _ (.tail _ (.head _))) rfl (Ok.kld c (.tail _ (.tail _ (.head _))) rfl (Ok.own (r64_ok (f := x.2)) fun _ => ?_)))
  by_cases h2 : frP x.2
  case neg =>
    rw [decide_eq_false h2]
    exact bad (fun q => h2 q.2.2) c
  rw [decide_eq_true h2]
  have hx : ptP x := ⟨h1, h2⟩
  have hq := paq_qp hx
  have epc := paq_pc hx
  rw [← epc] at c
  have tt : plateP l ∧ ptP x := ⟨hpl, hx⟩
  unfold r17_j0
  refine Ok.neg (by simp) (Ok.kld c (.tail _ (.tail _ (.head _))) rfl (Ok.kld c (.tail _ (.tail _ (.head _))) rfl (Ok.kld c (.tail _ (.tail _ (.head _))) rfl (Ok.kld c (.tail _ (.tail _ (.head _))) rfl ?_))))
  refine Ok.bind (r65_ok (a95A (k + 3)) (p := paq x) (hv.gr gHB) hb hpl.2.1 hq) fun r D ⟨gD, hr⟩ => ?_
  subst hr
  have c := c.gr gD
  have gHD := gHB.trans gD
  by_cases hin : inP l (paq x)
  case neg =>
    rw [decide_eq_false hin]
    refine Ok.neg (by simp) (Ok.kst1 c 1 rfl (by show _ < 1; decide) fun E nE _ c => Ok.kst1 c 0 rfl (by show _ < 1; decide) fun F nF _ c => Ok.kldB c (.tail _ (.head _)) rfl (Ok.kld c (.head _) rfl (Ok.ret ⟨toG c ?_, fun _ => ⟨⟨fun h => (by cases h), fun h => absurd h.1 hin⟩, rfl⟩, fun h => absurd tt h⟩)))
    simp only [List.set, List.mem_cons, List.not_mem_nil, or_false]
    rintro p (rfl | rfl | rfl) <;> dsimp only <;> omega
  rw [decide_eq_true hin]
  refine Ok.pos rfl ?_
  have c := (c.push .dfr).push (.loop .ready none 2 51 (F2 H.n (H.n + 1) (H.n + 1 + 1)))
  have nHD := gHD.1
  have gE := (Gr.push D .dfr).trans (Gr.push _ (.loop .ready none 2 51 (F2 H.n (H.n + 1) (H.n + 1 + 1))))
  show Ok ((callr (appA (k + 4)) (.fn 66 [.sl v] []) (D.n + 1) ((D.push .dfr).push (.loop .ready none 2 51 (F2 H.n (H.n + 1) (H.n + 1 + 1))))).bind _) _
  simp only [Hp.n_push] at c ⊢
  generalize (D.push .dfr).push (.loop .ready none 2 51 (F2 H.n (H.n + 1) (H.n + 1 + 1))) = E at *
  have c : Cb H E (outE (D.n + 1) D.n (H.n + 1 + 1) (H.n + 1) H.n (paq x) .ready none) := c
  have hkeys : ∀ p ∈ outE (D.n + 1) D.n (H.n + 1 + 1) (H.n + 1) H.n (paq x) .ready none, H.n ≤ p.1 := by
    unfold outE restE
    simp only [List.mem_cons, List.not_mem_nil, or_false]
    rintro p (rfl | rfl | rfl | rfl | rfl) <;> dsimp only <;> omega
  have gHE := toG c hkeys
  have hks : ∀ kk ∈ [D.n + 1, D.n, H.n + 1 + 1, H.n + 1, H.n], H.n ≤ kk := by
    simp only [List.mem_cons, List.not_mem_nil, or_false]
    rintro p (rfl | rfl | rfl | rfl | rfl) <;> omega
  have Y := mkYd (a := app (k + 3)) (yv := .yld (D.n + 1)) (arg := argC) (L := cs l) (ks := [D.n + 1, D.n, H.n + 1 + 1, H.n + 1, H.n]) (fun _ => outE (D.n + 1) D.n (H.n + 1 + 1) (H.n + 1) H.n (paq x) .ready none) (fun _ => outE (D.n + 1) D.n (H.n + 1 + 1) (H.n + 1) H.n (paq x) .done (some .ret)) (fun _ => rfl) (fun q => ∀ w ∈ q, rkC (paq x) w) (fun q => ∃ w ∈ q, ¬ rkC (paq x) w) (B := H) (Hs := E) gHE hks
    (fun q y H2 cbq hG hy => by
      refine Ok.mono (rnd2 (k := k) cbq hpl.2.1 hy hq) fun r H' h => ?_
      rcases h with ⟨hr, h1, h2⟩ | ⟨hr, h1, h2⟩
      · refine .inl ⟨hr, h1, fun w hw => ?_⟩
        rcases List.mem_append.1 hw with hw | hw
        · exact hG w hw
        · rw [List.mem_singleton] at hw; subst hw; exact h2
      · exact .inr ⟨hr, h1, y, by simp, h2⟩) (fun _ => rfl)
  refine Ok.bind (P := fun _ H' => (Cb H H' (outE (D.n + 1) D.n (H.n + 1 + 1) (H.n + 1) H.n (paq x) .ready none) ∧ rndP l (paq x)) ∨ (Cb H H' (outE (D.n + 1) D.n (H.n + 1 + 1) (H.n + 1) H.n (paq x) .done (some .ret)) ∧ ¬ rndP l (paq x))) ?_ ?_
  · show Ok ((r66 (app (k + 3)) v (.yld (D.n + 1)) E).map fun p => (AV.tup [], p.2)) _
    have h1 := r66_ok (a := app (k + 3)) (a95 (k + 2)) Y hv hb hpl.2.1 (H := E) (P := fun _ => False) ⟨Cb.start c.e c.nd, fun _ h => (by cases h), fun _ h => h.elim⟩
    obtain ⟨r, H', e, h⟩ := h1
    rw [e]
    refine Ok.ret ?_
    rcases h with ⟨h1, h2, _⟩ | ⟨q, hq, h1, w, hw, h2⟩
    · exact .inl ⟨c.trans h1 rfl, h2⟩
    · exact .inr ⟨c.trans h1 rfl, fun hk => h2 (hk w (hq.subset hw))⟩
  · rintro r G (⟨cb, hk⟩ | ⟨cb, hk⟩)
    · refine Ok.kend cb 0 rfl (.inl rfl) fun I nI _ cb => Ok.pos rfl ?_
      refine Ok.kst1 cb 3 rfl (by show _ < 1; decide) fun J nJ _ cb => Ok.kst1 cb 2 rfl (by show _ < 1; decide) fun L nL _ cb => Ok.kldB cb (.tail _ (.tail _ (.tail _ (.head _)))) rfl (Ok.kld cb (.tail _ (.tail _ (.head _))) rfl (Ok.kdfr cb (.tail _ (.head _)) (Ok.ret ⟨toG (cb.kill 1 rfl) ?_, fun _ => ⟨⟨fun _ => ⟨hin, hk⟩, fun _ => rfl⟩, rfl⟩, fun h => absurd tt h⟩)))
      simp only [outE, restE, List.set, List.mem_cons, List.not_mem_nil, or_false]
      rintro p (rfl | rfl | rfl | rfl | rfl) <;> dsimp only <;> omega
    · refine Ok.kend cb 0 rfl (.inr rfl) fun I nI _ cb => Ok.neg (by simp [jmp]) (Ok.pos rfl ?_)
      refine Ok.kldB cb (.tail _ (.tail _ (.tail _ (.head _)))) rfl (Ok.kld cb (.tail _ (.tail _ (.head _))) rfl (Ok.kdfr cb (.tail _ (.head _)) (Ok.ret ⟨toG (cb.kill 1 rfl) ?_, fun _ => ⟨⟨fun h => (by cases h), fun h => absurd h.2 hk⟩, rfl⟩, fun h => absurd tt h⟩)))
      simp only [outE, restE, List.set, List.mem_cons, List.not_mem_nil, or_false]
      rintro p (rfl | rfl | rfl | rfl | rfl) <;> dsimp only <;> omega
end Go.Lt.P2

namespace Go.Lt.P2
open Go Go.Lt Go.Proofs
/-! ### with more than twelve pairs of sides at corners, all corners are one -/
theorem sq_nn (x : Int) : 0 ≤ x * x := by
  rcases Int.le_total 0 x with h | h
  · exact Int.mul_nonneg h h
  · have := Int.mul_nonneg (show 0 ≤ -x by omega) (show 0 ≤ -x by omega)
    rw [Int.neg_mul_neg] at this; exact this
theorem sq_pos {x : Int} (h : x ≠ 0) : 0 < x * x := by
  have := sq_nn x
  have h2 : x * x ≠ 0 := fun e => h (by rcases Int.mul_eq_zero.1 e with h | h <;> exact h)
  omega
def on (s : Sd) (z : Pq) : Prop := atq s.1 s.2.1 z = (s.2.2 : Rat)
theorem crI_rat (s t : Sd) : ((crI s t : Int) : Rat) = (s.1 : Rat) * t.2.1 - (s.2.1 : Rat) * t.1 := by unfold crI; push_cast; rfl
theorem meet_uniq {s t : Sd} {z : Pq} (h : crI s t ≠ 0) (h1 : on s z) (h2 : on t z) : z = meetq s t := by
  have m := meet_on h
  have h0 := cast_ne h
  rw [crI_rat] at h0
  unfold on atq at *
  refine Prod.ext ?_ ?_
  · have : ((s.1 : Rat) * t.2.1 - (s.2.1 : Rat) * t.1) * (z.1 - (meetq s t).1) = 0 := by grind
    rcases Rat.mul_eq_zero.1 this with h | h
    · exact absurd h h0
    · grind
  · have : ((s.1 : Rat) * t.2.1 - (s.2.1 : Rat) * t.1) * (z.2 - (meetq s t).2) = 0 := by grind
    rcases Rat.mul_eq_zero.1 this with h | h
    · exact absurd h h0
    · grind
section
variable {l : List Sd}
def Ed (l : List Sd) (s t : Sd) : Prop := crI s t ≠ 0 ∧ inP l (meetq s t)
theorem Ed.sym {s t : Sd} (h : Ed l s t) : Ed l t s := ⟨by rw [crI_sym]; have := h.1; omega, by rw [meet_sym]; exact h.2⟩
/-- along a side -/
def al (s : Sd) (z : Pq) : Rat := (s.1 : Rat) * z.2 - (s.2.1 : Rat) * z.1
theorem al_inj {s : Sd} (hs : ¬ (s.1 = 0 ∧ s.2.1 = 0)) {z w : Pq} (h1 : on s z) (h2 : on s w) (h : al s z = al s w) : z = w := by
  unfold on al atq at *
  have hn : (s.1 : Rat) * s.1 + (s.2.1 : Rat) * s.2.1 ≠ 0 := by
    have h3 : 0 < s.1 * s.1 + s.2.1 * s.2.1 := by
      have a := sq_nn s.1
      have b := sq_nn s.2.1
      by_cases c : s.1 = 0
      · have d : s.2.1 ≠ 0 := fun d => hs ⟨c, d⟩
        have := sq_pos d
        omega
      · have := sq_pos c
        omega
    have := cast_ne (b := s.1 * s.1 + s.2.1 * s.2.1) (by omega)
    rw [Rat.intCast_add, Rat.intCast_mul, Rat.intCast_mul] at this
    exact this
  refine Prod.ext ?_ ?_
  · have : ((s.1 : Rat) * s.1 + (s.2.1 : Rat) * s.2.1) * (z.1 - w.1) = 0 := by grind
    rcases Rat.mul_eq_zero.1 this with h | h
    · exact absurd h hn
    · grind
  · have : ((s.1 : Rat) * s.1 + (s.2.1 : Rat) * s.2.1) * (z.2 - w.2) = 0 := by grind
    rcases Rat.mul_eq_zero.1 this with h | h
    · exact absurd h hn
    · grind
/-- what a side says grows or falls along another one -/
theorem al_step {s t : Sd} {z w : Pq} (h1 : on s z) (h2 : on s w) : ((s.1 : Rat) * s.1 + (s.2.1 : Rat) * s.2.1) * (atq t.1 t.2.1 z - atq t.1 t.2.1 w) = (crI s t : Rat) * (al s z - al s w) := by
  rw [crI_rat]
  unfold on al atq at *
  grind
/-- no corner on a side is between two other points of the plate on it -/
theorem no_mid {s t : Sd} (h : Ed l s t) (ht : t ∈ l) {p q : Pq} (hp : on s p) (hq : on s q) (ip : inP l p) (iq : inP l q) (h1 : al s p < al s (meetq s t)) (h2 : al s (meetq s t) < al s q) : False := by
  have m := meet_on h.1
  have a := al_step (t := t) hp m.1
  have b := al_step (t := t) hq m.1
  have kp := ip t ht
  have kq := iq t ht
  unfold lqs at kp kq
  have hn : 0 ≤ (s.1 : Rat) * s.1 + (s.2.1 : Rat) * s.2.1 := by
    have a := sq_nn s.1
    have b := sq_nn s.2.1
    have := castLe.2 (show (0 : Int) ≤ s.1 * s.1 + s.2.1 * s.2.1 by omega)
    rw [Rat.intCast_add, Rat.intCast_mul, Rat.intCast_mul] at this
    exact this
  have e1 := Rat.mul_nonneg hn (show 0 ≤ atq t.1 t.2.1 (meetq s t) - atq t.1 t.2.1 p by rw [m.2]; grind)
  have e2 := Rat.mul_nonneg hn (show 0 ≤ atq t.1 t.2.1 (meetq s t) - atq t.1 t.2.1 q by rw [m.2]; grind)
  have f1 : (crI s t : Rat) * (al s p - al s (meetq s t)) ≤ 0 := by grind
  have f2 : (crI s t : Rat) * (al s q - al s (meetq s t)) ≤ 0 := by grind
  by_cases hc : 0 < crI s t
  · have hc' : (0 : Rat) < (crI s t : Rat) := castLt.2 hc
    have := Rat.mul_pos hc' (show 0 < al s q - al s (meetq s t) by grind)
    grind
  · have hc' : (0 : Rat) < ((-crI s t : Int) : Rat) := castLt.2 (show (0 : Int) < -crI s t by have := h.1; omega)
    have := Rat.mul_pos hc' (show 0 < al s (meetq s t) - al s p by grind)
    rw [Rat.intCast_neg] at this
    grind
/-- of three corners on a side two are one -/
theorem two_of {s t u w : Sd} (hs : s ∈ l) (hp : ∀ s ∈ l, sideP s) (ht : t ∈ l) (hu : u ∈ l) (hw : w ∈ l) (h1 : Ed l s t) (h2 : Ed l s u) (h3 : Ed l s w) : meetq s t = meetq s u ∨ meetq s t = meetq s w ∨ meetq s u = meetq s w := by
  have hs0 : ¬ (s.1 = 0 ∧ s.2.1 = 0) := (hp s hs).2.2.1
  have m1 := (meet_on h1.1).1
  have m2 := (meet_on h2.1).1
  have m3 := (meet_on h3.1).1
  refine Classical.byContradiction fun hc => ?_
  have n1 : al s (meetq s t) ≠ al s (meetq s u) := fun e => hc (.inl (al_inj hs0 m1 m2 e))
  have n2 : al s (meetq s t) ≠ al s (meetq s w) := fun e => hc (.inr (.inl (al_inj hs0 m1 m3 e)))
  have n3 : al s (meetq s u) ≠ al s (meetq s w) := fun e => hc (.inr (.inr (al_inj hs0 m2 m3 e)))
  have k1 := fun p q hp hq ip iq => no_mid (p := p) (q := q) h1 ht hp hq ip iq
  have k2 := fun p q hp hq ip iq => no_mid (p := p) (q := q) h2 hu hp hq ip iq
  have k3 := fun p q hp hq ip iq => no_mid (p := p) (q := q) h3 hw hp hq ip iq
  have a1 := k1 _ _ m2 m3 h2.2 h3.2
  have a2 := k1 _ _ m3 m2 h3.2 h2.2
  have b1 := k2 _ _ m1 m3 h1.2 h3.2
  have b2 := k2 _ _ m3 m1 h3.2 h1.2
  have c1 := k3 _ _ m1 m2 h1.2 h2.2
  have c2 := k3 _ _ m2 m1 h2.2 h1.2
  clear k1 k2 k3
  generalize al s (meetq s t) = A at *
  generalize al s (meetq s u) = B at *
  generalize al s (meetq s w) = C at *
  grind
/-- two sides at one corner of a side, that meet a third side from another of its corners, go along -/
theorem no_two {u x x' y : Sd} (hp : ∀ s ∈ l, sideP s) (hu : u ∈ l) (hx : x ∈ l) (hx' : x' ∈ l) (hy : y ∈ l) (h1 : Ed l u x) (h2 : Ed l u x') (h3 : Ed l u y) (e : meetq u x = meetq u x') (ne : meetq u y ≠ meetq u x) (k1 : Ed l x y) (k2 : Ed l x' y) : ¬ Ed l x x' := by
  intro k
  have a1 := meet_on h1.1
  have a2 := meet_on h2.1
  have a3 := meet_on h3.1
  have b1 := meet_on k1.1
  have b2 := meet_on k2.1
  -- on y: the corner with u, with x, with x'
  have c1 : meetq y x ≠ meetq y u := fun q => by
    rw [meet_sym x y, meet_sym u y] at q
    exact ne (meet_uniq h1.1 a3.1 (by rw [← q]; exact b1.1))
  have c2 : meetq y x' ≠ meetq y u := fun q => by
    rw [meet_sym x' y, meet_sym u y] at q
    have := meet_uniq h2.1 a3.1 (by rw [← q]; exact b2.1)
    exact ne (by rw [this, e])
  rcases two_of hy hp hu hx hx' h3.sym k1.sym k2.sym with q | q | q
  · exact c1 q.symm
  · exact c2 q.symm
  · rw [meet_sym x y, meet_sym x' y] at q
    have d1 := meet_uniq k.1 b1.1 (by rw [q]; exact b2.1)
    have d2 := meet_uniq k.1 a1.2 (by rw [e]; exact a2.2)
    have d3 : meetq x y = meetq u x := by rw [d1, d2]
    have := meet_uniq h3.1 (by rw [← d3] at a1; exact a1.1) b1.2
    exact ne (by rw [← this, d3])
end
/-- of booleans alone -/
def T (s s' t a b c : Bool) : Bool := (s == s') && (s != t) && a && b && c
theorem bools : ∀ s2 s3 s4 s5 e12 e13 e14 e15 e23 e24 e25 e34 e35 e45 : Bool, 8 ≤ e12.toNat + e13.toNat + e14.toNat + e15.toNat + e23.toNat + e24.toNat + e25.toNat + e34.toNat + e35.toNat + e45.toNat → (T true s2 s3 e13 e23 e12 || T true s2 s4 e14 e24 e12 || T true s2 s5 e15 e25 e12 || T true s3 s2 e12 e23 e13 || T true s3 s4 e14 e34 e13 || T true s3 s5 e15 e35 e13 || T true s4 s2 e12 e24 e14 || T true s4 s3 e13 e34 e14 || T true s4 s5 e15 e45 e14 || T true s5 s2 e12 e25 e15 || T true s5 s3 e13 e35 e15 || T true s5 s4 e14 e45 e15 || T s2 s3 true e12 e13 e23 || T s2 s3 s4 e24 e34 e23 || T s2 s3 s5 e25 e35 e23 || T s2 s4 true e12 e14 e24 || T s2 s4 s3 e23 e34 e24 || T s2 s4 s5 e25 e45 e24 || T s2 s5 true e12 e15 e25 || T s2 s5 s3 e23 e35 e25 || T s2 s5 s4 e24 e45 e25 || T s3 s4 true e13 e14 e34 || T s3 s4 s2 e23 e24 e34 || T s3 s4 s5 e35 e45 e34 || T s3 s5 true e13 e15 e35 || T s3 s5 s2 e23 e25 e35 || T s3 s5 s4 e34 e45 e35 || T s4 s5 true e14 e15 e45 || T s4 s5 s2 e24 e25 e45 || T s4 s5 s3 e34 e35 e45) = false → (s2 && s3 && s4 && s5) = true := by decide +kernel
/-- one side meets all others -/
theorem bools6 : ∀ a1 a2 a3 a4 a5 b2 b3 b4 b5 c3 c4 c5 d4 d5 e5 : Bool, 13 ≤ a1.toNat + a2.toNat + a3.toNat + a4.toNat + a5.toNat + b2.toNat + b3.toNat + b4.toNat + b5.toNat + c3.toNat + c4.toNat + c5.toNat + d4.toNat + d5.toNat + e5.toNat →
    ((a1 && a2 && a3 && a4 && a5) || (a1 && b2 && b3 && b4 && b5) || (a2 && b2 && c3 && c4 && c5) || (a3 && b3 && c3 && d4 && d5) || (a4 && b4 && c4 && d4 && e5) || (a5 && b5 && c5 && d5 && e5)) = true := by decide +kernel
def ed (l : List Sd) (s t : Sd) : Bool := decide (crI s t ≠ 0 ∧ inP l (meetq s t))
theorem ed_iff {l : List Sd} {s t : Sd} : ed l s t = true ↔ Ed l s t := decide_eq_true_iff
theorem ed_symm (l : List Sd) (s t : Sd) : ed l s t = ed l t s := by
  refine Bool.eq_iff_iff.2 ?_
  rw [ed_iff, ed_iff]
  exact ⟨Ed.sym, Ed.sym⟩
section
variable {l : List Sd}
theorem colour (hp : ∀ s ∈ l, sideP s) {u x1 : Sd} (hu : u ∈ l) (h1 : x1 ∈ l) (E1 : Ed l u x1) {x x' y : Sd} (hx : x ∈ l) (hx' : x' ∈ l) (hy : y ∈ l) (ex : Ed l u x) (ex' : Ed l u x') (ey : Ed l u y) :
    T (decide (meetq u x = meetq u x1)) (decide (meetq u x' = meetq u x1)) (decide (meetq u y = meetq u x1)) (ed l x y) (ed l x' y) (ed l x x') = false := by
  refine Bool.eq_false_iff.2 fun h => ?_
  unfold T at h
  simp only [Bool.and_eq_true, beq_iff_eq, bne_iff_ne, ne_eq] at h
  obtain ⟨⟨⟨⟨a, b⟩, k1⟩, k2⟩, k3⟩ := h
  have hab : meetq u x = meetq u x' := by
    by_cases c : meetq u x = meetq u x1
    · have : meetq u x' = meetq u x1 := of_decide_eq_true (by rw [← a]; exact decide_eq_true c)
      rw [c, this]
    · have c' : ¬ meetq u x' = meetq u x1 := of_decide_eq_false (by rw [← a]; exact decide_eq_false c)
      rcases two_of hu hp hx hx' h1 ex ex' E1 with q | q | q
      · exact q
      · exact absurd q c
      · exact absurd q c'
  have hne : meetq u y ≠ meetq u x := fun q => b (by rw [q])
  exact no_two hp hu hx hx' hy ex ex' ey hab hne (ed_iff.1 k1) (ed_iff.1 k2) (ed_iff.1 k3)
theorem one_pt (hp : ∀ s ∈ l, sideP s) {u x1 x2 x3 x4 x5 : Sd} (hu : u ∈ l) (h1 : x1 ∈ l) (h2 : x2 ∈ l) (h3 : x3 ∈ l) (h4 : x4 ∈ l) (h5 : x5 ∈ l) (E1 : Ed l u x1) (E2 : Ed l u x2) (E3 : Ed l u x3) (E4 : Ed l u x4) (E5 : Ed l u x5)
    (hc : 8 ≤ (ed l x1 x2).toNat + (ed l x1 x3).toNat + (ed l x1 x4).toNat + (ed l x1 x5).toNat + (ed l x2 x3).toNat + (ed l x2 x4).toNat + (ed l x2 x5).toNat + (ed l x3 x4).toNat + (ed l x3 x5).toNat + (ed l x4 x5).toNat) : ∀ x ∈ [u, x1, x2, x3, x4, x5], on x (meetq u x1) := by
  have key := bools (decide (meetq u x2 = meetq u x1)) (decide (meetq u x3 = meetq u x1)) (decide (meetq u x4 = meetq u x1)) (decide (meetq u x5 = meetq u x1)) (ed l x1 x2) (ed l x1 x3) (ed l x1 x4) (ed l x1 x5) (ed l x2 x3) (ed l x2 x4) (ed l x2 x5) (ed l x3 x4) (ed l x3 x5) (ed l x4 x5) hc ?_
  · simp only [Bool.and_eq_true, decide_eq_true_iff] at key
    obtain ⟨⟨⟨k2, k3⟩, k4⟩, k5⟩ := key
    intro x hx
    simp only [List.mem_cons, List.not_mem_nil, or_false] at hx
    rcases hx with rfl | rfl | rfl | rfl | rfl | rfl
    · exact (meet_on E1.1).1
    · exact (meet_on E1.1).2
    · rw [← k2]; exact (meet_on E2.1).2
    · rw [← k3]; exact (meet_on E3.1).2
    · rw [← k4]; exact (meet_on E4.1).2
    · rw [← k5]; exact (meet_on E5.1).2
  · have z : true = decide (meetq u x1 = meetq u x1) := (decide_eq_true rfl).symm
    have t123 : T true (decide (meetq u x2 = meetq u x1)) (decide (meetq u x3 = meetq u x1)) (ed l x1 x3) (ed l x2 x3) (ed l x1 x2) = false := by
      have f := colour hp hu h1 E1 h1 h2 h3 E1 E2 E3
      rw [← z] at f
      exact f
    have t124 : T true (decide (meetq u x2 = meetq u x1)) (decide (meetq u x4 = meetq u x1)) (ed l x1 x4) (ed l x2 x4) (ed l x1 x2) = false := by
      have f := colour hp hu h1 E1 h1 h2 h4 E1 E2 E4
      rw [← z] at f
      exact f
    have t125 : T true (decide (meetq u x2 = meetq u x1)) (decide (meetq u x5 = meetq u x1)) (ed l x1 x5) (ed l x2 x5) (ed l x1 x2) = false := by
      have f := colour hp hu h1 E1 h1 h2 h5 E1 E2 E5
      rw [← z] at f
      exact f
    have t132 : T true (decide (meetq u x3 = meetq u x1)) (decide (meetq u x2 = meetq u x1)) (ed l x1 x2) (ed l x2 x3) (ed l x1 x3) = false := by
      have f := colour hp hu h1 E1 h1 h3 h2 E1 E3 E2
      rw [← z, ed_symm l x3 x2] at f
      exact f
    have t134 : T true (decide (meetq u x3 = meetq u x1)) (decide (meetq u x4 = meetq u x1)) (ed l x1 x4) (ed l x3 x4) (ed l x1 x3) = false := by
      have f := colour hp hu h1 E1 h1 h3 h4 E1 E3 E4
      rw [← z] at f
      exact f
    have t135 : T true (decide (meetq u x3 = meetq u x1)) (decide (meetq u x5 = meetq u x1)) (ed l x1 x5) (ed l x3 x5) (ed l x1 x3) = false := by
      have f := colour hp hu h1 E1 h1 h3 h5 E1 E3 E5
      rw [← z] at f
      exact f
    have t142 : T true (decide (meetq u x4 = meetq u x1)) (decide (meetq u x2 = meetq u x1)) (ed l x1 x2) (ed l x2 x4) (ed l x1 x4) = false := by
      have f := colour hp hu h1 E1 h1 h4 h2 E1 E4 E2
      rw [← z, ed_symm l x4 x2] at f
      exact f
    have t143 : T true (decide (meetq u x4 = meetq u x1)) (decide (meetq u x3 = meetq u x1)) (ed l x1 x3) (ed l x3 x4) (ed l x1 x4) = false := by
      have f := colour hp hu h1 E1 h1 h4 h3 E1 E4 E3
      rw [← z, ed_symm l x4 x3] at f
      exact f
    have t145 : T true (decide (meetq u x4 = meetq u x1)) (decide (meetq u x5 = meetq u x1)) (ed l x1 x5) (ed l x4 x5) (ed l x1 x4) = false := by
      have f := colour hp hu h1 E1 h1 h4 h5 E1 E4 E5
      rw [← z] at f
      exact f
    have t152 : T true (decide (meetq u x5 = meetq u x1)) (decide (meetq u x2 = meetq u x1)) (ed l x1 x2) (ed l x2 x5) (ed l x1 x5) = false := by
      have f := colour hp hu h1 E1 h1 h5 h2 E1 E5 E2
      rw [← z, ed_symm l x5 x2] at f
      exact f
    have t153 : T true (decide (meetq u x5 = meetq u x1)) (decide (meetq u x3 = meetq u x1)) (ed l x1 x3) (ed l x3 x5) (ed l x1 x5) = false := by
      have f := colour hp hu h1 E1 h1 h5 h3 E1 E5 E3
      rw [← z, ed_symm l x5 x3] at f
      exact f
    have t154 : T true (decide (meetq u x5 = meetq u x1)) (decide (meetq u x4 = meetq u x1)) (ed l x1 x4) (ed l x4 x5) (ed l x1 x5) = false := by
      have f := colour hp hu h1 E1 h1 h5 h4 E1 E5 E4
      rw [← z, ed_symm l x5 x4] at f
      exact f
    have t231 : T (decide (meetq u x2 = meetq u x1)) (decide (meetq u x3 = meetq u x1)) true (ed l x1 x2) (ed l x1 x3) (ed l x2 x3) = false := by
      have f := colour hp hu h1 E1 h2 h3 h1 E2 E3 E1
      rw [← z, ed_symm l x2 x1, ed_symm l x3 x1] at f
      exact f
    have t234 : T (decide (meetq u x2 = meetq u x1)) (decide (meetq u x3 = meetq u x1)) (decide (meetq u x4 = meetq u x1)) (ed l x2 x4) (ed l x3 x4) (ed l x2 x3) = false := by
      have f := colour hp hu h1 E1 h2 h3 h4 E2 E3 E4
      exact f
    have t235 : T (decide (meetq u x2 = meetq u x1)) (decide (meetq u x3 = meetq u x1)) (decide (meetq u x5 = meetq u x1)) (ed l x2 x5) (ed l x3 x5) (ed l x2 x3) = false := by
      have f := colour hp hu h1 E1 h2 h3 h5 E2 E3 E5
      exact f
    have t241 : T (decide (meetq u x2 = meetq u x1)) (decide (meetq u x4 = meetq u x1)) true (ed l x1 x2) (ed l x1 x4) (ed l x2 x4) = false := by
      have f := colour hp hu h1 E1 h2 h4 h1 E2 E4 E1
      rw [← z, ed_symm l x2 x1, ed_symm l x4 x1] at f
      exact f
    have t243 : T (decide (meetq u x2 = meetq u x1)) (decide (meetq u x4 = meetq u x1)) (decide (meetq u x3 = meetq u x1)) (ed l x2 x3) (ed l x3 x4) (ed l x2 x4) = false := by
      have f := colour hp hu h1 E1 h2 h4 h3 E2 E4 E3
      rw [ed_symm l x4 x3] at f
      exact f
    have t245 : T (decide (meetq u x2 = meetq u x1)) (decide (meetq u x4 = meetq u x1)) (decide (meetq u x5 = meetq u x1)) (ed l x2 x5) (ed l x4 x5) (ed l x2 x4) = false := by
      have f := colour hp hu h1 E1 h2 h4 h5 E2 E4 E5
      exact f
    have t251 : T (decide (meetq u x2 = meetq u x1)) (decide (meetq u x5 = meetq u x1)) true (ed l x1 x2) (ed l x1 x5) (ed l x2 x5) = false := by
      have f := colour hp hu h1 E1 h2 h5 h1 E2 E5 E1
      rw [← z, ed_symm l x2 x1, ed_symm l x5 x1] at f
      exact f
    have t253 : T (decide (meetq u x2 = meetq u x1)) (decide (meetq u x5 = meetq u x1)) (decide (meetq u x3 = meetq u x1)) (ed l x2 x3) (ed l x3 x5) (ed l x2 x5) = false := by
      have f := colour hp hu h1 E1 h2 h5 h3 E2 E5 E3
      rw [ed_symm l x5 x3] at f
      exact f
    have t254 : T (decide (meetq u x2 = meetq u x1)) (decide (meetq u x5 = meetq u x1)) (decide (meetq u x4 = meetq u x1)) (ed l x2 x4) (ed l x4 x5) (ed l x2 x5) = false := by
      have f := colour hp hu h1 E1 h2 h5 h4 E2 E5 E4
      rw [ed_symm l x5 x4] at f
      exact f
    have t341 : T (decide (meetq u x3 = meetq u x1)) (decide (meetq u x4 = meetq u x1)) true (ed l x1 x3) (ed l x1 x4) (ed l x3 x4) = false := by
      have f := colour hp hu h1 E1 h3 h4 h1 E3 E4 E1
      rw [← z, ed_symm l x3 x1, ed_symm l x4 x1] at f
      exact f
    have t342 : T (decide (meetq u x3 = meetq u x1)) (decide (meetq u x4 = meetq u x1)) (decide (meetq u x2 = meetq u x1)) (ed l x2 x3) (ed l x2 x4) (ed l x3 x4) = false := by
      have f := colour hp hu h1 E1 h3 h4 h2 E3 E4 E2
      rw [ed_symm l x3 x2, ed_symm l x4 x2] at f
      exact f
    have t345 : T (decide (meetq u x3 = meetq u x1)) (decide (meetq u x4 = meetq u x1)) (decide (meetq u x5 = meetq u x1)) (ed l x3 x5) (ed l x4 x5) (ed l x3 x4) = false := by
      have f := colour hp hu h1 E1 h3 h4 h5 E3 E4 E5
      exact f
    have t351 : T (decide (meetq u x3 = meetq u x1)) (decide (meetq u x5 = meetq u x1)) true (ed l x1 x3) (ed l x1 x5) (ed l x3 x5) = false := by
      have f := colour hp hu h1 E1 h3 h5 h1 E3 E5 E1
      rw [← z, ed_symm l x3 x1, ed_symm l x5 x1] at f
      exact f
    have t352 : T (decide (meetq u x3 = meetq u x1)) (decide (meetq u x5 = meetq u x1)) (decide (meetq u x2 = meetq u x1)) (ed l x2 x3) (ed l x2 x5) (ed l x3 x5) = false := by
      have f := colour hp hu h1 E1 h3 h5 h2 E3 E5 E2
      rw [ed_symm l x3 x2, ed_symm l x5 x2] at f
      exact f
    have t354 : T (decide (meetq u x3 = meetq u x1)) (decide (meetq u x5 = meetq u x1)) (decide (meetq u x4 = meetq u x1)) (ed l x3 x4) (ed l x4 x5) (ed l x3 x5) = false := by
      have f := colour hp hu h1 E1 h3 h5 h4 E3 E5 E4
      rw [ed_symm l x5 x4] at f
      exact f
    have t451 : T (decide (meetq u x4 = meetq u x1)) (decide (meetq u x5 = meetq u x1)) true (ed l x1 x4) (ed l x1 x5) (ed l x4 x5) = false := by
      have f := colour hp hu h1 E1 h4 h5 h1 E4 E5 E1
      rw [← z, ed_symm l x4 x1, ed_symm l x5 x1] at f
      exact f
    have t452 : T (decide (meetq u x4 = meetq u x1)) (decide (meetq u x5 = meetq u x1)) (decide (meetq u x2 = meetq u x1)) (ed l x2 x4) (ed l x2 x5) (ed l x4 x5) = false := by
      have f := colour hp hu h1 E1 h4 h5 h2 E4 E5 E2
      rw [ed_symm l x4 x2, ed_symm l x5 x2] at f
      exact f
    have t453 : T (decide (meetq u x4 = meetq u x1)) (decide (meetq u x5 = meetq u x1)) (decide (meetq u x3 = meetq u x1)) (ed l x3 x4) (ed l x3 x5) (ed l x4 x5) = false := by
      have f := colour hp hu h1 E1 h4 h5 h3 E4 E5 E3
      rw [ed_symm l x4 x3, ed_symm l x5 x3] at f
      exact f
    rw [t123, t124, t125, t132, t134, t135, t142, t143, t145, t152, t153, t154, t231, t234, t235, t241, t243, t245, t251, t253, t254, t341, t342, t345, t351, t352, t354, t451, t452, t453]
    rfl
end
end Go.Lt.P2
