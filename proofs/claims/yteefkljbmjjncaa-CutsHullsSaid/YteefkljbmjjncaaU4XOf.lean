/- PLAIN LAWS OF WHAT IS COMPUTED, for the statement 'CutsHulls'. Nothing is asked of the input. -/
import Derived.Test.YteefkljbmjjncaaU4XBy
set_option linter.unusedVariables false
set_option linter.unusedSimpArgs false
namespace Go.Lt.P2
open Go Go.Lt Go.Proofs
theorem AccL.lo {T : Type} [El T] {n0 n1 : Nat} {H : Hp} {v : Sl} {l : List T} (h : AccL n0 H v l) (hn : n1 ≤ n0) : AccL n1 H v l := by
  rcases h with h | ⟨a, b, c, d, e, f⟩
  · exact .inl h
  · exact .inr ⟨a, b, c, d, Nat.le_trans hn e, f⟩
/-- all floors of corners are near -/
theorem floor_bd {q : Rat} {N D : Int} (h : qb N D q) (hN : 0 ≤ N) : -N - 1 ≤ q.floor ∧ q.floor ≤ N := by
  obtain ⟨h1, h2, h3⟩ := h
  have hp := fq_pos q
  have := (floor_iff (f := q.floor) (n := (fq q).1) hp).1 (by rw [dv_fq])
  generalize q.floor = f at *
  generalize (fq q).1 = n at *
  generalize (fq q).2 = d at *
  constructor
  · refine Classical.byContradiction fun hc => ?_
    have : (f + 1) * d ≤ (-N - 1) * 1 := by
      have h4 : 0 ≤ (-N - 1 - (f + 1)) * d := Int.mul_nonneg (by omega) (by omega)
      have h5 : 0 ≤ (N + 1) * (d - 1) := Int.mul_nonneg (by omega) (by omega)
      grind
    omega
  · refine Classical.byContradiction fun hc => ?_
    have : (N + 1) * 1 ≤ f * d := by
      have h4 : 0 ≤ (f - (N + 1)) * d := Int.mul_nonneg (by omega) (by omega)
      have h5 : 0 ≤ (N + 1) * (d - 1) := Int.mul_nonneg (by omega) (by omega)
      grind
    omega
def bbd (st : Bst) : Prop := ((-1000 ≤ st.1.1 ∧ st.1.1 ≤ 1000) ∧ -1000 ≤ st.1.2 ∧ st.1.2 ≤ 1000) ∧ (-1000 ≤ st.2.1.1 ∧ st.2.1.1 ≤ 1000) ∧ -1000 ≤ st.2.1.2 ∧ st.2.1.2 ≤ 1000
theorem bup_bd {st : Bst} {c : Cn} (h : bbd st) (hc : qb 320 32 c.1.1 ∧ qb 320 32 c.1.2) : bbd (bup st c) := by
  have h1 := floor_bd hc.1 (by decide)
  have h2 := floor_bd hc.2 (by decide)
  unfold bbd bup up1 up0 nlo nhi flp at *
  dsimp only
  refine ⟨⟨?_, ?_⟩, ?_, ?_⟩ <;> split <;> omega
theorem bxs_bd {l : List Sd} (hs : ∀ s ∈ l, sideP s) : bbd (bxs (cs l)) := by
  have key : ∀ (q : List Cn) (st : Bst), bbd st → (∀ c ∈ q, c ∈ cs l) → bbd (q.foldl bup st) := by
    intro q
    induction q with
    | nil => intro st h _; exact h
    | cons c q ih =>
      intro st h hm
      have hc := cs_mem (hm c (.head _))
      exact ih _ (bup_bd h (by rw [hc.2.2.2.1]; exact meet_qb (hs _ hc.1) (hs _ hc.2.1) hc.2.2.1)) fun x hx => hm x (.tail _ hx)
  exact key (cs l) _ (by unfold bbd; dsimp only; omega) fun _ h => h
def pts (l : List Sd) : List Pr := if (bxs (cs l)).2.2 = true then grid l (bxs (cs l)).1 (bxs (cs l)).2.1 else []
theorem pts_len {l : List Sd} (hs : ∀ s ∈ l, sideP s) : (pts l).length ≤ 4100000 := by
  unfold pts
  split
  · have h := grid_len l (bxs (cs l)).1 (bxs (cs l)).2.1
    have b := bxs_bd hs
    unfold bbd at b
    have : ((bxs (cs l)).2.1.1 + 1 - (bxs (cs l)).1.1).toNat * ((bxs (cs l)).2.1.2 + 1 - (bxs (cs l)).1.2).toNat ≤ 2001 * 2001 := Nat.mul_le_mul (by omega) (by omega)
    omega
  · simp
theorem row_bd {l : List Sd} {lo hi x : Int} (h : -1000 ≤ lo) (h2 : hi ≤ 1000) : (row l lo hi x).length ≤ 2001 := by
  have := row_len l lo hi x
  omega
theorem keep_in {l : List Sd} {x y : Int} : inP l ((x : Rat), (y : Rat)) ↔ ∀ s ∈ l, kp (x, y) s := by
  unfold inP kp
  constructor <;> intro h s hs
  · exact lqs_int.1 (h s hs)
  · exact lqs_int.2 (h s hs)
section
variable {a : App}
theorem r71_l1_ok (ha : A95 a) {A H : Hp} {v w : Sl} {l : List Sd} (hv : SL A v l) (hb : l.length ≤ 1000) (hs : ∀ s ∈ l, sideP s) {n1 n2 : Nat} {hi : Pr} {lo2 x : Int} (h2 : A.get n2 = some (.cells [.int .i64 hi.1, .int .i64 hi.2] false)) (g : Gr A H) {q : List Pr} (hacc : AccL A.n H w q) (hq : q.length ≤ 4100000)
    (hx : -1000 ≤ x ∧ x ≤ 1000) (hlo : -1000 ≤ lo2 ∧ lo2 ≤ 1000) (hhi : -1000 ≤ hi.2 ∧ hi.2 ≤ 1000) {kt : Sl → Nat → Nat → Sl → Int → Hp → Option (Sl × Hp)} {Q : Sl → Hp → Prop} (kN : ∀ w' H', Gr A H' → AccL A.n H' w' (q ++ row l lo2 hi.2 x) → Ok (kt v n1 n2 w' (x + 1) H') Q) :
    Ok (r71_l1 a kt FUEL v n1 n2 w x lo2 H) Q := by
  refine Ok.loop (L := fun K (s : Sl × Int) H2 => r71_l1 a kt K v n1 n2 s.1 x s.2 H2) (fun m s H' => Gr A H' ∧ (lo2 ≤ s.2 ∧ (s.2 ≤ hi.2 + 1 ∨ s.2 = lo2)) ∧ m = (hi.2 + 1 - s.2).toNat ∧ AccL A.n H' s.1 (q ++ row l lo2 (s.2 - 1) x)) ?_ FUEL (hi.2 + 1 - lo2).toNat (w, lo2) H (by unfold FUEL; omega) ⟨g, ⟨by simp, .inr rfl⟩, rfl, by
    have : row l lo2 (lo2 - 1) x = [] := by unfold row; rw [ints_nil (by omega)]; rfl
    rw [this, List.append_nil]; exact hacc⟩
  rintro K m ⟨w, y⟩ H1 ⟨g1, hy, hm, hacc⟩ ih
  try dsimp only at *
  rw [r71_l1]
  have h2' : H1.get n2 = some (.cells [.int .i64 hi.1, .int .i64 hi.2] false) := by rw [g1.2 _ (Hp.get_lt h2)]; exact h2
  refine Ok.ld (ldI_get h2' rfl) ?_
  by_cases h : y ≤ hi.2
  · refine Ok.pos h (Ok.own (r80_q (by omega) (by omega)) fun X => Ok.bind (r65_ok ha (p := ((x : Rat), (y : Rat))) (hv.gr g1) hb hs (qp_int (by omega) (by omega))) fun r D ⟨gD, hr⟩ => ?_)
    subst hr
    rw [w64_id (n := y + 1) (by omega) (by omega)]
    have er := row_snoc (l := l) (x := x) (show lo2 ≤ y by omega)
    have hlen := row_bd (l := l) (x := x) (lo := lo2) (hi := y - 1) (by omega) (by omega)
    by_cases hk : ∀ s ∈ l, kp (x, y) s
    · rw [decide_eq_true (keep_in.2 hk)]
      rw [if_pos hk] at er
      refine Ok.pos rfl (Ok.bind ((hacc.gr gD).push (g1.trans gD) (x, y) rfl rfl (by rw [List.length_append]; omega)) fun w' E ⟨ha', gE, _⟩ => ?_)
      refine ih (m - 1) (w', y + 1) E (by omega) ⟨gE, by omega, by omega, ?_⟩
      dsimp only
      rw [show y + 1 - 1 = y by omega, er, ← List.append_assoc]
      exact ha'
    · rw [decide_eq_false (fun q => hk (keep_in.1 q))]
      rw [if_neg hk, List.append_nil] at er
      refine Ok.neg (by simp) (ih (m - 1) (w, y + 1) D (by omega) ⟨g1.trans gD, by omega, by omega, ?_⟩)
      dsimp only
      rw [show y + 1 - 1 = y by omega, er]
      exact hacc.gr gD
  · refine Ok.neg h ?_
    rw [w64_id (n := x + 1) (by omega) (by omega)]
    refine kN w H1 g1 ?_
    have : row l lo2 (y - 1) x = row l lo2 hi.2 x := by
      by_cases h3 : y ≤ hi.2 + 1
      · rw [show y - 1 = hi.2 by omega]
      · unfold row; rw [ints_nil (by omega), ints_nil (by omega)]
    rw [← this]; exact hacc
/-- points -/
theorem r71_ok {k : Nat} {H : Hp} {v : Sl} {l : List Sd} (hv : SL H v l) (hb : l.length ≤ 1000) (hs : ∀ s ∈ l, sideP s) : Ok (r71 (appA (k + 2)) v H) fun w H' => Gr H H' ∧ AccL H.n H' w (pts l) := by
  unfold r71
  refine Ok.bind (r101_ok hv hb hs) fun r A ⟨gA, hr⟩ => ?_
  subst hr
  have bd := bxs_bd hs
  unfold pts
  generalize bxs (cs l) = st at *
  obtain ⟨lo, hi, ok⟩ := st
  unfold bbd at bd
  dsimp only at bd ⊢
  have c0 : Cx A A [] := .nil A
  have c := (c0.push [.int .i64 0, .int .i64 0]).push [.int .i64 0, .int .i64 0]
  refine Ok.cst c 1 rfl rfl fun B _ _ c => Ok.cst c 0 rfl rfl fun C _ _ c => ?_
  have gC := gA.trans c.g
  by_cases hok : ok = true
  · simp only [if_pos hok]
    refine Ok.cld c (.tail _ (.head _)) rfl ?_
    have h1 := c.e _ (.tail _ (.head _))
    have h2 := c.e _ (.head _)
    have hvC := hv.gr gC
    refine Ok.mono (P := fun w H' => Gr C H' ∧ AccL C.n H' w (grid l lo hi)) ?_ fun w H' h => ⟨gC.trans h.1, AccL.lo h.2 gC.1⟩
    refine Ok.loop (L := fun K (s : Sl × Int) H2 => r71_l0 (appA (k + 2)) K v A.n _ s.1 s.2 H2) (fun m s H' => Gr C H' ∧ (lo.1 ≤ s.2 ∧ (s.2 ≤ hi.1 + 1 ∨ s.2 = lo.1)) ∧ m = (hi.1 + 1 - s.2).toNat ∧ AccL C.n H' s.1 ((ints lo.1 (s.2 - 1)).flatMap (row l lo.2 hi.2))) ?_ FUEL (hi.1 + 1 - lo.1).toNat (⟨true, 0, 0, 0, 0, 0⟩, lo.1) C (by unfold FUEL; omega) ⟨.refl _, ⟨by simp, .inr rfl⟩, rfl, by dsimp only; rw [ints_nil (by omega)]; exact AccL.nilS⟩
    rintro K m ⟨w, x⟩ H1 ⟨g1, hx, hm, hacc⟩ ih
    try dsimp only at *
    rw [r71_l0]
    have h1' := h1
    have h2' := h2
    rw [← g1.2 _ (Hp.get_lt h1)] at h1'
    rw [← g1.2 _ (Hp.get_lt h2)] at h2'
    refine Ok.ld (ldI_get h2' rfl) ?_
    by_cases h : x ≤ hi.1
    · refine Ok.pos h (Ok.ld (ldI_get h1' rfl) ?_)
      have hlen : ((ints lo.1 (x - 1)).flatMap (row l lo.2 hi.2)).length ≤ 4100000 := by
        have := grid_len l lo (x - 1, hi.2)
        have h3 : ((x - 1 : Int) + 1 - lo.1).toNat * (hi.2 + 1 - lo.2).toNat ≤ 2001 * 2001 := Nat.mul_le_mul (by omega) (by omega)
        unfold grid at this
        dsimp only at this
        omega
      refine r71_l1_ok (a95A _) hvC hb hs h2 g1 hacc hlen (by omega) bd.1.2 bd.2.2 fun w' H' g' hacc' => ?_
      refine ih (m - 1) (w', x + 1) H' (by omega) ⟨g', by omega, by omega, ?_⟩
      dsimp only
      rw [show x + 1 - 1 = x by omega, ints_snoc (show lo.1 ≤ x by omega), List.flatMap_append, List.flatMap_singleton]
      exact hacc'
    · refine Ok.neg h (Ok.ret ⟨g1, ?_⟩)
      unfold grid
      by_cases h3 : x ≤ hi.1 + 1
      · rw [show hi.1 = x - 1 by omega]; exact hacc
      · rw [ints_nil (by omega)] at hacc ⊢; exact hacc
  · simp only [if_neg hok]
    exact Ok.ret ⟨gC, AccL.nilS⟩
/-- Points -/
theorem r40_ok {k : Nat} {H : Hp} {v : Sl} {l : List Sd} (hv : SL H v l) (hb : l.length ≤ 1000) : Ok (r40 (appA (k + 2)) v H) fun r H' => Gr H H' ∧ if plateP l then AccL H.n H' r.1 (pts l) ∧ r.2 = 0 else r = (⟨true, 0, 0, 0, 0, 0⟩, 2) := by
  unfold r40
  refine Ok.bind (r63_ok (k := k + 1) hv hb) fun b A ⟨gA, hbb⟩ => ?_
  subst hbb
  by_cases hp : plateP l
  · rw [decide_eq_true hp]
    simp only [if_pos hp]
    exact Ok.pos (by simp) (Ok.bind (r71_ok (hv.gr gA) hb hp.2.1) fun w B ⟨gB, hw⟩ => Ok.ret ⟨gA.trans gB, AccL.lo hw gA.1, rfl⟩)
  · rw [decide_eq_false hp]
    simp only [if_neg hp]
    exact Ok.neg (by simp) (Ok.ret ⟨gA, rfl⟩)
end
end Go.Lt.P2

namespace Go.Lt.P2
open Go Go.Lt Go.Proofs
theorem pts_near {l : List Sd} (hs : ∀ s ∈ l, sideP s) : ∀ p ∈ pts l, near3 p := fun p hp => by
  unfold pts at hp
  have b := bxs_bd hs
  unfold bbd at b
  split at hp
  · have := (mem_grid.1 hp).1
    unfold near3
    omega
  · cases hp
theorem AccL.own {T : Type} [El T] {n0 : Nat} {H : Hp} {v : Sl} {l : List T} (h : AccL n0 H v l) (hne : l ≠ []) : Own H v l ∧ n0 ≤ v.b := by
  have hlen := AccL.len h
  rcases h with ⟨rfl, e⟩ | ⟨h1, h2, h3, h4, h5, h6, h7⟩
  · exact absurd (List.length_eq_zero_iff.1 (by rw [← hlen]; rfl)) hne
  · exact ⟨⟨h1, h2, hlen, by omega, .inr h3, h6⟩, h5⟩
def hulR (l : List Pr) : Int × List Pr := if l.length = 0 then (4, []) else if l.length = 1 then (0, l) else (0, hul l)
theorem chn_ne {l : List Pr} (h : l ≠ []) : chn l ≠ [] := by
  unfold chn
  rw [← List.dropLast_concat_getLast h, stk_snoc]
  simp
theorem chn_len (l : List Pr) : (chn l).length ≤ l.length := by unfold chn; rw [List.length_reverse]; exact stk_len l
/-- Hull -/
theorem r23_ok {k : Nat} {H : Hp} {v : Sl} {l : List Sd} (hv : SL H v l) (hb : l.length ≤ 1000) : Ok (r23 (appA (k + 2)) v H) fun r H' => Gr H H' ∧ if plateP l then SL H' r.1 (hulR (pts l)).2 ∧ r.2 = (hulR (pts l)).1 else r = (⟨true, 0, 0, 0, 0, 0⟩, 2) := by
  unfold r23
  refine Ok.bind (r63_ok (k := k + 1) hv hb) fun b A ⟨gA, hbb⟩ => ?_
  subst hbb
  by_cases hp : plateP l
  case neg =>
    rw [decide_eq_false hp]
    simp only [if_neg hp]
    exact Ok.neg (by simp) (Ok.ret ⟨gA, rfl⟩)
  rw [decide_eq_true hp]
  simp only [if_pos hp]
  have hn := pts_near hp.2.1
  have hpl := pts_len hp.2.1
  refine Ok.pos (by simp) (Ok.bind (r71_ok (hv.gr gA) hb hp.2.1) fun w B ⟨gB, hw⟩ => ?_)
  have hwl := AccL.len hw
  have gHB := gA.trans gB
  generalize pts l = q at *
  unfold hulR
  by_cases h0 : q.length = 0
  · rw [if_pos h0]
    exact Ok.pos (by dsimp only; omega) (Ok.ret ⟨gHB, .nilS, rfl⟩)
  rw [if_neg h0]
  by_cases h1 : q.length = 1
  · rw [if_pos h1]
    exact Ok.neg (by dsimp only; omega) (Ok.pos (by dsimp only; omega) (Ok.ret ⟨gHB, AccL.sl hw, rfl⟩))
  rw [if_neg h1]
  have hne : q ≠ [] := by rintro rfl; exact h0 rfl
  obtain ⟨ow, hwb⟩ := AccL.own hw hne
  refine Ok.neg (by dsimp only; omega) (Ok.neg (by dsimp only; omega) (Ok.bind (r72_ok ow.sl (by omega) hn) fun lo C ⟨gC, hlo⟩ => ?_))
  refine Ok.bind (r73_ok (ow.gr gC) (by omega)) fun _ D ⟨ow2, onD⟩ => ?_
  have hlob : lo.nil = false → lo.b ≠ w.b := fun hn => by have h1 := (hlo.lt hn).2; have h2 := Hp.get_lt ow.get; dsimp only at h1; omega
  have hloD : Buf B.n D lo (chn q) := hlo.keep fun hn => onD.2 _ (hlo.lt hn).1 (hlob hn)
  refine Ok.bind (r72_ok ow2.sl (by rw [List.length_reverse]; omega) fun p hp => hn p (List.mem_reverse.1 hp)) fun hi E ⟨gE, hhi⟩ => ?_
  have hloE := hloD.gr gE
  have ll := hloE.len
  have lh := hhi.len
  have nl := List.length_pos_iff.2 (chn_ne hne)
  have nh := List.length_pos_iff.2 (chn_ne (show q.reverse ≠ [] by simpa using hne))
  have bl := chn_len q
  have bh := chn_len q.reverse
  rw [List.length_reverse] at bh
  have cl := hloE.sl.cap
  have chp := hhi.sl.cap
  have co := hhi.sl.opn
  have es : El.sz Pr = 2 := rfl
  rw [es] at co
  have e1 : (w64 ((lo.len : Int) - 1)).toNat = lo.len - 1 := by rw [w64_id (by omega) (by omega)]; omega
  have e2 : (w64 ((hi.len : Int) - 1)).toNat = hi.len - 1 := by rw [w64_id (by omega) (by omega)]; omega
  have f1 : w64 ((lo.len : Int) - 1) = (lo.len : Int) - 1 := w64_id (by omega) (by omega)
  have f2 : w64 ((hi.len : Int) - 1) = (hi.len : Int) - 1 := w64_id (by omega) (by omega)
  dsimp only
  rw [e1, e2, f1, f2]
  refine Ok.ck (by omega) (Ok.ck ⟨by omega, co⟩ ?_)
  have c2 := hhi.sl.cut (lo := 0) (hi := hi.len - 1) (by omega) (by omega)
  have c1 := hloE.sl.cut3 (lo := 0) (hi := lo.len - 1) (mx := lo.len - 1) (by omega) (by omega) (Nat.le_refl _)
  rw [List.drop_zero, Nat.sub_zero] at c1 c2
  have d1 : (chn q).take (lo.len - 1) = (chn q).dropLast := by rw [ll, List.dropLast_eq_take]
  have d2 : (chn q.reverse).take (hi.len - 1) = (chn q.reverse).dropLast := by rw [lh, List.dropLast_eq_take]
  rw [d1] at c1
  rw [d2] at c2
  have l2 := c2.len
  refine Ok.ld c2.lds (Ok.ck (encs_all _) ?_)
  have l1 := c1.len
  have hcap : (lo.cut3 (El.sz Pr) 0 (lo.len - 1) (lo.len - 1)).cap = (lo.cut3 (El.sz Pr) 0 (lo.len - 1) (lo.len - 1)).len ∧ (lo.cut3 (El.sz Pr) 0 (lo.len - 1) (lo.len - 1)).opn = 0 := by
    have hnn := hloE.sl.nonnil (chn_ne hne)
    unfold Sl.cut3
    rw [if_neg (by simp [hnn])]
    exact ⟨rfl, rfl⟩
  refine Ok.bind (Go.Lt.P2.SL.app0 c1 hcap.1 hcap.2 rfl rfl l2 (by rw [List.length_dropLast, List.length_dropLast]; omega)) fun u F ⟨gF, hu⟩ => Ok.ret ⟨?_, hu, rfl⟩
  have gBD : Gr A D := ⟨Nat.le_trans gB.1 (Nat.le_trans gC.1 onD.1), fun b hb => by rw [onD.2 b (Nat.lt_of_lt_of_le hb (Nat.le_trans gB.1 gC.1)) (Nat.ne_of_lt (Nat.lt_of_lt_of_le hb hwb)), gC.2 b (Nat.lt_of_lt_of_le hb gB.1), gB.2 b hb]⟩
  exact gA.trans (gBD.trans (gE.trans gF))
end Go.Lt.P2

namespace Go.Lt.P2
open Go Go.Lt Go.Proofs
/-- left of the reference -/
theorem r74_ok {a b c : Pr} (ha : near3 a) (hb : near3 b) (hc : near3 c) : Ok (r74 a.1 a.2 b.1 b.2 c.1 c.2 H0) fun r _ => r = decide (0 < lft a b c) := by
  unfold near3 at ha hb hc
  have m1 := mul_bd (A := 2000) (B := 2000) (x := b.1 - a.1) (y := c.2 - a.2) (by omega) (by omega) (by omega) (by omega)
  have m2 := mul_bd (A := 2000) (B := 2000) (x := b.2 - a.2) (y := c.1 - a.1) (by omega) (by omega) (by omega) (by omega)
  unfold r74
  refine Ok.box3 (.nil H0) fun A _ cx => ?_
  refine Ok.cld cx (.tail _ (.head _)) rfl (Ok.cld cx (.tail _ (.tail _ (.head _))) rfl (Ok.cld cx (.head _) rfl (Ok.cld cx (.tail _ (.tail _ (.head _))) rfl (Ok.cld cx (.tail _ (.head _)) rfl (Ok.cld cx (.tail _ (.tail _ (.head _))) rfl (Ok.cld cx (.head _) rfl (Ok.cld cx (.tail _ (.tail _ (.head _))) rfl ?_)))))))
  rw [w64_id (n := b.1 - a.1) (by omega) (by omega), w64_id (n := b.2 - a.2) (by omega) (by omega), w64_id (n := c.1 - a.1) (by omega) (by omega), w64_id (n := c.2 - a.2) (by omega) (by omega), w64_id (n := (b.1 - a.1) * _) (by omega) (by omega), w64_id (n := (b.2 - a.2) * _) (by omega) (by omega), w64_id (by omega) (by omega), lft_eq]
  exact Ok.ret rfl
section
variable {B H : Hp} {w v u : Sl} {st : List Pr} {x : Pr} {c : Nat} {ln iv : Int} {Q : Sl × Int → Hp → Prop}
theorem r24_l1_ok {kt : Sl → Sl → Sl → Int → Int → Hp → Option ((Sl × Int) × Hp)} (hw : Buf B.n H w st.reverse) (g : Gr B H) (hc : H.get c = some (.cells [.int .i64 x.1, .int .i64 x.2] false)) (hst : ∀ p ∈ st, near3 p) (hx : near3 x) (hlen : st.length ≤ 10000000) (hiv : 0 ≤ iv ∧ iv < 1000000000)
    (kN : ∀ w' H', Gr B H' → Buf B.n H' w' (x :: pp x st).reverse → Ok (kt u w' v ln (iv + 1) H') Q) : Ok (r24_l1 kt FUEL u w c v ln iv H) Q := by
  refine Ok.loop (L := fun K (s : Sl) H2 => r24_l1 kt K u s c v ln iv H2) (fun m s H' => H' = H ∧ ∃ st', m = st'.length ∧ (st'.length ≤ st.length ∧ pp x st' = pp x st) ∧ (∀ p ∈ st', near3 p) ∧ Buf B.n H s st'.reverse) ?_ FUEL st.length w H (by unfold FUEL; omega) ⟨rfl, st, rfl, ⟨Nat.le_refl _, rfl⟩, hst, hw⟩
  rintro K m w H1 ⟨rfl, st', rfl, ⟨hle', hpp⟩, hst', hw⟩ ih
  try dsimp only at *
  rw [r24_l1]
  have hl := hw.len
  rw [List.length_reverse] at hl
  have push : pp x st' = st' → Ok (r24_j3 kt (fun v1_ v2_ v3_ v4_ v5_ v6_ H_ => r24_l1 kt K v1_ v2_ v3_ v4_ v5_ v6_ H_) u w c v ln iv false H1) Q := fun he => by
    unfold r24_j3
    have hle : (st'.reverse).length < 4294967296 := by
      rw [List.length_reverse]
      omega
    refine Ok.neg (by simp) (Ok.ld (ldI_get hc rfl) (Ok.ld (ldI_get hc rfl) (Ok.bind (hw.push g.1 x rfl rfl hle) fun w' E ⟨hw', bt, _⟩ => ?_)))
    rw [w64_id (n := iv + 1) (by omega) (by omega)]
    refine kN w' E (But.grB bt.1 hw g) ?_
    rw [← hpp, he, List.reverse_cons]
    exact hw'
  match st', hle', hpp, hst', hw, hl, push, ih with
  | [], hle', hpp, hst', hw, hl, push, ih => exact Ok.neg (by rw [hl]; simp) (push rfl)
  | [p], hle', hpp, hst', hw, hl, push, ih => exact Ok.neg (by rw [hl]; simp) (push rfl)
  | b :: a :: r, hle', hpp, hst', hw, hl, push, ih =>
    simp only [List.length_cons] at hl hle'
    have hr := rd2 (pre := []) (n := w.len) (by simpa using hw.sl) rfl
    have e2 : (w64 ((w.len : Int) - 2)).toNat = w.len - 2 := by rw [w64_id (by omega) (by omega)]; omega
    have e1 : (w64 ((w.len : Int) - 1)).toNat = w.len - 1 := by rw [w64_id (by omega) (by omega)]; omega
    have f2 : w64 ((w.len : Int) - 2) = (w.len : Int) - 2 := w64_id (by omega) (by omega)
    have f1 : w64 ((w.len : Int) - 1) = (w.len : Int) - 1 := w64_id (by omega) (by omega)
    rw [e2, e1, f2, f1]
    refine Ok.pos (by omega) (Ok.ck (by omega) (Ok.ld hr.1.1 (Ok.ld hr.1.2 (Ok.ck (by omega) (Ok.ld hr.2.1 (Ok.ld hr.2.2 (Ok.ld (ldI_get hc rfl) (Ok.ld (ldI_get hc rfl) (Ok.own (r74_ok (hst' a (by simp)) (hst' b (by simp)) hx) fun X => ?_)))))))))
    by_cases hc0 : lft a b x ≤ 0
    · rw [decide_eq_false (show ¬ 0 < lft a b x by omega)]
      unfold r24_j3
      rw [e1, f1]
      have hopn := hw.sl.opn
      have hcap := hw.sl.cap
      have es : El.sz Pr = 2 := rfl
      rw [es] at hopn
      refine Ok.pos rfl (Ok.ck ⟨by omega, hopn⟩ ?_)
      have hp : Buf B.n H1 w ((a :: r).reverse ++ [b]) := by rw [← List.reverse_cons]; exact hw
      obtain ⟨p1, p2, p3, p4⟩ := hp.pop
      refine ih (a :: r).length _ H1 (by simp) ⟨rfl, a :: r, rfl, ⟨by simp only [List.length_cons]; omega, ?_⟩, fun p hp => hst' p (.tail _ hp), p1⟩
      rw [← hpp, pp, if_pos hc0]
    · rw [decide_eq_true (show 0 < lft a b x by omega)]
      exact push (by rw [pp, if_neg hc0])
/-- back above -/
theorem r24_l4_ok {pre l : List Pr} {j : Nat} {kt : Sl → Sl → Int → Int → Hp → Option ((Sl × Int) × Hp)} (hv : SL B v l) (hj : j < l.length) (hw : Buf B.n H w (pre ++ st.reverse)) (g : Gr B H) (hst : ∀ p ∈ st, near3 p) (hx : near3 l[j]) (hlen : st.length ≤ 10000000) (hpre : pre.length ≤ 10000000) (hne : st ≠ []) (hll : l.length ≤ 10000000)
    (kN : ∀ w' H', Gr B H' → Buf B.n H' w' (pre ++ (l[j] :: pp l[j] st).reverse) → Ok (kt v w' ((pre.length + 1 : Nat) : Int) ((j : Int) - 1) H') Q) : Ok (r24_l4 kt FUEL v w ((pre.length + 1 : Nat) : Int) j H) Q := by
  refine Ok.loop (L := fun K (s : Sl) H2 => r24_l4 kt K v s ((pre.length + 1 : Nat) : Int) j H2) (fun m s H' => H' = H ∧ ∃ st', m = st'.length ∧ (st'.length ≤ st.length ∧ pp l[j] st' = pp l[j] st ∧ st' ≠ []) ∧ (∀ p ∈ st', near3 p) ∧ Buf B.n H s (pre ++ st'.reverse)) ?_ FUEL st.length w H (by unfold FUEL; omega) ⟨rfl, st, rfl, ⟨Nat.le_refl _, rfl, hne⟩, hst, hw⟩
  rintro K m w H1 ⟨rfl, st', rfl, ⟨hle', hpp, hne'⟩, hst', hw⟩ ih
  try dsimp only at *
  rw [r24_l4]
  have hl := hw.len
  rw [List.length_append, List.length_reverse] at hl
  have hvl := hv.len
  have hg := hv.gr g
  have l0 := hg.ldI (i := j) (j := 0) hj rfl
  have l1 := hg.ldI (i := j) (j := 1) hj rfl
  have push : pp l[j] st' = st' → Ok (r24_j5 kt (fun v1_ v2_ v3_ v4_ H_ => r24_l4 kt K v1_ v2_ v3_ v4_ H_) v w ((pre.length + 1 : Nat) : Int) j false H1) Q := fun he => by
    unfold r24_j5
    have hle : (pre ++ st'.reverse).length < 4294967296 := by
      rw [List.length_append, List.length_reverse]
      omega
    refine Ok.neg (by simp) (Ok.ck (by omega) (Ok.ld l0 (Ok.ld l1 (Ok.bind (hw.push g.1 l[j] rfl rfl hle) fun w' E ⟨hw', bt, _⟩ => ?_))))
    rw [w64_id (n := (j : Int) - 1) (by omega) (by omega)]
    refine kN w' E (But.grB bt.1 hw g) ?_
    rw [← hpp, he, List.reverse_cons, ← List.append_assoc]
    exact hw'
  match st', hle', hpp, hne', hst', hw, hl, push, ih with
  | [p], hle', hpp, hne', hst', hw, hl, push, ih => exact Ok.neg (by simp only [List.length_singleton] at hl; omega) (push rfl)
  | b :: a :: r, hle', hpp, hne', hst', hw, hl, push, ih =>
    simp only [List.length_cons] at hl hle'
    have hr := rd2 (n := w.len) hw.sl rfl
    have e2 : (w64 ((w.len : Int) - 2)).toNat = w.len - 2 := by rw [w64_id (by omega) (by omega)]; omega
    have e1 : (w64 ((w.len : Int) - 1)).toNat = w.len - 1 := by rw [w64_id (by omega) (by omega)]; omega
    have f2 : w64 ((w.len : Int) - 2) = (w.len : Int) - 2 := w64_id (by omega) (by omega)
    have f1 : w64 ((w.len : Int) - 1) = (w.len : Int) - 1 := w64_id (by omega) (by omega)
    rw [e2, e1, f2, f1]
    refine Ok.pos (by omega) (Ok.ck (by omega) (Ok.ld hr.1.1 (Ok.ld hr.1.2 (Ok.ck (by omega) (Ok.ld hr.2.1 (Ok.ld hr.2.2 (Ok.ck (by omega) (Ok.ld l0 (Ok.ld l1 (Ok.own (r74_ok (hst' a (by simp)) (hst' b (by simp)) hx) fun X => ?_))))))))))
    by_cases hc0 : lft a b l[j] ≤ 0
    · rw [decide_eq_false (show ¬ 0 < lft a b l[j] by omega)]
      unfold r24_j5
      rw [e1, f1]
      have hopn := hw.sl.opn
      have hcap := hw.sl.cap
      have es : El.sz Pr = 2 := rfl
      rw [es] at hopn
      refine Ok.pos rfl (Ok.ck ⟨by omega, hopn⟩ ?_)
      have hp : Buf B.n H1 w ((pre ++ (a :: r).reverse) ++ [b]) := by rw [List.append_assoc, ← List.reverse_cons]; exact hw
      obtain ⟨p1, p2, p3, p4⟩ := hp.pop
      refine ih (a :: r).length _ H1 (by simp) ⟨rfl, a :: r, rfl, ⟨by simp only [List.length_cons]; omega, ?_, by simp⟩, fun p hp => hst' p (.tail _ hp), p1⟩
      rw [← hpp, pp, if_pos hc0]
    · rw [decide_eq_true (show 0 < lft a b l[j] by omega)]
      exact push (by rw [pp, if_neg hc0])
end
end Go.Lt.P2

namespace Go.Lt.P2
open Go Go.Lt Go.Proofs
theorem stk_ne {l : List Pr} (h : l ≠ []) : stk l ≠ [] := by
  rw [← List.dropLast_concat_getLast h, stk_snoc]
  simp
def hulQ (l : List Pr) : Int × List Pr := if l.length = 0 then (4, []) else if l.length = 1 then (0, l) else (0, hul l)
/-- Hull of the reference -/
theorem r24_ok {H : Hp} {v : Sl} {l : List Pr} (hv : SL H v l) (hb : l.length ≤ 10000000) (hn : ∀ p ∈ l, near3 p) : Ok (r24 v H) fun r H' => Gr H H' ∧ SL H' r.1 (hulQ l).2 ∧ r.2 = (hulQ l).1 := by
  unfold r24 hulQ
  have hlen := hv.len
  by_cases h0 : l.length = 0
  · rw [if_pos h0]
    exact Ok.pos (by omega) (Ok.pos (by omega) (Ok.ret ⟨.refl _, .nilS, rfl⟩))
  rw [if_neg h0]
  by_cases h1 : l.length = 1
  · rw [if_pos h1]
    exact Ok.pos (by omega) (Ok.neg (by omega) (Ok.ret ⟨.refl _, hv, rfl⟩))
  rw [if_neg h1]
  have hne : l ≠ [] := by rintro rfl; exact h0 rfl
  refine Ok.neg (by omega) ?_
  rw [hlen]
  refine Ok.loop (L := fun K (s : Sl × Int) H2 => r24_l0 K v s.1 v l.length s.2 H2) (fun m s H' => Gr H H' ∧ ∃ i : Nat, s.2 = i ∧ i + m = l.length ∧ Buf H.n H' s.1 (stk (l.take i)).reverse) ?_ FUEL l.length (⟨true, 0, 0, 0, 0, 0⟩, 0) H (by unfold FUEL; omega) ⟨.refl _, 0, rfl, by omega, .inl ⟨rfl, rfl⟩⟩
  rintro K m ⟨w, s⟩ H1 ⟨g1, i, rfl, hm, hw⟩ ih
  try dsimp only at *
  rw [r24_l0]
  by_cases h : i < l.length
  · have hg := hv.gr g1
    have c0 : Cx H1 H1 [] := .nil H1
    refine Ok.pos (by omega) (Ok.ck (by omega) (Ok.ld (hg.ldI (i := i) (j := 0) h rfl) (Ok.ld (hg.ldI (i := i) (j := 1) h rfl) (Ok.alo c0 fun E gE cx => ?_))))
    refine r24_l1_ok (x := l[i]) (hw.gr gE) (g1.trans gE) (cx.e _ (.head _)) (fun p hp => hn p (List.mem_of_mem_take (stk_sub _ p hp))) (hn _ (List.getElem_mem h)) (by have := stk_len (l.take i); rw [List.length_take] at this; omega) (by omega) fun w' H' g' hw' => ?_
    refine ih (m - 1) (w', _) H' (by omega) ⟨g', i + 1, by simp, by omega, ?_⟩
    rw [List.take_succ_eq_append_getElem h, stk_snoc]
    exact hw'
  · rw [List.take_of_length_le (by omega)] at hw
    have hlast := List.dropLast_concat_getLast hne
    have est : stk l = l.getLast hne :: pp (l.getLast hne) (stk l.dropLast) := by
      conv => lhs; rw [← hlast, stk_snoc]
    generalize hpre : (pp (l.getLast hne) (stk l.dropLast)).reverse = pre at *
    have hchn : (stk l).reverse = pre ++ [l.getLast hne] := by rw [est, List.reverse_cons, hpre]
    have hprel : pre.length ≤ 10000000 := by
      have := stk_len l
      rw [← hpre, List.length_reverse]
      rw [est, List.length_cons] at this
      omega
    have hdrop : pre = (chn l).dropLast := by unfold chn; rw [hchn]; simp
    rw [hchn] at hw
    have hwl := hw.len
    rw [List.length_append, List.length_singleton] at hwl
    rw [hwl]
    have em : (w64 ((v.len : Int) - 2)) = (l.length : Int) - 2 := by rw [w64_id (by omega) (by omega), hlen]
    rw [em]
    have erev : ∀ j, j + 1 ≤ l.length → ∀ hj : l.length - 1 - j < l.length, l.reverse.take (j + 1) = l.reverse.take j ++ [l[l.length - 1 - j]] := fun j hj hj2 => by
      rw [List.take_succ_eq_append_getElem (by rw [List.length_reverse]; omega), List.getElem_reverse]
    refine Ok.neg (by omega) ?_
    refine Ok.loop (L := fun K' (s : Sl × Int) H2 => r24_l2 K' v s.1 ((pre.length + 1 : Nat) : Int) s.2 H2) (fun m s H' => Gr H H' ∧ ∃ k : Nat, s.2 = (l.length : Int) - 2 - k ∧ k + 1 + m = l.length ∧ Buf H.n H' s.1 (pre ++ (stk (l.reverse.take (k + 1))).reverse)) ?_ FUEL (l.length - 1) (w, (l.length : Int) - 2) H1 (by unfold FUEL; omega) ⟨g1, 0, by simp, by omega, by
      have : l.reverse.take (0 + 1) = [l.getLast hne] := by
        conv => lhs; rw [← hlast]
        simp
      rw [this]; exact hw⟩
    rintro K' m' ⟨w', s'⟩ H2 ⟨g2, k, rfl, hm', hw'⟩ ih'
    try dsimp only at *
    rw [r24_l2]
    by_cases hk : k + 2 ≤ l.length
    · have ej : (l.length : Int) - 2 - k = ((l.length - 1 - (k + 1) : Nat) : Int) := by omega
      have hj : l.length - 1 - (k + 1) < l.length := by omega
      rw [ej]
      refine Ok.pos (by omega) (r24_l4_ok hv hj hw' g2 (fun p hp => hn p (List.mem_reverse.1 (List.mem_of_mem_take (stk_sub _ p hp)))) (hn _ (List.getElem_mem hj)) (by have := stk_len (l.reverse.take (k + 1)); rw [List.length_take] at this; omega) hprel (stk_ne (by simp; exact hne)) hb fun w'' H'' g'' hw'' => ?_)
      refine ih' (m' - 1) (w'', _) H'' (by omega) ⟨g'', k + 1, by dsimp only; omega, by omega, ?_⟩
      rw [erev (k + 1) (by omega) hj, stk_snoc]
      exact hw''
    · have e : l.reverse.take (k + 1) = l.reverse := List.take_of_length_le (by rw [List.length_reverse]; omega)
      rw [e] at hw'
      have hl' := hw'.len
      have hs := stk_ne (show l.reverse ≠ [] by simpa using hne)
      have hsl := List.length_pos_iff.2 hs
      rw [List.length_append, List.length_reverse] at hl'
      have hsl2 := stk_len l.reverse
      rw [List.length_reverse] at hsl2
      have hopn := hw'.sl.opn
      have hcap := hw'.sl.cap
      have es : El.sz Pr = 2 := rfl
      rw [es] at hopn
      have e1 : (w64 ((w'.len : Int) - 1)).toNat = w'.len - 1 := by rw [w64_id (by omega) (by omega)]; omega
      have f1 : w64 ((w'.len : Int) - 1) = (w'.len : Int) - 1 := w64_id (by omega) (by omega)
      rw [e1, f1]
      have hc := hw'.sl.cut (lo := 0) (hi := w'.len - 1) (by omega) (by rw [List.length_append, List.length_reverse]; omega)
      refine Ok.neg (by omega) (Ok.ck ⟨by omega, hopn⟩ (Ok.ret ⟨g2, ?_, rfl⟩))
      have : ((pre ++ (stk l.reverse).reverse).drop 0).take (w'.len - 1 - 0) = hul l := by
        unfold hul
        rw [← hdrop, List.drop_zero, Nat.sub_zero]
        unfold chn
        rw [List.take_append, List.take_of_length_le (by omega), List.dropLast_eq_take, List.length_reverse]
        congr 2
        omega
      rw [this] at hc
      exact hc
end Go.Lt.P2

namespace Go.Lt.P2
open Go Go.Lt Go.Proofs
theorem r56_l0_q {x y : Int} (hx : x.natAbs < 9223372036854775808) (hy0 : 0 < y) (hy : y < 9223372036854775808) {c : Nat} {E : List (Nat × List AV)} {u w : AV} {H1 H : Hp} (hc : Cx H1 H ((c, [u, w]) :: E)) : ∀ (K : Nat) (a b : Int), 0 ≤ a → 0 ≤ b → b.natAbs < K → Nat.gcd a.natAbs b.natAbs = Nat.gcd x.natAbs y.natAbs →
    Ok (r56_l0 K x y c a b H) fun r _ => r = fq (dv x y) := by
  intro K
  induction K with
  | zero => intro a b _ _ h; omega
  | succ K ih =>
    intro a b ha0 hb0 h hg
    have hpos : 0 < Nat.gcd x.natAbs y.natAbs := Nat.gcd_pos_of_pos_right _ (by omega)
    rw [r56_l0]
    by_cases h0 : b = 0
    · subst h0
      rw [Int.natAbs_zero, Nat.gcd_zero_right] at hg
      have ea : a = ((Nat.gcd x.natAbs y.natAbs : Nat) : Int) := by omega
      subst ea
      rw [tdivSmall hx, tdivSmall (by omega)]
      refine Ok.neg (by simp) (Ok.ck (by omega) (Ok.ck (by omega) (Ok.cst hc 0 rfl rfl fun D _ _ c => ?_)))
      refine Ok.cld c (.head _) rfl (Ok.cld c (.head _) rfl (Ok.ret ?_))
      rw [fq_gcdv hy0]
    · have hm := Nat.mod_lt a.natAbs (show 0 < b.natAbs by omega)
      have e := Int.natAbs_tmod a b
      have hn := Int.tmod_nonneg b ha0
      exact Ok.pos h0 (Ok.ck h0 (ih b (Int.tmod a b) hb0 hn (by omega) (by rw [e]; exact (gcd_step _ _).trans hg)))
/-- Frac -/
theorem r56_q {a b : Int} (ha : a.natAbs < 9223372036854775808) (hb : 0 < b) (hb2 : b < 9223372036854775808) (H : Hp) : Ok (r56 a b H) fun r _ => r = fq (dv a b) := by
  unfold r56
  refine Ok.box (.nil H) fun A _ c => Ok.neg (by omega) ?_
  unfold r56_j1
  rw [w64Abs ha]
  exact r56_l0_q ha hb hb2 c FUEL _ b (by omega) (by omega) (by unfold FUEL; omega) (by simp)
end Go.Lt.P2

namespace Go.Lt.P2
open Go Go.Lt Go.Proofs
/-- keeps of the reference -/
theorem r75_ok {a b c x y d : Int} (hs : sideP (a, b, c)) (hx : -1000000 ≤ x ∧ x ≤ 1000000) (hy : -1000000 ≤ y ∧ y ≤ 1000000) (hd : -1000000 ≤ d ∧ d ≤ 1000000) : Ok (r75 a b c x y d H0) fun r _ => r = decide (a * x + b * y ≤ c * d) := by
  unfold sideP at hs
  dsimp only at hs
  have b1 := mul_bd (A := 4) (B := 1000000) (x := a) (y := x) (by omega) (by omega) (by omega) (by omega)
  have b2 := mul_bd (A := 4) (B := 1000000) (x := b) (y := y) (by omega) (by omega) (by omega) (by omega)
  have b3 := mul_bd (A := 40) (B := 1000000) (x := c) (y := d) (by omega) (by omega) (by omega) (by omega)
  unfold r75
  refine Ok.box (.nil H0) fun A _ c => Ok.cld c (.head _) rfl (Ok.cld c (.head _) rfl (Ok.cld c (.head _) rfl ?_))
  rw [w64_id (n := _ * x) (by omega) (by omega), w64_id (n := _ * y) (by omega) (by omega), w64_id (n := _ * d) (by omega) (by omega), w64_id (by omega) (by omega)]
  exact Ok.ret rfl
end Go.Lt.P2

namespace Go.Lt.P2
open Go Go.Lt Go.Proofs
/-! ### points in order -/
instance elPq : El Pq := ⟨4, pc4, fun _ => rfl, fun _ => rfl, by decide⟩
def ptlt (p q : Pq) : Prop := p.1 < q.1 ∨ (p.1 = q.1 ∧ p.2 < q.2)
instance (p q : Pq) : Decidable (ptlt p q) := by unfold ptlt; infer_instance
theorem ptlt_irr (p : Pq) : ¬ ptlt p p := by unfold ptlt; grind
theorem ptlt_trans {p q r : Pq} (h : ptlt p q) (k : ptlt q r) : ptlt p r := by unfold ptlt at *; grind
theorem ptlt_tri {p q : Pq} (h : ¬ ptlt p q) (k : p ≠ q) : ptlt q p := by
  unfold ptlt at *
  have : ¬ (p.1 = q.1 ∧ p.2 = q.2) := fun h => k (Prod.ext h.1 h.2)
  grind
def wth (p : Pq) : List Pq → List Pq
  | [] => [p]
  | q :: l => if ptlt q p then q :: wth p l else if q = p then q :: l else p :: q :: l
theorem mem_wth {p x : Pq} : ∀ {l : List Pq}, x ∈ wth p l ↔ x = p ∨ x ∈ l
  | [] => by simp [wth]
  | q :: l => by
    rw [wth]
    split
    · rw [List.mem_cons, mem_wth, List.mem_cons]; grind
    · split
      · rename_i h; subst h; simp only [List.mem_cons]; grind
      · simp only [List.mem_cons]
theorem wth_srt {p : Pq} : ∀ {l : List Pq}, l.Pairwise ptlt → (wth p l).Pairwise ptlt
  | [], _ => List.pairwise_singleton _ _
  | q :: l, h => by
    have h0 := h
    rw [List.pairwise_cons] at h
    rw [wth]
    split
    · rename_i h1
      refine List.pairwise_cons.2 ⟨fun x hx => ?_, wth_srt h.2⟩
      rcases mem_wth.1 hx with rfl | hx
      · exact h1
      · exact h.1 x hx
    · rename_i h1
      split
      · exact h0
      · rename_i h2
        have h3 := ptlt_tri h1 h2
        refine List.pairwise_cons.2 ⟨fun x hx => ?_, h0⟩
        rcases List.mem_cons.1 hx with rfl | hx
        · exact h3
        · exact ptlt_trans h3 (h.1 x hx)
theorem srt_uniq : ∀ {l l' : List Pq}, l.Pairwise ptlt → l'.Pairwise ptlt → (∀ x, x ∈ l ↔ x ∈ l') → l = l'
  | [], [], _, _, _ => rfl
  | [], y :: l', _, _, h => absurd ((h y).2 (.head _)) (by simp)
  | x :: l, [], _, _, h => absurd ((h x).1 (.head _)) (by simp)
  | x :: l, y :: l', h1, h2, h => by
    rw [List.pairwise_cons] at h1 h2
    have e : x = y := by
      rcases List.mem_cons.1 ((h x).1 (.head _)) with e | hx
      · exact e
      · rcases List.mem_cons.1 ((h y).2 (.head _)) with e | hy
        · exact e.symm
        · exact absurd (ptlt_trans (h1.1 y hy) (h2.1 x hx)) (ptlt_irr x)
    subst e
    congr 1
    refine srt_uniq h1.2 h2.2 fun z => ?_
    constructor <;> intro hz
    · rcases List.mem_cons.1 ((h z).1 (.tail _ hz)) with rfl | k
      · exact absurd (h1.1 z hz) (ptlt_irr z)
      · exact k
    · rcases List.mem_cons.1 ((h z).2 (.tail _ hz)) with rfl | k
      · exact absurd (h2.1 z hz) (ptlt_irr z)
      · exact k
end Go.Lt.P2

namespace Go.Lt.P2
open Go Go.Lt Go.Proofs
/-- Less -/
theorem r57_q {N D N' D' : Int} {p q : Rat} (hp : qb N D p) (hq : qb N' D' q) (h1 : N * D' < 9223372036854775808) (h2 : N' * D < 9223372036854775808) : Ok (r57 (fq p).1 (fq p).2 (fq q).1 (fq q).2 H0) fun r _ => r = decide (p < q) := by
  obtain ⟨a1, a2, a3⟩ := hp
  obtain ⟨k1, k2, k3⟩ := hq
  have ap := fq_pos p
  have kp := fq_pos q
  have b1 := mulBd (A := N) (B := D') (x := (fq p).1) (y := (fq q).2) a1 a2 (by omega) k3
  have b3 := mulBd (A := N') (B := D) (x := (fq q).1) (y := (fq p).2) k1 k2 (by omega) a3
  unfold r57
  refine Ok.box2 (.nil H0) fun A _ c => Ok.cld c (.tail _ (.head _)) rfl (Ok.cld c (.head _) rfl (Ok.cld c (.head _) rfl (Ok.cld c (.tail _ (.head _)) rfl ?_)))
  rw [w64_id (by omega) (by omega), w64_id (by omega) (by omega)]
  exact Ok.ret (decide_eq_decide.2 fq_lt)
end Go.Lt.P2

namespace Go.Lt.P2
open Go Go.Lt Go.Proofs
theorem fq_beq {p q : Rat} : (((fq p).1 == (fq q).1) && ((fq p).2 == (fq q).2)) = decide (p = q) := by
  refine Bool.eq_iff_iff.2 ?_
  simp only [Bool.and_eq_true, beq_iff_eq, decide_eq_true_iff]
  exact ⟨fun h => fq_inj (Prod.ext h.1 h.2), fun h => by rw [h]; exact ⟨rfl, rfl⟩⟩
/-- before -/
theorem r110_q {p q : Pq} (hp : qp p) (hq : qp q) : Ok (r110 (fq p.1).1 (fq p.1).2 (fq p.2).1 (fq p.2).2 (fq q.1).1 (fq q.1).2 (fq q.2).1 (fq q.2).2 H0) fun r _ => r = decide (ptlt p q) := by
  unfold r110
  refine Ok.box2 (.nil H0) fun A _ c => Ok.cld c (.tail _ (.head _)) rfl (Ok.cld c (.tail _ (.head _)) rfl (Ok.cld c (.head _) rfl (Ok.cld c (.head _) rfl (Ok.own (r57_q hp.1 hq.1 (by decide) (by decide)) fun X => ?_))))
  refine Ok.ite (fun h => Ok.ret ?_) fun h => ?_
  · symm; rw [decide_eq_true_iff]; exact .inl (of_decide_eq_true h)
  · have h1 : ¬ p.1 < q.1 := fun k => h (decide_eq_true k)
    refine Ok.cld c (.tail _ (.head _)) rfl (Ok.cld c (.tail _ (.head _)) rfl (Ok.cld c (.head _) rfl (Ok.cld c (.head _) rfl ?_)))
    rw [fq_beq]
    refine Ok.ite (fun h2 => Ok.cld c (.tail _ (.head _)) rfl (Ok.cld c (.tail _ (.head _)) rfl (Ok.cld c (.head _) rfl (Ok.cld c (.head _) rfl (Ok.own (r57_q hp.2 hq.2 (by decide) (by decide)) fun X => Ok.ret ?_))))) fun h2 => Ok.ret ?_
    · refine decide_eq_decide.2 ⟨fun k => .inr ⟨of_decide_eq_true h2, k⟩, fun k => k.elim (fun k => absurd k h1) (·.2)⟩
    · symm; rw [decide_eq_false_iff_not]
      rintro (k | k)
      · exact h1 k
      · exact h2 (decide_eq_true k.1)
end Go.Lt.P2

namespace Go.Lt.P2
open Go Go.Lt Go.Proofs
/-- what one appends to, or an empty literal -/
def AccE {T : Type} [El T] (n0 : Nat) (H : Hp) (v : Sl) (l : List T) : Prop := AccL n0 H v l ∨ (l = [] ∧ v.nil = false ∧ v.o = 0 ∧ v.len = 0 ∧ v.cap = 0 ∧ v.opn = 0)
theorem appE {T : Type} [El T] {H : Hp} (x : List T) {es k : Nat} {cs : List AV} (hes : es = El.sz T) (hcs : cs = encs x) (hk : k = x.length) (hb : x.length ≤ 4294967296) : Ok ((H.push (.cells [] false)).app es ⟨false, H.n, 0, 0, 0, 0⟩ cs k) fun v' H' => Gr H H' ∧ AccE H.n H' v' x := by
  subst hes; subst hcs; subst hk
  by_cases h0 : x = []
  · subst h0
    unfold Hp.app
    simp only [List.length_nil, Nat.zero_add, Nat.zero_le, if_true, Nat.le_refl, encs, List.flatMap_nil, Hp.sts, Option.map_some]
    rw [if_neg (by simp)]
    exact Ok.ret ⟨.push _ _, .inr ⟨rfl, rfl, rfl, rfl, rfl, rfl⟩⟩
  · have hp := List.length_pos_iff.2 h0
    obtain ⟨w, H', h1, g, h2, h3, h4, h5, h6, h7, h8⟩ := app_new (H := H) (xs := encs x) (es := El.sz T) (k := x.length) El.pos (encs_len x) hb
    have ho : w.opn = El.sz T := by
      unfold Hp.app at h1
      simp only [Nat.zero_add] at h1
      rw [if_pos hb] at h1
      split at h1
      · rename_i h; exact absurd h (by omega)
      · simp only [Nat.zero_mul, Hp.lds, Option.bind_some, if_true] at h1
        cases h1; rfl
    exact ⟨w, H', h1, g, .inl (.inr ⟨h3, h4, ho, by omega, h7, h2, by rw [encs_len, h5]⟩)⟩
theorem AccE.push {T : Type} [El T] {H0 H : Hp} {v : Sl} {l : List T} (h : AccE H0.n H v l) (g : Gr H0 H) (x : T) {es : Nat} {cs : List AV} (hes : es = El.sz T) (hcs : cs = El.enc x) (hb : l.length < 4294967296) : Ok (H.apN es v cs 1) fun v' H' => AccL H0.n H' v' (l ++ [x]) ∧ Gr H0 H' := by
  rcases h with h | ⟨rfl, h1, h2, h3, h4, h5⟩
  · exact (AccL.push h g x hes hcs hb).mono fun _ _ h => ⟨h.1, h.2.1⟩
  · subst hes; subst hcs
    unfold Hp.apN Hp.app
    rw [h3, h4, h5]
    simp only [Nat.zero_add, Nat.zero_mul, Hp.lds, Option.bind_some, if_true, List.nil_append]
    rw [if_pos (by omega), if_neg (by omega)]
    refine Ok.ret ⟨.inr ⟨rfl, rfl, rfl, rfl, ?_, ?_, ?_⟩, g.trans ((Gr.push _ _).trans (.push _ _))⟩
    · simp; have := g.1; omega
    · rw [encs_one]; exact Hp.get_push_new _ _
    · rw [encs_len]; rfl
theorem AccL.app0 {T : Type} [El T] {H0 H : Hp} {v : Sl} {l : List T} (h : AccL H0.n H v l) (g : Gr H0 H) (x : List T) {es n : Nat} {cs : List AV} (hes : es = El.sz T) (hcs : cs = encs x) (hn : n = x.length) (hb : l.length + x.length ≤ 4294967296) : Ok (H.app es v cs n) fun v' H' => AccL H0.n H' v' (l ++ x) ∧ Gr H0 H' := by
  subst hes; subst hcs; subst hn
  have hl := h.len
  obtain ⟨v', H', h1, h2, h3, _⟩ := Acc.app (k := x.length) h El.pos (encs_len x) (by rw [hl]; exact hb) g.1
  refine ⟨v', H', h1, ?_, h3.gr h g⟩
  unfold AccL
  rw [encs_append]
  exact h2
theorem wth_skip {p : Pq} : ∀ {l : List Pq} {i : Nat}, (∀ x ∈ l.take i, ptlt x p) → wth p l = l.take i ++ wth p (l.drop i)
  | _, 0, _ => rfl
  | [], i + 1, _ => by simp [wth]
  | q :: l, i + 1, h => by
    rw [wth, if_pos (h q (by simp)), List.take_succ_cons, List.drop_succ_cons, List.cons_append]
    congr 1
    exact wth_skip fun x hx => h x (by rw [List.take_succ_cons]; exact .tail _ hx)
theorem pc_beq {q p : Pq} : ((((fq q.1).1 == (fq p.1).1) && ((fq q.1).2 == (fq p.1).2)) && (((fq q.2).1 == (fq p.2).1) && ((fq q.2).2 == (fq p.2).2))) = decide (q = p) := by
  rw [fq_beq, fq_beq]
  refine Bool.eq_iff_iff.2 ?_
  simp only [Bool.and_eq_true, decide_eq_true_iff]
  exact ⟨fun h => Prod.ext h.1 h.2, fun h => by rw [h]; exact ⟨rfl, rfl⟩⟩
/-- with -/
theorem r91_ok {H : Hp} {v : Sl} {l : List Pq} {p : Pq} (hv : SL H v l) (hb : l.length ≤ 1000000) (hl : ∀ x ∈ l, qp x) (hp : qp p) : Ok (r91 v (fq p.1).1 (fq p.1).2 (fq p.2).1 (fq p.2).2 H) fun w H' => Gr H H' ∧ SL H' w (wth p l) := by
  unfold r91
  refine Ok.box (.nil H) fun A gA c => ?_
  have hvA := hv.gr gA
  have hlen := hv.len
  have hcap := hv.cap
  have hopn := hv.opn
  have es : El.sz Pq = 4 := rfl
  rw [es] at hopn
  refine Ok.loop (L := fun K (s : Int) H2 => r91_l0 K v H.n s H2) (fun m s H' => H' = A ∧ ∃ i : Nat, s = i ∧ i + m = l.length ∧ ∀ x ∈ l.take i, ptlt x p) ?_ FUEL l.length 0 A (by unfold FUEL; omega) ⟨rfl, 0, rfl, by omega, by simp⟩
  rintro K m s H1 ⟨rfl, i, rfl, hm, ht⟩ ih
  try dsimp only at *
  rw [r91_l0]
  have hw := wth_skip ht
  have ins : (h : i ≤ l.length) → wth p l = l.take i ++ p :: l.drop i → Ok (r91_j2 v H.n i false H1) fun w H' => Gr H H' ∧ SL H' w (wth p l) := fun hi hw => by
    unfold r91_j2
    have c1 := hvA.cut (lo := 0) (hi := i) (by omega) (by omega)
    rw [List.drop_zero, Nat.sub_zero] at c1
    have c2 := hvA.cut (lo := i) (hi := l.length) (by omega) (by omega)
    have e2 : (l.drop i).take (l.length - i) = l.drop i := List.take_of_length_le (by simp)
    rw [e2] at c2
    have l1 := c1.len
    have l2 := c2.len
    rw [Int.toNat_natCast, hlen, Int.toNat_natCast]
    refine Ok.neg (by simp) (Ok.ck ⟨by omega, hopn⟩ ?_)
    have g0 := Gr.push H1 (.cells [] false)
    refine Ok.ld ((c1.gr g0).lds) (Ok.ck (encs_all _) ?_)
    refine Ok.bind (appE (H := H1) (l.take i) rfl rfl l1 (by rw [List.length_take]; omega)) fun w1 B ⟨gB, hw1⟩ => ?_
    have cB := c.gr gB
    refine Ok.cld cB (.head _) rfl (Ok.cld cB (.head _) rfl (Ok.cld cB (.head _) rfl (Ok.cld cB (.head _) rfl ?_)))
    refine Ok.bind (hw1.push gB p rfl rfl (by rw [List.length_take]; omega)) fun w2 C ⟨hw2, gC⟩ => ?_
    refine Ok.ck ⟨by omega, hopn⟩ ?_
    refine Ok.ld ((c2.gr gC).lds) (Ok.ck (encs_all _) ?_)
    refine Ok.bind (AccL.app0 hw2 gC (l.drop i) rfl rfl l2 (by simp only [List.length_append, List.length_take, List.length_drop, List.length_singleton]; omega)) fun w3 D ⟨hw3, gD⟩ => ?_
    have c0 := c.gr g0
    refine Ok.cck c (.head _) rfl (Ok.cck c (.head _) rfl (Ok.cck c (.head _) rfl (Ok.cck c (.head _) rfl (Ok.cck c0 (.head _) rfl (Ok.cck c0 (.head _) rfl (Ok.cck c0 (.head _) rfl (Ok.cck c0 (.head _) rfl (Ok.ret ⟨c.g.trans gD, ?_⟩))))))))
    rw [hw]
    have := AccL.sl hw3
    rw [List.append_assoc] at this
    exact this
  by_cases h : i < l.length
  · have hx := hl _ (List.getElem_mem h)
    have l0 := hvA.ldI (i := i) (j := 0) h rfl
    have l1 := hvA.ldI (i := i) (j := 1) h rfl
    have l2 := hvA.ldI (i := i) (j := 2) h rfl
    have l3 := hvA.ldI (i := i) (j := 3) h rfl
    refine Ok.pos (by omega) (Ok.ck (by omega) (Ok.ld l0 (Ok.ld l1 (Ok.ld l2 (Ok.ld l3 (Ok.cld c (.head _) rfl (Ok.cld c (.head _) rfl (Ok.cld c (.head _) rfl (Ok.cld c (.head _) rfl (Ok.own (r110_q hx hp) fun X => ?_)))))))))) 
    unfold r91_j1
    refine Ok.ite (fun hc => ?_) fun hc => ?_
    · rw [w64_succ (by omega)]
      refine ih (m - 1) _ _ (by omega) ⟨rfl, i + 1, rfl, by omega, fun x hx => ?_⟩
      rw [List.take_succ_eq_append_getElem h] at hx
      rcases List.mem_append.1 hx with hx | hx
      · exact ht x hx
      · rw [List.mem_singleton] at hx; subst hx; exact of_decide_eq_true hc
    · have hnlt : ¬ ptlt l[i] p := fun q => hc (decide_eq_true q)
      refine Ok.pos (by omega) (Ok.ck (by omega) (Ok.ld l0 (Ok.ld l1 (Ok.ld l2 (Ok.ld l3 (Ok.cld c (.head _) rfl (Ok.cld c (.head _) rfl (Ok.cld c (.head _) rfl (Ok.cld c (.head _) rfl ?_))))))))) 
      rw [pc_beq]
      rw [List.drop_eq_getElem_cons h, wth, if_neg hnlt] at hw
      by_cases he : l[i] = p
      · rw [decide_eq_true he]
        rw [if_pos he, ← List.drop_eq_getElem_cons h, List.take_append_drop] at hw
        unfold r91_j2
        rw [hw]
        exact Ok.pos rfl (Ok.ret ⟨c.g, hvA⟩)
      · rw [decide_eq_false he]
        rw [if_neg he, ← List.drop_eq_getElem_cons h] at hw
        exact ins (by omega) hw
  · refine Ok.neg (by omega) ?_
    unfold r91_j1
    refine Ok.neg (by simp) (Ok.neg (by omega) (ins (by omega) ?_))
    rw [List.drop_of_length_le (by omega)] at hw ⊢
    exact hw
end Go.Lt.P2

namespace Go.Lt.P2
open Go Go.Lt Go.Proofs
/-- the corners as the reference makes them -/
def rcs (q : List Cn) : List Pq := q.foldl (fun acc c => wth c.1 acc) []
theorem rcs_srt (q : List Cn) : (rcs q).Pairwise ptlt := by
  unfold rcs
  have key : ∀ (q : List Cn) (acc : List Pq), acc.Pairwise ptlt → (q.foldl (fun acc c => wth c.1 acc) acc).Pairwise ptlt := by
    intro q
    induction q with
    | nil => intro acc h; exact h
    | cons c q ih => intro acc h; exact ih _ (wth_srt h)
  exact key q [] .nil
theorem mem_rcs {q : List Cn} {p : Pq} : p ∈ rcs q ↔ ∃ c ∈ q, c.1 = p := by
  unfold rcs
  have key : ∀ (q : List Cn) (acc : List Pq), p ∈ q.foldl (fun acc c => wth c.1 acc) acc ↔ p ∈ acc ∨ ∃ c ∈ q, c.1 = p := by
    intro q
    induction q with
    | nil => intro acc; simp
    | cons c q ih =>
      intro acc
      rw [List.foldl_cons, ih, mem_wth]
      constructor
      · rintro ((rfl | h) | ⟨d, hd, h⟩)
        · exact .inr ⟨c, .head _, rfl⟩
        · exact .inl h
        · exact .inr ⟨d, .tail _ hd, h⟩
      · rintro (h | ⟨d, hd, h⟩)
        · exact .inl (.inr h)
        · rcases List.mem_cons.1 hd with rfl | hd
          · exact .inl (.inl h.symm)
          · exact .inr ⟨d, hd, h⟩
  rw [key]
  simp
theorem wth_len {p : Pq} : ∀ {l : List Pq}, (wth p l).length ≤ l.length + 1
  | [] => by simp [wth]
  | q :: l => by
    rw [wth]
    have := wth_len (p := p) (l := l)
    split
    · simp only [List.length_cons]; omega
    · split
      · simp
      · simp
theorem rcs_len (q : List Cn) : (rcs q).length ≤ q.length := by
  unfold rcs
  have key : ∀ (q : List Cn) (acc : List Pq), (q.foldl (fun acc c => wth c.1 acc) acc).length ≤ acc.length + q.length := by
    intro q
    induction q with
    | nil => intro acc; simp
    | cons c q ih =>
      intro acc
      rw [List.foldl_cons, List.length_cons]
      have := ih (wth c.1 acc)
      have := wth_len (p := c.1) (l := acc)
      omega
  have := key q []
  simpa using this
theorem rcs_snoc (q : List Cn) (c : Cn) : rcs (q ++ [c]) = wth c.1 (rcs q) := by unfold rcs; rw [List.foldl_append]; rfl
theorem cno_len (l : List Sd) (i : Nat) : (cno l i).length ≤ i := by
  unfold cno
  exact Nat.le_trans (List.length_filterMap_le _ _) (by rw [List.length_take]; omega)
theorem flatm_len {β : Type} {f : Nat → List β} {k : Nat} : ∀ {l : List Nat}, (∀ x ∈ l, (f x).length ≤ k) → (l.flatMap f).length ≤ l.length * k
  | [], _ => by simp
  | x :: l, h => by
    rw [List.flatMap_cons, List.length_append, List.length_cons, Nat.add_mul, Nat.one_mul]
    have a := h x (.head _)
    have b := flatm_len (l := l) fun y hy => h y (.tail _ hy)
    omega
theorem lqs_dv {u : Sd} {x y d : Int} (hd : 0 < d) : lqs u (dv x d, dv y d) ↔ u.1 * x + u.2.1 * y ≤ u.2.2 * d := by
  have h0 := cast_pos hd
  have e : atq u.1 u.2.1 (dv x d, dv y d) = dv (u.1 * x + u.2.1 * y) d := by
    unfold atq dv
    push_cast
    grind
  unfold lqs
  rw [e, ← dv_int, dv_le_iff hd (by decide), Int.mul_one]
section
variable {l : List Sd} {v : Sl}
theorem r54_l2_ok {B H : Hp} {w wv : Sl} {q : List Cn} {s t : Sd} {X Y D lu iu lw jw : Int} {c : Nat} {kt : Sl → Sl → Nat → Sl → Int → Int → Sl → Int → Int → Hp → Option (Sl × Hp)} {Q : Sl → Hp → Prop}
    (hv : SL B v l) (hb : l.length ≤ 1000) (hs : ∀ s ∈ l, sideP s) (g : Gr B H) (hw : SL H w (rcs q)) (hq : (rcs q).length ≤ 1000000) (hqp : ∀ p ∈ rcs q, qp p) (hD : 0 < D ∧ D ≤ 32) (hX : -320 ≤ X ∧ X ≤ 320) (hY : -320 ≤ Y ∧ Y ≤ 320) (hm : meetq s t = (dv X D, dv Y D)) (h0 : crI s t ≠ 0) (hj : 0 ≤ jw ∧ jw < 1000000)
    (kN : ∀ w' H', Gr H H' → SL H' w' (rcs (q ++ (cn l s t).toList)) → Ok (kt v w' c v lu iu wv lw (jw + 1) H') Q) :
    Ok (r54_j3 kt v w c D X Y v lu iu wv lw jw H) Q := by
  unfold r54_j3
  have hlen := hv.len
  rw [hlen]
  have e : qp (meetq s t) := by
    rw [hm]
    exact ⟨(qb_dv hD.1 (by omega) (by omega) (by omega)).mono (N := 320) (D := 32) (by decide) (by decide), (qb_dv hD.1 (by omega) (by omega) (by omega)).mono (N := 320) (D := 32) (by decide) (by decide)⟩
  refine Ok.loop (L := fun K (s : Bool × Int) H2 => r54_l2 kt K v w c D X Y s.1 v lu iu wv lw jw v l.length s.2 H2) (fun m s' H' => Gr H H' ∧ ∃ i : Nat, s'.2 = i ∧ i + m = l.length ∧ s'.1 = decide (inP (l.take i) (meetq s t))) ?_ FUEL l.length (true, 0) H (by unfold FUEL; omega) ⟨.refl _, 0, rfl, by omega, by simp [inP]⟩
  rintro K m ⟨fl, j⟩ H1 ⟨g1, i, rfl, hm', hfl⟩ ih
  try dsimp only at *
  subst hfl
  rw [r54_l2]
  by_cases h : i < l.length
  · have hg := hv.gr (g.trans g1)
    have hx := hs _ (List.getElem_mem h)
    have c0 : Cx H1 H1 [] := .nil H1
    refine Ok.pos (by omega) (Ok.ck (by omega) (Ok.ld (hg.ldI (i := i) (j := 0) h rfl) (Ok.ld (hg.ldI (i := i) (j := 1) h rfl) (Ok.ld (hg.ldI (i := i) (j := 2) h rfl) (Ok.alo c0 fun E gE cx => ?_)))))
    have nxt : ∀ b, b = decide (inP (l.take (i + 1)) (meetq s t)) → Ok (r54_l2 kt K v w c D X Y b v lu iu wv lw jw v l.length (w64 ((i : Int) + 1)) E) Q := fun b hbb => by
      rw [w64_succ (by omega)]
      exact ih (m - 1) (b, _) E (by omega) ⟨g1.trans gE, i + 1, rfl, by omega, hbb⟩
    refine Ok.ite (fun hc => ?_) fun hc => nxt _ ?_
    · refine Ok.cld cx (.head _) rfl (Ok.cld cx (.head _) rfl (Ok.cld cx (.head _) rfl (Ok.own (r75_ok hx (by omega) (by omega) (by omega)) fun _ => nxt _ ?_)))
      have hc := of_decide_eq_true hc
      refine decide_eq_decide.2 ?_
      have e1 : lqs l[i] (meetq s t) ↔ l[i].1 * X + l[i].2.1 * Y ≤ l[i].2.2 * D := by rw [hm]; exact lqs_dv hD.1
      rw [List.take_succ_eq_append_getElem h]
      constructor
      · intro k u hu
        rcases List.mem_append.1 hu with hu | hu
        · exact hc u hu
        · rw [List.mem_singleton] at hu; subst hu; exact e1.2 k
      · intro k; exact e1.1 (k _ (List.mem_append_right _ (List.mem_singleton_self _)))
    · symm
      rw [decide_eq_false_iff_not]
      intro k
      exact hc (decide_eq_true fun u hu => k u (by rw [List.take_succ_eq_append_getElem h]; exact List.mem_append_left _ hu))
  · rw [List.take_of_length_le (by omega)]
    refine Ok.neg (by omega) (Ok.ite (fun hc => ?_) fun hc => ?_)
    · have hin : inP l (meetq s t) := of_decide_eq_true hc
      have ecn : cn l s t = some (meetq s t, s, t) := by unfold cn; rw [if_pos ⟨h0, hin⟩]
      refine Ok.own (r56_q (by omega) hD.1 (by omega) H0) fun _ => Ok.own (r56_q (by omega) hD.1 (by omega) H0) fun _ => ?_
      have e1 : (meetq s t).1 = dv X D := by rw [hm]
      have e2 : (meetq s t).2 = dv Y D := by rw [hm]
      rw [← e1, ← e2]
      refine Ok.bind (r91_ok (hw.gr g1) hq hqp e) fun w' E ⟨gE, hw'⟩ => ?_
      rw [w64_id (by omega) (by omega)]
      refine kN w' E (g1.trans gE) ?_
      rw [ecn]
      show SL E w' (rcs (q ++ [(meetq s t, s, t)]))
      rw [rcs_snoc]
      exact hw'
    · have ecn : cn l s t = none := by
        unfold cn
        rw [if_neg]
        intro k
        exact hc (decide_eq_true k.2)
      rw [w64_id (by omega) (by omega)]
      refine kN w H1 g1 ?_
      rw [ecn]
      simpa using hw.gr g1
theorem rcs_qp {q : List Cn} (hs : ∀ s ∈ l, sideP s) (h : ∀ c ∈ q, c ∈ cs l) : ∀ p ∈ rcs q, qp p := fun p hp => by
  obtain ⟨c, hc, rfl⟩ := mem_rcs.1 hp
  have k := cs_mem (h c hc)
  rw [k.2.2.2.1]
  exact meet_qp (hs _ k.1) (hs _ k.2.1) k.2.2.1
theorem cs_len {l : List Sd} (hb : l.length ≤ 1000) : (cs l).length ≤ 1000000 := by
  unfold cs
  have := flatm_len (f := cno l) (l := List.range l.length) (k := l.length) fun i hi => Nat.le_trans (cno_len l i) (by rw [List.mem_range] at hi; omega)
  rw [List.length_range] at this
  have h2 := Nat.mul_le_mul hb hb
  omega
theorem pre_cs {l : List Sd} {i : Nat} (h : i < l.length) : (List.range i).flatMap (cno l) ++ cno l i <+: cs l := by
  rw [← range_succ_flatMap]
  unfold cs
  have : l.length = (i + 1) + (l.length - (i + 1)) := by omega
  rw [this, List.range_add (n := i + 1), List.flatMap_append]
  exact List.prefix_append _ _
/-- Corners of the reference -/
theorem r54_ok {H : Hp} (hv : SL H v l) (hb : l.length ≤ 1000) (hs : ∀ s ∈ l, sideP s) : Ok (r54 v H) fun w H' => Gr H H' ∧ SL H' w (rcs (cs l)) := by
  unfold r54
  have hlen := hv.len
  rw [hlen]
  have pl : ∀ {q : List Cn}, q <+: cs l → (rcs q).length ≤ 1000000 ∧ ∀ p ∈ rcs q, qp p := fun {q} h => by
    have h1 := rcs_len q
    have h2 := h.length_le
    have h3 := cs_len hb
    exact ⟨by omega, rcs_qp hs fun c hc => h.subset hc⟩
  refine Ok.loop (L := fun K (s : Sl × Int) H2 => r54_l0 K v s.1 v l.length s.2 H2) (fun m s H' => Gr H H' ∧ ∃ i : Nat, s.2 = i ∧ i + m = l.length ∧ SL H' s.1 (rcs ((List.range i).flatMap (cno l)))) ?_ FUEL l.length (⟨true, 0, 0, 0, 0, 0⟩, 0) H (by unfold FUEL; omega) ⟨.refl _, 0, rfl, by omega, .nilS⟩
  rintro K m ⟨w, s⟩ H1 ⟨g1, i, rfl, hm, hw⟩ ih
  try dsimp only at *
  rw [r54_l0]
  by_cases h : i < l.length
  · have hg := hv.gr g1
    have c0 : Cx H1 H1 [] := .nil H1
    have hcap := hv.cap
    have hopn := hv.opn
    have es : El.sz Sd = 3 := rfl
    rw [es] at hopn
    refine Ok.pos (by omega) (Ok.ck (by omega) (Ok.ld (hg.ldI (i := i) (j := 0) h rfl) (Ok.ld (hg.ldI (i := i) (j := 1) h rfl) (Ok.ld (hg.ldI (i := i) (j := 2) h rfl) (Ok.alo c0 fun D gD cx => Ok.ck ⟨by omega, hopn⟩ ?_)))))
    have hcut := hg.cut (lo := 0) (hi := i) (by omega) (by omega)
    rw [List.drop_zero, Nat.sub_zero] at hcut
    have hil : (l.take i).length = i := by rw [List.length_take]; omega
    have hcl := hcut.len
    rw [hil] at hcl
    rw [Int.toNat_natCast]
    have e3 : (v.cut 3 (0 : Int).toNat i).len = i := hcl
    rw [e3]
    have hsd := cx.e _ (.head _)
    have hcut := hcut.gr gD
    have hsl := hs _ (List.getElem_mem h)
    refine Ok.loop (L := fun K' (s : Sl × Int) H2 => r54_l1 (fun v1_ v2_ v3_ v4_ v5_ H_ => r54_l0 K v1_ v2_ v3_ v4_ v5_ H_) K' v s.1 H1.n v l.length i (v.cut 3 (0 : Int).toNat i) i s.2 H2) (fun m s H' => Gr D H' ∧ ∃ j : Nat, s.2 = j ∧ j + m = i ∧ SL H' s.1 (rcs ((List.range i).flatMap (cno l) ++ ((l.take i).take j).filterMap (cn l l[i])))) ?_ FUEL i (w, 0) D (by unfold FUEL; omega) ⟨.refl _, 0, rfl, by omega, by simpa using hw.gr gD⟩
    rintro K' m' ⟨w', s'⟩ H2 ⟨g2, j, rfl, hm', hw'⟩ ih'
    try dsimp only at *
    rw [r54_l1]
    have pre : ∀ j', ((List.range i).flatMap (cno l) ++ ((l.take i).take j').filterMap (cn l l[i])) <+: cs l := fun j' => by
      refine List.IsPrefix.trans ?_ (pre_cs h)
      refine (List.prefix_append_right_inj _).2 ?_
      unfold cno
      rw [getElem!_pos l i h]
      conv => rhs; rw [← List.take_append_drop j' (l.take i), List.filterMap_append]
      exact List.prefix_append _ _
    by_cases h2 : j < i
    · have hg2 := hcut.gr g2
      have hj : j < (l.take i).length := by omega
      have et : (l.take i)[j] = l[j] := by rw [List.getElem_take]
      have htl := hs _ (List.getElem_mem (show j < l.length by omega))
      have l0 := hg2.ldI (i := j) (j := 0) (n := l[j].1) hj (by rw [et]; rfl)
      have l1 := hg2.ldI (i := j) (j := 1) (n := l[j].2.1) hj (by rw [et]; rfl)
      have l2 := hg2.ldI (i := j) (j := 2) (n := l[j].2.2) hj (by rw [et]; rfl)
      have cE : Cx H2 H2 [] := .nil H2
      have bd := meet_bd hsl htl
      have eq1 : ((l.take i).take (j + 1)).filterMap (cn l l[i]) = ((l.take i).take j).filterMap (cn l l[i]) ++ (cn l l[i] l[j]).toList := by
        rw [List.take_succ_eq_append_getElem hj, List.filterMap_append, et]
        cases h : cn l l[i] l[j] <;> simp [h]
      refine Ok.pos (by omega) (Ok.ck (by omega) (Ok.ld l0 (Ok.ld l1 (Ok.ld l2 (Ok.alo cE fun E gE cE => ?_)))))
      have sE : E.get H1.n = some (.cells (sc l[i]) false) := by rw [(g2.trans gE).2 _ (Hp.get_lt hsd)]; exact hsd
      refine Ok.ld (ldI_get sE rfl) (Ok.cld cE (.head _) rfl (Ok.cld cE (.head _) rfl (Ok.ld (ldI_get sE rfl) ?_)))
      have ecr : l[i].1 * l[j].2.1 - l[j].1 * l[i].2.1 = crI l[i] l[j] := by unfold crI; rw [Int.mul_comm l[j].1]
      have m1 : -16 ≤ l[i].1 * l[j].2.1 ∧ l[i].1 * l[j].2.1 ≤ 16 := mul_bd (A := 4) (B := 4) hsl.1.1 hsl.1.2 htl.2.1.1 htl.2.1.2
      have m2 : -16 ≤ l[j].1 * l[i].2.1 ∧ l[j].1 * l[i].2.1 ≤ 16 := mul_bd (A := 4) (B := 4) htl.1.1 htl.1.2 hsl.2.1.1 hsl.2.1.2
      rw [w64_id (n := l[i].1 * l[j].2.1) (by omega) (by omega), w64_id (n := l[j].1 * l[i].2.1) (by omega) (by omega), w64_id (n := _ - l[j].1 * l[i].2.1) (by omega) (by omega), ecr]
      refine Ok.ite (fun h0 => ?_) fun h0 => ?_
      · rw [w64_succ (by omega)]
        refine ih' (m' - 1) (w', _) E (by omega) ⟨g2.trans gE, j + 1, rfl, by omega, ?_⟩
        have : cn l l[i] l[j] = none := by unfold cn; rw [if_neg (fun q => q.1 h0)]
        rw [eq1, this]
        simpa using hw'.gr gE
      · refine Ok.ld (ldI_get sE rfl) (Ok.cld cE (.head _) rfl (Ok.cld cE (.head _) rfl (Ok.ld (ldI_get sE rfl) (Ok.ld (ldI_get sE rfl) (Ok.cld cE (.head _) rfl (Ok.cld cE (.head _) rfl (Ok.ld (ldI_get sE rfl) ?_)))))))
        rw [w64_id (n := l[i].2.2 * l[j].2.1) (by omega) (by omega), w64_id (n := l[j].2.2 * l[i].2.1) (by omega) (by omega), w64_id (n := l[i].1 * l[j].2.2) (by omega) (by omega), w64_id (n := l[j].1 * l[i].2.2) (by omega) (by omega), w64_id (n := _ - l[j].2.2 * l[i].2.1) (by omega) (by omega), w64_id (n := _ - l[j].1 * l[i].2.2) (by omega) (by omega)]
        have pj := pl (pre j)
        have kN : ∀ w'' H'', Gr E H'' → SL H'' w'' (rcs (((List.range i).flatMap (cno l) ++ ((l.take i).take j).filterMap (cn l l[i])) ++ (cn l l[i] l[j]).toList)) → Ok (r54_l1 (fun v1_ v2_ v3_ v4_ v5_ H_ => r54_l0 K v1_ v2_ v3_ v4_ v5_ H_) K' v w'' H1.n v l.length i (v.cut 3 (0 : Int).toNat i) i ((j : Int) + 1) H'') fun w H' => Gr H H' ∧ SL H' w (rcs (cs l)) := fun w'' H'' g'' hw'' => by
          refine ih' (m' - 1) (w'', _) H'' (by omega) ⟨g2.trans (gE.trans g''), j + 1, by simp, by omega, ?_⟩
          rw [eq1, ← List.append_assoc]
          exact hw''
        have gB := g1.trans (gD.trans (g2.trans gE))
        refine Ok.ite (fun hneg => ?_) fun hneg => ?_
        · rw [w64_id (n := 0 - crI _ _) (by omega) (by omega), w64_id (n := 0 - (l[i].2.2 * l[j].2.1 - l[j].2.2 * l[i].2.1)) (by omega) (by omega), w64_id (n := 0 - (l[i].1 * l[j].2.2 - l[j].1 * l[i].2.2)) (by omega) (by omega)]
          refine r54_l2_ok (s := l[i]) (t := l[j]) hv hb hs gB (hw'.gr gE) pj.1 pj.2 (by omega) (by omega) (by omega) ?_ h0 (by omega) kN
          unfold meetq
          rw [Int.zero_sub, Int.zero_sub, Int.zero_sub, dv_neg, dv_neg]
        · exact r54_l2_ok (s := l[i]) (t := l[j]) hv hb hs gB (hw'.gr gE) pj.1 pj.2 (by omega) (by omega) (by omega) rfl h0 (by omega) kN
    · refine Ok.neg (by omega) ?_
      rw [w64_succ (by omega)]
      refine ih (m - 1) (w', _) H2 (by omega) ⟨g1.trans (gD.trans g2), i + 1, rfl, by omega, ?_⟩
      rw [range_succ_flatMap]
      have : (l.take i).take j = l.take i := List.take_of_length_le (by omega)
      rw [this] at hw'
      unfold cno
      rw [getElem!_pos l i h]
      exact hw'
  · have : i = l.length := by omega
    subst this
    exact Ok.neg (by omega) (Ok.ret ⟨g1, hw⟩)
end
end Go.Lt.P2

namespace Go.Lt.P2
open Go Go.Lt Go.Proofs
/-! ### the box of some points -/
def isMin (f : Pq → Int) (S : Pq → Prop) (a : Int) : Prop := (∃ p, S p ∧ f p = a) ∧ ∀ p, S p → a ≤ f p
def isMax (f : Pq → Int) (S : Pq → Prop) (a : Int) : Prop := (∃ p, S p ∧ f p = a) ∧ ∀ p, S p → f p ≤ a
def fx (p : Pq) : Int := p.1.floor
def fy (p : Pq) : Int := p.2.floor
theorem isMin.uniq {f : Pq → Int} {S : Pq → Prop} {a b : Int} (h : isMin f S a) (k : isMin f S b) : a = b := by
  obtain ⟨⟨p, hp, e⟩, h2⟩ := h
  obtain ⟨⟨q, hq, e'⟩, k2⟩ := k
  have := h2 q hq; have := k2 p hp; omega
theorem isMax.uniq {f : Pq → Int} {S : Pq → Prop} {a b : Int} (h : isMax f S a) (k : isMax f S b) : a = b := by
  obtain ⟨⟨p, hp, e⟩, h2⟩ := h
  obtain ⟨⟨q, hq, e'⟩, k2⟩ := k
  have := h2 q hq; have := k2 p hp; omega
def IsBx (S : Pq → Prop) (lo hi : Pr) : Prop := (isMin fx S lo.1 ∧ isMin fy S lo.2) ∧ isMax fx S hi.1 ∧ isMax fy S hi.2
theorem IsBx.uniq {S : Pq → Prop} {lo hi lo' hi' : Pr} (h : IsBx S lo hi) (k : IsBx S lo' hi') : lo = lo' ∧ hi = hi' :=
  ⟨Prod.ext (h.1.1.uniq k.1.1) (h.1.2.uniq k.1.2), Prod.ext (h.2.1.uniq k.2.1) (h.2.2.uniq k.2.2)⟩
def isC (q : List Cn) (p : Pq) : Prop := ∃ c ∈ q, c.1 = p
theorem isC_snoc {q : List Cn} {c : Cn} {p : Pq} : isC (q ++ [c]) p ↔ isC q p ∨ c.1 = p := by
  unfold isC
  constructor
  · rintro ⟨d, hd, h⟩
    rcases List.mem_append.1 hd with hd | hd
    · exact .inl ⟨d, hd, h⟩
    · rw [List.mem_singleton] at hd; subst hd; exact .inr h
  · rintro (⟨d, hd, h⟩ | h)
    · exact ⟨d, List.mem_append_left _ hd, h⟩
    · exact ⟨c, by simp, h⟩
theorem isMin_up {f : Pq → Int} {q : List Cn} {c : Cn} {a : Int} (h : isMin f (isC q) a) : isMin f (isC (q ++ [c])) (nlo true (f c.1) a) := by
  obtain ⟨⟨p, hp, e⟩, h2⟩ := h
  unfold nlo
  split
  · rename_i hc
    refine ⟨⟨p, isC_snoc.2 (.inl hp), e⟩, fun r hr => ?_⟩
    rcases isC_snoc.1 hr with hr | rfl
    · exact h2 r hr
    · omega
  · rename_i hc
    have hc : f c.1 < a := Classical.byContradiction fun q => hc ⟨rfl, q⟩
    refine ⟨⟨c.1, isC_snoc.2 (.inr rfl), rfl⟩, fun r hr => ?_⟩
    rcases isC_snoc.1 hr with hr | rfl
    · have := h2 r hr; omega
    · omega
theorem isMax_up {f : Pq → Int} {q : List Cn} {c : Cn} {a : Int} (h : isMax f (isC q) a) : isMax f (isC (q ++ [c])) (nhi true (f c.1) a) := by
  obtain ⟨⟨p, hp, e⟩, h2⟩ := h
  unfold nhi
  split
  · rename_i hc
    refine ⟨⟨p, isC_snoc.2 (.inl hp), e⟩, fun r hr => ?_⟩
    rcases isC_snoc.1 hr with hr | rfl
    · exact h2 r hr
    · omega
  · rename_i hc
    have hc : a < f c.1 := Classical.byContradiction fun q => hc ⟨rfl, q⟩
    refine ⟨⟨c.1, isC_snoc.2 (.inr rfl), rfl⟩, fun r hr => ?_⟩
    rcases isC_snoc.1 hr with hr | rfl
    · have := h2 r hr; omega
    · omega
theorem bxs_is (q : List Cn) : (bxs q).2.2 = decide (q ≠ []) ∧ (q ≠ [] → IsBx (isC q) (bxs q).1 (bxs q).2.1) := by
  have step : ∀ (q : List Cn) (c : Cn), ((bxs q).2.2 = decide (q ≠ []) ∧ (q ≠ [] → IsBx (isC q) (bxs q).1 (bxs q).2.1)) → (bxs (q ++ [c])).2.2 = decide (q ++ [c] ≠ []) ∧ (q ++ [c] ≠ [] → IsBx (isC (q ++ [c])) (bxs (q ++ [c])).1 (bxs (q ++ [c])).2.1) := fun q c ⟨h1, h2⟩ => by
    have e : bxs (q ++ [c]) = bup (bxs q) c := by unfold bxs; rw [List.foldl_append]; rfl
    rw [e]
    refine ⟨by simp [bup], fun _ => ?_⟩
    by_cases hq : q = []
    · subst hq
      have one : ∀ p, isC ([] ++ [c]) p ↔ c.1 = p := fun p => by unfold isC; simp
      unfold IsBx isMin isMax bup up1 up0 nlo nhi bxs
      simp only [List.foldl_nil, Bool.false_eq_true, false_and, if_false]
      refine ⟨⟨⟨⟨c.1, (one _).2 rfl, rfl⟩, fun p hp => ?_⟩, ⟨c.1, (one _).2 rfl, rfl⟩, fun p hp => ?_⟩, ⟨⟨c.1, (one _).2 rfl, rfl⟩, fun p hp => ?_⟩, ⟨c.1, (one _).2 rfl, rfl⟩, fun p hp => ?_⟩ <;>
      · have := (one p).1 hp
        subst this
        exact Int.le_refl _
    · rw [decide_eq_true hq] at h1
      obtain ⟨⟨a1, a2⟩, a3, a4⟩ := h2 hq
      unfold bup up1 up0
      dsimp only
      rw [h1]
      exact ⟨⟨isMin_up (f := fx) a1, isMin_up (f := fy) a2⟩, isMax_up (f := fx) a3, isMax_up (f := fy) a4⟩
  have key : ∀ n (q : List Cn), q.length = n → ((bxs q).2.2 = decide (q ≠ []) ∧ (q ≠ [] → IsBx (isC q) (bxs q).1 (bxs q).2.1)) := by
    intro n
    induction n with
    | zero =>
      intro q hq
      have : q = [] := List.length_eq_zero_iff.1 hq
      subst this
      exact ⟨rfl, fun h => absurd rfl h⟩
    | succ n ih =>
      intro q hq
      have hne : q ≠ [] := by rintro rfl; simp at hq
      rw [← List.dropLast_concat_getLast hne]
      exact step _ _ (ih _ (by simp [hq]))
  exact key _ q rfl
theorem pts_is {l : List Sd} {lo hi : Pr} (h : IsBx (isC (cs l)) lo hi) : pts l = grid l lo hi := by
  have hne : cs l ≠ [] := by
    rintro hc
    obtain ⟨⟨p, ⟨c, hc', _⟩, _⟩, _⟩ := h.1.1
    rw [hc] at hc'
    cases hc'
  have b := bxs_is (cs l)
  obtain ⟨e1, e2⟩ := (b.2 hne).uniq h
  unfold pts
  rw [b.1, decide_eq_true hne, if_pos rfl, e1, e2]
theorem pts_nil {l : List Sd} (h : cs l = []) : pts l = [] := by
  have b := bxs_is (cs l)
  unfold pts
  rw [b.1, h]
  rfl
end Go.Lt.P2

namespace Go.Lt.P2
open Go Go.Lt Go.Proofs
/-- Floor -/
theorem r61_q {q : Rat} {N D : Int} (hq : qb N D q) (hN : N < 1000000000000000000) (hD : D < 1000000000000000000) : Ok (r61 (fq q).1 (fq q).2 H0) fun r _ => r = q.floor := by
  obtain ⟨h1, h2, h3⟩ := hq
  have hp := fq_pos q
  have e1 := Int.mul_tdiv_add_tmod (fq q).1 (fq q).2
  have e2 := Int.tmod_lt_of_pos (fq q).1 hp
  have e3 := Int.lt_tmod_of_pos (fq q).1 hp
  have hf : ∀ f : Int, f * (fq q).2 ≤ (fq q).1 → (fq q).1 < (f + 1) * (fq q).2 → f = q.floor := fun f h1 h2 => by
    have := (floor_iff (f := f) (n := (fq q).1) hp).2 ⟨h1, h2⟩
    rw [dv_fq] at this
    exact this
  have hm0 : 0 ≤ (fq q).1 → 0 ≤ Int.tmod (fq q).1 (fq q).2 := fun h => Int.tmod_nonneg _ h
  have hab : (Int.tdiv (fq q).1 (fq q).2).natAbs ≤ (fq q).1.natAbs := by
    rw [Int.natAbs_tdiv]; exact Nat.div_le_self _ _
  have hmul : (fq q).2 * Int.tdiv (fq q).1 (fq q).2 = Int.tdiv (fq q).1 (fq q).2 * (fq q).2 := Int.mul_comm _ _
  rw [hmul] at e1
  have e4 : (Int.tdiv (fq q).1 (fq q).2 + 1) * (fq q).2 = Int.tdiv (fq q).1 (fq q).2 * (fq q).2 + (fq q).2 := by rw [Int.add_mul, Int.one_mul]
  have e5 : (Int.tdiv (fq q).1 (fq q).2 - 1) * (fq q).2 = Int.tdiv (fq q).1 (fq q).2 * (fq q).2 - (fq q).2 := by rw [Int.sub_mul, Int.one_mul]
  have e6 : (Int.tdiv (fq q).1 (fq q).2 - 1 + 1) * (fq q).2 = Int.tdiv (fq q).1 (fq q).2 * (fq q).2 := by rw [Int.sub_add_cancel]
  unfold r61
  refine Ok.box (.nil H0) fun A _ c => Ok.cld c (.head _) rfl (Ok.cld c (.head _) rfl (Ok.ck (by omega) (Ok.cld c (.head _) rfl (Ok.cld c (.head _) rfl ?_))))
  have hw : w64 (Int.tdiv (fq q).1 (fq q).2) = Int.tdiv (fq q).1 (fq q).2 := w64_id (by omega) (by omega)
  rw [hw]
  generalize Int.tdiv (fq q).1 (fq q).2 = n at *
  generalize Int.tmod (fq q).1 (fq q).2 = m at *
  rw [w64_id (n := n * _) (by omega) (by omega)]
  refine Ok.ite (fun hc => Ok.ret ?_) fun hc => Ok.ret ?_
  · rw [w64_id (by omega) (by omega)]
    exact hf _ (by omega) (by omega)
  · exact hf _ (by omega) (by omega)
end Go.Lt.P2

namespace Go.Lt.P2
open Go Go.Lt Go.Proofs
theorem isC_rcs {q : List Cn} {p : Pq} : p ∈ rcs q ↔ isC q p := mem_rcs
theorem rcs_qb {l : List Sd} (hs : ∀ s ∈ l, sideP s) : ∀ p ∈ rcs (cs l), qb 320 32 p.1 ∧ qb 320 32 p.2 := fun p hp => by
  obtain ⟨c, hc, rfl⟩ := mem_rcs.1 hp
  have k := cs_mem hc
  rw [k.2.2.2.1]
  exact meet_qb (hs _ k.1) (hs _ k.2.1) k.2.2.1
section
variable {l : List Sd} {v w : Sl} {B : Hp}
theorem r25_l3_ok {H : Hp} (hv : SL B v l) (hb : l.length ≤ 1000) (hs : ∀ s ∈ l, sideP s) (g : Gr B H) {u : Sl} {q : List Pr} (hu : AccL B.n H u q) (hq : q.length ≤ 5000000) {lo hi x y : Int} (hx : -1000 ≤ x ∧ x ≤ 1000) (hy : -1000 ≤ y ∧ y ≤ 1000) {kt : Sl → Sl → Int → Int → Sl → Int → Int → Hp → Option (Sl × Hp)} {Q : Sl → Hp → Prop}
    (kN : ∀ u' H', Gr B H' → AccL B.n H' u' (q ++ if ∀ s ∈ l, kp (x, y) s then [(x, y)] else []) → Ok (kt v w lo hi u' x (y + 1) H') Q) :
    Ok (r25_l3 kt FUEL v w lo hi u x y true v l.length 0 H) Q := by
  have hlen := hv.len
  refine Ok.loop (L := fun K (s : Bool × Int) H2 => r25_l3 kt K v w lo hi u x y s.1 v l.length s.2 H2) (fun m s' H' => Gr B H' ∧ AccL B.n H' u q ∧ ∃ i : Nat, s'.2 = i ∧ i + m = l.length ∧ (s'.1 = true ↔ ∀ s ∈ l.take i, kp (x, y) s)) ?_ FUEL l.length (true, 0) H (by unfold FUEL; omega) ⟨g, hu, 0, rfl, by omega, by simp⟩
  rintro K m ⟨fl, j⟩ H1 ⟨g1, hu1, i, rfl, hm, hfl⟩ ih
  try dsimp only at *
  rw [r25_l3]
  by_cases h : i < l.length
  · have hg := hv.gr g1
    have hx' := hs _ (List.getElem_mem h)
    have c0 : Cx H1 H1 [] := .nil H1
    refine Ok.pos (by omega) (Ok.ck (by omega) (Ok.ld (hg.ldI (i := i) (j := 0) h rfl) (Ok.ld (hg.ldI (i := i) (j := 1) h rfl) (Ok.ld (hg.ldI (i := i) (j := 2) h rfl) (Ok.alo c0 fun E gE cx => ?_)))))
    have nxt : ∀ b, (b = true ↔ ∀ s ∈ l.take (i + 1), kp (x, y) s) → Ok (r25_l3 kt K v w lo hi u x y b v l.length (w64 ((i : Int) + 1)) E) Q := fun b hbb => by
      rw [w64_succ (by omega)]
      exact ih (m - 1) (b, _) E (by omega) ⟨g1.trans gE, hu1.gr gE, i + 1, rfl, by omega, hbb⟩
    refine Ok.ite (fun hc => ?_) fun hc => nxt _ ?_
    · refine Ok.cld cx (.head _) rfl (Ok.cld cx (.head _) rfl (Ok.cld cx (.head _) rfl (Ok.own (r75_ok hx' (by omega) (by omega) (by omega)) fun _ => nxt _ ?_)))
      have hc := hfl.1 hc
      rw [decide_eq_true_iff, Int.mul_one, List.take_succ_eq_append_getElem h]
      constructor
      · intro k s hs
        rcases List.mem_append.1 hs with hs | hs
        · exact hc s hs
        · rw [List.mem_singleton] at hs; subst hs; exact k
      · intro k; exact k _ (List.mem_append_right _ (List.mem_singleton_self _))
    · refine ⟨fun c => (by cases c), fun k => ?_⟩
      exact absurd (hfl.2 fun s hs => k s (by rw [List.take_succ_eq_append_getElem h]; exact List.mem_append_left _ hs)) hc
  · rw [List.take_of_length_le (by omega)] at hfl
    rw [w64_id (n := y + 1) (by omega) (by omega)]
    refine Ok.neg (by omega) (Ok.ite (fun hc => ?_) fun hc => ?_)
    · rw [if_pos (hfl.1 hc)] at kN
      refine Ok.bind (hu1.push g1 (x, y) rfl rfl (by omega)) fun u' E ⟨hu', gE, _⟩ => kN u' E gE hu'
    · rw [if_neg (fun k => hc (hfl.2 k)), List.append_nil] at kN
      exact kN u H1 g1 hu1
theorem r25_l2_ok {H : Hp} (hv : SL B v l) (hb : l.length ≤ 1000) (hs : ∀ s ∈ l, sideP s) (g : Gr B H) {u : Sl} {q : List Pr} (hu : AccL B.n H u q) (hq : q.length ≤ 4100000) {lo hi x : Int} (hx : -1000 ≤ x ∧ x ≤ 1000) (hlo : -1000 ≤ lo ∧ lo ≤ 1000) (hhi : -1000 ≤ hi ∧ hi ≤ 1000) {kt : Sl → Sl → Int → Int → Sl → Int → Hp → Option (Sl × Hp)} {Q : Sl → Hp → Prop}
    (kN : ∀ u' H', Gr B H' → AccL B.n H' u' (q ++ row l lo hi x) → Ok (kt v w lo hi u' (x + 1) H') Q) :
    Ok (r25_l2 kt FUEL v w lo hi u x lo H) Q := by
  refine Ok.loop (L := fun K (s : Sl × Int) H2 => r25_l2 kt K v w lo hi s.1 x s.2 H2) (fun m s H' => Gr B H' ∧ (lo ≤ s.2 ∧ (s.2 ≤ hi + 1 ∨ s.2 = lo)) ∧ m = (hi + 1 - s.2).toNat ∧ AccL B.n H' s.1 (q ++ row l lo (s.2 - 1) x)) ?_ FUEL (hi + 1 - lo).toNat (u, lo) H (by unfold FUEL; omega) ⟨g, ⟨by simp, .inr rfl⟩, rfl, by
    have : row l lo (lo - 1) x = [] := by unfold row; rw [ints_nil (by omega)]; rfl
    rw [this, List.append_nil]; exact hu⟩
  rintro K m ⟨u, y⟩ H1 ⟨g1, hy, hm, hacc⟩ ih
  try dsimp only at *
  rw [r25_l2]
  by_cases h : y ≤ hi
  · refine Ok.pos h ?_
    have hlen := row_bd (l := l) (x := x) (lo := lo) (hi := y - 1) (by omega) (by omega)
    rw [hv.len]
    refine r25_l3_ok hv hb hs g1 hacc (by rw [List.length_append]; omega) hx (by omega) fun u' H' g' hu' => ?_
    refine ih (m - 1) (u', y + 1) H' (by omega) ⟨g', by omega, by omega, ?_⟩
    dsimp only
    rw [show y + 1 - 1 = y by omega, row_snoc (show lo ≤ y by omega), ← List.append_assoc]
    exact hu'
  · refine Ok.neg h ?_
    rw [w64_id (n := x + 1) (by omega) (by omega)]
    refine kN u H1 g1 ?_
    have : row l lo (y - 1) x = row l lo hi x := by
      by_cases h3 : y ≤ hi + 1
      · rw [show y - 1 = hi by omega]
      · unfold row; rw [ints_nil (by omega), ints_nil (by omega)]
    rw [← this]; exact hacc
/-- Points of the reference -/
theorem r25_ok {H : Hp} (hv : SL H v l) (hb : l.length ≤ 1000) (hs : ∀ s ∈ l, sideP s) : Ok (r25 v H) fun w H' => Gr H H' ∧ SL H' w (pts l) := by
  unfold r25
  refine Ok.bind (r54_ok hv hb hs) fun w A ⟨gA, hw⟩ => ?_
  have hlen := hw.len
  have hvA := hv.gr gA
  by_cases hn : rcs (cs l) = []
  · have hc : cs l = [] := by
      refine List.eq_nil_iff_forall_not_mem.2 fun c hc => ?_
      have : c.1 ∈ rcs (cs l) := mem_rcs.2 ⟨c, hc, rfl⟩
      rw [hn] at this
      cases this
    rw [pts_nil hc]
    rw [hn] at hlen
    exact Ok.pos (by simpa using hlen) (Ok.ret ⟨gA, .nilS⟩)
  have hqb := rcs_qb hs
  have hsrt := rcs_srt (cs l)
  have hP : ∀ p, p ∈ rcs (cs l) ↔ isC (cs l) p := fun p => isC_rcs
  have hPl : (rcs (cs l)).length ≤ 1000000 := Nat.le_trans (rcs_len _) (cs_len hb)
  generalize hPe : rcs (cs l) = P at *
  have hp0 : 0 < P.length := List.length_pos_iff.2 hn
  have flo : ∀ p ∈ P, (-321 ≤ fx p ∧ fx p ≤ 320) ∧ -321 ≤ fy p ∧ fy p ≤ 320 := fun p hp => by
    have a := floor_bd (hqb p hp).1 (by decide)
    have b := floor_bd (hqb p hp).2 (by decide)
    unfold fx fy; omega
  have m0 := List.getElem_mem hp0
  have ldx : ∀ {D : Hp} {i : Nat} (h : i < P.length), Gr A D → D.ldI .i64 w.b (w.o + i * 4 + 0) = some (fq P[i].1).1 ∧ D.ldI .i64 w.b (w.o + i * 4 + 0 + 1) = some (fq P[i].1).2 ∧ D.ldI .i64 w.b (w.o + i * 4 + 2) = some (fq P[i].2).1 ∧ D.ldI .i64 w.b (w.o + i * 4 + 2 + 1) = some (fq P[i].2).2 := fun {D i} h g =>
    ⟨(hw.gr g).ldI (i := i) (j := 0) h rfl, (hw.gr g).ldI (i := i) (j := 1) h rfl, (hw.gr g).ldI (i := i) (j := 2) h rfl, (hw.gr g).ldI (i := i) (j := 3) h rfl⟩
  have l0 := ldx hp0 (.refl A)
  refine Ok.neg (by dsimp only; omega) (Ok.ck (by dsimp only; omega) (Ok.ld l0.2.2.1 (Ok.ld l0.2.2.2 (Ok.own (r61_q (hqb _ m0).2 (by decide) (by decide)) fun _ => Ok.ck (by dsimp only; omega) (Ok.ld l0.2.2.1 (Ok.ld l0.2.2.2 (Ok.own (r61_q (hqb _ m0).2 (by decide) (by decide)) fun _ => ?_)))))))
  rw [hlen]
  refine Ok.loop (L := fun K (s : Int × Int × Int) H2 => r25_l0 K v w s.1 s.2.1 w P.length s.2.2 H2) (fun m s H' => Gr A H' ∧ ∃ i : Nat, s.2.2 = i ∧ i + m = P.length ∧ ((∃ p ∈ P, fy p = s.1) ∧ ∀ p ∈ P.take i, s.1 ≤ fy p) ∧ (∃ p ∈ P, fy p = s.2.1) ∧ ∀ p ∈ P.take i, fy p ≤ s.2.1) ?_ FUEL P.length (fy P[0], fy P[0], 0) A (by unfold FUEL; omega) ⟨.refl _, 0, rfl, by omega, ⟨⟨_, m0, rfl⟩, by simp⟩, ⟨_, m0, rfl⟩, by simp⟩
  rintro K m ⟨lo, hi, s⟩ H1 ⟨g1, i, rfl, hm, ⟨⟨pl, hpl, elo⟩, hlo⟩, ⟨ph, hph, ehi⟩, hhi⟩ ih
  try dsimp only at *
  rw [r25_l0]
  by_cases h : i < P.length
  · have li := ldx h g1
    have mi := List.getElem_mem h
    have c0 : Cx H1 H1 [] := .nil H1
    refine Ok.pos (by omega) (Ok.ck (by omega) (Ok.ld li.1 (Ok.ld li.2.1 (Ok.ld li.2.2.1 (Ok.ld li.2.2.2 (Ok.alo c0 fun E gE cx => ?_))))))
    refine Ok.cld cx (.head _) rfl (Ok.cld cx (.head _) rfl (Ok.own (r61_q (hqb _ mi).2 (by decide) (by decide)) fun _ => Ok.cld cx (.head _) rfl (Ok.cld cx (.head _) rfl (Ok.own (r61_q (hqb _ mi).2 (by decide) (by decide)) fun _ => ?_))))
    rw [w64_succ (by omega)]
    refine ih (m - 1) (if P[i].2.floor < lo then P[i].2.floor else lo, if hi < P[i].2.floor then P[i].2.floor else hi, _) E (by omega) ⟨g1.trans gE, i + 1, rfl, by omega, ⟨?_, fun p hp => ?_⟩, ?_, fun p hp => ?_⟩
    · dsimp only
      split
      · exact ⟨_, mi, rfl⟩
      · exact ⟨pl, hpl, elo⟩
    · rw [List.take_succ_eq_append_getElem h] at hp
      dsimp only
      rcases List.mem_append.1 hp with hp | hp
      · have := hlo p hp
        split <;> omega
      · rw [List.mem_singleton] at hp
        subst hp
        show _ ≤ P[i].2.floor
        split <;> omega
    · dsimp only
      split
      · exact ⟨_, mi, rfl⟩
      · exact ⟨ph, hph, ehi⟩
    · rw [List.take_succ_eq_append_getElem h] at hp
      dsimp only
      rcases List.mem_append.1 hp with hp | hp
      · have := hhi p hp
        split <;> omega
      · rw [List.mem_singleton] at hp
        subst hp
        show P[i].2.floor ≤ _
        split <;> omega
  · rw [List.take_of_length_le (by omega)] at hlo hhi
    have l0 := ldx hp0 g1
    refine Ok.neg (by omega) (Ok.ck (by omega) (Ok.ld l0.1 (Ok.ld l0.2.1 (Ok.own (r61_q (hqb _ m0).1 (by decide) (by decide)) fun _ => ?_))))
    have hlast : P.length - 1 < P.length := by omega
    have ml := List.getElem_mem hlast
    have fmono : ∀ {i j : Nat} (hi : i < P.length) (hj : j < P.length), i ≤ j → fx P[i] ≤ fx P[j] := fun {i j} hi hj hij => by
      rcases Nat.eq_or_lt_of_le hij with rfl | hij
      · exact Int.le_refl _
      · have := List.pairwise_iff_getElem.1 hsrt i j hi hj hij
        refine Rat.floor_monotone ?_
        rcases this with h | h
        · exact Rat.le_of_lt h
        · rw [h.1]; exact Rat.le_refl
    have hbx : IsBx (isC (cs l)) (fx P[0], lo) (fx P[P.length - 1], hi) := by
      refine ⟨⟨⟨⟨_, (hP _).1 m0, rfl⟩, fun p hp => ?_⟩, ⟨pl, (hP _).1 hpl, elo⟩, fun p hp => hlo p ((hP p).2 hp)⟩, ⟨⟨_, (hP _).1 ml, rfl⟩, fun p hp => ?_⟩, ⟨ph, (hP _).1 hph, ehi⟩, fun p hp => hhi p ((hP p).2 hp)⟩
      · obtain ⟨i, hi, rfl⟩ := List.mem_iff_getElem.1 ((hP p).2 hp)
        exact fmono hp0 hi (by omega)
      · obtain ⟨i, hi, rfl⟩ := List.mem_iff_getElem.1 ((hP p).2 hp)
        exact fmono hi hlast (by omega)
    rw [pts_is hbx]
    have bl := flo pl hpl
    have bh := flo ph hph
    have b0 := flo _ m0
    have bl' := flo _ ml
    have hv1 := hvA.gr g1
    refine Ok.mono (P := fun u H' => Gr H1 H' ∧ AccL H1.n H' u (grid l (fx P[0], lo) (fx P[P.length - 1], hi))) ?_ fun u H' h => ⟨gA.trans (g1.trans h.1), AccL.sl h.2⟩
    refine Ok.loop (L := fun K (s : Sl × Int) H2 => r25_l1 K v w lo hi s.1 s.2 H2) (fun m s H' => Gr H1 H' ∧ (fx P[0] ≤ s.2 ∧ (s.2 ≤ fx P[P.length - 1] + 1 ∨ s.2 = fx P[0])) ∧ m = (fx P[P.length - 1] + 1 - s.2).toNat ∧ AccL H1.n H' s.1 ((ints (fx P[0]) (s.2 - 1)).flatMap (row l lo hi))) ?_ FUEL (fx P[P.length - 1] + 1 - fx P[0]).toNat (⟨true, 0, 0, 0, 0, 0⟩, fx P[0]) H1 (by unfold FUEL; omega) ⟨.refl _, ⟨by simp, .inr rfl⟩, rfl, by dsimp only; rw [ints_nil (by omega)]; exact AccL.nilS⟩
    rintro K' m' ⟨u, x⟩ H2 ⟨g2, hx, hm', hacc⟩ ih'
    try dsimp only at *
    rw [r25_l1]
    have ew : w64 ((w.len : Int) - 1) = ((P.length - 1 : Nat) : Int) := by rw [w64_id (by omega) (by omega)]; omega
    rw [ew]
    have ll := ldx hlast (g1.trans g2)
    refine Ok.ck (by omega) (Ok.ld ll.1 (Ok.ld ll.2.1 (Ok.own (r61_q (hqb _ ml).1 (by decide) (by decide)) fun _ => ?_)))
    show Ok (if x ≤ fx P[P.length - 1] then _ else _) _
    by_cases h : x ≤ fx P[P.length - 1]
    · refine Ok.pos h ?_
      have hlen : ((ints (fx P[0]) (x - 1)).flatMap (row l lo hi)).length ≤ 4100000 := by
        have h3 : ((x - 1 : Int) + 1 - fx P[0]).toNat * (hi + 1 - lo).toNat ≤ 2001 * 2001 := Nat.mul_le_mul (by omega) (by omega)
        exact Nat.le_trans (grid_len l (fx P[0], lo) (x - 1, hi)) (Nat.le_trans h3 (by decide))
      refine r25_l2_ok hv1 hb hs g2 hacc hlen (by omega) (by omega) (by omega) fun u' H' g' hacc' => ?_
      refine ih' (m' - 1) (u', x + 1) H' (by omega) ⟨g', by omega, by omega, ?_⟩
      dsimp only
      rw [show x + 1 - 1 = x by omega, ints_snoc (show fx P[0] ≤ x by omega), List.flatMap_append, List.flatMap_singleton]
      exact hacc'
    · refine Ok.neg h (Ok.ret ⟨g2, ?_⟩)
      unfold grid
      by_cases h3 : x ≤ fx P[P.length - 1] + 1
      · dsimp only
        rw [show fx P[P.length - 1] = x - 1 by omega]; exact hacc
      · dsimp only
        rw [ints_nil (by omega)] at hacc ⊢; exact hacc
end
end Go.Lt.P2

namespace Go.Lt.P2
open Go Go.Lt Go.Proofs
theorem keqs_two (a b c d : Int) : AV.keqs [.int .i64 a, .int .i64 b] [.int .i64 c, .int .i64 d] = decide ((a, b) = (c, d)) := by
  simp only [AV.keqs, AV.keq1, Bool.and_true, Prod.mk.injEq]
  exact Bool.eq_iff_iff.2 (by simp)
/-- Equal -/
theorem r26_ok {l l' : List Pr} {H : Hp} {v w : Sl} (hv : SL H v l) (hw : SL H w l') (hb : l.length ≤ 100000000) : Ok (r26 v w H) fun b H' => H' = H ∧ b = decide (l = l') := by
  unfold r26
  have h1 := hv.len
  have h2 := hw.len
  by_cases hl : l.length = l'.length
  · refine Ok.neg (by omega) ?_
    rw [h1]
    refine Ok.loop (L := fun K (s : Int) H2 => r26_l0 K v w l.length s H2) (fun m s H' => H' = H ∧ ∃ i : Nat, s = i ∧ i + m = l.length ∧ l.take i = l'.take i) ?_ FUEL l.length 0 H (by unfold FUEL; omega) ⟨rfl, 0, rfl, by omega, rfl⟩
    rintro K m s H1 ⟨rfl, i, rfl, hm, ht⟩ ih
    try dsimp only at *
    rw [r26_l0]
    by_cases h : i < l.length
    · refine Ok.pos (by omega) (Ok.ck (by omega) (Ok.ld (hv.ldI (i := i) (j := 0) h rfl) (Ok.ld (hv.ldI (i := i) (j := 1) h rfl) (Ok.ck (by omega) (Ok.ld (hw.ldI (i := i) (j := 0) (by omega) rfl) (Ok.ld (hw.ldI (i := i) (j := 1) (by omega) rfl) ?_))))))
      rw [keqs_two]
      refine Ok.ite (fun hc => ?_) fun hc => Ok.ret ⟨rfl, ?_⟩
      · rw [w64_succ (by omega)]
        refine ih (m - 1) _ _ (by omega) ⟨rfl, i + 1, rfl, by omega, ?_⟩
        rw [List.take_succ_eq_append_getElem h, List.take_succ_eq_append_getElem (by omega), ht]
        congr 2
        exact of_decide_eq_true hc
      · symm
        rw [decide_eq_false_iff_not]
        rintro rfl
        exact hc (by simp)
    · refine Ok.neg (by omega) (Ok.ret ⟨rfl, ?_⟩)
      symm
      rw [decide_eq_true_iff]
      rw [List.take_of_length_le (by omega), List.take_of_length_le (by omega)] at ht
      exact ht
  · refine Ok.pos (by omega) (Ok.ret ⟨rfl, ?_⟩)
    symm
    rw [decide_eq_false_iff_not]
    rintro rfl
    exact hl rfl
end Go.Lt.P2

namespace Go.Lt.P2
open Go Go.Lt Go.Proofs
/-- Of -/
theorem r18_ok {H : Hp} {v : Sl} {l : List Sd} (hv : SL H v l) (hb : l.length < 9223372036854775808) : Ok (r18 v H) fun w H' => Gr H H' ∧ SL H' w (l.take 9) := by
  unfold r18
  have hlen := hv.len
  rw [hlen]
  refine Ok.loop (L := fun K (s : Sl × Int) H2 => r18_l0 K s.1 v l.length s.2 H2) (fun m s H' => Gr H H' ∧ ∃ i : Nat, s.2 = i ∧ i + m = l.length ∧ AccL H.n H' s.1 ((l.take i).take 9)) ?_ FUEL l.length (⟨true, 0, 0, 0, 0, 0⟩, 0) H (by unfold FUEL; omega) ⟨.refl _, 0, rfl, by omega, by simpa using AccL.nilS⟩
  rintro K m ⟨w, s⟩ H1 ⟨g1, i, rfl, hm, ha⟩ ih
  try dsimp only at *
  rw [r18_l0]
  by_cases h : i < l.length
  · have hg := hv.gr g1
    obtain ⟨E, hE, hE', gE, nE⟩ := sts3 H1 (.int .i64 l[i].1) (.int .i64 l[i].2.1) (.int .i64 l[i].2.2) (.int .i64 0) (.int .i64 0) (.int .i64 0)
    have gB := g1.trans gE
    refine Ok.pos (by omega) (Ok.ck (by omega) (Ok.ld (hg.ldI (i := i) (j := 0) h rfl) (Ok.ld (hg.ldI (i := i) (j := 1) h rfl) (Ok.ld (hg.ldI (i := i) (j := 2) h rfl) (Ok.ld hE ?_)))))
    refine Ok.ite (fun c => Ok.ld (ldI_get hE' rfl) (Ok.ld (ldI_get hE' rfl) (Ok.ld (ldI_get hE' rfl) ?_))) fun c => ?_
    · have ha' := ha.gr gE
      rw [List.take_of_length_le (by rw [List.length_take]; omega)] at ha'
      refine Ok.bind (ha'.push gB l[i] rfl rfl (by rw [List.length_take]; omega)) fun w2 H3 ⟨ha3, g3, _⟩ => ?_
      rw [w64_succ (by omega)]
      refine ih (m - 1) (w2, _) H3 (by omega) ⟨g3, i + 1, rfl, by omega, ?_⟩
      rw [List.take_succ_eq_append_getElem h, List.take_of_length_le (by simp; omega)]
      exact ha3
    · rw [w64_succ (by omega)]
      refine ih (m - 1) (w, _) E (by omega) ⟨gB, i + 1, rfl, by omega, ?_⟩
      rw [List.take_take, Nat.min_eq_left (by omega)] at ha ⊢
      exact ha.gr gE
  · have hi : i = l.length := by omega
    subst hi
    rw [List.take_length] at ha
    exact Ok.neg (by omega) (Ok.ret ⟨g1, ha.sl⟩)
end Go.Lt.P2
