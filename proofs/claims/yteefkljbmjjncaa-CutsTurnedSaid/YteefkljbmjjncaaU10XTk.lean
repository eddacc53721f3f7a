/- PLAIN LAWS OF WHAT IS COMPUTED, for the statement 'CutsTurned'. Nothing is asked of the input. -/
import Derived.Test.YteefkljbmjjncaaU10XBy
import Derived.Test.YteefkljbmjjncaaLB
import Derived.Test.YteefkljbmjjncaaU10XTn
set_option linter.unusedVariables false
set_option linter.unusedSimpArgs false
namespace Go.Lt.P2
open Go Go.Lt Go.Proofs
def cmI (x y : Int) : Int := if x < y then -1 else if y < x then 1 else 0
def cmP (p q : Pr) : Int := if cmI p.1 q.1 ≠ 0 then cmI p.1 q.1 else cmI p.2 q.2
theorem cmP_lt (p q : Pr) : cmP p q < 0 ↔ plt p q := by
  unfold cmP cmI plt
  by_cases a : p.1 < q.1
  · rw [if_pos a, if_pos (by decide)]; omega
  · rw [if_neg a]
    by_cases b : q.1 < p.1
    · rw [if_pos b, if_pos (by decide)]; omega
    · rw [if_neg b, if_neg (by decide)]
      by_cases c : p.2 < q.2
      · rw [if_pos c]; omega
      · rw [if_neg c]
        by_cases d : q.2 < p.2
        · rw [if_pos d]; omega
        · rw [if_neg d]; omega
theorem cmP_refl (p : Pr) : cmP p p = 0 := by
  have : ∀ x, cmI x x = 0 := fun x => by unfold cmI; rw [if_neg (by omega), if_neg (by omega)]
  unfold cmP; rw [this, this]; rfl
theorem r84_spec (x y : Int) : ∃ X, r84 x y H0 = some (cmI x y, X) := by
  obtain ⟨r, X, e, h⟩ := r84_q x y
  exact ⟨X, by rw [e, h]; rfl⟩
theorem r45_two {H : Hp} {b c : Nat} {x y u w : Int} (hb : H.get b = some (.cells [.int .i64 x, .int .i64 y] false)) (hc : H.get c = some (.cells [.int .i64 u, .int .i64 w] false)) :
    r45 ⟨false, b, 0, 2, 2, 0⟩ ⟨false, c, 0, 2, 2, 0⟩ H = some (cmP (x, y) (u, w), H) := by
  have e0 : H.ldI .i64 b (0 + (0 : Int).toNat * 1) = some x := ldI_get hb rfl
  have e1 : H.ldI .i64 b (0 + (1 : Int).toNat * 1) = some y := ldI_get hb rfl
  have f0 : H.ldI .i64 c (0 + (0 : Int).toNat * 1) = some u := ldI_get hc rfl
  have f1 : H.ldI .i64 c (0 + (1 : Int).toNat * 1) = some w := ldI_get hc rfl
  have s1 : w64 ((0 : Int) + 1) = 1 := by decide +kernel
  have s2 : w64 ((1 : Int) + 1) = 2 := by decide +kernel
  obtain ⟨X1, g1⟩ := r84_spec x u
  obtain ⟨X2, g2⟩ := r84_spec y w
  unfold r45
  rw [show FUEL = 18446744073709551613 + 1 + 1 + 1 from rfl, r45_l0]
  simp only [e0, f0, Option.bind_some, g1, s1]
  rw [if_pos (by simp), ck, if_pos (by simp), if_neg (by simp), ck, if_pos (by simp)]
  unfold cmP
  by_cases h : cmI x u ≠ 0
  · rw [if_pos h, if_pos h]
  · rw [if_neg h, if_neg h, r45_l0]
    simp only [e1, f1, Option.bind_some, g2, s2]
    rw [if_pos (by simp), ck, if_pos (by simp), if_neg (by simp), ck, if_pos (by simp)]
    by_cases h2 : cmI y w ≠ 0
    · rw [if_pos h2]
    · rw [if_neg h2, r45_l0, if_neg (by simp), if_neg (by simp)]
      simp only [ne_eq, Classical.not_not] at h2
      rw [h2]
theorem says50 (k : Nat) (H : Hp) (p q : Pr) : Ok (callv (appA (k + 1)) (.fn 50 [] []) [.agg [.int .i64 p.1, .int .i64 p.2], .agg [.int .i64 q.1, .int .i64 q.2]] H) fun r H' => Gr H H' ∧ r = .int .i64 (cmP p q) := by
  show Ok ((r50 p.1 p.2 q.1 q.2 H).map fun p => (AV.int .i64 p.1, p.2)) _
  have h1 : Ok (r50 p.1 p.2 q.1 q.2 H) fun r H' => Gr H H' ∧ r = cmP p q := by
    unfold r50
    refine Ok.box2 (.nil H) fun A gA c => ?_
    exact Ok.ld (r45_two (c.e _ (.tail _ (.head _))) (c.e _ (.head _))) (Ok.ret ⟨gA, rfl⟩)
  obtain ⟨r, H', e, g, rfl⟩ := h1
  rw [e]
  exact Ok.ret ⟨g, rfl⟩
theorem mid {i j : Nat} (h : i + j < 9223372036854775808) : w64 (shrOf .u64 (IntKind.wrap .u64 (w64 ((i : Int) + (j : Int)))) 1) = (((i + j) / 2 : Nat) : Int) := by
  have e1 : w64 ((i : Int) + (j : Int)) = ((i + j : Nat) : Int) := by rw [w64_id (by omega) (by omega)]; push_cast; rfl
  have e2 : IntKind.wrap .u64 ((i + j : Nat) : Int) = ((i + j : Nat) : Int) := by
    unfold IntKind.wrap
    simp [IntKind.signed, IntKind.bits]
    omega
  rw [e1, e2]
  have e3 : shrOf .u64 ((i + j : Nat) : Int) 1 = (((i + j) / 2 : Nat) : Int) := by
    unfold shrOf
    show ((i + j : Nat) : Int).fdiv (2 ^ min 1 64) = _
    rw [show (2 : Int) ^ min 1 64 = 2 from rfl, Int.fdiv_eq_ediv_of_nonneg _ (by decide)]
    omega
  rw [e3, w64_id (by omega) (by omega)]
/-- BinarySearchFunc finds what is there -/
theorem r43_ok {k : Nat} {H : Hp} {v : Sl} {P : List Pr} {x : Pr} (hv : SL H v P) (hb : P.length ≤ 100000000) (hs : P.Pairwise plt) (hx : x ∈ P) : Ok (r43 (appA (k + 1)) v x.1 x.2 (.fn 50 [] []) H) fun r H' => Gr H H' ∧ r.2 = true := by
  unfold r43
  have hlen := hv.len
  refine Ok.box (.nil H) fun A gA c => ?_
  have irr : ∀ z : Pr, ¬ plt z z := fun z hz => by unfold plt at hz; omega
  have tr : ∀ {a b c : Pr}, plt a b → plt b c → plt a c := fun {a b c} p q => by unfold plt at *; omega
  obtain ⟨j, hj, ej⟩ := List.mem_iff_getElem.1 hx
  have lt : ∀ {i j : Nat} (hi : i < P.length) (hj : j < P.length), i < j → plt P[i] P[j] := fun {i j} hi hj h => List.pairwise_iff_getElem.1 hs i j hi hj h
  rw [hlen]
  refine Ok.loop (L := fun K (s : Int × Int) H2 => r43_l0 (appA (k + 1)) K v (.fn 50 [] []) H.n P.length s.1 s.2 H2) (fun m s H' => Cx H H' [(H.n, [.int .i64 x.1, .int .i64 x.2])] ∧ ∃ lo hi : Nat, s.1 = lo ∧ s.2 = hi ∧ lo ≤ j ∧ j ≤ hi ∧ hi ≤ P.length ∧ m = hi - lo) ?_ FUEL P.length (0, (P.length : Int)) A (by unfold FUEL; omega) ⟨c, 0, P.length, rfl, rfl, by omega, by omega, by omega, by omega⟩
  rintro K m ⟨s1, s2⟩ H1 ⟨c, lo, hi, rfl, rfl, h1, h2, h3, rfl⟩ ih
  try dsimp only at *
  rw [r43_l0]
  have hg := hv.gr c.g
  by_cases h : lo < hi
  · rw [mid (by omega)]
    have hm : (lo + hi) / 2 < P.length := by omega
    refine Ok.pos (by omega) (Ok.ck (by omega) (Ok.ld (hg.ldI (i := (lo + hi) / 2) (j := 0) hm rfl) (Ok.ld (hg.ldI (i := (lo + hi) / 2) (j := 1) hm rfl) (Ok.cld c (.head _) rfl (Ok.cld c (.head _) rfl (Ok.bind (says50 k H1 P[(lo + hi) / 2] x) fun r E ⟨gE, hr⟩ => ?_))))))
    subst hr
    have c := c.gr gE
    refine Ok.ld rfl (Ok.ite (fun hc => ?_) fun hc => ?_)
    · have hp := (cmP_lt _ _).1 hc
      have : (lo + hi) / 2 < j := Classical.byContradiction fun q => by
        rcases Nat.lt_or_ge j ((lo + hi) / 2) with h4 | h4
        · have := lt hj hm h4; rw [ej] at this; exact irr _ (tr this hp)
        · have h5 : (lo + hi) / 2 = j := by omega
          have h6 : P[(lo + hi) / 2] = P[j] := by congr 1
          rw [h6, ej] at hp; exact irr _ hp
      rw [w64_succ (by omega)]
      exact ih (hi - ((lo + hi) / 2 + 1)) (_, _) E (by omega) ⟨c, (lo + hi) / 2 + 1, hi, rfl, rfl, by omega, h2, h3, rfl⟩
    · have hp : ¬ plt P[(lo + hi) / 2] x := fun q => hc ((cmP_lt _ _).2 q)
      have : j ≤ (lo + hi) / 2 := Classical.byContradiction fun q => hp (by rw [← ej]; exact lt hm hj (by omega))
      exact ih ((lo + hi) / 2 - lo) (_, _) E (by omega) ⟨c, lo, (lo + hi) / 2, rfl, rfl, h1, this, by omega, rfl⟩
  · have e : lo = j := by omega
    subst e
    refine Ok.neg (by omega) (Ok.pos (by omega) (Ok.ck (by omega) (Ok.ld (hg.ldI (i := lo) (j := 0) hj rfl) (Ok.ld (hg.ldI (i := lo) (j := 1) hj rfl) (Ok.cld c (.head _) rfl (Ok.cld c (.head _) rfl (Ok.bind (says50 k H1 P[lo] x) fun r E ⟨gE, hr⟩ => ?_)))))))
    subst hr
    refine Ok.ld rfl (Ok.ret ⟨c.g.trans gE, ?_⟩)
    rw [ej, cmP_refl]
    rfl
end Go.Lt.P2

namespace Go.Lt.P2
open Go Go.Lt Go.Proofs
/-! ### chains -/
def lft (a b c : Pr) : Int := (b.1 - a.1) * (c.2 - b.2) - (b.2 - a.2) * (c.1 - b.1)
theorem lft_eq (a b c : Pr) : (b.1 - a.1) * (c.2 - a.2) - (b.2 - a.2) * (c.1 - a.1) = lft a b c := by unfold lft; grind
def near3 (p : Pr) : Prop := (-1000 ≤ p.1 ∧ p.1 ≤ 1000) ∧ -1000 ≤ p.2 ∧ p.2 ≤ 1000
/-- what is left of a stack, the last one first -/
def pp (x : Pr) : List Pr → List Pr
  | b :: a :: r => if lft a b x ≤ 0 then pp x (a :: r) else b :: a :: r
  | s => s
def stk (l : List Pr) : List Pr := l.foldl (fun st x => x :: pp x st) []
def chn (l : List Pr) : List Pr := (stk l).reverse
theorem stk_snoc (l : List Pr) (x : Pr) : stk (l ++ [x]) = x :: pp x (stk l) := by unfold stk; rw [List.foldl_append]; rfl
theorem pp_sub (x : Pr) : ∀ (s : List Pr), ∀ p ∈ pp x s, p ∈ s
  | [], _, h => h
  | [_], _, h => h
  | b :: a :: r, p, h => by
    rw [pp] at h
    split at h
    · exact .tail _ (pp_sub x (a :: r) p h)
    · exact h
theorem pp_len (x : Pr) : ∀ (s : List Pr), (pp x s).length ≤ s.length
  | [] => Nat.le_refl _
  | [_] => Nat.le_refl _
  | b :: a :: r => by
    rw [pp]
    split
    · have := pp_len x (a :: r); simp only [List.length_cons] at *; omega
    · exact Nat.le_refl _
theorem pp_last (x d : Pr) : ∀ (s : List Pr), (pp x s).getLastD d = s.getLastD d
  | [] => rfl
  | [_] => rfl
  | b :: a :: r => by
    rw [pp]
    split
    · rw [pp_last x d (a :: r)]; simp
    · rfl
theorem pp_ne (x : Pr) : ∀ {s : List Pr}, s ≠ [] → pp x s ≠ []
  | [], h => absurd rfl h
  | [_], h => h
  | b :: a :: r, _ => by
    rw [pp]
    split
    · exact pp_ne x (by simp)
    · simp
theorem stk_sub : ∀ (l : List Pr), ∀ p ∈ stk l, p ∈ l := by
  have key : ∀ n (l : List Pr), l.length = n → ∀ p ∈ stk l, p ∈ l := by
    intro n
    induction n with
    | zero => intro l hl p hp; rw [List.length_eq_zero_iff.1 hl] at hp; exact absurd hp (by simp [stk])
    | succ n ih =>
      intro l hl p hp
      have hne : l ≠ [] := by rintro rfl; simp at hl
      rw [← List.dropLast_concat_getLast hne, stk_snoc] at hp
      rcases List.mem_cons.1 hp with rfl | hp
      · exact List.getLast_mem hne
      · exact List.dropLast_subset l (ih _ (by simp [hl]) p (pp_sub _ _ p hp))
  exact fun l => key _ l rfl
theorem stk_len : ∀ (l : List Pr), (stk l).length ≤ l.length := by
  have key : ∀ n (l : List Pr), l.length = n → (stk l).length ≤ l.length := by
    intro n
    induction n with
    | zero => intro l hl; rw [List.length_eq_zero_iff.1 hl]; simp [stk]
    | succ n ih =>
      intro l hl
      have hne : l ≠ [] := by rintro rfl; simp at hl
      have h1 := ih l.dropLast (by simp [hl])
      rw [← List.dropLast_concat_getLast hne, stk_snoc]
      have h2 := pp_len (l.getLast hne) (stk l.dropLast)
      simp only [List.length_cons, List.length_append, List.length_singleton]
      omega
  exact fun l => key _ l rfl
def hul (l : List Pr) : List Pr := (chn l).dropLast ++ (chn l.reverse).dropLast
theorem But.grB {T : Type} [El T] {H0 H H' : Hp} {v : Sl} {l : List T} (h : But v H H') (b : Buf H0.n H v l) (g : Gr H0 H) : Gr H0 H' :=
  ⟨Nat.le_trans g.1 h.1, fun x hx => by rw [h.2 x (Nat.lt_of_lt_of_le hx g.1) fun hn => by have := (b.lt hn).2; omega]; exact g.2 x hx⟩
/-- the two last ones of a stack -/
theorem rd2 {H : Hp} {v : Sl} {pre r : List Pr} {a b : Pr} {n : Nat} (h : SL H v (pre ++ (b :: a :: r).reverse)) (hn : n = v.len) :
    (H.ldI .i64 v.b (v.o + (n - 2) * 2) = some a.1 ∧ H.ldI .i64 v.b (v.o + (n - 2) * 2 + 1) = some a.2) ∧ H.ldI .i64 v.b (v.o + (n - 1) * 2) = some b.1 ∧ H.ldI .i64 v.b (v.o + (n - 1) * 2 + 1) = some b.2 := by
  have hl := h.len
  have e : pre ++ (b :: a :: r).reverse = (pre ++ r.reverse) ++ [a, b] := by simp
  rw [e] at h hl
  have hlen : ((pre ++ r.reverse) ++ [a, b]).length = (pre ++ r.reverse).length + 2 := by rw [List.length_append]; rfl
  have i1 : n - 2 < ((pre ++ r.reverse) ++ [a, b]).length := by omega
  have i2 : n - 1 < ((pre ++ r.reverse) ++ [a, b]).length := by omega
  have e1 : ((pre ++ r.reverse) ++ [a, b])[n - 2] = a := by
    have hd : n - 2 - (pre ++ r.reverse).length = 0 := by omega
    rw [List.getElem_append_right (by omega)]; simp only [hd]; rfl
  have e2 : ((pre ++ r.reverse) ++ [a, b])[n - 1] = b := by
    have hd : n - 1 - (pre ++ r.reverse).length = 1 := by omega
    rw [List.getElem_append_right (by omega)]; simp only [hd]; rfl
  exact ⟨⟨h.ldI (i := n - 2) (j := 0) i1 (by rw [e1]; rfl), h.ldI (i := n - 2) (j := 1) i1 (by rw [e1]; rfl)⟩, h.ldI (i := n - 1) (j := 0) i2 (by rw [e2]; rfl), h.ldI (i := n - 1) (j := 1) i2 (by rw [e2]; rfl)⟩
/-- append behind a slice without room -/
theorem SL.app0 {T : Type} [El T] {H : Hp} {v : Sl} {l x : List T} (h : SL H v l) (hc : v.cap = v.len) (ho : v.opn = 0) {es k : Nat} {cs : List AV} (hes : es = El.sz T) (hcs : cs = encs x) (hk : k = x.length) (hb : l.length + x.length ≤ 4294967296) : Ok (H.app es v cs k) fun w H' => Gr H H' ∧ SL H' w (l ++ x) := by
  subst hes; subst hcs; subst hk
  have hlen := h.len
  unfold Hp.app
  rw [if_pos (by omega)]
  by_cases h0 : x = []
  · subst h0
    rw [if_pos (by simp; omega), List.append_nil]
    refine Ok.ite (fun hn => Ok.ret ⟨.refl _, h⟩) fun hn => ?_
    simp only [encs, List.flatMap_nil, Hp.sts, Option.map_some]
    have : (⟨false, v.b, v.o, v.len + ([] : List T).length, v.cap, v.opn⟩ : Sl) = v := by
      cases v; simp at hn ⊢; exact hn
    rw [this]
    exact Ok.ret ⟨.refl _, h⟩
  · have hp := List.length_pos_iff.2 h0
    rw [if_neg (by omega), h.lds]
    simp only [Option.bind_some]
    rw [if_pos ho]
    refine Ok.ret ⟨.push _ _, .of_get (ro := false) ?_ rfl (by rw [List.length_append]; dsimp only; omega) (Nat.le_refl _) (.inr rfl) rfl⟩
    rw [encs_append]
    exact Hp.get_push_new _ _
end Go.Lt.P2

namespace Go.Lt.P2
open Go Go.Lt Go.Proofs
theorem pts_near {l : List Sd} (hs : ∀ s ∈ l, sideP s) : ∀ p ∈ pts l, near3 p := fun p hp => by
  unfold pts at hp
  have b := bxs_bd hs
  unfold bbd at b
  split at hp
  · have := (mem_grid.1 hp).1
    unfold near3
    omega
  · cases hp
end Go.Lt.P2

namespace Go.Lt.P2
open Go Go.Lt Go.Proofs
theorem r56_l0_q {x y : Int} (hx : x.natAbs < 9223372036854775808) (hy0 : 0 < y) (hy : y < 9223372036854775808) {c : Nat} {E : List (Nat × List AV)} {u w : AV} {H1 H : Hp} (hc : Cx H1 H ((c, [u, w]) :: E)) : ∀ (K : Nat) (a b : Int), 0 ≤ a → 0 ≤ b → b.natAbs < K → Nat.gcd a.natAbs b.natAbs = Nat.gcd x.natAbs y.natAbs →
    Ok (r56_l0 K x y c a b H) fun r _ => r = fq (dv x y) := by
  intro K
  induction K with
  | zero => intro a b _ _ h; omega
  | succ K ih =>
    intro a b ha0 hb0 h hg
    have hpos : 0 < Nat.gcd x.natAbs y.natAbs := Nat.gcd_pos_of_pos_right _ (by omega)
    rw [r56_l0]
    by_cases h0 : b = 0
    · subst h0
      rw [Int.natAbs_zero, Nat.gcd_zero_right] at hg
      have ea : a = ((Nat.gcd x.natAbs y.natAbs : Nat) : Int) := by omega
      subst ea
      rw [tdivSmall hx, tdivSmall (by omega)]
      refine Ok.neg (by simp) (Ok.ck (by omega) (Ok.ck (by omega) (Ok.cst hc 0 rfl rfl fun D _ _ c => ?_)))
      refine Ok.cld c (.head _) rfl (Ok.cld c (.head _) rfl (Ok.ret ?_))
      rw [fq_gcdv hy0]
    · have hm := Nat.mod_lt a.natAbs (show 0 < b.natAbs by omega)
      have e := Int.natAbs_tmod a b
      have hn := Int.tmod_nonneg b ha0
      exact Ok.pos h0 (Ok.ck h0 (ih b (Int.tmod a b) hb0 hn (by omega) (by rw [e]; exact (gcd_step _ _).trans hg)))
/-- Frac -/
theorem r56_q {a b : Int} (ha : a.natAbs < 9223372036854775808) (hb : 0 < b) (hb2 : b < 9223372036854775808) (H : Hp) : Ok (r56 a b H) fun r _ => r = fq (dv a b) := by
  unfold r56
  refine Ok.box (.nil H) fun A _ c => Ok.neg (by omega) ?_
  unfold r56_j1
  rw [w64Abs ha]
  exact r56_l0_q ha hb hb2 c FUEL _ b (by omega) (by omega) (by unfold FUEL; omega) (by simp)
end Go.Lt.P2

namespace Go.Lt.P2
open Go Go.Lt Go.Proofs
theorem frP_iff {f : Pr} (h1 : 1 ≤ f.2 ∧ f.2 ≤ 100) (h2 : -100 * f.2 ≤ f.1 ∧ f.1 ≤ 100 * f.2) : frP f ↔ fq (dv f.1 f.2) = f := by
  constructor
  · exact frP_fq
  · intro h
    refine ⟨h1, h2, ?_⟩
    have := fq_gcd (dv f.1 f.2)
    rw [h] at this
    exact this
/-- IsPoint -/
theorem r20_ok {x : Pa} : Ok (r20 x.1.1 x.1.2 x.2.1 x.2.2 H0) fun r _ => r = decide (ptP x) := by
  unfold r20
  refine Ok.box (.nil H0) fun A gA c => Ok.cld c (.head _) rfl (Ok.cld c (.head _) rfl (Ok.cld c (.head _) rfl (Ok.cld c (.head _) rfl (Ok.box c fun B gB c => ?_))))
  have hv : SL (T := Pr) B ⟨false, A.n, 0, 2, 2, 0⟩ [x.1, x.2] := .of_get (ro := false) (c.e _ (.head _)) rfl rfl (Nat.le_refl _) (.inl rfl) rfl
  generalize A.n = an at *
  have hall : decide (ptP x) = decide (∀ f ∈ [x.1, x.2], frP f) := by
    refine decide_eq_decide.2 ?_
    unfold ptP; simp
  rw [hall]
  have hlen : [x.1, x.2].length = 2 := rfl
  generalize [x.1, x.2] = q at *
  show Ok (r20_l0 FUEL ⟨false, an, 0, 2, 2, 0⟩ 2 0 B) _
  refine Ok.loop (L := fun K (s : Int) H2 => r20_l0 K ⟨false, an, 0, 2, 2, 0⟩ 2 s H2) (fun m s H' => Gr B H' ∧ ∃ i : Nat, s = i ∧ i + m = 2 ∧ ∀ f ∈ q.take i, frP f) ?_ FUEL 2 0 B (by unfold FUEL; omega) ⟨.refl _, 0, rfl, rfl, by simp⟩
  rintro K m s H1 ⟨g1, i, rfl, hm, ht⟩ ih
  try dsimp only at *
  rw [r20_l0]
  by_cases h : i < 2
  · have hi : i < q.length := by omega
    have hg := hv.gr g1
    have hmem := List.getElem_mem hi
    have l0 := hg.ldI (i := i) (j := 0) hi rfl
    have l1 := hg.ldI (i := i) (j := 1) hi rfl
    have e2 := List.take_succ_eq_append_getElem hi
    generalize q[i] = f at *
    have c0 : Cx H1 H1 [] := .nil H1
    refine Ok.pos (by omega) (Ok.ck (by dsimp only; omega) (Ok.ld l0 (Ok.ld l1 (Ok.alo c0 fun E gE cx => ?_))))
    have j1 : ∀ b : Bool, (b = true ↔ ¬ frP f) → Ok (r20_j1 (fun v1_ v2_ v3_ H_ => r20_l0 K v1_ v2_ v3_ H_) ⟨false, an, 0, 2, 2, 0⟩ 2 i b E) fun r _ => r = decide (∀ f ∈ q, frP f) := fun b hb => by
      unfold r20_j1
      refine Ok.ite (fun hc => Ok.ret ?_) fun hc => ?_
      · symm; rw [decide_eq_false_iff_not]; exact fun k => hb.1 hc (k f hmem)
      · rw [w64_succ (by omega)]
        refine ih (m - 1) _ E (by omega) ⟨g1.trans gE, i + 1, rfl, by omega, fun y hy => ?_⟩
        rw [e2] at hy
        rcases List.mem_append.1 hy with hy | hy
        · exact ht y hy
        · rw [List.mem_singleton] at hy; subst hy
          exact Classical.byContradiction fun k => hc (hb.2 k)
    have no : ¬ frP f → ((true = true) ↔ ¬ frP f) := fun h => ⟨fun _ => h, fun _ => rfl⟩
    refine Ok.cld cx (.head _) rfl (Ok.ite (fun k => j1 _ (no fun q => by have := q.1.1; omega)) fun k1 => Ok.cld cx (.head _) rfl (Ok.ite (fun k => j1 _ (no fun q => by have := q.1.2; omega)) fun k2 => Ok.cld cx (.head _) rfl (Ok.cld cx (.head _) rfl ?_)))
    rw [w64_id (n := -100 * f.2) (by omega) (by omega)]
    refine Ok.ite (fun k => j1 _ (no fun q => by have := q.2.1.1; omega)) fun k3 => Ok.cld cx (.head _) rfl (Ok.cld cx (.head _) rfl ?_)
    rw [w64_id (n := 100 * f.2) (by omega) (by omega)]
    refine Ok.ite (fun k => j1 _ (no fun q => by have := q.2.1.2; omega)) fun k4 => Ok.cld cx (.head _) rfl (Ok.cld cx (.head _) rfl (Ok.own (r56_q (by omega) (by omega) (by omega) H0) fun _ => Ok.cld cx (.head _) rfl (Ok.cld cx (.head _) rfl (j1 _ ?_))))
    rw [frP_iff (by omega) (by omega), Bool.not_eq_true', Bool.and_eq_false_iff, beq_eq_false_iff_ne, beq_eq_false_iff_ne]
    constructor
    · rintro (k | k) e
      · exact k (by rw [e])
      · exact k (by rw [e])
    · intro k
      by_cases e : (fq (dv f.1 f.2)).1 = f.1
      · exact .inr fun e2 => k (Prod.ext e e2)
      · exact .inl e
  · rw [List.take_of_length_le (by omega)] at ht
    exact Ok.neg (by omega) (Ok.ret (by rw [decide_eq_true ht]))
theorem lqs_dv2 {u : Sd} {a b c d : Int} (hb : 0 < b) (hd : 0 < d) : lqs u (dv a b, dv c d) ↔ u.1 * a * d + u.2.1 * c * b ≤ u.2.2 * b * d := by
  have hbd := Int.mul_pos hb hd
  have e1 : dv a b = dv (a * d) (b * d) := (dv_eq_iff hb hbd).2 (by grind)
  have e2 : dv c d = dv (c * b) (b * d) := (dv_eq_iff hd hbd).2 (by grind)
  rw [e1, e2, lqs_dv hbd, ← Int.mul_assoc, ← Int.mul_assoc, ← Int.mul_assoc]
end Go.Lt.P2

namespace Go.Lt.P2
open Go Go.Lt Go.Proofs
/-- Of -/
theorem r18_ok {H : Hp} {v : Sl} {l : List Sd} (hv : SL H v l) (hb : l.length < 9223372036854775808) : Ok (r18 v H) fun w H' => Gr H H' ∧ SL H' w (l.take 9) := by
  unfold r18
  have hlen := hv.len
  rw [hlen]
  refine Ok.loop (L := fun K (s : Sl × Int) H2 => r18_l0 K s.1 v l.length s.2 H2) (fun m s H' => Gr H H' ∧ ∃ i : Nat, s.2 = i ∧ i + m = l.length ∧ AccL H.n H' s.1 ((l.take i).take 9)) ?_ FUEL l.length (⟨true, 0, 0, 0, 0, 0⟩, 0) H (by unfold FUEL; omega) ⟨.refl _, 0, rfl, by omega, by simpa using AccL.nilS⟩
  rintro K m ⟨w, s⟩ H1 ⟨g1, i, rfl, hm, ha⟩ ih
  try dsimp only at *
  rw [r18_l0]
  by_cases h : i < l.length
  · have hg := hv.gr g1
    obtain ⟨E, hE, hE', gE, nE⟩ := sts3 H1 (.int .i64 l[i].1) (.int .i64 l[i].2.1) (.int .i64 l[i].2.2) (.int .i64 0) (.int .i64 0) (.int .i64 0)
    have gB := g1.trans gE
    refine Ok.pos (by omega) (Ok.ck (by omega) (Ok.ld (hg.ldI (i := i) (j := 0) h rfl) (Ok.ld (hg.ldI (i := i) (j := 1) h rfl) (Ok.ld (hg.ldI (i := i) (j := 2) h rfl) (Ok.ld hE ?_)))))
    refine Ok.ite (fun c => Ok.ld (ldI_get hE' rfl) (Ok.ld (ldI_get hE' rfl) (Ok.ld (ldI_get hE' rfl) ?_))) fun c => ?_
    · have ha' := ha.gr gE
      rw [List.take_of_length_le (by rw [List.length_take]; omega)] at ha'
      refine Ok.bind (ha'.push gB l[i] rfl rfl (by rw [List.length_take]; omega)) fun w2 H3 ⟨ha3, g3, _⟩ => ?_
      rw [w64_succ (by omega)]
      refine ih (m - 1) (w2, _) H3 (by omega) ⟨g3, i + 1, rfl, by omega, ?_⟩
      rw [List.take_succ_eq_append_getElem h, List.take_of_length_le (by simp; omega)]
      exact ha3
    · rw [w64_succ (by omega)]
      refine ih (m - 1) (w, _) E (by omega) ⟨gB, i + 1, rfl, by omega, ?_⟩
      rw [List.take_take, Nat.min_eq_left (by omega)] at ha ⊢
      exact ha.gr gE
  · have hi : i = l.length := by omega
    subst hi
    rw [List.take_length] at ha
    exact Ok.neg (by omega) (Ok.ret ⟨g1, ha.sl⟩)
end Go.Lt.P2

namespace Go.Lt.P2
open Go Go.Lt Go.Proofs
def onP (l : List Sd) (s : Sd) (g : Int) : Prop := ∀ t ∈ l, g * (t.2.1 * s.1 - t.1 * s.2.1) ≤ 0
instance (l : List Sd) (s : Sd) (g : Int) : Decidable (onP l s g) := by unfold onP; infer_instance
theorem onP_one {l : List Sd} {s : Sd} : ¬ onP l s 1 ↔ dirP l (-s.2.1, s.1) := by
  unfold onP dirP
  simp only [Classical.not_forall]
  constructor
  · rintro ⟨t, ht, h⟩
    refine ⟨t, ht, ?_⟩
    try dsimp only
    rw [Int.mul_neg]
    omega
  · rintro ⟨t, ht, h⟩
    refine ⟨t, ht, ?_⟩
    try dsimp only at h
    rw [Int.mul_neg] at h
    omega
theorem onP_neg {l : List Sd} {s : Sd} : ¬ onP l s (-1) ↔ dirP l (s.2.1, -s.1) := by
  unfold onP dirP
  simp only [Classical.not_forall]
  constructor
  · rintro ⟨t, ht, h⟩
    refine ⟨t, ht, ?_⟩
    try dsimp only
    rw [Int.mul_neg]
    omega
  · rintro ⟨t, ht, h⟩
    refine ⟨t, ht, ?_⟩
    try dsimp only at h
    rw [Int.mul_neg] at h
    omega
section
variable {Q : Bool → Hp → Prop}
theorem r19_l5_ok {H : Hp} {v vv : Sl} {l : List Sd} {sb : Nat} {s : Sd} {g ln iv : Int} (hv : SL H v l) (hb : l.length ≤ 6) (hs : ∀ s ∈ l, sideP s) (hss : sideP s) (hg : g = 1 ∨ g = -1) (hsb : H.get sb = some (.cells [.int .i64 s.1, .int .i64 s.2.1, .int .i64 s.2.2] false))
    {kt4 : Sl → Nat → Int → Sl → Int → Int → Hp → Option (Bool × Hp)} (kf : ∀ H', Gr H H' → onP l s g → Q false H') (k : ∀ H', Gr H H' → ¬ onP l s g → Ok (kt4 v sb (w64 (g + 2)) vv ln iv H') Q) : Ok (r19_l5 kt4 FUEL v sb g true vv ln iv v l.length 0 H) Q := by
  have hlen := hv.len
  refine Ok.loop (L := fun K (t : Bool × Int) H2 => r19_l5 kt4 K v sb g t.1 vv ln iv v l.length t.2 H2) (fun m t H' => ∃ i : Nat, t.2 = i ∧ i + m = l.length ∧ Gr H H' ∧ t.1 = decide (onP (l.take i) s g)) ?_ FUEL l.length (true, 0) H (by unfold FUEL; omega) ⟨0, rfl, by omega, .refl _, by simp [onP]⟩
  rintro K m ⟨b, t⟩ H1 ⟨i, rfl, hm, g1, hbb⟩ ih
  try dsimp only at *
  subst hbb
  rw [r19_l5]
  by_cases h : i < l.length
  · have hgl := hv.gr g1
    have hx := hs _ (List.getElem_mem h)
    obtain ⟨E, hE, hE', gE, nE⟩ := sts3 H1 (.int .i64 l[i].1) (.int .i64 l[i].2.1) (.int .i64 l[i].2.2) (.int .i64 0) (.int .i64 0) (.int .i64 0)
    have gB := g1.trans gE
    have hsE : E.get sb = some (.cells [.int .i64 s.1, .int .i64 s.2.1, .int .i64 s.2.2] false) := by rw [gB.2 _ (Hp.get_lt hsb)]; exact hsb
    have ek : onP (l.take (i + 1)) s g ↔ onP (l.take i) s g ∧ g * (l[i].2.1 * s.1 - l[i].1 * s.2.1) ≤ 0 := by
      unfold onP
      constructor
      · intro q
        rw [List.take_succ_eq_append_getElem h] at q
        exact ⟨fun t ht => q t (List.mem_append_left _ ht), q _ (List.mem_append_right _ (List.mem_singleton.2 rfl))⟩
      · rintro ⟨q1, q2⟩
        exact forall_take h q1 q2
    refine Ok.pos (by omega) (Ok.ck (by omega) (Ok.ld (hgl.ldI (i := i) (j := 0) h rfl) (Ok.ld (hgl.ldI (i := i) (j := 1) h rfl) (Ok.ld (hgl.ldI (i := i) (j := 2) h rfl) (Ok.ld hE ?_)))))
    by_cases c : onP (l.take i) s g
    · rw [decide_eq_true c]
      refine Ok.pos rfl (Ok.ld (ldI_get hE' rfl) (Ok.ld (ldI_get hsE rfl) (Ok.ld (ldI_get hE' rfl) (Ok.ld (ldI_get hsE rfl) ?_))))
      unfold sideP at hss hx
      have b1 := mul_bd (A := 4) (B := 4) (x := l[i].2.1) (y := s.1) (by omega) (by omega) (by omega) (by omega)
      have b2 := mul_bd (A := 4) (B := 4) (x := l[i].1) (y := s.2.1) (by omega) (by omega) (by omega) (by omega)
      rw [w64_id (n := l[i].2.1 * s.1) (by omega) (by omega), w64_id (n := l[i].1 * s.2.1) (by omega) (by omega), w64_id (n := l[i].2.1 * s.1 - l[i].1 * s.2.1) (by omega) (by omega), w64_id (n := g * (l[i].2.1 * s.1 - l[i].1 * s.2.1)) (by rcases hg with rfl | rfl <;> omega) (by rcases hg with rfl | rfl <;> omega), w64_succ (by omega)]
      exact ih (m - 1) (_, _) E (by omega) ⟨i + 1, rfl, by omega, gB, decide_eq_decide.2 (by rw [ek]; exact ⟨fun q => ⟨c, q⟩, fun q => q.2⟩)⟩
    · rw [decide_eq_false c]
      refine Ok.neg (by simp) ?_
      rw [w64_succ (by omega)]
      exact ih (m - 1) (_, _) E (by omega) ⟨i + 1, rfl, by omega, gB, (decide_eq_false (fun q => c (ek.1 q).1)).symm⟩
  · rw [List.take_of_length_le (by omega)]
    refine Ok.neg (by omega) ?_
    by_cases c : onP l s g
    · rw [decide_eq_true c]; exact Ok.pos rfl (Ok.ret (kf H1 g1 c))
    · rw [decide_eq_false c]; exact Ok.neg (by simp) (k H1 g1 c)
end
/-- the directions -/
theorem r19_l3_ok {H0' H : Hp} {v : Sl} {l : List Sd} (hv : SL H v l) (hb : l.length ≤ 6) (hs : ∀ s ∈ l, sideP s) (g : Gr H0' H) : Ok (r19_l3 FUEL v v l.length 0 H) fun r H' => Gr H0' H' ∧ r = decide (∀ s ∈ l, dirP l (-s.2.1, s.1) ∧ dirP l (s.2.1, -s.1)) := by
  have hlen := hv.len
  refine Ok.loop (L := fun K (s : Int) H2 => r19_l3 K v v l.length s H2) (fun m s H' => Gr H H' ∧ ∃ i : Nat, s = i ∧ i + m = l.length ∧ ∀ s ∈ l.take i, dirP l (-s.2.1, s.1) ∧ dirP l (s.2.1, -s.1)) ?_ FUEL l.length 0 H (by unfold FUEL; omega) ⟨.refl _, 0, rfl, by omega, by simp⟩
  rintro K m s H1 ⟨g1, i, rfl, hm, ht⟩ ih
  try dsimp only at *
  rw [r19_l3]
  by_cases h : i < l.length
  · have hg := hv.gr g1
    have hmem : l[i] ∈ l := List.getElem_mem h
    have hsd := hs _ hmem
    obtain ⟨E, hE, hE', gE, nE⟩ := sts3 H1 (.int .i64 l[i].1) (.int .i64 l[i].2.1) (.int .i64 l[i].2.2) (.int .i64 0) (.int .i64 0) (.int .i64 0)
    refine Ok.pos (by omega) (Ok.ck (by omega) (Ok.ld (hg.ldI (i := i) (j := 0) h rfl) (Ok.ld (hg.ldI (i := i) (j := 1) h rfl) (Ok.ld (hg.ldI (i := i) (j := 2) h rfl) (Ok.ld hE ?_)))))
    have gB := g1.trans gE
    have bad : ∀ H', Gr E H' → ¬ (dirP l (-l[i].2.1, l[i].1) ∧ dirP l (l[i].2.1, -l[i].1)) → Gr H0' H' ∧ false = decide (∀ s ∈ l, dirP l (-s.2.1, s.1) ∧ dirP l (s.2.1, -s.1)) := fun H' gH hno => ⟨g.trans (gB.trans gH), by rw [decide_eq_false (fun q => hno (q _ hmem))]⟩
    rw [show FUEL = 18446744073709551613 + 1 + 1 + 1 from rfl, r19_l4]
    refine Ok.pos (by decide) ?_
    rw [hlen]
    refine r19_l5_ok (hv.gr gB) hb hs hsd (.inr rfl) hE' (fun H' gH hon => bad H' gH fun q => (onP_neg.2 q.2) hon) fun H2 g2 hn1 => ?_
    rw [show w64 (-1 + 2) = 1 by decide +kernel, r19_l4]
    refine Ok.pos (by decide) ?_
    rw [hlen]
    refine r19_l5_ok (hv.gr (gB.trans g2)) hb hs hsd (.inl rfl) (by rw [g2.2 _ (Hp.get_lt hE')]; exact hE') (fun H' gH hon => bad H' (g2.trans gH) fun q => (onP_one.2 q.1) hon) fun H3 g3 hn2 => ?_
    rw [show w64 (1 + 2) = 3 by decide +kernel, r19_l4]
    refine Ok.neg (by decide) ?_
    rw [w64_succ (by omega)]
    exact ih (m - 1) _ H3 (by omega) ⟨gB.trans (g2.trans g3), i + 1, rfl, by omega, forall_take h ht ⟨onP_one.1 hn2, onP_neg.1 hn1⟩⟩
  · rw [List.take_of_length_le (by omega)] at ht
    exact Ok.neg (by omega) (Ok.ret ⟨g.trans g1, by rw [decide_eq_true ht]⟩)
/-- Plate of the reference -/
theorem r19_ok {H : Hp} {v : Sl} {l : List Sd} (hv : SL H v l) : Ok (r19 v H) fun r H' => Gr H H' ∧ r = decide (plateP l) := by
  unfold r19
  have hlen := hv.len
  by_cases h3 : l.length < 3
  · refine Ok.pos (by omega) ?_
    unfold r19_j0
    exact Ok.pos rfl (Ok.ret ⟨.refl _, by rw [decide_eq_false (fun h => by have := h.1.1; omega)]⟩)
  · refine Ok.neg (by omega) ?_
    unfold r19_j0
    by_cases h6 : 6 < l.length
    · exact Ok.pos (by rw [decide_eq_true_iff]; omega) (Ok.ret ⟨.refl _, by rw [decide_eq_false (fun h => by have := h.1.2; omega)]⟩)
    · refine Ok.neg (by rw [decide_eq_true_iff]; omega) ?_
      rw [hlen]
      refine Ok.loop (L := fun K (s : Int) H2 => r19_l1 K v v l.length s H2) (fun m s H' => Gr H H' ∧ ∃ i : Nat, s = i ∧ i + m = l.length ∧ ∀ s ∈ l.take i, sideP s) ?_ FUEL l.length 0 H (by unfold FUEL; omega) ⟨.refl _, 0, rfl, by omega, by simp⟩
      rintro K m s H1 ⟨g1, i, rfl, hm, ht⟩ ih
      try dsimp only at *
      rw [r19_l1]
      by_cases h : i < l.length
      · have hg := hv.gr g1
        have hmem : l[i] ∈ l := List.getElem_mem h
        obtain ⟨E, hE, hE', gE, nE⟩ := sts3 H1 (.int .i64 l[i].1) (.int .i64 l[i].2.1) (.int .i64 l[i].2.2) (.int .i64 0) (.int .i64 0) (.int .i64 0)
        have gB := g1.trans gE
        have j2 : ∀ b, b = !decide (sideP l[i]) → Ok (r19_j2 (fun v1_ v2_ v3_ v4_ H_ => r19_l1 K v1_ v2_ v3_ v4_ H_) v v l.length i b E) fun r H' => Gr H H' ∧ r = decide (plateP l) := fun b hbb => by
          subst hbb
          unfold r19_j2
          by_cases c : sideP l[i]
          · rw [decide_eq_true c]
            refine Ok.neg (by simp) ?_
            rw [w64_succ (by omega)]
            exact ih (m - 1) _ E (by omega) ⟨gB, i + 1, rfl, by omega, forall_take h ht c⟩
          · rw [decide_eq_false c]
            exact Ok.pos rfl (Ok.ret ⟨gB, by rw [decide_eq_false (fun q => c (q.2.1 _ hmem))]⟩)
        have no : ¬ sideP l[i] → true = !decide (sideP l[i]) := fun q => by rw [decide_eq_false q]; rfl
        refine Ok.pos (by omega) (Ok.ck (by omega) (Ok.ld (hg.ldI (i := i) (j := 0) h rfl) (Ok.ld (hg.ldI (i := i) (j := 1) h rfl) (Ok.ld (hg.ldI (i := i) (j := 2) h rfl) (Ok.ld hE (Ok.ld (ldI_get hE' rfl) ?_))))))
        refine Ok.ite (fun c => j2 _ (no fun q => by unfold sideP at q; omega)) fun c1 => Ok.ld (ldI_get hE' rfl) ?_
        refine Ok.ite (fun c => j2 _ (no fun q => by unfold sideP at q; omega)) fun c2 => Ok.ld (ldI_get hE' rfl) ?_
        refine Ok.ite (fun c => j2 _ (no fun q => by unfold sideP at q; omega)) fun c3 => Ok.ld (ldI_get hE' rfl) ?_
        refine Ok.ite (fun c => j2 _ (no fun q => by unfold sideP at q; omega)) fun c4 => Ok.ld (ldI_get hE' rfl) ?_
        have last : ¬ (l[i].1 = 0 ∧ l[i].2.1 = 0) → Ok (if l[i].2.2 < -40 then r19_j2 (fun v1_ v2_ v3_ v4_ H_ => r19_l1 K v1_ v2_ v3_ v4_ H_) v v l.length i true E else (E.ldI .i64 H1.n (0 + 2)).bind fun x => r19_j2 (fun v1_ v2_ v3_ v4_ H_ => r19_l1 K v1_ v2_ v3_ v4_ H_) v v l.length i (decide (40 < x)) E) fun r H' => Gr H H' ∧ r = decide (plateP l) := fun hne => by
          refine Ok.ite (fun c => j2 _ (no fun q => by unfold sideP at q; omega)) fun c5 => Ok.ld (ldI_get hE' rfl) (j2 _ ?_)
          refine Bool.eq_iff_iff.2 ?_
          rw [Bool.not_eq_true', decide_eq_false_iff_not, decide_eq_true_iff]
          unfold sideP
          constructor
          · intro q w; omega
          · intro q
            by_cases w : 40 < l[i].2.2
            · exact w
            · exact absurd ⟨⟨by omega, by omega⟩, ⟨by omega, by omega⟩, hne, by omega, by omega⟩ q
        refine Ok.ite (fun c0 => Ok.ld (ldI_get hE' rfl) (Ok.ite (fun c5 => j2 _ (no fun q => q.2.2.1 ⟨c0, c5⟩)) fun c5 => Ok.ld (ldI_get hE' rfl) (last fun q => c5 q.2))) fun c0 => Ok.ld (ldI_get hE' rfl) (last fun q => c0 q.1)
      · rw [List.take_of_length_le (by omega)] at ht
        refine Ok.neg (by omega) ?_
        rw [hlen]
        refine (r19_l3_ok (hv.gr g1) (by omega) ht g1).mono fun r H' hh => ⟨hh.1, ?_⟩
        rw [hh.2]
        exact decide_eq_decide.2 ⟨fun q => ⟨⟨by omega, by omega⟩, ht, q⟩, fun q => q.2.2⟩
end Go.Lt.P2

namespace Go.Lt.P2
open Go Go.Lt Go.Proofs
/-- own -/
theorem r36_ok {H : Hp} {v : Sl} {l : List Sd} (hv : SL H v l) (hb : l.length ≤ 1000) : Ok (r36 v H) fun w H' => Gr H H' ∧ SL H' w l := by
  unfold r36
  have hlen := hv.len
  rw [hlen]
  refine Ok.loop (L := fun K (s : Sl × Int) H2 => r36_l0 K s.1 v l.length s.2 H2) (fun m s H' => Gr H H' ∧ ∃ i : Nat, s.2 = i ∧ i + m = l.length ∧ AccL H.n H' s.1 (l.take i)) ?_ FUEL l.length (⟨true, 0, 0, 0, 0, 0⟩, 0) H (by unfold FUEL; omega) ⟨.refl _, 0, rfl, by omega, by simpa using AccL.nilS⟩
  rintro K m ⟨w, s⟩ H1 ⟨g1, i, rfl, hm, ha⟩ ih
  try dsimp only at *
  rw [r36_l0]
  by_cases h : i < l.length
  · have hg := hv.gr g1
    obtain ⟨E, hE, hE', gE, nE⟩ := sts3 H1 (.int .i64 l[i].1) (.int .i64 l[i].2.1) (.int .i64 l[i].2.2) (.int .i64 0) (.int .i64 0) (.int .i64 0)
    have gB := g1.trans gE
    refine Ok.pos (by omega) (Ok.ck (by omega) (Ok.ld (hg.ldI (i := i) (j := 0) h rfl) (Ok.ld (hg.ldI (i := i) (j := 1) h rfl) (Ok.ld (hg.ldI (i := i) (j := 2) h rfl) (Ok.ld hE (Ok.ld (ldI_get hE' rfl) (Ok.ld (ldI_get hE' rfl) (Ok.ld (ldI_get hE' rfl) ?_))))))))
    refine Ok.bind ((ha.gr gE).push gB l[i] rfl rfl (by rw [List.length_take]; omega)) fun w2 H3 ⟨ha3, g3, _⟩ => ?_
    rw [w64_succ (by omega)]
    refine ih (m - 1) (w2, _) H3 (by omega) ⟨g3, i + 1, rfl, by omega, ?_⟩
    rw [List.take_succ_eq_append_getElem h]
    exact ha3
  · rw [List.take_of_length_le (by omega)] at ha
    exact Ok.neg (by omega) (Ok.ret ⟨g1, ha.sl⟩)
end Go.Lt.P2

namespace Go.Lt.P2
open Go Go.Lt Go.Proofs
theorem beq3 (x y : Sd) : ((x.1 == y.1) && ((x.2.1 == y.2.1) && (x.2.2 == y.2.2))) = decide (x = y) := by
  refine Bool.eq_iff_iff.2 ?_
  simp only [Bool.and_eq_true, beq_iff_eq, decide_eq_true_iff]
  exact ⟨fun h => Prod.ext h.1 (Prod.ext h.2.1 h.2.2), fun h => by rw [h]; exact ⟨rfl, rfl, rfl⟩⟩
/-- Equal -/
theorem r35_ok {l l' : List Sd} {H : Hp} {v w : Sl} (hv : SL H v l) (hw : SL H w l') (hb : l.length ≤ 1000000) : Ok (r35 v w H) fun b H' => H' = H ∧ b = decide (l = l') := by
  unfold r35
  have h1 := hv.len
  have h2 := hw.len
  by_cases hl : l.length = l'.length
  · refine Ok.neg (by omega) ?_
    rw [h1]
    refine Ok.loop (L := fun K (s : Int) H2 => r35_l0 K v w l.length s H2) (fun m s H' => H' = H ∧ ∃ i : Nat, s = i ∧ i + m = l.length ∧ l.take i = l'.take i) ?_ FUEL l.length 0 H (by unfold FUEL; omega) ⟨rfl, 0, rfl, by omega, rfl⟩
    rintro K m s H1 ⟨rfl, i, rfl, hm, ht⟩ ih
    try dsimp only at *
    rw [r35_l0]
    by_cases h : i < l.length
    · refine Ok.pos (by omega) (Ok.ck (by omega) (Ok.ld (hv.ldI (i := i) (j := 0) h rfl) (Ok.ld (hv.ldI (i := i) (j := 1) h rfl) (Ok.ld (hv.ldI (i := i) (j := 2) h rfl) (Ok.ck (by omega) (Ok.ld (hw.ldI (i := i) (j := 0) (by omega) rfl) (Ok.ld (hw.ldI (i := i) (j := 1) (by omega) rfl) (Ok.ld (hw.ldI (i := i) (j := 2) (by omega) rfl) ?_))))))))
      rw [beq3]
      refine Ok.ite (fun hc => ?_) fun hc => Ok.ret ⟨rfl, ?_⟩
      · rw [w64_succ (by omega)]
        refine ih (m - 1) _ _ (by omega) ⟨rfl, i + 1, rfl, by omega, ?_⟩
        rw [List.take_succ_eq_append_getElem h, List.take_succ_eq_append_getElem (by omega), ht]
        congr 2
        exact of_decide_eq_true hc
      · symm
        rw [decide_eq_false_iff_not]
        rintro rfl
        exact hc (by simp)
    · refine Ok.neg (by omega) (Ok.ret ⟨rfl, ?_⟩)
      symm
      rw [decide_eq_true_iff]
      rw [List.take_of_length_le (by omega), List.take_of_length_le (by omega)] at ht
      exact ht
  · refine Ok.pos (by omega) (Ok.ret ⟨rfl, ?_⟩)
    symm
    rw [decide_eq_false_iff_not]
    rintro rfl
    exact hl rfl
end Go.Lt.P2

namespace Go.Lt.P2
open Go Go.Lt Go.Proofs
theorem plate_take {p : List Sd} : plateP (p.take 9) ↔ plateP p := by
  by_cases h : p.length ≤ 9
  · rw [List.take_of_length_le h]
  · constructor
    · intro c; have b := c.1.2; rw [List.length_take] at b; omega
    · intro c; have b := c.1.2; omega
theorem plate_eq {p : List Sd} (h : plateP p) : p.take 9 = p := List.take_of_length_le (by have := h.1.2; omega)
theorem awk (k : Nat) (H : Hp) : appA k 21 [] H = some (.bool true, H) := rfl
end Go.Lt.P2
