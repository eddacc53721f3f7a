/- PLAIN LAWS OF WHAT IS COMPUTED, for the statement 'CutsMoved'. Nothing is asked of the input. -/
import Derived.Test.YteefkljbmjjncaaU16XWl
import Derived.Test.YteefkljbmjjncaaU16XBy
import Derived.Test.YteefkljbmjjncaaLB
set_option linter.unusedVariables false
set_option linter.unusedSimpArgs false
namespace Go.Lt.P2
open Go Go.Lt Go.Proofs
/-! ### what is moved -/
def sh (u v : Int) (z : Pq) : Pq := (z.1 + (u : Rat), z.2 + (v : Rat))
def sp (u v : Int) (x : Pr) : Pr := (x.1 + u, x.2 + v)
section
variable {u v : Int}
theorem atq_sh (a b : Int) (z : Pq) : atq a b (sh u v z) = atq a b z + ((a * u + b * v : Int) : Rat) := by
  unfold atq sh
  rw [Rat.intCast_add, Rat.intCast_mul, Rat.intCast_mul]
  dsimp only
  grind
theorem mv_C (s : Sd) : (((mv u v s).2.2 : Int) : Rat) = (s.2.2 : Rat) + ((s.1 * u + s.2.1 * v : Int) : Rat) := by
  unfold mv
  dsimp only
  rw [Rat.intCast_add]
theorem lqs_mv {s : Sd} {z : Pq} : lqs (mv u v s) (sh u v z) ↔ lqs s z := by
  unfold lqs
  rw [show atq (mv u v s).1 (mv u v s).2.1 (sh u v z) = atq s.1 s.2.1 (sh u v z) from rfl, atq_sh, mv_C]
  constructor <;> intro h <;> grind
theorem inP_mv {l : List Sd} {z : Pq} : inP (l.map (mv u v)) (sh u v z) ↔ inP l z := by
  unfold inP
  constructor
  · intro h s hs; exact lqs_mv.1 (h _ (List.mem_map.2 ⟨s, hs, rfl⟩))
  · intro h t ht
    obtain ⟨s, hs, rfl⟩ := List.mem_map.1 ht
    exact lqs_mv.2 (h s hs)
theorem crI_mv (s t : Sd) : crI (mv u v s) (mv u v t) = crI s t := rfl
theorem meet_mv {s t : Sd} (h : crI s t ≠ 0) : meetq (mv u v s) (mv u v t) = sh u v (meetq s t) := by
  have m := meet_on h
  refine (meet_uniq (s := mv u v s) (t := mv u v t) h ?_ ?_).symm
  · unfold on
    rw [show atq (mv u v s).1 (mv u v s).2.1 (sh u v (meetq s t)) = atq s.1 s.2.1 (sh u v (meetq s t)) from rfl, atq_sh, mv_C, m.1]
  · unfold on
    rw [show atq (mv u v t).1 (mv u v t).2.1 (sh u v (meetq s t)) = atq t.1 t.2.1 (sh u v (meetq s t)) from rfl, atq_sh, mv_C, m.2]
def mvC (u v : Int) (c : Cn) : Cn := (sh u v c.1, mv u v c.2.1, mv u v c.2.2)
theorem cn_mv (l : List Sd) (s t : Sd) : cn (l.map (mv u v)) (mv u v s) (mv u v t) = (cn l s t).map (mvC u v) := by
  unfold cn
  rw [crI_mv]
  by_cases h : crI s t = 0
  · rw [if_neg (fun q => q.1 h), if_neg (fun q => q.1 h)]; rfl
  · rw [meet_mv h]
    by_cases hi : inP l (meetq s t)
    · rw [if_pos ⟨h, inP_mv.2 hi⟩, if_pos ⟨h, hi⟩]; rfl
    · rw [if_neg (fun q => hi (inP_mv.1 q.2)), if_neg (fun q => hi q.2)]; rfl
theorem cno_mv (l : List Sd) {i : Nat} (hi : i < l.length) : cno (l.map (mv u v)) i = (cno l i).map (mvC u v) := by
  unfold cno
  rw [getElem!_pos l i hi, getElem!_pos (l.map (mv u v)) i (by simpa using hi), List.getElem_map, ← List.map_take, List.filterMap_map, List.map_filterMap]
  congr 1
  funext t
  exact cn_mv l _ t
theorem cs_mv (l : List Sd) : cs (l.map (mv u v)) = (cs l).map (mvC u v) := by
  unfold cs
  rw [List.length_map, List.map_flatMap]
  have key : ∀ n, n ≤ l.length → (List.range n).flatMap (cno (l.map (mv u v))) = (List.range n).flatMap fun i => (cno l i).map (mvC u v) := by
    intro n
    induction n with
    | zero => intro _; rfl
    | succ n ih =>
      intro hn
      rw [range_succ_flatMap, range_succ_flatMap, ih (by omega), cno_mv l (by omega)]
  exact key _ (Nat.le_refl _)
theorem pts_mv {l : List Sd} (hp : plateP l) (hq : plateP (l.map (mv u v))) : pts (l.map (mv u v)) = (pts l).map (sp u v) := by
  refine plt_uniq (pts_plt _) ?_ fun x => ?_
  · rw [List.pairwise_map]
    refine (pts_plt l).imp fun {a b} h => ?_
    unfold plt sp at *
    dsimp only
    omega
  · rw [mem_pts hq, List.mem_map]
    have e : ∀ (y : Pr) (s : Sd), kp (sp u v y) (mv u v s) ↔ kp y s := fun y s => by
      unfold kp sp mv
      dsimp only
      rw [Int.mul_add, Int.mul_add]
      omega
    constructor
    · intro h
      refine ⟨(x.1 - u, x.2 - v), (mem_pts hp).2 fun s hs => ?_, by unfold sp; simp⟩
      have := h _ (List.mem_map.2 ⟨s, hs, rfl⟩)
      rw [← e]
      unfold sp
      simpa using this
    · rintro ⟨y, hy, rfl⟩ t ht
      obtain ⟨s, hs, rfl⟩ := List.mem_map.1 ht
      exact (e y s).2 ((mem_pts hp).1 hy s hs)
theorem rcs_mv (l : List Sd) : rcs (cs (l.map (mv u v))) = (rcs (cs l)).map (sh u v) := by
  refine srt_uniq (rcs_srt _) ?_ fun x => ?_
  · rw [List.pairwise_map]
    refine (rcs_srt (cs l)).imp fun {a b} h => ?_
    unfold ptlt sh at *
    dsimp only
    grind
  · rw [mem_rcs, cs_mv, List.mem_map]
    constructor
    · rintro ⟨c, hc, rfl⟩
      obtain ⟨d, hd, rfl⟩ := List.mem_map.1 hc
      exact ⟨d.1, mem_rcs.2 ⟨d, hd, rfl⟩, rfl⟩
    · rintro ⟨y, hy, rfl⟩
      obtain ⟨d, hd, rfl⟩ := mem_rcs.1 hy
      exact ⟨mvC u v d, List.mem_map.2 ⟨d, hd, rfl⟩, rfl⟩
theorem rk_mv {c p : Pq} {w : Pr} : rk (sh u v c) (sh u v p) w ↔ rk c p w := by
  unfold rk lqs
  dsimp only
  rw [atq_sh, atq_sh, Rat.floor_add_intCast, Rat.intCast_add]
  constructor <;> intro h <;> grind
theorem rnd_mv {l : List Sd} {p : Pq} : rndP (l.map (mv u v)) (sh u v p) ↔ rndP l p := by
  unfold rndP
  rw [cs_mv]
  constructor
  · intro h c hc w hw
    exact rk_mv.1 (h (mvC u v c) (List.mem_map.2 ⟨c, hc, rfl⟩) w hw)
  · intro h c hc w hw
    obtain ⟨d, hd, rfl⟩ := List.mem_map.1 hc
    exact rk_mv.2 (h d hd w hw)
theorem lft_sp (a b c : Pr) : lft (sp u v a) (sp u v b) (sp u v c) = lft a b c := by
  unfold lft sp
  dsimp only
  rw [show b.1 + u - (a.1 + u) = b.1 - a.1 by omega, show c.2 + v - (b.2 + v) = c.2 - b.2 by omega, show b.2 + v - (a.2 + v) = b.2 - a.2 by omega, show c.1 + u - (b.1 + u) = c.1 - b.1 by omega]
theorem pp_sp (x : Pr) : ∀ s : List Pr, pp (sp u v x) (s.map (sp u v)) = (pp x s).map (sp u v)
  | [] => rfl
  | [_] => rfl
  | b :: a :: r => by
    rw [List.map_cons, List.map_cons, pp, pp, lft_sp]
    split
    · rw [← List.map_cons]; exact pp_sp x (a :: r)
    · rfl
theorem stk_sp (l : List Pr) : stk (l.map (sp u v)) = (stk l).map (sp u v) := by
  unfold stk
  have key : ∀ (l st : List Pr), (l.map (sp u v)).foldl (fun st x => x :: pp x st) (st.map (sp u v)) = (l.foldl (fun st x => x :: pp x st) st).map (sp u v) := by
    intro l
    induction l with
    | nil => intro st; rfl
    | cons x l ih =>
      intro st
      rw [List.map_cons, List.foldl_cons, List.foldl_cons, pp_sp, ← List.map_cons]
      exact ih _
  exact key l []
theorem hul_sp (l : List Pr) : hul (l.map (sp u v)) = (hul l).map (sp u v) := by
  unfold hul chn
  rw [stk_sp, ← List.map_reverse, ← List.map_reverse, stk_sp, ← List.map_reverse, ← List.map_dropLast, ← List.map_dropLast, ← List.map_append]
end
end Go.Lt.P2

namespace Go.Lt.P2
open Go Go.Lt Go.Proofs
/-- one number of one side is put -/
def setc (s : Sd) (k : Nat) (n : Int) : Sd := if k = 0 then (n, s.2.1, s.2.2) else if k = 1 then (s.1, n, s.2.2) else (s.1, s.2.1, n)
theorem encs_setc (q : List Sd) {j k : Nat} (hj : j < q.length) (hk : k < 3) (n : Int) : (encs q).set (j * 3 + k) (.int .i64 n) = encs (q.set j (setc q[j] k n)) := by
  have e1 : q = q.take j ++ q[j] :: q.drop (j + 1) := by rw [List.getElem_cons_drop, List.take_append_drop]
  have e2 : q.set j (setc q[j] k n) = q.take j ++ setc q[j] k n :: q.drop (j + 1) := by rw [List.set_eq_take_append_cons_drop, if_pos hj]
  have hl : (encs (q.take j)).length = j * 3 := by rw [encs_len, List.length_take, Nat.min_eq_left (by omega)]; rfl
  rw [e2, encs_append, encs_cons]
  conv => lhs; rw [e1, encs_append, encs_cons]
  rw [List.set_append_right _ _ (by omega), hl, Nat.add_sub_cancel_left, List.set_append_left _ _ (by rw [El.len]; exact hk)]
  congr 2
  rcases (show k = 0 ∨ k = 1 ∨ k = 2 by omega) with rfl | rfl | rfl <;> rfl
theorem Own.put1 {α : Type} {Q : α → Hp → Prop} {H : Hp} {v : Sl} {q : List Sd} (h : Own H v q) {j k o : Nat} (n : Int) {f : Hp → Option (α × Hp)} (hj : j < q.length) (hk : k < 3) (ho : o = (v.o + j * 3) + k)
    (kk : ∀ H', Own H' v (q.set j (setc q[j] k n)) → Only v.b H H' → H'.n = H.n → Ok (f H') Q) : Ok ((H.st v.b o (.int .i64 n)).bind f) Q := by
  have hvo := h.o
  refine Ok.st h.get ?_ fun H' e1 e2 => ?_
  · rw [encs_len, ho, hvo]
    have : El.sz Sd = 3 := rfl
    rw [this]; omega
  · rw [ho, hvo, Nat.zero_add, encs_setc q hj hk] at e2
    refine kk H' ⟨h.nn, h.o, by simp [h.len], h.cap, h.opn, e2⟩ ⟨by rw [e1]; simp, fun c _ hc => by rw [e1, Hp.get_set_other _ _ hc]⟩ (by rw [e1]; simp)
def tn (s : Sd) : Sd := (-s.2.1, s.1, s.2.2)
theorem set_mix {l : List Sd} {f : Sd → Sd} {i : Nat} (h : i < l.length) : ((l.take i).map f ++ l.drop i).set i (f l[i]) = (l.take (i + 1)).map f ++ l.drop (i + 1) := by
  have hl : ((l.take i).map f).length = i := by rw [List.length_map, List.length_take]; omega
  rw [List.set_append_right _ _ (by omega), hl, Nat.sub_self, List.drop_eq_getElem_cons h, List.set_cons_zero, List.take_succ_eq_append_getElem h, List.map_append]
  simp
theorem mix_at {l : List Sd} {f : Sd → Sd} {i : Nat} (h : i < l.length) : ((l.take i).map f ++ l.drop i)[i]'(by simp; omega) = l[i] := by
  have hl : ((l.take i).map f).length = i := by rw [List.length_map, List.length_take]; omega
  rw [List.getElem_append_right (by omega)]
  simp only [hl, Nat.sub_self]
  rw [List.getElem_drop]
  simp
theorem mix_len {l : List Sd} {f : Sd → Sd} {i : Nat} (h : i ≤ l.length) : ((l.take i).map f ++ l.drop i).length = l.length := by
  rw [List.length_append, List.length_map, List.length_take, List.length_drop]; omega
theorem set2 {Q : List Sd} {i : Nat} (h : i < Q.length) {a b : Int} : (Q.set i (setc Q[i] 0 a)).set i (setc ((Q.set i (setc Q[i] 0 a))[i]'(by rw [List.length_set]; exact h)) 1 b) = Q.set i (a, b, (Q[i]'h).2.2) := by
  rw [List.set_set, List.getElem_set_self]
  rfl
end Go.Lt.P2

namespace Go.Lt.P2
open Go Go.Lt Go.Proofs
def mvR (l : List Sd) (u v : Int) : Int × List Sd := if plateP l ∧ ((-5 ≤ u ∧ u ≤ 5) ∧ -5 ≤ v ∧ v ≤ 5) then if ∀ s ∈ l, mvOk u v s then (0, l.map (mv u v)) else (4, []) else (2, [])
/-- Move -/
theorem r33_ok {k : Nat} {H : Hp} {w : Sl} {l : List Sd} {u v : Int} (hv : SL H w l) (hb : l.length ≤ 1000) : Ok (r33 (appA (k + 1)) w u v H) fun r H' => Gr H H' ∧ SL H' r.1 (mvR l u v).2 ∧ r.2 = (mvR l u v).1 ∧ (r.2 = 0 ∨ r.1.nil = true) := by
  unfold r33
  refine Ok.bind (r63_ok hv hb) fun b A ⟨gA, hbb⟩ => ?_
  subst hbb
  have bad : ∀ {B : Hp}, ¬ (plateP l ∧ ((-5 ≤ u ∧ u ≤ 5) ∧ -5 ≤ v ∧ v ≤ 5)) → Gr H B → Ok (r33_j1 (appA (k + 1)) w u v true B) fun r H' => Gr H H' ∧ SL H' r.1 (mvR l u v).2 ∧ r.2 = (mvR l u v).1 ∧ (r.2 = 0 ∨ r.1.nil = true) := fun {B} hn g => by
    unfold r33_j1 mvR
    rw [if_neg hn]
    exact Ok.pos rfl (Ok.ret ⟨g, .nilS, rfl, .inr rfl⟩)
  by_cases hp : plateP l
  · rw [decide_eq_true hp]
    refine Ok.pos rfl ?_
    have gp := Gr.push A (.cells [.int .i64 u, .int .i64 v] false)
    have hs : SL (T := Int) (A.push (.cells [.int .i64 u, .int .i64 v] false)) ⟨false, A.n, 0, 2, 2, 0⟩ [u, v] := .of_get (ro := false) (Hp.get_push_new _ _) rfl rfl (Nat.le_refl _) (.inl rfl) rfl
    refine Ok.bind (r79_ok (k := k) (c := 5) (by omega) hs (by simp)) fun r C ⟨gC, hr⟩ => ?_
    subst hr
    have gHC := gA.trans (gp.trans gC)
    rw [Bool.not_not]
    by_cases h1 : ∃ y ∈ [u, v], y < -5 ∨ 5 < y
    · rw [decide_eq_true h1]
      refine bad (fun hn => ?_) gHC
      obtain ⟨y, hy, h2⟩ := h1
      simp only [List.mem_cons, List.not_mem_nil, or_false] at hy
      rcases hy with rfl | rfl <;> omega
    · rw [decide_eq_false h1]
      have q1 : ¬ (u < -5 ∨ 5 < u) := fun q => h1 ⟨u, by simp, q⟩
      have q2 : ¬ (v < -5 ∨ 5 < v) := fun q => h1 ⟨v, by simp, q⟩
      have e : mvR l u v = if ∀ s ∈ l, mvOk u v s then (0, l.map (mv u v)) else (4, []) := by unfold mvR; rw [if_pos ⟨hp, by omega, by omega, by omega⟩]
      rw [e]
      unfold r33_j1
      refine Ok.neg (by simp) ?_
      show Ok ((cloneR 3 w C).bind _) _
      have hvC := hv.gr gHC
      refine Ok.bind (clone_ok hvC (by omega) rfl) fun o B ⟨gB, _, _, hw⟩ => ?_
      obtain ⟨ow, hwb⟩ := hw (hv.nonnil (by intro c; have := hp.1.1; rw [c] at this; simp at this))
      have hol := ow.len
      rw [show o.len = l.length by omega]
      refine Ok.loop (L := fun K (s : Int) H2 => r33_l0 (appA (k + 1)) K u v o o l.length s H2) (fun m s H' => Gr H H' ∧ Gr C H' ∧ ∃ i : Nat, s = i ∧ i + m = l.length ∧ Own H' o ((l.take i).map (mv u v) ++ l.drop i)) ?_ FUEL l.length 0 B (by unfold FUEL; omega) ⟨gHC.trans gB, gB, 0, rfl, by omega, by simpa using ow⟩
      rintro K m s H1 ⟨g1, gC1, i, rfl, hm, o1⟩ ih
      try dsimp only at *
      rw [r33_l0]
      by_cases h : i < l.length
      · have hx := hp.2.1 _ (List.getElem_mem h)
        have bd := mv_bd (u := u) (v := v) hx (by omega) (by omega)
        unfold sideP at hx
        have hql := mix_len (f := mv u v) (show i ≤ l.length by omega)
        have hwl := o1.len
        have hat := mix_at (f := mv u v) h
        have hg := o1.sl
        have hq : i < ((l.take i).map (mv u v) ++ l.drop i).length := by omega
        have l0 := hg.ldI (i := i) (j := 0) (n := l[i].1) hq (by rw [hat]; rfl)
        have l1 := hg.ldI (i := i) (j := 1) (n := l[i].2.1) hq (by rw [hat]; rfl)
        have l2 := hg.ldI (i := i) (j := 2) (n := l[i].2.2) hq (by rw [hat]; rfl)
        obtain ⟨E, hE, hE', gE, nE⟩ := sts3 H1 (.int .i64 l[i].1) (.int .i64 l[i].2.1) (.int .i64 l[i].2.2) (.int .i64 0) (.int .i64 0) (.int .i64 0)
        have oE := o1.gr gE
        have l2' := oE.sl.ldI (i := i) (j := 2) (n := l[i].2.2) hq (by rw [hat]; rfl)
        refine Ok.pos (by omega) (Ok.ck (by omega) (Ok.ld l0 (Ok.ld l1 (Ok.ld l2 (Ok.ld hE (Ok.ck (by omega) (Ok.ld l2' (Ok.ld (ldI_get hE' rfl) (Ok.ld (ldI_get hE' rfl) (Ok.ck (by omega) ?_))))))))))
        have hwn : o.b < H1.n := Hp.get_lt o1.get
        rw [w64_id (n := _ * u) (by omega) (by omega), w64_id (n := _ * v) (by omega) (by omega), w64_id (n := _ + _ * v) (by omega) (by omega), w64_id (by omega) (by omega)]
        refine Own.put1 oE (j := i) (k := 2) (l[i].2.2 + (l[i].1 * u + l[i].2.1 * v)) (by omega) (by omega) rfl fun G oG onG nG => ?_
        rw [w64_succ (by omega)]
        have only : Only o.b H1 G := (Gr.only gE).trans onG
        refine ih (m - 1) _ G (by omega) ⟨only.gr g1 (by have := gHC.1; omega), only.gr gC1 hwb, i + 1, rfl, by omega, ?_⟩
        rw [hat] at oG
        rw [← set_mix (f := mv u v) h]
        exact oG
      · have hi : i = l.length := by omega
        subst hi
        rw [List.take_length, List.drop_length, List.append_nil] at o1
        refine Ok.neg (by omega) (Ok.bind (r63_ok o1.sl (by simpa using hb)) fun b D ⟨gD, hbb⟩ => ?_)
        subst hbb
        have e2 := plate_mv (u := u) (v := v) hp
        by_cases hk : ∀ s ∈ l, mvOk u v s
        · rw [decide_eq_true (e2.2 hk)]
          simp only [if_pos hk]
          exact Ok.pos (by simp) (Ok.ret ⟨g1.trans gD, o1.sl.gr gD, rfl, .inl rfl⟩)
        · rw [decide_eq_false (fun q => hk (e2.1 q))]
          simp only [if_neg hk]
          exact Ok.neg (by simp) (Ok.ret ⟨g1.trans gD, .nilS, rfl, .inr rfl⟩)
  · rw [decide_eq_false hp]
    exact Ok.neg (by simp) (bad (fun q => hp q.1) gA)
end Go.Lt.P2

namespace Go.Lt.P2
open Go Go.Lt Go.Proofs
/-- left -/
theorem r102_ok {a b c : Pr} (ha : near3 a) (hb : near3 b) (hc : near3 c) : Ok (r102 a.1 a.2 b.1 b.2 c.1 c.2 H0) fun r _ => r = lft a b c := by
  unfold near3 at ha hb hc
  unfold r102
  refine Ok.box3 (.nil H0) fun A _ cx => ?_
  refine Ok.cld cx (.tail _ (.head _)) rfl (Ok.cld cx (.tail _ (.tail _ (.head _))) rfl (Ok.cld cx (.tail _ (.head _)) rfl (Ok.cld cx (.tail _ (.tail _ (.head _))) rfl (Ok.cld cx (.head _) rfl (Ok.cld cx (.tail _ (.head _)) rfl (Ok.cld cx (.head _) rfl (Ok.cld cx (.tail _ (.head _)) rfl ?_)))))))
  rw [w64_id (n := b.1 - a.1) (by omega) (by omega), w64_id (n := b.2 - a.2) (by omega) (by omega), w64_id (n := c.1 - b.1) (by omega) (by omega), w64_id (n := c.2 - b.2) (by omega) (by omega)]
  exact Ok.own (r97_ok (by omega) (by omega) (by omega) (by omega)) fun X => Ok.ret rfl
/-- one comes to a chain -/
theorem r72_l1_ok {B H : Hp} {w v : Sl} {st : List Pr} {x : Pr} {c : Nat} {ln iv : Int} {kt : Sl → Sl → Int → Int → Hp → Option (Sl × Hp)} {Q : Sl → Hp → Prop} (hw : Buf B.n H w st.reverse) (g : Gr B H) (hc : H.get c = some (.cells [.int .i64 x.1, .int .i64 x.2] false)) (hwc : w.nil = false → w.b ≠ c) (hst : ∀ p ∈ st, near3 p) (hx : near3 x) (hlen : st.length ≤ 10000000) (hiv : 0 ≤ iv ∧ iv < 1000000000)
    (kN : ∀ w' H', Gr B H' → Buf B.n H' w' (x :: pp x st).reverse → Ok (kt w' v ln (iv + 1) H') Q) : Ok (r72_l1 kt FUEL w c v ln iv H) Q := by
  refine Ok.loop (L := fun K (s : Sl) H2 => r72_l1 kt K s c v ln iv H2) (fun m s H' => H' = H ∧ ∃ st', m = st'.length ∧ (st'.length ≤ st.length ∧ pp x st' = pp x st) ∧ (∀ p ∈ st', near3 p) ∧ Buf B.n H s st'.reverse ∧ (s.nil = false → s.b ≠ c)) ?_ FUEL st.length w H (by unfold FUEL; omega) ⟨rfl, st, rfl, ⟨Nat.le_refl _, rfl⟩, hst, hw, hwc⟩
  rintro K m w H1 ⟨rfl, st', rfl, ⟨hle', hpp⟩, hst', hw, hwc⟩ ih
  try dsimp only at *
  rw [r72_l1]
  have hl := hw.len
  rw [List.length_reverse] at hl
  have push : pp x st' = st' → Ok (r72_j2 kt (fun v1_ v2_ v3_ v4_ v5_ H_ => r72_l1 kt K v1_ v2_ v3_ v4_ v5_ H_) w c v ln iv false H1) Q := fun he => by
    unfold r72_j2
    have hle : (st'.reverse).length < 4294967296 := by
      rw [List.length_reverse]
      omega
    refine Ok.neg (by simp) (Ok.ld (ldI_get hc rfl) (Ok.ld (ldI_get hc rfl) (Ok.bind (hw.push g.1 x rfl rfl hle) fun w' E ⟨hw', bt, _⟩ => ?_)))
    rw [w64_id (n := iv + 1) (by omega) (by omega)]
    refine kN w' E (But.grB bt.1 hw g) ?_
    rw [← hpp, he, List.reverse_cons]
    exact hw'
  match st', hle', hpp, hst', hw, hl, push, ih with
  | [], hle', hpp, hst', hw, hl, push, ih => exact Ok.neg (by rw [hl]; simp) (push rfl)
  | [p], hle', hpp, hst', hw, hl, push, ih => exact Ok.neg (by rw [hl]; simp) (push rfl)
  | b :: a :: r, hle', hpp, hst', hw, hl, push, ih =>
    simp only [List.length_cons] at hl hle'
    have hr := rd2 (pre := []) (n := w.len) (by simpa using hw.sl) rfl
    have e2 : (w64 ((w.len : Int) - 2)).toNat = w.len - 2 := by rw [w64_id (by omega) (by omega)]; omega
    have e1 : (w64 ((w.len : Int) - 1)).toNat = w.len - 1 := by rw [w64_id (by omega) (by omega)]; omega
    have f2 : w64 ((w.len : Int) - 2) = (w.len : Int) - 2 := w64_id (by omega) (by omega)
    have f1 : w64 ((w.len : Int) - 1) = (w.len : Int) - 1 := w64_id (by omega) (by omega)
    rw [e2, e1, f2, f1]
    refine Ok.pos (by omega) (Ok.ck (by omega) (Ok.ld hr.1.1 (Ok.ld hr.1.2 (Ok.ck (by omega) (Ok.ld hr.2.1 (Ok.ld hr.2.2 (Ok.ld (ldI_get hc rfl) (Ok.ld (ldI_get hc rfl) (Ok.own (r102_ok (hst' a (by simp)) (hst' b (by simp)) hx) fun X => ?_)))))))))
    by_cases hc0 : lft a b x ≤ 0
    · rw [decide_eq_true hc0]
      unfold r72_j2
      rw [e1, f1]
      have hopn := hw.sl.opn
      have hcap := hw.sl.cap
      have es : El.sz Pr = 2 := rfl
      rw [es] at hopn
      refine Ok.pos rfl (Ok.ck ⟨by omega, hopn⟩ ?_)
      have hp : Buf B.n H1 w ((a :: r).reverse ++ [b]) := by rw [← List.reverse_cons]; exact hw
      obtain ⟨p1, p2, p3, p4⟩ := hp.pop
      refine ih (a :: r).length _ H1 (by simp) ⟨rfl, a :: r, rfl, ⟨by simp only [List.length_cons]; omega, ?_⟩, fun p hp => hst' p (.tail _ hp), p1, fun _ => by
        show (w.cut (El.sz Pr) 0 (w.len - 1)).b ≠ c
        rw [p3]; exact hwc p4⟩
      rw [← hpp, pp, if_pos hc0]
    · rw [decide_eq_false hc0]
      exact push (by rw [pp, if_neg hc0])
/-- chain -/
theorem r72_ok {H : Hp} {v : Sl} {l : List Pr} (hv : SL H v l) (hb : l.length ≤ 10000000) (hl : ∀ p ∈ l, near3 p) : Ok (r72 v H) fun w H' => Gr H H' ∧ Buf H.n H' w (chn l) := by
  unfold r72
  have hlen := hv.len
  rw [hlen]
  refine Ok.loop (L := fun K (s : Sl × Int) H2 => r72_l0 K s.1 v l.length s.2 H2) (fun m s H' => Gr H H' ∧ ∃ i : Nat, s.2 = i ∧ i + m = l.length ∧ Buf H.n H' s.1 (stk (l.take i)).reverse) ?_ FUEL l.length (⟨true, 0, 0, 0, 0, 0⟩, 0) H (by unfold FUEL; omega) ⟨.refl _, 0, rfl, by omega, .inl ⟨rfl, rfl⟩⟩
  rintro K m ⟨w, s⟩ H1 ⟨g1, i, rfl, hm, hw⟩ ih
  try dsimp only at *
  rw [r72_l0]
  by_cases h : i < l.length
  · have hg := hv.gr g1
    have c0 : Cx H1 H1 [] := .nil H1
    refine Ok.pos (by omega) (Ok.ck (by omega) (Ok.ld (hg.ldI (i := i) (j := 0) h rfl) (Ok.ld (hg.ldI (i := i) (j := 1) h rfl) (Ok.alo c0 fun E gE cx => ?_))))
    refine r72_l1_ok (x := l[i]) (hw.gr gE) (g1.trans gE) (cx.e _ (.head _)) (fun hn => by have := (hw.lt hn).1; show w.b ≠ H1.n; omega) (fun p hp => hl p (List.mem_of_mem_take (stk_sub _ p hp))) (hl _ (List.getElem_mem h)) (by have := stk_len (l.take i); rw [List.length_take] at this; omega) (by omega) fun w' H' g' hw' => ?_
    refine ih (m - 1) (w', _) H' (by omega) ⟨g', i + 1, by simp, by omega, ?_⟩
    rw [List.take_succ_eq_append_getElem h, stk_snoc]
    exact hw'
  · rw [List.take_of_length_le (by omega)] at hw
    exact Ok.neg (by omega) (Ok.ret ⟨g1, hw⟩)
end Go.Lt.P2

namespace Go.Lt.P2
open Go Go.Lt Go.Proofs
/-- Reverse -/
theorem r73_ok {H : Hp} {v : Sl} {l : List Pr} (hv : Own H v l) (hb : l.length ≤ 10000000) : Ok (r73 v H) fun _ H' => Own H' v l.reverse ∧ Only v.b H H' := by
  unfold r73
  have hlen := hv.len
  have fin : ∀ {q : List Pr} {i : Nat}, q.length = l.length → (∀ k, q[k]? = if k < i ∨ l.length - i ≤ k then l.reverse[k]? else l[k]?) → l.length ≤ 2 * i + 1 → q = l.reverse := fun {q i} h1 h2 h3 => by
    refine List.ext_getElem? fun k => ?_
    rw [h2]
    split
    · rfl
    · by_cases hk : k < l.length
      · rw [List.getElem?_reverse hk]
        congr 1; omega
      · omega
  refine Ok.loop (L := fun K (s : Int × Int) H2 => r73_l0 K v s.1 s.2 H2) (fun m s H' => ∃ (i : Nat) (q : List Pr), s.1 = i ∧ s.2 = (l.length : Int) - 1 - i ∧ m = l.length - i ∧ i ≤ l.length ∧ q.length = l.length ∧ Own H' v q ∧ Only v.b H H' ∧ ∀ k, q[k]? = if k < i ∨ l.length - i ≤ k then l.reverse[k]? else l[k]?) ?_ FUEL l.length (0, w64 ((v.len : Int) - 1)) H (by unfold FUEL; omega) ⟨0, l, rfl, by rw [w64_id (by omega) (by omega)]; omega, by omega, by omega, rfl, hv, .refl _ _, fun k => by
    split
    · rename_i hk
      have hk : l.length ≤ k := by omega
      rw [List.getElem?_eq_none hk, List.getElem?_eq_none (by simpa using hk)]
    · rfl⟩
  rintro K m ⟨a, b⟩ H1 ⟨i, q, rfl, rfl, rfl, hi, hql, ho, hon, hq⟩ ih
  try dsimp only at *
  rw [r73_l0]
  have hol := ho.len
  by_cases h : (i : Int) < (l.length : Int) - 1 - i
  · have hj : ((l.length : Int) - 1 - i).toNat = l.length - 1 - i := by omega
    have hjq : l.length - 1 - i < q.length := by omega
    have hiq : i < q.length := by omega
    rw [hj]
    refine Ok.pos h (Ok.ck (by omega) (Ok.ld (ho.sl.ldI (i := l.length - 1 - i) (j := 0) hjq rfl) (Ok.ld (ho.sl.ldI (i := l.length - 1 - i) (j := 1) hjq rfl) (Ok.ck (by omega) (Ok.ld (ho.sl.ldI (i := i) (j := 0) hiq rfl) (Ok.ld (ho.sl.ldI (i := i) (j := 1) hiq rfl) (Ok.ck (by omega) ?_)))))))
    refine Own.put ho hiq q[l.length - 1 - i] rfl rfl fun A oA onA nA => Ok.ck (by omega) (Own.put oA (by rw [List.length_set]; exact hjq) q[i] rfl rfl fun B oB onB nB => ?_)
    rw [w64_id (by omega) (by omega), w64_id (by omega) (by omega)]
    refine ih (l.length - (i + 1)) (_, _) B (by omega) ⟨i + 1, _, by simp, by dsimp only; omega, rfl, by omega, by rw [List.length_set, List.length_set]; exact hql, oB, hon.trans (onA.trans onB), fun k => ?_⟩
    have e1 : q[l.length - 1 - i]? = l[l.length - 1 - i]? := by rw [hq, if_neg (by omega)]
    have e2 : q[i]? = l[i]? := by rw [hq, if_neg (by omega)]
    rw [List.getElem?_set, List.getElem?_set]
    by_cases k1 : l.length - 1 - i = k
    · subst k1
      rw [if_pos rfl, if_pos (by rw [List.length_set]; exact hjq), if_pos (by omega), List.getElem?_reverse (by omega), ← List.getElem?_eq_getElem hiq, e2]
      congr 1; omega
    · rw [if_neg k1]
      by_cases k2 : i = k
      · subst k2
        rw [if_pos rfl, if_pos hiq, if_pos (by omega), List.getElem?_reverse (by omega), ← List.getElem?_eq_getElem hjq, e1]
      · rw [if_neg k2, hq]
        by_cases k3 : k < i ∨ l.length - i ≤ k
        · rw [if_pos k3, if_pos (by omega)]
        · rw [if_neg k3, if_neg (by omega)]
  · refine Ok.neg h (Ok.ret ⟨?_, hon⟩)
    rw [← fin hql hq (by omega)]
    exact ho
end Go.Lt.P2

namespace Go.Lt.P2
open Go Go.Lt Go.Proofs
theorem pts_near {l : List Sd} (hs : ∀ s ∈ l, sideP s) : ∀ p ∈ pts l, near3 p := fun p hp => by
  unfold pts at hp
  have b := bxs_bd hs
  unfold bbd at b
  split at hp
  · have := (mem_grid.1 hp).1
    unfold near3
    omega
  · cases hp
end Go.Lt.P2

namespace Go.Lt.P2
open Go Go.Lt Go.Proofs
theorem AccL.own {T : Type} [El T] {n0 : Nat} {H : Hp} {v : Sl} {l : List T} (h : AccL n0 H v l) (hne : l ≠ []) : Own H v l ∧ n0 ≤ v.b := by
  have hlen := AccL.len h
  rcases h with ⟨rfl, e⟩ | ⟨h1, h2, h3, h4, h5, h6, h7⟩
  · exact absurd (List.length_eq_zero_iff.1 (by rw [← hlen]; rfl)) hne
  · exact ⟨⟨h1, h2, hlen, by omega, .inr h3, h6⟩, h5⟩
def hulR (l : List Pr) : Int × List Pr := if l.length = 0 then (4, []) else if l.length = 1 then (0, l) else (0, hul l)
theorem chn_ne {l : List Pr} (h : l ≠ []) : chn l ≠ [] := by
  unfold chn
  rw [← List.dropLast_concat_getLast h, stk_snoc]
  simp
theorem chn_len (l : List Pr) : (chn l).length ≤ l.length := by unfold chn; rw [List.length_reverse]; exact stk_len l
/-- Hull -/
theorem r23_ok {k : Nat} {H : Hp} {v : Sl} {l : List Sd} (hv : SL H v l) (hb : l.length ≤ 1000) : Ok (r23 (appA (k + 2)) v H) fun r H' => Gr H H' ∧ if plateP l then SL H' r.1 (hulR (pts l)).2 ∧ r.2 = (hulR (pts l)).1 else r = (⟨true, 0, 0, 0, 0, 0⟩, 2) := by
  unfold r23
  refine Ok.bind (r63_ok (k := k + 1) hv hb) fun b A ⟨gA, hbb⟩ => ?_
  subst hbb
  by_cases hp : plateP l
  case neg =>
    rw [decide_eq_false hp]
    simp only [if_neg hp]
    exact Ok.neg (by simp) (Ok.ret ⟨gA, rfl⟩)
  rw [decide_eq_true hp]
  simp only [if_pos hp]
  have hn := pts_near hp.2.1
  have hpl := pts_len hp.2.1
  refine Ok.pos (by simp) (Ok.bind (r71_ok (hv.gr gA) hb hp.2.1) fun w B ⟨gB, hw⟩ => ?_)
  have hwl := AccL.len hw
  have gHB := gA.trans gB
  generalize pts l = q at *
  unfold hulR
  by_cases h0 : q.length = 0
  · rw [if_pos h0]
    exact Ok.pos (by dsimp only; omega) (Ok.ret ⟨gHB, .nilS, rfl⟩)
  rw [if_neg h0]
  by_cases h1 : q.length = 1
  · rw [if_pos h1]
    exact Ok.neg (by dsimp only; omega) (Ok.pos (by dsimp only; omega) (Ok.ret ⟨gHB, AccL.sl hw, rfl⟩))
  rw [if_neg h1]
  have hne : q ≠ [] := by rintro rfl; exact h0 rfl
  obtain ⟨ow, hwb⟩ := AccL.own hw hne
  refine Ok.neg (by dsimp only; omega) (Ok.neg (by dsimp only; omega) (Ok.bind (r72_ok ow.sl (by omega) hn) fun lo C ⟨gC, hlo⟩ => ?_))
  refine Ok.bind (r73_ok (ow.gr gC) (by omega)) fun _ D ⟨ow2, onD⟩ => ?_
  have hlob : lo.nil = false → lo.b ≠ w.b := fun hn => by have h1 := (hlo.lt hn).2; have h2 := Hp.get_lt ow.get; dsimp only at h1; omega
  have hloD : Buf B.n D lo (chn q) := hlo.keep fun hn => onD.2 _ (hlo.lt hn).1 (hlob hn)
  refine Ok.bind (r72_ok ow2.sl (by rw [List.length_reverse]; omega) fun p hp => hn p (List.mem_reverse.1 hp)) fun hi E ⟨gE, hhi⟩ => ?_
  have hloE := hloD.gr gE
  have ll := hloE.len
  have lh := hhi.len
  have nl := List.length_pos_iff.2 (chn_ne hne)
  have nh := List.length_pos_iff.2 (chn_ne (show q.reverse ≠ [] by simpa using hne))
  have bl := chn_len q
  have bh := chn_len q.reverse
  rw [List.length_reverse] at bh
  have cl := hloE.sl.cap
  have chp := hhi.sl.cap
  have co := hhi.sl.opn
  have es : El.sz Pr = 2 := rfl
  rw [es] at co
  have e1 : (w64 ((lo.len : Int) - 1)).toNat = lo.len - 1 := by rw [w64_id (by omega) (by omega)]; omega
  have e2 : (w64 ((hi.len : Int) - 1)).toNat = hi.len - 1 := by rw [w64_id (by omega) (by omega)]; omega
  have f1 : w64 ((lo.len : Int) - 1) = (lo.len : Int) - 1 := w64_id (by omega) (by omega)
  have f2 : w64 ((hi.len : Int) - 1) = (hi.len : Int) - 1 := w64_id (by omega) (by omega)
  dsimp only
  rw [e1, e2, f1, f2]
  refine Ok.ck (by omega) (Ok.ck ⟨by omega, co⟩ ?_)
  have c2 := hhi.sl.cut (lo := 0) (hi := hi.len - 1) (by omega) (by omega)
  have c1 := hloE.sl.cut3 (lo := 0) (hi := lo.len - 1) (mx := lo.len - 1) (by omega) (by omega) (Nat.le_refl _)
  rw [List.drop_zero, Nat.sub_zero] at c1 c2
  have d1 : (chn q).take (lo.len - 1) = (chn q).dropLast := by rw [ll, List.dropLast_eq_take]
  have d2 : (chn q.reverse).take (hi.len - 1) = (chn q.reverse).dropLast := by rw [lh, List.dropLast_eq_take]
  rw [d1] at c1
  rw [d2] at c2
  have l2 := c2.len
  refine Ok.ld c2.lds (Ok.ck (encs_all _) ?_)
  have l1 := c1.len
  have hcap : (lo.cut3 (El.sz Pr) 0 (lo.len - 1) (lo.len - 1)).cap = (lo.cut3 (El.sz Pr) 0 (lo.len - 1) (lo.len - 1)).len ∧ (lo.cut3 (El.sz Pr) 0 (lo.len - 1) (lo.len - 1)).opn = 0 := by
    have hnn := hloE.sl.nonnil (chn_ne hne)
    unfold Sl.cut3
    rw [if_neg (by simp [hnn])]
    exact ⟨rfl, rfl⟩
  refine Ok.bind (Go.Lt.P2.SL.app0 c1 hcap.1 hcap.2 rfl rfl l2 (by rw [List.length_dropLast, List.length_dropLast]; omega)) fun u F ⟨gF, hu⟩ => Ok.ret ⟨?_, hu, rfl⟩
  have gBD : Gr A D := ⟨Nat.le_trans gB.1 (Nat.le_trans gC.1 onD.1), fun b hb => by rw [onD.2 b (Nat.lt_of_lt_of_le hb (Nat.le_trans gB.1 gC.1)) (Nat.ne_of_lt (Nat.lt_of_lt_of_le hb hwb)), gC.2 b (Nat.lt_of_lt_of_le hb gB.1), gB.2 b hb]⟩
  exact gA.trans (gBD.trans (gE.trans gF))
end Go.Lt.P2

namespace Go.Lt.P2
open Go Go.Lt Go.Proofs
/-- Corners' rounds -/
structure ccI (B : Hp) (P : Nat → Prop) (q : List Cn) (w : Sl) (H : Hp) : Prop where
  g : Gr B H
  o : H.get B.n = some (.cells [.sl w] false)
  d : H.get (B.n + 1) = some .dfr
  l : H.get (B.n + 2) = some (.loop .ready none 1 21 [(4, .ptr B.n 0)])
  a : AccL (B.n + 3) H w (q.map (·.1))
  n : B.n + 3 ≤ H.n
  p : ∀ b, P b → b < H.n ∧ (b < B.n ∨ (B.n + 3 ≤ b ∧ (w.nil = false → b ≠ w.b)))
theorem low {T : Type} [El T] {n0 : Nat} {H : Hp} {w : Sl} {l : List T} (h : AccL n0 H w l) (hn : w.nil = false) : n0 ≤ w.b ∧ w.b < H.n := by
  rcases h with ⟨rfl, _⟩ | ⟨_, _, _, _, h5, h6, _⟩
  · simp [nilS] at hn
  · exact ⟨h5, Hp.get_lt h6⟩
theorem rnd1 {k : Nat} {B H : Hp} {P : Nat → Prop} {q : List Cn} {w : Sl} {x : Cn} (h : ccI B P q w H) (hb : q.length ≤ 1000000) :
    Ok (callv (app (k + 1)) (.yld (B.n + 2)) (argC x) H) fun r H' => H.n ≤ H'.n ∧ r = .bool true ∧ (∃ w', ccI B P (q ++ [x]) w' H') ∧ ∀ b, b < H.n → P b → H'.get b = H.get b := by
  show Ok (ydisp (app k) (B.n + 2) (argC x) H) _
  unfold ydisp
  rw [h.l]
  refine Ok.bind (P := fun r H' => r = none ∧ ∃ w', H.n ≤ H'.n ∧ Gr B H' ∧ H'.get B.n = some (.cells [.sl w'] false) ∧ H'.get (B.n + 1) = some .dfr ∧ H'.get (B.n + 2) = some (.loop .busy none 1 21 [(4, .ptr B.n 0)]) ∧ AccL (B.n + 3) H' w' ((q ++ [x]).map (·.1)) ∧ (∀ b, b < H.n → B.n + 3 ≤ b → (w.nil = false → b ≠ w.b) → H'.get b = H.get b) ∧ (w'.nil = false → (w.nil = false ∧ w'.b = w.b) ∨ H.n ≤ w'.b)) ?_ ?_
  · unfold r51q1
    have hn := h.n
    have c0 : Cx H H [] := .nil H
    refine Ok.alo c0 fun D gD cD => ?_
    have pD : D.get (B.n + 2) = some (.loop .ready none 1 21 [(4, .ptr B.n 0)]) := by rw [gD.2 _ (by omega)]; exact h.l
    have hbeg : D.lbegin (B.n + 2) = some (D.set (B.n + 2) (.loop .busy none 1 21 [(4, .ptr B.n 0)])) := by unfold Hp.lbegin; rw [pD]
    refine Ok.ld hbeg ?_
    have hx := cD.e _ (.head _)
    have nD := cD.lt (.head _)
    have gD1 := gD.1
    generalize hE : D.set (B.n + 2) (.loop .busy none 1 21 [(4, .ptr B.n 0)]) = E
    have oE : ∀ x, x ≠ B.n + 2 → E.get x = D.get x := fun x hx => by rw [← hE, Hp.get_set_other _ _ hx]
    have pE : E.get (B.n + 2) = some (.loop .busy none 1 21 [(4, .ptr B.n 0)]) := by rw [← hE, Hp.get_set_same _ _ (by omega)]
    have nE : E.n = D.n := by rw [← hE]; simp
    clear hE
    have sE : E.get B.n = some (.cells [.sl w] false) := by rw [oE _ (by omega), gD.2 _ (by omega)]; exact h.o
    have cE : E.get H.n = some (.cells [.int .i64 (fq x.1.1).1, .int .i64 (fq x.1.1).2, .int .i64 (fq x.1.2).1, .int .i64 (fq x.1.2).2, .int .i64 x.2.1.1, .int .i64 x.2.1.2.1, .int .i64 x.2.1.2.2, .int .i64 x.2.2.1, .int .i64 x.2.2.2.1, .int .i64 x.2.2.2.2] false) := by rw [oE _ (by omega)]; exact hx
    refine Ok.ld (ldSl_get sE rfl) (Ok.ld (ldI_get cE rfl) (Ok.ld (ldI_get cE rfl) (Ok.ld (ldI_get cE rfl) (Ok.ld (ldI_get cE rfl) ?_))))
    have aE : AccL (B.n + 3) E w (q.map (·.1)) := by
      refine Acc.keep (AccL.gr h.a gD) fun hn => ?_
      have := low h.a hn
      exact oE _ (by omega)
    have hlw := aE.len
    rw [List.length_map] at hlw
    obtain ⟨w', H', e1, a1, b1, c1, _, _, _⟩ := Acc.apN (k := 1) (xs := pc4 x.1) aE (by decide) rfl (by omega) (by omega)
    refine Ok.ld e1 ?_
    have kp : ∀ y, y < B.n + 3 → H'.get y = E.get y := fun y hy => b1.2 y (by omega) fun hn => by have := low h.a hn; omega
    have sF : H'.get B.n = some (.cells [.sl w] false) := by rw [kp _ (by omega)]; exact sE
    refine Ok.st sF (by simp) fun G eG hG => Ok.ret ⟨rfl, w', ?_, ⟨?_, fun b hb => ?_⟩, hG, ?_, ?_, ?_, fun b hb1 hb2 hb3 => ?_, fun hn' => ?_⟩
    · rw [eG]; have := b1.1; simp; omega
    · rw [eG]; have := b1.1; have := h.g.1; simp; omega
    · rw [eG, Hp.get_set_other _ _ (by omega), kp _ (by omega), oE _ (by omega), gD.2 _ (by omega)]; exact h.g.2 b hb
    · rw [eG, Hp.get_set_other _ _ (by omega), kp _ (by omega), oE _ (by omega), gD.2 _ (by omega)]; exact h.d
    · rw [eG, Hp.get_set_other _ _ (by omega), kp _ (by omega)]; exact pE
    · rw [List.map_append]
      unfold AccL
      rw [encs_append, show encs (List.map (·.1) [x]) = pc4 x.1 from encs_one _]
      refine Acc.keep a1 fun hn => ?_
      rw [eG, Hp.get_set_other]
      have : B.n + 3 ≤ w'.b := by
        rcases a1 with ⟨rfl, _⟩ | ⟨_, _, _, _, h5, _⟩
        · simp [nilS] at hn
        · exact h5
      omega
    · rw [eG, Hp.get_set_other _ _ (by omega), b1.2 b (by omega) hb3, oE _ (by omega), gD.2 _ hb1]
    · rcases c1 with rfl | c1
      · exact .inl ⟨hn', rfl⟩
      · exact .inr (by omega)
  · rintro r H' ⟨rfl, w', n1, h1, h2, h3, h4, h5, h6, h7⟩
    have hnx : H'.lnext (B.n + 2) 1 none = some (H'.set (B.n + 2) (.loop .ready none 1 21 [(4, .ptr B.n 0)])) := by
      unfold Hp.lnext; rw [h4]; simp
    dsimp only
    rw [hnx]
    have hl4 := Hp.get_lt h4
    have hn3 := h.n
    refine Ok.ret ⟨by simpa using n1, rfl, ⟨w', ⟨⟨by have := h1.1; simpa using this, fun b hb => ?_⟩, ?_, ?_, ?_, ?_, by simp; omega, fun b hb => ?_⟩⟩, fun b hb hP => ?_⟩
    · rw [Hp.get_set_other _ _ (by omega)]; exact h1.2 b hb
    · rw [Hp.get_set_other _ _ (by omega)]; exact h2
    · rw [Hp.get_set_other _ _ (by omega)]; exact h3
    · rw [Hp.get_set_same _ _ hl4]
    · refine Acc.keep h5 fun hn => ?_
      have := low h5 hn
      rw [Hp.get_set_other _ _ (by omega)]
    · have hp := h.p b hb
      refine ⟨by simp; omega, ?_⟩
      rcases hp.2 with k1 | ⟨k1, k2⟩
      · exact .inl k1
      · refine .inr ⟨k1, fun hn' => ?_⟩
        rcases h7 hn' with ⟨a, b'⟩ | a
        · rw [b']; exact k2 a
        · omega
    · have hp := h.p b hP
      rw [Hp.get_set_other _ _ (by omega)]
      rcases hp.2 with k1 | ⟨k1, k2⟩
      · rw [h1.2 b k1, h.g.2 b k1]
      · exact h6 b hb k1 k2
theorem ccY {k : Nat} {l : List Sd} (hl : (cs l).length ≤ 1000000) (B : Hp) : Yd (app (k + 1)) (.yld (B.n + 2)) argC (cs l) B (fun P q H => ∃ w, ccI B P q w H) (fun _ _ => False) where
  grow := fun {P P' q H H'} h g hP => by
    obtain ⟨w, h⟩ := h
    have hn := h.n
    refine ⟨w, h.g.trans g, by rw [g.2 _ (by omega)]; exact h.o, by rw [g.2 _ (by omega)]; exact h.d, by rw [g.2 _ (by omega)]; exact h.l, h.a.gr g, Nat.le_trans h.n g.1, fun b hb => ?_⟩
    rcases hP b hb with h1 | h1
    · have := h.p b h1
      exact ⟨Nat.lt_of_lt_of_le this.1 g.1, this.2⟩
    · refine ⟨h1.2, .inr ⟨by omega, fun hn => ?_⟩⟩
      have := low h.a hn
      omega
  base := fun ⟨_, h⟩ => h.g
  step := fun {P q H x} ⟨w, h⟩ hx => by
    have hq := hx.length_le
    rw [List.length_append] at hq
    refine Ok.mono (rnd1 (k := k) (x := x) h (by simp at hq; omega)) fun r H' ⟨h1, h2, h3, h4⟩ => ⟨h1, .inl ⟨h2, h3, h4⟩⟩
end Go.Lt.P2

namespace Go.Lt.P2
open Go Go.Lt Go.Proofs
def ltP (p q : Pq) : Bool := decide (ptlt p q)
def cmpQ (p q : Pq) : Int := if cmpq p.1 q.1 ≠ 0 then cmpq p.1 q.1 else cmpq p.2 q.2
theorem cmpQ_lt (p q : Pq) : cmpQ p q < 0 ↔ ltP p q = true := by
  unfold ltP
  rw [decide_eq_true_iff]
  unfold cmpQ cmpq ptlt
  by_cases a : p.1 < q.1
  · rw [if_pos a, if_pos (by decide)]; simp [a]
  · rw [if_neg a]
    by_cases b : q.1 < p.1
    · rw [if_pos b, if_pos (by decide)]
      constructor
      · intro h; exact absurd h (by decide)
      · rintro (h | h)
        · exact absurd h a
        · grind
    · rw [if_neg b, if_neg (by decide)]
      have e : p.1 = q.1 := by grind
      by_cases c : p.2 < q.2
      · rw [if_pos c]; simp [e, c]
      · rw [if_neg c]
        constructor
        · intro h
          split at h <;> exact absurd h (by decide)
        · rintro (h | h)
          · exact absurd h a
          · exact absurd h.2 c
def CmpSays (a : App) (fv : AV) : Prop := ∀ H (p q : Pq), qp p → qp q → Ok (callv a fv [.agg (pc4 p), .agg (pc4 q)] H) fun r H' => Gr H H' ∧ r = .int .i64 (cmpQ p q)
def at' (q : List Pq) (t : Nat) : Pq := q.getD t (0, 0)
theorem at_eq {q : List Pq} {t : Nat} (h : t < q.length) : q[t] = at' q t := by
  unfold at'
  rw [List.getD_eq_getElem?_getD, List.getElem?_eq_getElem h]; rfl
theorem at_set {q : List Pq} {j : Nat} (h : j < q.length) (x : Pq) (t : Nat) : at' (q.set j x) t = if t = j then x else at' q t := by
  unfold at'
  rw [List.getD_eq_getElem?_getD, List.getD_eq_getElem?_getD, List.getElem?_set]
  by_cases e : j = t
  · subst e; simp [h]
  · rw [if_neg e, if_neg (fun c => e c.symm)]
theorem ltP_asym {p q : Pq} (h : ltP p q = true) : ltP q p = false := by
  simp only [ltP, decide_eq_true_eq, decide_eq_false_iff_not] at *
  unfold ptlt at *
  grind
theorem ltP_ntr {p q r : Pq} (h : ltP q p = false) (k : ltP r q = false) : ltP r p = false := by
  simp only [ltP, decide_eq_false_iff_not] at *
  unfold ptlt at *
  grind
def so (q : List Pq) : Prop := ∀ t t', t < t' → t' < q.length → ltP (at' q t') (at' q t) = false
def sb (q : List Pq) (i j : Nat) : Prop := ∀ t t', t < t' → t' ≤ i → t' ≠ j → ltP (at' q t') (at' q t) = false
theorem sb_swap {q : List Pq} {i j : Nat} (hi : i < q.length) (hj : j + 1 ≤ i) (h : sb q i (j + 1)) (hl : ltP (at' q (j + 1)) (at' q j) = true) : sb ((q.set (j + 1) (at' q j)).set j (at' q (j + 1))) i j := by
  have e : ∀ t, at' ((q.set (j + 1) (at' q j)).set j (at' q (j + 1))) t = if t = j then at' q (j + 1) else if t = j + 1 then at' q j else at' q t := fun t => by
    rw [at_set (by simp; omega), at_set (by omega)]
  intro t t' h1 h2 h3
  rw [e, e, if_neg h3]
  by_cases c1 : t' = j + 1
  · subst c1
    rw [if_pos rfl]
    by_cases c2 : t = j
    · subst c2; rw [if_pos rfl]; exact ltP_asym hl
    · rw [if_neg c2, if_neg (by omega)]
      exact h t j (by omega) (by omega) (by omega)
  · rw [if_neg c1]
    by_cases c2 : t = j
    · subst c2; rw [if_pos rfl]; exact h (t + 1) t' (by omega) h2 c1
    · rw [if_neg c2]
      by_cases c3 : t = j + 1
      · subst c3; rw [if_pos rfl]; exact h j t' (by omega) h2 c1
      · rw [if_neg c3]; exact h t t' h1 h2 c1
theorem sb_stop {q : List Pq} {i j : Nat} (hj : j ≤ i) (h : sb q i j) (hs : 0 < j → ltP (at' q j) (at' q (j - 1)) = false) : ∀ t t', t < t' → t' ≤ i → ltP (at' q t') (at' q t) = false := by
  intro t t' h1 h2
  by_cases e : t' = j
  · subst e
    have := hs (by omega)
    by_cases e2 : t = t' - 1
    · subst e2; exact this
    · exact ltP_ntr (h t (t' - 1) (by omega) (by omega) (by omega)) this
  · exact h t t' h1 h2 e
section
variable {a : App} {fv : AV} {v : Sl} {Q : Unit → Hp → Prop}
theorem r114_l1_ok (hc : CmpSays a fv) {kt : Sl → Int → Int → AV → Int → Hp → Option (Unit × Hp)} {q : List Pq} (hqp : ∀ x ∈ q, qp x) (hb : q.length ≤ 1000000) {i : Nat} {n : Int} {H : Hp} (ho : Own H v q) (hi : i < q.length) (hs : sb q i i)
    (k : ∀ q' H', Own H' v q' → Only v.b H H' → q'.Perm q → (∀ t t', t < t' → t' ≤ i → ltP (at' q' t') (at' q' t) = false) → Ok (kt v 0 n fv ((i + 1 : Nat) : Int) H') Q) :
    Ok (r114_l1 a kt FUEL v 0 n fv i i H) Q := by
  refine Ok.loop (L := fun K (s : Int) H' => r114_l1 a kt K v 0 n fv i s H') (fun m s H' => ∃ j : Nat, s = j ∧ j ≤ i ∧ m = j ∧ ∃ q', Own H' v q' ∧ Only v.b H H' ∧ q'.Perm q ∧ sb q' i j) ?_ FUEL i i H (by unfold FUEL; omega) ⟨i, rfl, Nat.le_refl _, rfl, q, ho, .refl _ _, .refl _, hs⟩
  rintro K m s H1 ⟨j, rfl, hj, rfl, q', h1, g1, hp, hsb⟩ ih
  try dsimp only at *
  have hql := hp.length_eq
  have hvl := h1.len
  rw [r114_l1]
  have stop : (0 < m → ltP (at' q' m) (at' q' (m - 1)) = false) → ∀ kt1 H2, Own H2 v q' → Only v.b H H2 → Ok (r114_j2 a kt kt1 v 0 n fv i m false H2) Q := by
    intro h kt1 H2 o2 g2
    unfold r114_j2
    refine Ok.neg (by simp) ?_
    rw [w64_succ (by omega)]
    exact k q' H2 o2 g2 hp (sb_stop hj hsb h)
  by_cases h : 0 < m
  · obtain ⟨j, rfl⟩ : ∃ j, m = j + 1 := ⟨m - 1, by omega⟩
    have ej : w64 (((j + 1 : Nat) : Int) - 1) = (j : Int) := by rw [w64_id (by omega) (by omega)]; omega
    rw [ej]
    have hg := h1.sl
    refine Ok.pos (by omega) (Ok.ck (by omega) (Ok.ld (hg.ldI (i := j + 1) (j := 0) (by omega) rfl) (Ok.ld (hg.ldI (i := j + 1) (j := 1) (by omega) rfl) (Ok.ld (hg.ldI (i := j + 1) (j := 2) (by omega) rfl) (Ok.ld (hg.ldI (i := j + 1) (j := 3) (by omega) rfl) (Ok.ck (by omega) (Ok.ld (hg.ldI (i := j) (j := 0) (by omega) rfl) (Ok.ld (hg.ldI (i := j) (j := 1) (by omega) rfl) (Ok.ld (hg.ldI (i := j) (j := 2) (by omega) rfl) (Ok.ld (hg.ldI (i := j) (j := 3) (by omega) rfl) ?_))))))))))
    refine Ok.bind (hc H1 q'[j + 1] q'[j] (hqp _ (hp.mem_iff.1 (List.getElem_mem _))) (hqp _ (hp.mem_iff.1 (List.getElem_mem _)))) fun r H2 ⟨g2, hr⟩ => ?_
    subst hr
    refine Ok.ld rfl ?_
    have o2 := h1.gr g2
    have gg := g1.trans (Gr.only (b := v.b) g2)
    by_cases hl : cmpQ q'[j + 1] q'[j] < 0
    · rw [decide_eq_true hl]
      unfold r114_j2
      rw [ej]
      have hg2 := o2.sl
      refine Ok.pos rfl (Ok.ck (by omega) (Ok.ld (hg2.ldI (i := j) (j := 0) (by omega) rfl) (Ok.ld (hg2.ldI (i := j) (j := 1) (by omega) rfl) (Ok.ld (hg2.ldI (i := j) (j := 2) (by omega) rfl) (Ok.ld (hg2.ldI (i := j) (j := 3) (by omega) rfl) (Ok.ck (by omega) (Ok.ld (hg2.ldI (i := j + 1) (j := 0) (by omega) rfl) (Ok.ld (hg2.ldI (i := j + 1) (j := 1) (by omega) rfl) (Ok.ld (hg2.ldI (i := j + 1) (j := 2) (by omega) rfl) (Ok.ld (hg2.ldI (i := j + 1) (j := 3) (by omega) rfl) (Ok.ck (by omega) ?_)))))))))))
      refine o2.put (j := j + 1) (by omega) q'[j] rfl rfl fun H3 o3 g3 n3 => Ok.ck (by omega) (o3.put (j := j) (by simp; omega) q'[j + 1] rfl rfl fun H4 o4 g4 n4 => ?_)
      dsimp only
      refine ih j _ H4 (by omega) ⟨j, rfl, by omega, rfl, _, o4, gg.trans (g3.trans g4), (swap_perm (by omega)).trans hp, ?_⟩
      rw [at_eq (show j < q'.length by omega), at_eq (show j + 1 < q'.length by omega)]
      refine sb_swap (by omega) (by omega) hsb ?_
      rw [← at_eq (show j < q'.length by omega), ← at_eq (show j + 1 < q'.length by omega)]
      exact (cmpQ_lt _ _).1 hl
    · rw [decide_eq_false hl]
      refine stop (fun _ => ?_) _ H2 o2 gg
      rw [Nat.add_sub_cancel, ← at_eq (show j < q'.length by omega), ← at_eq (show j + 1 < q'.length by omega)]
      cases hb2 : ltP q'[j + 1] q'[j] with
      | false => rfl
      | true => exact absurd ((cmpQ_lt _ _).2 hb2) hl
  · exact Ok.neg (by omega) (stop (fun h' => absurd h' h) _ H1 h1 g1)
/-- slices.insertionSortCmpFunc -/
theorem r114_ok (hc : CmpSays a fv) {q : List Pq} (hqp : ∀ x ∈ q, qp x) (hb : q.length ≤ 1000000) {H : Hp} (ho : Own H v q) :
    Ok (r114 a v 0 q.length fv H) fun _ H' => ∃ q', Own H' v q' ∧ Only v.b H H' ∧ q'.Perm q ∧ so q' := by
  unfold r114
  rw [show w64 (0 + 1) = ((1 : Nat) : Int) by decide]
  refine Ok.loop (L := fun K (s : Int) H' => r114_l0 a K v 0 q.length fv s H') (fun m s H' => ∃ i : Nat, s = i ∧ 1 ≤ i ∧ q.length ≤ i + m ∧ ∃ q', Own H' v q' ∧ Only v.b H H' ∧ q'.Perm q ∧ ∀ t t', t < t' → t' < i → ltP (at' q' t') (at' q' t) = false) ?_ FUEL q.length _ H (by unfold FUEL; omega) ⟨1, rfl, Nat.le_refl _, by omega, q, ho, .refl _ _, .refl _, fun t t' h1 h2 => by omega⟩
  rintro K m s H1 ⟨i, rfl, hi1, hm, q', h1, g1, hp, hs⟩ ih
  try dsimp only at *
  have hql := hp.length_eq
  rw [r114_l0]
  by_cases h : i < q.length
  · refine Ok.pos (by omega) (r114_l1_ok hc (fun x hx => hqp x (hp.mem_iff.1 hx)) (by omega) h1 (by omega) (fun t t' a1 a2 a3 => hs t t' a1 (by omega)) fun q2 H2 o2 g2 p2 s2 => ?_)
    exact ih (m - 1) _ H2 (by omega) ⟨i + 1, rfl, by omega, by omega, q2, o2, g1.trans g2, p2.trans hp, fun t t' a1 a2 => s2 t t' a1 (by omega)⟩
  · exact Ok.neg (by omega) (Ok.ret ⟨q', h1, g1, hp, fun t t' a1 a2 => hs t t' a1 (by omega)⟩)
end
end Go.Lt.P2

namespace Go.Lt.P2
open Go Go.Lt Go.Proofs
theorem pc_beq2 {q p : Pq} : ((((fq q.1).1 == (fq p.1).1) && ((fq q.1).2 == (fq p.1).2)) && (((fq q.2).1 == (fq p.2).1) && ((fq q.2).2 == (fq p.2).2))) = decide (q = p) := by
  have e : ∀ {p q : Rat}, (((fq p).1 == (fq q).1) && ((fq p).2 == (fq q).2)) = decide (p = q) := fun {p q} => by
    refine Bool.eq_iff_iff.2 ?_
    simp only [Bool.and_eq_true, beq_iff_eq, decide_eq_true_iff]
    exact ⟨fun h => fq_inj (Prod.ext h.1 h.2), fun h => by rw [h]; exact ⟨rfl, rfl⟩⟩
  rw [e, e]
  refine Bool.eq_iff_iff.2 ?_
  simp only [Bool.and_eq_true, decide_eq_true_iff]
  exact ⟨fun h => Prod.ext h.1 h.2, fun h => by rw [h]; exact ⟨rfl, rfl⟩⟩
/-- a list without doubles, that says as much as the beginning of a sorted one -/
structure Dd (q : List Pq) (t : Nat) (r : List Pq) : Prop where
  srt : r.Pairwise ptlt
  mem : ∀ x, x ∈ r ↔ x ∈ q.take t
  top : ∀ x ∈ r, ∀ h : t - 1 < q.length, x = q[t - 1] ∨ ptlt x q[t - 1]
theorem Dd.same {q r : List Pq} {t : Nat} (h : Dd q t r) (h1 : 1 ≤ t) (ht : t < q.length) (e : q[t] = q[t - 1]) : Dd q (t + 1) r := by
  refine ⟨h.srt, fun x => ?_, fun x hx _ => ?_⟩
  · rw [h.mem, List.take_succ_eq_append_getElem ht, List.mem_append, List.mem_singleton]
    constructor
    · exact .inl
    · rintro (k | rfl)
      · exact k
      · rw [e]; exact List.mem_take_iff_getElem.2 ⟨t - 1, by omega, rfl⟩
  · have := h.top x hx (by omega)
    rw [← e] at this
    exact this
theorem Dd.push {q r : List Pq} {t : Nat} (h : Dd q t r) (hs : so q) (h1 : 1 ≤ t) (ht : t < q.length) (e : q[t] ≠ q[t - 1]) : Dd q (t + 1) (r ++ [q[t]]) := by
  have h2 := hs (t - 1) t (by omega) ht
  rw [← at_eq ht, ← at_eq (show t - 1 < q.length by omega)] at h2
  have h3 : ¬ ptlt q[t] q[t - 1] := of_decide_eq_false h2
  have h4 : ptlt q[t - 1] q[t] := ptlt_tri h3 e
  refine ⟨?_, fun x => ?_, fun x hx _ => ?_⟩
  · rw [List.pairwise_append]
    refine ⟨h.srt, List.pairwise_singleton _ _, fun x hx y hy => ?_⟩
    rw [List.mem_singleton] at hy
    subst hy
    rcases h.top x hx (by omega) with rfl | k
    · exact h4
    · exact ptlt_trans k h4
  · rw [List.mem_append, h.mem, List.take_succ_eq_append_getElem ht, List.mem_append]
  · rcases List.mem_append.1 hx with hx | hx
    · right
      show ptlt x q[t]
      rcases h.top x hx (by omega) with rfl | k
      · exact h4
      · exact ptlt_trans k h4
    · rw [List.mem_singleton] at hx
      exact .inl hx
/-- Compact -/
theorem r90_ok {H : Hp} {v : Sl} {q : List Pq} (ho : Own H v q) (hb : q.length ≤ 1000) (hs : so q) : Ok (r90 v H) fun w H' => (Only v.b H H' ∧ w.b = v.b) ∧ ∃ r, SL H' w r ∧ r.Pairwise ptlt ∧ ∀ x, x ∈ r ↔ x ∈ q := by
  unfold r90
  have hlen := ho.len
  refine Ok.ite (fun h2 => Ok.ret ⟨⟨.refl _ _, rfl⟩, q, ho.sl, ?_, fun _ => Iff.rfl⟩) fun h2 => ?_
  · match q, hlen, h2 with
    | [], _, _ => exact .nil
    | [x], _, _ => exact List.pairwise_singleton _ _
    | x :: y :: r, hlen, h2 => simp only [List.length_cons] at hlen; omega
  refine Ok.loop (L := fun K (s : Int) H2 => r90_l0 K v s H2) (fun m s H' => H' = H ∧ ∃ k : Nat, s = k ∧ 1 ≤ k ∧ k + m = q.length ∧ Dd q k (q.take k)) ?_ FUEL (q.length - 1) 1 H (by unfold FUEL; omega) ⟨rfl, 1, rfl, by omega, by omega, ⟨?_, fun _ => Iff.rfl, fun x hx _ => ?_⟩⟩
  rotate_left
  · match q, hlen with
    | x :: r, _ => exact List.pairwise_singleton _ _
    | [], _ => exact .nil
  · match q, hx with
    | y :: r, hx => left; simpa using hx
  rintro K m s H1 ⟨rfl, k, rfl, hk1, hm, hd⟩ ih
  try dsimp only at *
  rw [r90_l0]
  by_cases h : k < q.length
  case neg =>
    rw [List.take_of_length_le (by omega)] at hd
    exact Ok.neg (by omega) (Ok.ret ⟨⟨.refl _ _, rfl⟩, q, ho.sl, hd.srt, fun _ => Iff.rfl⟩)
  have hg := ho.sl
  have hj : k - 1 < q.length := by omega
  have ej : w64 ((k : Int) - 1) = ((k - 1 : Nat) : Int) := by rw [w64_id (by omega) (by omega)]; omega
  rw [ej]
  refine Ok.pos (by omega) (Ok.ck (by omega) (Ok.ld (hg.ldI (i := k) (j := 0) h rfl) (Ok.ld (hg.ldI (i := k) (j := 1) h rfl) (Ok.ld (hg.ldI (i := k) (j := 2) h rfl) (Ok.ld (hg.ldI (i := k) (j := 3) h rfl) (Ok.ck (by omega) (Ok.ld (hg.ldI (i := k - 1) (j := 0) hj rfl) (Ok.ld (hg.ldI (i := k - 1) (j := 1) hj rfl) (Ok.ld (hg.ldI (i := k - 1) (j := 2) hj rfl) (Ok.ld (hg.ldI (i := k - 1) (j := 3) hj rfl) ?_))))))))))
  rw [pc_beq2]
  by_cases he : q[k] = q[k - 1]
  case neg =>
    rw [decide_eq_false he, w64_succ (by omega)]
    refine Ok.neg (by simp) (ih (m - 1) _ _ (by omega) ⟨rfl, k + 1, rfl, by omega, by omega, ?_⟩)
    have := hd.push hs hk1 h he
    rw [← List.take_succ_eq_append_getElem h] at this
    exact this
  rw [decide_eq_true he]
  have hcap := ho.cap
  have hopn := ho.opn
  have es : El.sz Pq = 4 := rfl
  rw [es] at hopn
  refine Ok.pos rfl (Ok.ck ⟨by omega, hopn⟩ ?_)
  rw [Int.toNat_natCast, hlen, Int.toNat_natCast]
  have hnn := ho.nn
  have hoo := ho.o
  have ec : v.cut 4 k q.length = ⟨false, v.b, v.o + k * 4, q.length - k, v.cap - k, v.opn⟩ := by unfold Sl.cut; rw [if_neg (by simp [hnn])]
  rw [ec]
  clear ih
  refine Ok.loop (L := fun K (s : Int × Int) H2 => r90_l1 K v s.1 ⟨false, v.b, v.o + k * 4, q.length - k, v.cap - k, v.opn⟩ s.2 H2) (fun m s H' => ∃ (i t : Nat) (q' r : List Pq), s.1 = i ∧ s.2 = t ∧ 1 ≤ t ∧ k + t + m = q.length ∧ i + 1 ≤ k + t ∧ Own H' v q' ∧ Only v.b H1 H' ∧ q'.length = q.length ∧ q'.take i = r ∧ r.length = i ∧ Dd q (k + t) r ∧ ∀ j, k + t ≤ j + 1 → q'[j]? = q[j]?) ?_ FUEL (q.length - (k + 1)) (((k : Nat) : Int), 1) H1 (by unfold FUEL; omega) ⟨k, 1, q, q.take k, rfl, rfl, by omega, by omega, by omega, ho, .refl _ _, rfl, rfl, by rw [List.length_take]; omega, hd.same hk1 h he, fun _ _ => rfl⟩
  rintro K' m' ⟨s1, s2⟩ H2 ⟨i, t, q', r, rfl, rfl, ht1, hmt, hit, o2, on2, hql, hr, hri, hd2, hq'⟩ ih
  try dsimp only at *
  rw [r90_l1]
  have o2l := o2.len
  by_cases h3 : k + t < q.length
  · have hg2 := o2.sl
    have et : w64 ((t : Int) - 1) = ((t - 1 : Nat) : Int) := by rw [w64_id (by omega) (by omega)]; omega
    have a1 : k + t < q'.length := by omega
    have a2 : k + (t - 1) < q'.length := by omega
    have e1 : q'[k + t] = q[k + t] := by
      have := hq' (k + t) (by omega)
      rw [List.getElem?_eq_getElem a1, List.getElem?_eq_getElem h3] at this
      exact Option.some.inj this
    have e2 : q'[k + (t - 1)] = q[k + (t - 1)]'(by omega) := by
      have := hq' (k + (t - 1)) (by omega)
      rw [List.getElem?_eq_getElem a2, List.getElem?_eq_getElem (by omega)] at this
      exact Option.some.inj this
    have p1 : ∀ n : Nat, v.o + k * 4 + n * 4 = v.o + (k + n) * 4 := fun n => by rw [Nat.add_mul]; omega
    rw [et]
    simp only [Int.toNat_natCast, p1]
    refine Ok.pos (by omega) (Ok.ck (by omega) (Ok.ld (hg2.ldI (i := k + t) (j := 0) a1 rfl) (Ok.ld (hg2.ldI (i := k + t) (j := 1) a1 rfl) (Ok.ld (hg2.ldI (i := k + t) (j := 2) a1 rfl) (Ok.ld (hg2.ldI (i := k + t) (j := 3) a1 rfl) (Ok.ck (by omega) (Ok.ld (hg2.ldI (i := k + (t - 1)) (j := 0) a2 rfl) (Ok.ld (hg2.ldI (i := k + (t - 1)) (j := 1) a2 rfl) (Ok.ld (hg2.ldI (i := k + (t - 1)) (j := 2) a2 rfl) (Ok.ld (hg2.ldI (i := k + (t - 1)) (j := 3) a2 rfl) ?_))))))))))
    rw [pc_beq2, w64_succ (by omega)]
    have ek : k + (t - 1) = k + t - 1 := by omega
    have e2' : q'[k + (t - 1)] = q[k + t - 1] := by rw [e2]; congr 1
    by_cases h4 : q'[k + t] = q'[k + (t - 1)]
    · rw [decide_eq_true h4]
      refine Ok.pos rfl (ih (m' - 1) (_, _) H2 (by omega) ⟨i, t + 1, q', r, rfl, by simp, by omega, by omega, by omega, o2, on2, hql, hr, hri, ?_, fun j hj => hq' j (by omega)⟩)
      exact hd2.same (by omega) h3 (by rw [← e1, h4, e2'])
    · rw [decide_eq_false h4]
      have hiq : i < q'.length := by omega
      refine Ok.neg (by simp) (Ok.ck (by omega) (Ok.ld (hg2.ldI (i := k + t) (j := 0) a1 rfl) (Ok.ld (hg2.ldI (i := k + t) (j := 1) a1 rfl) (Ok.ld (hg2.ldI (i := k + t) (j := 2) a1 rfl) (Ok.ld (hg2.ldI (i := k + t) (j := 3) a1 rfl) (Ok.ck (by omega) ?_))))))
      refine Own.put o2 hiq q'[k + t] rfl rfl fun H3 o3 on3 n3 => ?_
      rw [w64_succ (by omega)]
      have hd3 := hd2.push hs (by omega) h3 (by rw [← e1, ← e2']; exact h4)
      refine ih (m' - 1) (_, _) H3 (by omega) ⟨i + 1, t + 1, _, _, by simp, by simp, by omega, by omega, by omega, o3, on2.trans on3, by rw [List.length_set]; exact hql, ?_, by rw [List.length_append, hri]; rfl, hd3, fun j hj => ?_⟩
      · rw [List.take_succ_eq_append_getElem (by rw [List.length_set]; exact hiq), List.take_set_of_le (Nat.le_refl _), hr, List.getElem_set_self, e1]
      · rw [List.getElem?_set_ne (by omega)]
        exact hq' j (by omega)
  · have hiq : i ≤ q'.length := by omega
    have e0 : k + t = q.length := by omega
    rw [e0] at hd2
    have hmem : ∀ x, x ∈ r ↔ x ∈ q := fun x => by rw [hd2.mem, List.take_of_length_le (Nat.le_refl _)]
    have ec2 : v.cut 4 i q.length = ⟨false, v.b, v.o + i * 4, q.length - i, v.cap - i, v.opn⟩ := by unfold Sl.cut; rw [if_neg (by simp [hnn])]
    have ec3 : v.cut 4 0 i = ⟨false, v.b, v.o, i, v.cap, v.opn⟩ := by unfold Sl.cut; rw [if_neg (by simp [hnn])]; simp
    rw [hlen] at hcap ⊢
    simp only [Int.toNat_natCast]
    rw [ec2, show (0 : Int).toNat = 0 from rfl, ec3]
    dsimp only
    have hel : (encs q').length = q.length * 4 := by rw [encs_len, es, hql]
    obtain ⟨H3, k1, k2, k3, k4⟩ := sts_blk (zerosA [.int .i64 0, .int .i64 0, .int .i64 0, .int .i64 0] ((q.length - i) * 4)) (v.o + i * 4) H2 _ o2.get (by rw [zerosA_len, hel, hoo, Nat.sub_mul]; omega)
    refine Ok.neg (by omega) (Ok.ck ⟨by omega, hopn⟩ (Ok.ld k1 (Ok.ck ⟨by omega, hopn⟩ (Ok.ret ⟨⟨on2.trans ⟨by omega, fun c _ hc => k4 c hc⟩, rfl⟩, r, ?_, hd2.srt, hmem⟩))))
    have etk : (encs q').take (v.o + i * 4) = encs r := by
      have : encs q' = encs r ++ encs (q'.drop i) := by rw [← encs_append, ← hr, List.take_append_drop]
      rw [this, List.take_append_of_le_length (by rw [encs_len, es, hri, hoo]; omega), List.take_of_length_le (by rw [encs_len, es, hri, hoo]; omega)]
    rw [etk, List.append_assoc] at k2
    refine ⟨⟨by rw [encs_len, hri], lds_of_get fun j hj => ?_⟩, by dsimp only; omega, by rw [es]; exact hopn, fun c => by cases c⟩
    dsimp only
    rw [ld_of_get k2, hoo]
    simp only [Nat.zero_add]
    rw [List.getElem?_append_left hj, List.getElem?_eq_getElem hj]
end Go.Lt.P2

namespace Go.Lt.P2
open Go Go.Lt Go.Proofs
/-- cmp.Or of two -/
theorem r88_ok {H : Hp} {b : Nat} {x y : Int} (hb : H.get b = some (.cells [.int .i64 x, .int .i64 y] false)) : r88 ⟨false, b, 0, 2, 2, 0⟩ H = some (if x ≠ 0 then x else y, H) := by
  have e0 : H.ldI .i64 b (0 + (0 : Int).toNat * 1) = some x := ldI_get hb rfl
  have e1 : H.ldI .i64 b (0 + (1 : Int).toNat * 1) = some y := ldI_get hb rfl
  have s1 : w64 ((0 : Int) + 1) = 1 := by decide +kernel
  have s2 : w64 ((1 : Int) + 1) = 2 := by decide +kernel
  unfold r88
  rw [show FUEL = 18446744073709551613 + 1 + 1 + 1 from rfl, r88_l0]
  simp only [e0, Option.bind_some, s1]
  rw [if_pos (by simp), ck, if_pos (by simp)]
  by_cases h : x ≠ 0
  · rw [if_pos h, if_pos h]
  · rw [if_neg h, if_neg h, r88_l0]
    simp only [e1, Option.bind_some, s2]
    rw [if_pos (by simp), ck, if_pos (by simp)]
    by_cases h2 : y ≠ 0
    · rw [if_pos h2]
    · rw [if_neg h2, r88_l0, if_neg (by simp)]
      simp only [ne_eq, Classical.not_not] at h2
      rw [h2]
/-- the comparison of Corners -/
theorem r87_ok {p q : Pq} {H : Hp} (hp : qp p) (hq : qp q) : Ok (r87 (fq p.1).1 (fq p.1).2 (fq p.2).1 (fq p.2).2 (fq q.1).1 (fq q.1).2 (fq q.2).1 (fq q.2).2 H) fun r H' => Gr H H' ∧ r = cmpQ p q := by
  unfold r87
  refine Ok.box2 (.nil H) fun A gA c => ?_
  refine Ok.cld c (.tail _ (.head _)) rfl (Ok.cld c (.tail _ (.head _)) rfl (Ok.cld c (.head _) rfl (Ok.cld c (.head _) rfl (Ok.own (r89_q hp.1 hq.1 (by decide) (by decide)) fun _ => ?_))))
  refine Ok.cld c (.tail _ (.head _)) rfl (Ok.cld c (.tail _ (.head _)) rfl (Ok.cld c (.head _) rfl (Ok.cld c (.head _) rfl (Ok.own (r89_q hp.2 hq.2 (by decide) (by decide)) fun _ => ?_))))
  have gp := Gr.push A (.cells [.int .i64 (cmpq p.1 q.1), .int .i64 (cmpq p.2 q.2)] false)
  exact Ok.ld (r88_ok (Hp.get_push_new _ _)) (Ok.ret ⟨gA.trans gp, rfl⟩)
theorem says87 (k : Nat) : CmpSays (appA (k + 1)) (.fn 87 [] []) := by
  intro H p q hp hq
  show Ok ((r87 (fq p.1).1 (fq p.1).2 (fq p.2).1 (fq p.2).2 (fq q.1).1 (fq q.1).2 (fq q.2).1 (fq q.2).2 H).map fun p => (AV.int .i64 p.1, p.2)) _
  obtain ⟨r, H', e, g, rfl⟩ := r87_ok (H := H) hp hq
  rw [e]
  exact Ok.ret ⟨g, rfl⟩
theorem cmpQ_refl (p : Pq) : cmpQ p p = 0 := by
  have : ∀ x : Rat, cmpq x x = 0 := fun x => by unfold cmpq; rw [if_neg (by grind), if_neg (by grind)]
  unfold cmpQ
  rw [this, this]; rfl
end Go.Lt.P2

namespace Go.Lt.P2
open Go Go.Lt Go.Proofs
theorem r109_at {n : Nat} (hn : n ∈ [0, 1, 2, 3, 4, 5, 6, 7, 8, 9, 10, 11, 12, 13, 14, 15]) (H : Hp) : r109 (n : Int) H = some (([0, 1, 2, 2, 3, 3, 3, 3, 4, 4, 4, 4, 4, 4, 4, 4] : List Int).getD n 0, H) := by
  simp only [List.mem_cons, List.not_mem_nil, or_false] at hn
  rcases hn with rfl | rfl | rfl | rfl | rfl | rfl | rfl | rfl | rfl | rfl | rfl | rfl | rfl | rfl | rfl | rfl <;> kernel_rfl
theorem r109_small {n : Nat} (hn : n ≤ 15) (H : Hp) : ∃ x, r109 (IntKind.wrap .u64 (n : Int)) H = some (x, H) ∧ (12 < n → x = 4) := by
  have e : IntKind.wrap .u64 (n : Int) = n := by
    simp only [IntKind.wrap, IntKind.signed, IntKind.bits]
    simp
    omega
  rw [e]
  refine ⟨_, r109_at (by simp; omega) H, fun h => ?_⟩
  rcases (show n = 13 ∨ n = 14 ∨ n = 15 by omega) with rfl | rfl | rfl <;> rfl
section
variable {a : App} {fv : AV} {v : Sl} {q : List Pq} {P : Pq}
/-- order2 where all is alike -/
theorem r129_eq (hc : CmpSays a fv) (hP : qp P) (hq : ∀ x ∈ q, x = P) {H : Hp} (hv : SL H v q) {i j : Nat} (hi : i < q.length) (hj : j < q.length) {b o : Nat} : Ok (r129 a v i j b o fv H) fun r H' => Gr H H' ∧ r = ((i : Int), (j : Int)) := by
  unfold r129
  have hl := hv.len
  have ei : q[i] = P := hq _ (List.getElem_mem hi)
  have ej : q[j] = P := hq _ (List.getElem_mem hj)
  refine Ok.ck (by omega) (Ok.ld (hv.ldI (i := j) (j := 0) hj (by rw [ej]; rfl)) (Ok.ld (hv.ldI (i := j) (j := 1) hj (by rw [ej]; rfl)) (Ok.ld (hv.ldI (i := j) (j := 2) hj (by rw [ej]; rfl)) (Ok.ld (hv.ldI (i := j) (j := 3) hj (by rw [ej]; rfl)) (Ok.ck (by omega) (Ok.ld (hv.ldI (i := i) (j := 0) hi (by rw [ei]; rfl)) (Ok.ld (hv.ldI (i := i) (j := 1) hi (by rw [ei]; rfl)) (Ok.ld (hv.ldI (i := i) (j := 2) hi (by rw [ei]; rfl)) (Ok.ld (hv.ldI (i := i) (j := 3) hi (by rw [ei]; rfl)) ?_)))))))))
  refine Ok.bind (hc H P P hP hP) fun r H2 ⟨g2, hr⟩ => ?_
  subst hr
  rw [cmpQ_refl]
  exact Ok.ld rfl (Ok.neg (by decide) (Ok.ret ⟨g2, rfl⟩))
theorem r117_eq (hc : CmpSays a fv) (hP : qp P) (hq : ∀ x ∈ q, x = P) {H : Hp} (hv : SL H v q) (hn : 12 < q.length) (hn2 : q.length ≤ 15) : Ok (r117 a v 0 q.length fv H) fun r H' => Gr H H' ∧ r.2 = 1 := by
  unfold r117
  refine Ok.box (.nil H) fun A gA c => ?_
  have ew : w64 ((q.length : Int) - 0) = q.length := by rw [w64_id (by omega) (by omega)]; omega
  have hvA := hv.gr gA
  rw [ew]
  refine Ok.pos (by omega) (Ok.neg (by omega) ?_)
  have et : Int.tdiv (q.length : Int) 4 = 3 := by
    rcases (show q.length = 13 ∨ q.length = 14 ∨ q.length = 15 by omega) with h | h | h <;> rw [h] <;> decide
  rw [et]
  have e1 : w64 (0 + w64 (w64 3 * 1)) = ((3 : Nat) : Int) := by decide +kernel
  have e2 : w64 (0 + w64 (w64 3 * 2)) = ((6 : Nat) : Int) := by decide +kernel
  have e3 : w64 (0 + w64 (w64 3 * 3)) = ((9 : Nat) : Int) := by decide +kernel
  rw [e1, e2, e3]
  unfold r117_j0 r128
  refine Ok.bind (P := fun _ H' => Gr A H') ?_ fun r D gD => ?_
  · refine Ok.bind (r129_eq hc hP hq hvA (i := 3) (j := 6) (by omega) (by omega)) fun r1 B ⟨gB, h1⟩ => ?_
    subst h1
    refine Ok.bind (r129_eq hc hP hq (hvA.gr gB) (i := 6) (j := 9) (by omega) (by omega)) fun r2 C ⟨gC, h2⟩ => ?_
    subst h2
    refine Ok.bind (r129_eq hc hP hq (hvA.gr (gB.trans gC)) (i := 3) (j := 6) (by omega) (by omega)) fun r3 D ⟨gD, h3⟩ => ?_
    subst h3
    exact Ok.ret (gB.trans (gC.trans gD))
  · have c := c.gr gD
    unfold r117_j1
    exact Ok.cld c (.head _) rfl (Ok.pos rfl (Ok.ret ⟨c.g, rfl⟩))
theorem r119_eq (hc : CmpSays a fv) (hP : qp P) (hq : ∀ x ∈ q, x = P) {H : Hp} (hv : SL H v q) (hn : 12 < q.length) (hn2 : q.length ≤ 15) : Ok (r119 a v 0 q.length fv H) fun r H' => Gr H H' ∧ r = true := by
  unfold r119
  rw [show w64 (0 + 1) = ((1 : Nat) : Int) by decide, show FUEL = 18446744073709551615 + 1 from rfl, r119_l0]
  have hl := hv.len
  refine Ok.pos (by decide) ?_
  refine Ok.loop (L := fun K (s : Int) H' => r119_l1 a (fun v1_ v2_ v3_ v4_ v5_ v6_ H_ => r119_l0 a 18446744073709551615 v1_ v2_ v3_ v4_ v5_ v6_ H_) K v 0 q.length fv s 0 H') (fun m s H' => Gr H H' ∧ ∃ i : Nat, s = i ∧ 1 ≤ i ∧ i + m = q.length) ?_ FUEL (q.length - 1) _ H (by unfold FUEL; omega) ⟨.refl _, 1, rfl, by omega, by omega⟩
  rintro K m s H1 ⟨g1, i, rfl, hi1, hm⟩ ih
  try dsimp only at *
  rw [r119_l1]
  by_cases h : i < q.length
  · have hg := hv.gr g1
    have ej : w64 ((i : Int) - 1) = ((i - 1 : Nat) : Int) := by rw [w64_id (by omega) (by omega)]; omega
    have hj : i - 1 < q.length := by omega
    have e1 : q[i] = P := hq _ (List.getElem_mem h)
    have e2 : q[i - 1] = P := hq _ (List.getElem_mem hj)
    rw [ej]
    refine Ok.pos (by omega) (Ok.ck (by omega) (Ok.ld (hg.ldI (i := i) (j := 0) h (by rw [e1]; rfl)) (Ok.ld (hg.ldI (i := i) (j := 1) h (by rw [e1]; rfl)) (Ok.ld (hg.ldI (i := i) (j := 2) h (by rw [e1]; rfl)) (Ok.ld (hg.ldI (i := i) (j := 3) h (by rw [e1]; rfl)) (Ok.ck (by omega) (Ok.ld (hg.ldI (i := i - 1) (j := 0) hj (by rw [e2]; rfl)) (Ok.ld (hg.ldI (i := i - 1) (j := 1) hj (by rw [e2]; rfl)) (Ok.ld (hg.ldI (i := i - 1) (j := 2) hj (by rw [e2]; rfl)) (Ok.ld (hg.ldI (i := i - 1) (j := 3) hj (by rw [e2]; rfl)) ?_))))))))))
    refine Ok.bind (hc H1 P P hP hP) fun r H2 ⟨g2, hr⟩ => ?_
    subst hr
    rw [cmpQ_refl]
    refine Ok.ld rfl ?_
    unfold r119_j4
    rw [w64_succ (by omega)]
    exact Ok.pos rfl (ih (m - 1) _ H2 (by omega) ⟨g1.trans g2, i + 1, rfl, by omega, by omega⟩)
  · refine Ok.neg (by omega) ?_
    unfold r119_j4
    exact Ok.neg (by simp) (Ok.pos (by omega) (Ok.ret ⟨g1, rfl⟩))
end
/-- slices.SortFunc of corners -/
theorem r86_ok {k : Nat} {fv : AV} (hc : CmpSays (appA (k + 1)) fv) {v : Sl} {q : List Pq} (hqp : ∀ x ∈ q, qp x) (hb : q.length ≤ 15) (hbig : 12 < q.length → ∃ P, ∀ x ∈ q, x = P) {H : Hp} (ho : Own H v q) :
    Ok (r86 (appA (k + 1)) v fv H) fun _ H' => ∃ q', Own H' v q' ∧ Only v.b H H' ∧ q'.Perm q ∧ so q' := by
  unfold r86
  have hl := ho.len
  rw [hl]
  obtain ⟨x, e, hx⟩ := r109_small hb H
  refine Ok.ld e ?_
  unfold r108
  rw [show FUEL = 18446744073709551615 + 1 from rfl, r108_l0]
  refine Ok.bind (P := fun _ H' => ∃ q', Own H' v q' ∧ Only v.b H H' ∧ q'.Perm q ∧ so q') ?_ fun _ H' h => Ok.ret h
  have ew : w64 ((q.length : Int) - 0) = q.length := by rw [w64_id (by omega) (by omega)]; omega
  rw [ew]
  by_cases h12 : q.length ≤ 12
  · exact Ok.pos (by omega) (Ok.bind (r114_ok hc hqp (by omega) ho) fun _ H' h => Ok.ret h)
  · obtain ⟨P, hP⟩ := hbig (by omega)
    have hPq : qp P := by
      have h0 : 0 < q.length := by omega
      rw [← hP _ (List.getElem_mem h0)]; exact hqp _ (List.getElem_mem h0)
    have hx4 := hx (by omega)
    dsimp only
    subst hx4
    refine Ok.neg (by omega) (Ok.neg (by decide) (Ok.pos rfl ?_))
    unfold r108_j5
    refine Ok.bind (r117_eq hc hPq hP ho.sl (by omega) (by omega)) fun r A ⟨gA, hr⟩ => Ok.neg (by rw [hr]; decide) ?_
    unfold r108_j4
    refine Ok.pos rfl (Ok.pos rfl ?_)
    dsimp only
    rw [hr]
    unfold r108_j3
    refine Ok.pos (by decide) (Ok.bind (r119_eq hc hPq hP (ho.sl.gr gA) (by omega) (by omega)) fun r B ⟨gB, hr⟩ => ?_)
    refine Ok.pos hr (Ok.ret ⟨q, ho.gr (gA.trans gB), Gr.only (gA.trans gB), .refl _, fun t t' h1 h2 => ?_⟩)
    rw [← at_eq h2, ← at_eq (show t < q.length by omega), hP _ (List.getElem_mem _), hP _ (List.getElem_mem _)]
    unfold ltP
    exact decide_eq_false (ptlt_irr P)
end Go.Lt.P2

namespace Go.Lt.P2
open Go Go.Lt Go.Proofs
theorem fm_len (l : List Sd) (s x : Sd) (xs : List Sd) : ((x :: xs).filterMap (cn l s)).length = (ed l s x).toNat + (xs.filterMap (cn l s)).length := by
  rw [List.filterMap_cons]
  unfold ed cn
  split
  · rename_i h
    split at h
    · cases h
    · rename_i hc
      rw [decide_eq_false hc]; simp
  · rename_i h
    split at h
    · rename_i hc
      rw [decide_eq_true hc, List.length_cons]; simp; omega
    · cases h
def tri : Nat → Nat
  | 0 => 0
  | n + 1 => tri n + n
theorem cs_tri (l : List Sd) : ∀ n, ((List.range n).flatMap (cno l)).length ≤ tri n
  | 0 => by simp
  | n + 1 => by
    rw [range_succ_flatMap, List.length_append]
    have := cs_tri l n
    have := cno_len l n
    show _ ≤ tri n + n
    omega
theorem cs_all {l : List Sd} {P : Pq} (h : ∀ x ∈ l, on x P) : ∀ c ∈ cs l, c.1 = P := fun c hc => by
  have m := cs_mem hc
  rw [m.2.2.2.1]
  exact (meet_uniq m.2.2.1 (h _ m.1) (h _ m.2.1)).symm
/-- more than twelve pairs: all at one point -/
theorem cs_big {l : List Sd} (hp : ∀ s ∈ l, sideP s) (h6 : l.length ≤ 6) (hn : 12 < (cs l).length) : ∃ P, ∀ c ∈ cs l, c.1 = P := by
  have ht := cs_tri l l.length
  have hcs : (cs l).length ≤ tri l.length := ht
  by_cases hl : l.length ≤ 5
  · have : tri l.length ≤ 10 := by
      rcases (show l.length = 0 ∨ l.length = 1 ∨ l.length = 2 ∨ l.length = 3 ∨ l.length = 4 ∨ l.length = 5 by omega) with h | h | h | h | h | h <;> rw [h] <;> decide
    omega
  have hl : l.length = 6 := by omega
  obtain ⟨a, b, c, d, e, f, rfl⟩ : ∃ a b c d e f, l = [a, b, c, d, e, f] := by
    match l, hl with
    | [a, b, c, d, e, f], _ => exact ⟨a, b, c, d, e, f, rfl⟩
  generalize hL : [a, b, c, d, e, f] = L at *
  have l1 : (cno L 1).length = (ed L a b).toNat := by
    rw [← hL]
    show ([a].filterMap (cn [a, b, c, d, e, f] b)).length = _
    simp only [fm_len, List.filterMap_nil, List.length_nil, Nat.add_zero, ed_symm [a, b, c, d, e, f] b]
    try omega
  have l2 : (cno L 2).length = (ed L a c).toNat + (ed L b c).toNat := by
    rw [← hL]
    show ([a, b].filterMap (cn [a, b, c, d, e, f] c)).length = _
    simp only [fm_len, List.filterMap_nil, List.length_nil, Nat.add_zero, ed_symm [a, b, c, d, e, f] c]
    try omega
  have l3 : (cno L 3).length = (ed L a d).toNat + (ed L b d).toNat + (ed L c d).toNat := by
    rw [← hL]
    show ([a, b, c].filterMap (cn [a, b, c, d, e, f] d)).length = _
    simp only [fm_len, List.filterMap_nil, List.length_nil, Nat.add_zero, ed_symm [a, b, c, d, e, f] d]
    try omega
  have l4 : (cno L 4).length = (ed L a e).toNat + (ed L b e).toNat + (ed L c e).toNat + (ed L d e).toNat := by
    rw [← hL]
    show ([a, b, c, d].filterMap (cn [a, b, c, d, e, f] e)).length = _
    simp only [fm_len, List.filterMap_nil, List.length_nil, Nat.add_zero, ed_symm [a, b, c, d, e, f] e]
    try omega
  have l5 : (cno L 5).length = (ed L a f).toNat + (ed L b f).toNat + (ed L c f).toNat + (ed L d f).toNat + (ed L e f).toNat := by
    rw [← hL]
    show ([a, b, c, d, e].filterMap (cn [a, b, c, d, e, f] f)).length = _
    simp only [fm_len, List.filterMap_nil, List.length_nil, Nat.add_zero, ed_symm [a, b, c, d, e, f] f]
    try omega
  have hsum : (cs L).length = (cno L 0).length + ((cno L 1).length + ((cno L 2).length + ((cno L 3).length + ((cno L 4).length + (cno L 5).length)))) := by
    unfold cs
    rw [hl, show List.range 6 = [0, 1, 2, 3, 4, 5] from rfl]
    simp only [List.flatMap_cons, List.flatMap_nil, List.length_append, List.length_nil, Nat.add_zero]
  have l0 : (cno L 0).length = 0 := by
    have := cno_len L 0; omega
  have m0 : a ∈ L := by rw [← hL]; simp
  have m1 : b ∈ L := by rw [← hL]; simp
  have m2 : c ∈ L := by rw [← hL]; simp
  have m3 : d ∈ L := by rw [← hL]; simp
  have m4 : e ∈ L := by rw [← hL]; simp
  have m5 : f ∈ L := by rw [← hL]; simp
  have q01 := Bool.toNat_le (ed L a b)
  have q02 := Bool.toNat_le (ed L a c)
  have q03 := Bool.toNat_le (ed L a d)
  have q04 := Bool.toNat_le (ed L a e)
  have q05 := Bool.toNat_le (ed L a f)
  have q12 := Bool.toNat_le (ed L b c)
  have q13 := Bool.toNat_le (ed L b d)
  have q14 := Bool.toNat_le (ed L b e)
  have q15 := Bool.toNat_le (ed L b f)
  have q23 := Bool.toNat_le (ed L c d)
  have q24 := Bool.toNat_le (ed L c e)
  have q25 := Bool.toNat_le (ed L c f)
  have q34 := Bool.toNat_le (ed L d e)
  have q35 := Bool.toNat_le (ed L d f)
  have q45 := Bool.toNat_le (ed L e f)
  have key := bools6 (ed L a b) (ed L a c) (ed L a d) (ed L a e) (ed L a f) (ed L b c) (ed L b d) (ed L b e) (ed L b f) (ed L c d) (ed L c e) (ed L c f) (ed L d e) (ed L d f) (ed L e f) (by omega)
  simp only [Bool.or_eq_true, Bool.and_eq_true, ed_iff] at key
  rcases key with (((((⟨⟨⟨⟨k1, k2⟩, k3⟩, k4⟩, k5⟩ | ⟨⟨⟨⟨k1, k2⟩, k3⟩, k4⟩, k5⟩) | ⟨⟨⟨⟨k1, k2⟩, k3⟩, k4⟩, k5⟩) | ⟨⟨⟨⟨k1, k2⟩, k3⟩, k4⟩, k5⟩) | ⟨⟨⟨⟨k1, k2⟩, k3⟩, k4⟩, k5⟩) | ⟨⟨⟨⟨k1, k2⟩, k3⟩, k4⟩, k5⟩)
  · have h := one_pt (x1 := b) (x2 := c) (x3 := d) (x4 := e) (x5 := f) hp m0 m1 m2 m3 m4 m5 k1 k2 k3 k4 k5 (by omega)
    exact ⟨_, cs_all fun x hx => h x (by rw [← hL] at hx; simp only [List.mem_cons, List.not_mem_nil, or_false] at hx ⊢; rcases hx with rfl | rfl | rfl | rfl | rfl | rfl <;> simp)⟩
  · have h := one_pt (x1 := a) (x2 := c) (x3 := d) (x4 := e) (x5 := f) hp m1 m0 m2 m3 m4 m5 k1.sym k2 k3 k4 k5 (by omega)
    exact ⟨_, cs_all fun x hx => h x (by rw [← hL] at hx; simp only [List.mem_cons, List.not_mem_nil, or_false] at hx ⊢; rcases hx with rfl | rfl | rfl | rfl | rfl | rfl <;> simp)⟩
  · have h := one_pt (x1 := a) (x2 := b) (x3 := d) (x4 := e) (x5 := f) hp m2 m0 m1 m3 m4 m5 k1.sym k2.sym k3 k4 k5 (by omega)
    exact ⟨_, cs_all fun x hx => h x (by rw [← hL] at hx; simp only [List.mem_cons, List.not_mem_nil, or_false] at hx ⊢; rcases hx with rfl | rfl | rfl | rfl | rfl | rfl <;> simp)⟩
  · have h := one_pt (x1 := a) (x2 := b) (x3 := c) (x4 := e) (x5 := f) hp m3 m0 m1 m2 m4 m5 k1.sym k2.sym k3.sym k4 k5 (by omega)
    exact ⟨_, cs_all fun x hx => h x (by rw [← hL] at hx; simp only [List.mem_cons, List.not_mem_nil, or_false] at hx ⊢; rcases hx with rfl | rfl | rfl | rfl | rfl | rfl <;> simp)⟩
  · have h := one_pt (x1 := a) (x2 := b) (x3 := c) (x4 := d) (x5 := f) hp m4 m0 m1 m2 m3 m5 k1.sym k2.sym k3.sym k4.sym k5 (by omega)
    exact ⟨_, cs_all fun x hx => h x (by rw [← hL] at hx; simp only [List.mem_cons, List.not_mem_nil, or_false] at hx ⊢; rcases hx with rfl | rfl | rfl | rfl | rfl | rfl <;> simp)⟩
  · have h := one_pt (x1 := a) (x2 := b) (x3 := c) (x4 := d) (x5 := e) hp m5 m0 m1 m2 m3 m4 k1.sym k2.sym k3.sym k4.sym k5.sym (by omega)
    exact ⟨_, cs_all fun x hx => h x (by rw [← hL] at hx; simp only [List.mem_cons, List.not_mem_nil, or_false] at hx ⊢; rcases hx with rfl | rfl | rfl | rfl | rfl | rfl <;> simp)⟩
end Go.Lt.P2

namespace Go.Lt.P2
open Go Go.Lt Go.Proofs
theorem cs_len15 {l : List Sd} (h6 : l.length ≤ 6) : (cs l).length ≤ 15 := by
  have h := cs_tri l l.length
  have : tri l.length ≤ 15 := by
    rcases (show l.length = 0 ∨ l.length = 1 ∨ l.length = 2 ∨ l.length = 3 ∨ l.length = 4 ∨ l.length = 5 ∨ l.length = 6 by omega) with h | h | h | h | h | h | h <;> rw [h] <;> decide
  exact Nat.le_trans h this
/-- Corners -/
theorem r51_ok {k : Nat} {H : Hp} {v : Sl} {l : List Sd} (hv : SL H v l) (hb : l.length ≤ 1000) : Ok (r51 (appA (k + 2)) v H) fun r H' => Gr H H' ∧ if plateP l then SL H' r.1 (rcs (cs l)) ∧ r.2 = 0 else r = (⟨true, 0, 0, 0, 0, 0⟩, 2) := by
  unfold r51
  refine Ok.bind (r63_ok (k := k + 1) hv hb) fun b A ⟨gA, hbb⟩ => ?_
  subst hbb
  by_cases hp : plateP l
  case neg =>
    rw [decide_eq_false hp]
    simp only [if_neg hp]
    exact Ok.neg (by simp) (Ok.ret ⟨gA, rfl⟩)
  rw [decide_eq_true hp]
  simp only [if_pos hp]
  have h6 := hp.1.2
  have hs := hp.2.1
  have hl15 := cs_len15 h6
  refine Ok.pos (by simp) (Ok.lt ?_)
  have hvA := hv.gr gA
  show Ok ((callr (appA (k + 2)) (.fn 66 [.sl v] []) ((A.push (cel [.sl ⟨true, 0, 0, 0, 0, 0⟩])).n + 1) (((A.push (cel [.sl ⟨true, 0, 0, 0, 0, 0⟩])).push .dfr).push (.loop .ready none 1 21 [(4, .ptr A.n 0)]))).bind _) _
  have c0 : Cb A A [] := .start (fun _ h => by cases h) .nil
  have c := ((c0.push (cel [.sl ⟨true, 0, 0, 0, 0, 0⟩])).push .dfr).push (.loop .ready none 1 21 [(4, .ptr A.n 0)])
  simp only [Hp.n_push] at c ⊢
  generalize ((A.push (cel [.sl ⟨true, 0, 0, 0, 0, 0⟩])).push .dfr).push (.loop .ready none 1 21 [(4, .ptr A.n 0)]) = D at *
  have gD : Gr A D := ⟨c.n, fun b hb => c.g b hb fun p hp => by simp only [List.mem_cons, List.not_mem_nil, or_false] at hp; rcases hp with rfl | rfl | rfl <;> dsimp only <;> omega⟩
  have lD := c.lt (.head _)
  have hI : ccI A (fun _ => False) [] ⟨true, 0, 0, 0, 0, 0⟩ D := ⟨gD, c.e _ (.tail _ (.tail _ (.head _))), c.e _ (.tail _ (.head _)), c.e _ (.head _), AccL.nilS, by dsimp only at lD; omega, fun _ h => h.elim⟩
  refine Ok.bind (P := fun _ H' => ∃ w, ccI A (fun _ => False) (cs l) w H') ?_ fun r E hE => ?_
  · show Ok ((r66 (app (k + 1)) v (.yld (A.n + 2)) D).map fun p => (AV.tup [], p.2)) _
    have h1 : Ok (r66 (app (k + 1)) v (.yld (A.n + 2)) D) fun _ H' => ∃ w, ccI A (fun _ => False) (cs l) w H' := by
      refine Ok.mono (r66_ok (a95 k) (ccY (k := k) (by omega) A) hvA hb hs (P := fun _ => False) ⟨_, hI⟩) fun _ H' h => ?_
      rcases h with h | ⟨_, _, h⟩
      · exact h
      · exact h.elim
    obtain ⟨r, H', e, h⟩ := h1
    rw [e]
    exact Ok.ret h
  obtain ⟨w, hE⟩ := hE
  have hn := hE.n
  have hend : E.lend (A.n + 2) = some (none, E.set (A.n + 2) .dead) := by unfold Hp.lend; rw [hE.l]
  refine Ok.ld hend (Ok.pos rfl ?_)
  dsimp only
  generalize hF : E.set (A.n + 2) .dead = F
  have oF : ∀ x, x ≠ A.n + 2 → F.get x = E.get x := fun x hx => by rw [← hF, Hp.get_set_other _ _ hx]
  have nF : F.n = E.n := by rw [← hF]; simp
  clear hF
  have sF : F.get A.n = some (.cells [.sl w] false) := by rw [oF _ (by omega)]; exact hE.o
  have dF : F.get (A.n + 1) = some .dfr := by rw [oF _ (by omega)]; exact hE.d
  have aF : AccL (A.n + 3) F w ((cs l).map (·.1)) := Acc.keep hE.a fun hn => oF _ (by have := low hE.a hn; omega)
  have gF : Gr A F := ⟨by have := hE.g.1; omega, fun b hb => by rw [oF _ (by omega)]; exact hE.g.2 b hb⟩
  have hq15 : ((cs l).map (·.1)).length ≤ 15 := by rw [List.length_map]; exact hl15
  have hqp : ∀ x ∈ (cs l).map (·.1), qp x := fun x hx => by
    obtain ⟨c, hc, rfl⟩ := List.mem_map.1 hx
    have m := cs_mem hc
    rw [m.2.2.2.1]
    exact meet_qp (hs _ m.1) (hs _ m.2.1) m.2.2.1
  have hmem : ∀ x, x ∈ rcs (cs l) ↔ x ∈ (cs l).map (·.1) := fun x => by
    rw [mem_rcs, List.mem_map]
  have hkill : ∀ {G : Hp}, G.get (A.n + 1) = some .dfr → Go.Lt.kill [A.n + 1] G = G.set (A.n + 1) .dead := fun _ => rfl
  -- the end
  have fin : ∀ (u : Sl) (G : Hp) (r : List Pq), A.n + 3 ≤ G.n → Gr A G → G.get (A.n + 1) = some .dfr → (u.nil = false → u.b ≠ A.n + 1) → SL G u r → r = rcs (cs l) → Ok (ck (dfrB [A.n + 1] G = true) (some ((u, (0 : Int)), Go.Lt.kill [A.n + 1] G))) fun r H' => Gr H H' ∧ SL H' r.1 (rcs (cs l)) ∧ r.2 = 0 := fun u G r nG gG dG hu hsl hr => by
    subst hr
    refine Ok.ck (by simp [dfrB, Hp.isDfr, dG]) (Ok.ret ⟨gA.trans ⟨?_, fun b hb => ?_⟩, ?_, rfl⟩)
    · show A.n ≤ (G.set (A.n + 1) .dead).n
      simp; omega
    · show (G.set (A.n + 1) .dead).get b = _
      rw [Hp.get_set_other _ _ (by omega)]; exact gG.2 b hb
    · show SL (G.set (A.n + 1) .dead) u _
      cases hnn : u.nil with
      | true =>
        obtain ⟨rfl, hr⟩ := hsl.nil hnn
        rw [hr]; exact .nilS
      | false => exact SL.congr hsl (Hp.get_set_other _ _ (hu hnn))
  refine Ok.ld (ldSl_get sF rfl) ?_
  cases hnil : w.nil with
  | true =>
    have hw : w = ⟨true, 0, 0, 0, 0, 0⟩ ∧ (cs l).map (·.1) = [] := by
      obtain ⟨h1, h2⟩ := (AccL.sl aF).nil hnil
      exact ⟨h1, h2⟩
    obtain ⟨rfl, hnl⟩ := hw
    have hrc : [] = rcs (cs l) := by
      rw [List.map_eq_nil_iff.1 hnl]; rfl
    have e86 : Ok (r86 (appA (k + 2)) ⟨true, 0, 0, 0, 0, 0⟩ (.fn 87 [] []) F) fun _ H' => H' = F := by
      unfold r86
      obtain ⟨x, e, _⟩ := r109_small (n := 0) (by decide) F
      refine Ok.ld e ?_
      unfold r108
      rw [show FUEL = 18446744073709551615 + 1 from rfl, r108_l0]
      refine Ok.bind (P := fun _ H' => H' = F) (Ok.pos (by decide +kernel) (Ok.bind (P := fun _ H' => H' = F) ?_ fun _ _ h => Ok.ret h)) fun _ _ h => Ok.ret h
      unfold r114
      rw [show FUEL = 18446744073709551615 + 1 from rfl, r114_l0]
      exact Ok.neg (by decide +kernel) (Ok.ret rfl)
    refine Ok.bind e86 fun _ G hG => ?_
    subst hG
    refine Ok.ld (ldSl_get sF rfl) ?_
    unfold r90
    refine Ok.bind (P := fun u H' => H' = G ∧ u = ⟨true, 0, 0, 0, 0, 0⟩) (Ok.pos (by decide) (Ok.ret ⟨rfl, rfl⟩)) fun u I ⟨hI1, hu⟩ => ?_
    subst hI1 hu
    exact fin _ _ [] (show A.n + 3 ≤ I.n by omega) gF dF (fun h => by cases h) .nilS hrc
  | false =>
    have hown : Own F w ((cs l).map (·.1)) ∧ A.n + 3 ≤ w.b := by
      have hlen := AccL.len aF
      rcases aF with ⟨rfl, e⟩ | ⟨h1, h2, h3, h4, h5, h6', h7⟩
      · cases hnil
      · exact ⟨⟨h1, h2, hlen, by omega, .inr h3, h6'⟩, h5⟩
    obtain ⟨ow, hwb⟩ := hown
    have hbig : 12 < ((cs l).map (·.1)).length → ∃ P, ∀ x ∈ (cs l).map (·.1), x = P := fun h => by
      rw [List.length_map] at h
      obtain ⟨P, hP⟩ := cs_big hs h6 h
      refine ⟨P, fun x hx => ?_⟩
      obtain ⟨c, hc, rfl⟩ := List.mem_map.1 hx
      exact hP c hc
    refine Ok.bind (r86_ok (k := k + 1) (says87 (k + 1)) hqp hq15 hbig ow) fun _ G ⟨q', oG, onG, hperm, hso⟩ => ?_
    have hwF := Hp.get_lt ow.get
    have sG : G.get A.n = some (.cells [.sl w] false) := by rw [onG.2 _ (by omega) (by omega)]; exact sF
    refine Ok.ld (ldSl_get sG rfl) ?_
    refine Ok.bind (r90_ok oG (by have := hperm.length_eq; omega) hso) fun u I ⟨⟨onI, hub⟩, r, hr, hsrt, hrm⟩ => ?_
    have on := onG.trans onI
    have dI : I.get (A.n + 1) = some .dfr := by rw [on.2 _ (by omega) (by omega)]; exact dF
    have gI : Gr A I := ⟨Nat.le_trans gF.1 on.1, fun b hb => by rw [on.2 b (by omega) (by omega)]; exact gF.2 b hb⟩
    refine fin u I r (by have := on.1; omega) gI dI ?_ hr (srt_uniq hsrt (rcs_srt _) fun x => by rw [hrm, hperm.mem_iff, hmem])
    intro _
    rw [hub]; omega
end Go.Lt.P2

namespace Go.Lt.P2
open Go Go.Lt Go.Proofs
theorem r56_l0_q {x y : Int} (hx : x.natAbs < 9223372036854775808) (hy0 : 0 < y) (hy : y < 9223372036854775808) {c : Nat} {E : List (Nat × List AV)} {u w : AV} {H1 H : Hp} (hc : Cx H1 H ((c, [u, w]) :: E)) : ∀ (K : Nat) (a b : Int), 0 ≤ a → 0 ≤ b → b.natAbs < K → Nat.gcd a.natAbs b.natAbs = Nat.gcd x.natAbs y.natAbs →
    Ok (r56_l0 K x y c a b H) fun r _ => r = fq (dv x y) := by
  intro K
  induction K with
  | zero => intro a b _ _ h; omega
  | succ K ih =>
    intro a b ha0 hb0 h hg
    have hpos : 0 < Nat.gcd x.natAbs y.natAbs := Nat.gcd_pos_of_pos_right _ (by omega)
    rw [r56_l0]
    by_cases h0 : b = 0
    · subst h0
      rw [Int.natAbs_zero, Nat.gcd_zero_right] at hg
      have ea : a = ((Nat.gcd x.natAbs y.natAbs : Nat) : Int) := by omega
      subst ea
      rw [tdivSmall hx, tdivSmall (by omega)]
      refine Ok.neg (by simp) (Ok.ck (by omega) (Ok.ck (by omega) (Ok.cst hc 0 rfl rfl fun D _ _ c => ?_)))
      refine Ok.cld c (.head _) rfl (Ok.cld c (.head _) rfl (Ok.ret ?_))
      rw [fq_gcdv hy0]
    · have hm := Nat.mod_lt a.natAbs (show 0 < b.natAbs by omega)
      have e := Int.natAbs_tmod a b
      have hn := Int.tmod_nonneg b ha0
      exact Ok.pos h0 (Ok.ck h0 (ih b (Int.tmod a b) hb0 hn (by omega) (by rw [e]; exact (gcd_step _ _).trans hg)))
/-- Frac -/
theorem r56_q {a b : Int} (ha : a.natAbs < 9223372036854775808) (hb : 0 < b) (hb2 : b < 9223372036854775808) (H : Hp) : Ok (r56 a b H) fun r _ => r = fq (dv a b) := by
  unfold r56
  refine Ok.box (.nil H) fun A _ c => Ok.neg (by omega) ?_
  unfold r56_j1
  rw [w64Abs ha]
  exact r56_l0_q ha hb hb2 c FUEL _ b (by omega) (by omega) (by unfold FUEL; omega) (by simp)
end Go.Lt.P2

namespace Go.Lt.P2
open Go Go.Lt Go.Proofs
theorem frP_iff {f : Pr} (h1 : 1 ≤ f.2 ∧ f.2 ≤ 100) (h2 : -100 * f.2 ≤ f.1 ∧ f.1 ≤ 100 * f.2) : frP f ↔ fq (dv f.1 f.2) = f := by
  constructor
  · exact frP_fq
  · intro h
    refine ⟨h1, h2, ?_⟩
    have := fq_gcd (dv f.1 f.2)
    rw [h] at this
    exact this
/-- IsPoint -/
theorem r20_ok {x : Pa} : Ok (r20 x.1.1 x.1.2 x.2.1 x.2.2 H0) fun r _ => r = decide (ptP x) := by
  unfold r20
  refine Ok.box (.nil H0) fun A gA c => Ok.cld c (.head _) rfl (Ok.cld c (.head _) rfl (Ok.cld c (.head _) rfl (Ok.cld c (.head _) rfl (Ok.box c fun B gB c => ?_))))
  have hv : SL (T := Pr) B ⟨false, A.n, 0, 2, 2, 0⟩ [x.1, x.2] := .of_get (ro := false) (c.e _ (.head _)) rfl rfl (Nat.le_refl _) (.inl rfl) rfl
  generalize A.n = an at *
  have hall : decide (ptP x) = decide (∀ f ∈ [x.1, x.2], frP f) := by
    refine decide_eq_decide.2 ?_
    unfold ptP; simp
  rw [hall]
  have hlen : [x.1, x.2].length = 2 := rfl
  generalize [x.1, x.2] = q at *
  show Ok (r20_l0 FUEL ⟨false, an, 0, 2, 2, 0⟩ 2 0 B) _
  refine Ok.loop (L := fun K (s : Int) H2 => r20_l0 K ⟨false, an, 0, 2, 2, 0⟩ 2 s H2) (fun m s H' => Gr B H' ∧ ∃ i : Nat, s = i ∧ i + m = 2 ∧ ∀ f ∈ q.take i, frP f) ?_ FUEL 2 0 B (by unfold FUEL; omega) ⟨.refl _, 0, rfl, rfl, by simp⟩
  rintro K m s H1 ⟨g1, i, rfl, hm, ht⟩ ih
  try dsimp only at *
  rw [r20_l0]
  by_cases h : i < 2
  · have hi : i < q.length := by omega
    have hg := hv.gr g1
    have hmem := List.getElem_mem hi
    have l0 := hg.ldI (i := i) (j := 0) hi rfl
    have l1 := hg.ldI (i := i) (j := 1) hi rfl
    have e2 := List.take_succ_eq_append_getElem hi
    generalize q[i] = f at *
    have c0 : Cx H1 H1 [] := .nil H1
    refine Ok.pos (by omega) (Ok.ck (by dsimp only; omega) (Ok.ld l0 (Ok.ld l1 (Ok.alo c0 fun E gE cx => ?_))))
    have j1 : ∀ b : Bool, (b = true ↔ ¬ frP f) → Ok (r20_j1 (fun v1_ v2_ v3_ H_ => r20_l0 K v1_ v2_ v3_ H_) ⟨false, an, 0, 2, 2, 0⟩ 2 i b E) fun r _ => r = decide (∀ f ∈ q, frP f) := fun b hb => by
      unfold r20_j1
      refine Ok.ite (fun hc => Ok.ret ?_) fun hc => ?_
      · symm; rw [decide_eq_false_iff_not]; exact fun k => hb.1 hc (k f hmem)
      · rw [w64_succ (by omega)]
        refine ih (m - 1) _ E (by omega) ⟨g1.trans gE, i + 1, rfl, by omega, fun y hy => ?_⟩
        rw [e2] at hy
        rcases List.mem_append.1 hy with hy | hy
        · exact ht y hy
        · rw [List.mem_singleton] at hy; subst hy
          exact Classical.byContradiction fun k => hc (hb.2 k)
    have no : ¬ frP f → ((true = true) ↔ ¬ frP f) := fun h => ⟨fun _ => h, fun _ => rfl⟩
    refine Ok.cld cx (.head _) rfl (Ok.ite (fun k => j1 _ (no fun q => by have := q.1.1; omega)) fun k1 => Ok.cld cx (.head _) rfl (Ok.ite (fun k => j1 _ (no fun q => by have := q.1.2; omega)) fun k2 => Ok.cld cx (.head _) rfl (Ok.cld cx (.head _) rfl ?_)))
    rw [w64_id (n := -100 * f.2) (by omega) (by omega)]
    refine Ok.ite (fun k => j1 _ (no fun q => by have := q.2.1.1; omega)) fun k3 => Ok.cld cx (.head _) rfl (Ok.cld cx (.head _) rfl ?_)
    rw [w64_id (n := 100 * f.2) (by omega) (by omega)]
    refine Ok.ite (fun k => j1 _ (no fun q => by have := q.2.1.2; omega)) fun k4 => Ok.cld cx (.head _) rfl (Ok.cld cx (.head _) rfl (Ok.own (r56_q (by omega) (by omega) (by omega) H0) fun _ => Ok.cld cx (.head _) rfl (Ok.cld cx (.head _) rfl (j1 _ ?_))))
    rw [frP_iff (by omega) (by omega), Bool.not_eq_true', Bool.and_eq_false_iff, beq_eq_false_iff_ne, beq_eq_false_iff_ne]
    constructor
    · rintro (k | k) e
      · exact k (by rw [e])
      · exact k (by rw [e])
    · intro k
      by_cases e : (fq (dv f.1 f.2)).1 = f.1
      · exact .inr fun e2 => k (Prod.ext e e2)
      · exact .inl e
  · rw [List.take_of_length_le (by omega)] at ht
    exact Ok.neg (by omega) (Ok.ret (by rw [decide_eq_true ht]))
theorem lqs_dv2 {u : Sd} {a b c d : Int} (hb : 0 < b) (hd : 0 < d) : lqs u (dv a b, dv c d) ↔ u.1 * a * d + u.2.1 * c * b ≤ u.2.2 * b * d := by
  have hbd := Int.mul_pos hb hd
  have e1 : dv a b = dv (a * d) (b * d) := (dv_eq_iff hb hbd).2 (by grind)
  have e2 : dv c d = dv (c * b) (b * d) := (dv_eq_iff hd hbd).2 (by grind)
  rw [e1, e2, lqs_dv hbd, ← Int.mul_assoc, ← Int.mul_assoc, ← Int.mul_assoc]
end Go.Lt.P2

namespace Go.Lt.P2
open Go Go.Lt Go.Proofs
/-- Of -/
theorem r18_ok {H : Hp} {v : Sl} {l : List Sd} (hv : SL H v l) (hb : l.length < 9223372036854775808) : Ok (r18 v H) fun w H' => Gr H H' ∧ SL H' w (l.take 9) := by
  unfold r18
  have hlen := hv.len
  rw [hlen]
  refine Ok.loop (L := fun K (s : Sl × Int) H2 => r18_l0 K s.1 v l.length s.2 H2) (fun m s H' => Gr H H' ∧ ∃ i : Nat, s.2 = i ∧ i + m = l.length ∧ AccL H.n H' s.1 ((l.take i).take 9)) ?_ FUEL l.length (⟨true, 0, 0, 0, 0, 0⟩, 0) H (by unfold FUEL; omega) ⟨.refl _, 0, rfl, by omega, by simpa using AccL.nilS⟩
  rintro K m ⟨w, s⟩ H1 ⟨g1, i, rfl, hm, ha⟩ ih
  try dsimp only at *
  rw [r18_l0]
  by_cases h : i < l.length
  · have hg := hv.gr g1
    obtain ⟨E, hE, hE', gE, nE⟩ := sts3 H1 (.int .i64 l[i].1) (.int .i64 l[i].2.1) (.int .i64 l[i].2.2) (.int .i64 0) (.int .i64 0) (.int .i64 0)
    have gB := g1.trans gE
    refine Ok.pos (by omega) (Ok.ck (by omega) (Ok.ld (hg.ldI (i := i) (j := 0) h rfl) (Ok.ld (hg.ldI (i := i) (j := 1) h rfl) (Ok.ld (hg.ldI (i := i) (j := 2) h rfl) (Ok.ld hE ?_)))))
    refine Ok.ite (fun c => Ok.ld (ldI_get hE' rfl) (Ok.ld (ldI_get hE' rfl) (Ok.ld (ldI_get hE' rfl) ?_))) fun c => ?_
    · have ha' := ha.gr gE
      rw [List.take_of_length_le (by rw [List.length_take]; omega)] at ha'
      refine Ok.bind (ha'.push gB l[i] rfl rfl (by rw [List.length_take]; omega)) fun w2 H3 ⟨ha3, g3, _⟩ => ?_
      rw [w64_succ (by omega)]
      refine ih (m - 1) (w2, _) H3 (by omega) ⟨g3, i + 1, rfl, by omega, ?_⟩
      rw [List.take_succ_eq_append_getElem h, List.take_of_length_le (by simp; omega)]
      exact ha3
    · rw [w64_succ (by omega)]
      refine ih (m - 1) (w, _) E (by omega) ⟨gB, i + 1, rfl, by omega, ?_⟩
      rw [List.take_take, Nat.min_eq_left (by omega)] at ha ⊢
      exact ha.gr gE
  · have hi : i = l.length := by omega
    subst hi
    rw [List.take_length] at ha
    exact Ok.neg (by omega) (Ok.ret ⟨g1, ha.sl⟩)
end Go.Lt.P2
