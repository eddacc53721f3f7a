/- PLAIN LAWS OF WHAT IS COMPUTED, for the statement 'TopGap'. Nothing is asked of the input. -/
import Derived.Test.YtopildlfbhfghaaGreatDoorU4CTx
import Derived.Test.YtopildlfbhfghaaGreatDoorLB
import Derived.Lib.ItoaNum
import Derived.Lib.ItoaMem
set_option linter.unusedVariables false
set_option linter.unusedSimpArgs false
set_option maxHeartbeats 4000000
namespace Go.Lt.P10
open Go Go.Lt Go.Proofs
/-! ### questions -/
abbrev Rep := List ByteArray × Int
def askV (form text w : ByteArray) (f : List ByteArray × List Int → Rep) : ByteArray × Int :=
  match readS form text with
  | none => (ByteArray.mk #[], 3)
  | some p => if (f p).2 = 0 then (joinA (w :: (f p).1) (ByteArray.mk #[32]), 0) else (ByteArray.mk #[], (f p).2)
def RepQ (H : Hp) (rep : Rep) (r : AV) (A : Hp) : Prop := Gr H A ∧ ∃ v, r = .tup [.sl v, .int .i64 rep.2] ∧ (rep.2 = 0 → SL A v rep.1 ∧ rep.1.length ≤ 1000 ∧ szs rep.1 ≤ 1000000)
theorem word_app {H : Hp} {v : Sl} {l : List ByteArray} (hv : SL H v l) (w : ByteArray) (hl : l.length ≤ 1000) {α : Type} {Q : α → Hp → Prop} {f : Sl × Hp → Option (α × Hp)} (k : ∀ r B, Gr H B → SL B r (w :: l) → Lt.Ok (f (r, B)) Q) :
    Lt.Ok (((H.push (.cells [.str w] false)).lds v.b v.o (v.len * 1)).bind fun x => ck (x.all AV.one = true) (((H.push (.cells [.str w] false)).app 1 ⟨false, H.n, 0, 1, 1, 0⟩ x v.len).bind f)) Q := by
  have g0 := Gr.push H (.cells [.str w] false)
  have hg := Hp.get_push_new H (.cells [.str w] false)
  generalize H.push (.cells [.str w] false) = A at *
  have hvA := hv.gr g0
  have hlen := hvA.len
  have hlds := hvA.lds
  have e1 : v.len * El.sz ByteArray = v.len * 1 := rfl
  rw [e1] at hlds
  refine Lt.Ok.ld hlds (Lt.Ok.ck ?_ ?_)
  · rw [enc_str, List.all_map, List.all_eq_true]; intro x _; rfl
  have key : Lt.Ok (A.app 1 ⟨false, H.n, 0, 1, 1, 0⟩ (encs l) v.len) fun r B => Gr A B ∧ SL B r (w :: l) := by
    unfold Hp.app
    rw [if_pos (by dsimp only; omega)]
    by_cases h0 : v.len = 0
    · have : l = [] := List.length_eq_zero_iff.1 (by omega)
      subst this
      rw [if_pos (by dsimp only; omega), if_neg (by simp)]
      simp only [encs, List.flatMap_nil, Hp.sts, Option.map_some]
      exact Lt.Ok.ret ⟨.refl _, .of_get (ro := false) hg rfl (by simp [h0]) (by simp [h0]) (.inl rfl) rfl⟩
    · rw [if_neg (by dsimp only; omega)]
      have hld : A.lds H.n (0 + 0) 1 = some [.str w] := by
        have := lds_cells (H := A) (b := H.n) (ro := false) [.str w] [] hg
        exact this
      have : A.lds (⟨false, H.n, 0, 1, 1, 0⟩ : Sl).b (⟨false, H.n, 0, 1, 1, 0⟩ : Sl).o ((⟨false, H.n, 0, 1, 1, 0⟩ : Sl).len * 1) = some [.str w] := hld
      rw [this]
      simp only [Option.bind_some, if_true]
      refine Lt.Ok.ret ⟨Gr.push _ _, .of_get (ro := false) (Hp.get_push_new _ _) rfl (by simp [hlen]; omega) (Nat.le_refl _) (.inr rfl) rfl⟩
  exact Lt.Ok.bind key fun r B ⟨gB, hr⟩ => k r B (g0.trans gB) hr
theorem r62_j0_ok {k : Nat} {H A : Hp} {text w form : ByteArray} {v4 : AV} {f : List ByteArray × List Int → Rep} (gA : Gr H A) (hs : text.size ≤ 4194304) (hw : w.size ≤ 4194304) (hf : form.size ≤ 8)
    (hact : ∀ p, readS form text = some p → ∀ B wn wu, Gr A B → SL B wn p.1 → SL B wu p.2 → Lt.Ok (callv (appA (k + 2)) v4 [.agg [.sl wn, .sl wu]] B) (RepQ B (f p))) :
    Lt.Ok (r62_j0 (appA (k + 2)) text w form v4 A) fun r D => Gr H D ∧ r = askV form text w f := by
  unfold r62_j0 askV
  refine Lt.Ok.bind (r108_ok (k := k + 1) hf hs) fun r B ⟨g, hr⟩ => ?_
  dsimp only
  obtain ⟨C, h1, h2, h3, h4⟩ := sts_blk [.sl r.1, .sl r.2.1] 0 (B.push (.cells [.sl ⟨true, 0, 0, 0, 0, 0⟩, .sl ⟨true, 0, 0, 0, 0, 0⟩] false)) _ (Hp.get_push_new _ _) (by simp)
  have h2' : C.get B.n = some (.cells [.sl r.1, .sl r.2.1] false) := by rw [h2]; simp
  have gC : Gr B C := ⟨by rw [h3]; simp, fun c hc => by rw [h4 c (by omega), Hp.get_push_old _ _ hc]⟩
  refine Lt.Ok.ld h1 ?_
  have gAC : Gr A C := g.trans gC
  cases hrd : readS form text with
  | none =>
    rw [hrd] at hr
    exact Lt.Ok.neg (by rw [hr]; simp) (Lt.Ok.ret ⟨gA.trans gAC, rfl⟩)
  | some p =>
    rw [hrd] at hr
    obtain ⟨hr1, hr2, hr3⟩ := hr
    refine Lt.Ok.pos hr1 (Lt.Ok.ld (ldSl_get h2' rfl) (Lt.Ok.ld (ldSl_get h2' rfl) ?_))
    refine Lt.Ok.bind (hact p hrd C r.1 r.2.1 gAC (hr2.gr gC) (hr3.gr gC)) fun q D ⟨gD, v, hq, hv⟩ => ?_
    subst hq
    simp only [Option.bind_some, AV.asT, List.length_cons, List.length_nil]
    refine Lt.Ok.ck (by simp) ?_
    simp only [List.getElem?_cons_zero, List.getElem?_cons_succ, Option.bind_some, AV.asI, AV.asSl, if_true]
    have gHD := gA.trans (gAC.trans gD)
    by_cases he : (f p).2 = 0
    · obtain ⟨hv1, hv2, hv3⟩ := hv he
      rw [if_pos he]
      refine Lt.Ok.neg (by simp [he]) (word_app hv1 w hv2 fun r2 E gE hr2 => ?_)
      dsimp only
      rw [app109, join_ok hr2 _ (by simp; omega) (by
        have : (ByteArray.mk #[32]).size = 1 := rfl
        rw [this]
        simp only [szs, List.map_cons, List.sum_cons, List.length_cons]
        unfold szs at hv3
        omega)]
      exact Lt.Ok.ret ⟨gHD.trans gE, rfl⟩
    · rw [if_neg he]
      exact Lt.Ok.pos he (Lt.Ok.ret ⟨gHD, rfl⟩)
def wGap : ByteArray := ByteArray.mk #[103, 97, 112]
def f0 : ByteArray := ByteArray.mk #[]
theorem ask_ok {k : Nat} {H : Hp} {c : Nat} {pv : Sl} {C : Chs} {t : Nat} {text : ByteArray} {v : ByteArray × Int} (h : ChAt H c pv C t) (hC : C.Ok)
    (hr : ∀ b P, StAt H P b (C.now C.at') → Lt.Ok (r62 (appA k) b 0 text H) fun r A => Gr H A ∧ r = v) : Lt.Ok (r14 (appA k) c 0 text H) fun r A => Gr H A ∧ r = v := by
  unfold r14
  refine is (none_ok h hC) (Lt.Ok.neg (by simp) ?_)
  obtain ⟨b, e, hst⟩ := now_ok h hC
  refine is e ?_
  exact Lt.Ok.bind (hr b _ hst) fun r A ⟨g, hr⟩ => Lt.Ok.ret ⟨g, by rw [hr]⟩
end Go.Lt.P10

namespace Go.Lt.P10
/-! ### sums of numbers, hinges, and what is less uneven -/
def smI : List Int → Int
  | [] => 0
  | a :: l => a + smI l
def hin (t : Int) : List Int → Int
  | [] => 0
  | a :: l => (if t < a then a - t else 0) + hin t l
theorem smI_append (a b : List Int) : smI (a ++ b) = smI a + smI b := by
  induction a with
  | nil => simp [smI]
  | cons x a ih => simp only [List.cons_append, smI, ih]; omega
theorem smI_perm {a b : List Int} (h : a.Perm b) : smI a = smI b := by
  induction h with
  | nil => rfl
  | cons x _ ih => simp only [smI, ih]
  | swap x y l => simp only [smI]; omega
  | trans _ _ h1 h2 => exact h1.trans h2
theorem hin_perm {a b : List Int} (t : Int) (h : a.Perm b) : hin t a = hin t b := by
  induction h with
  | nil => rfl
  | cons x _ ih => simp only [hin, ih]
  | swap x y l => simp only [hin]; omega
  | trans _ _ h1 h2 => exact h1.trans h2
theorem hin_nn (t : Int) (l : List Int) : 0 ≤ hin t l := by
  induction l with
  | nil => exact Int.le_refl _
  | cons a l ih => simp only [hin]; split <;> omega
theorem hin_z {t : Int} {l : List Int} (h : ∀ a ∈ l, a ≤ t) : hin t l = 0 := by
  induction l with
  | nil => rfl
  | cons a l ih =>
    have h1 := h a (by simp)
    simp only [hin]
    rw [ih fun x hx => h x (by simp [hx]), if_neg (by omega)]; rfl
theorem pre_le (t : Int) : ∀ (l : List Int) (k : Nat), k ≤ l.length → smI (l.take k) ≤ (k : Int) * t + hin t l
  | l, 0, _ => by
    have := hin_nn t l
    simp only [List.take_zero, smI]; omega
  | [], k + 1, h => by simp at h
  | a :: l, k + 1, h => by
    have := pre_le t l k (by simpa using h)
    have e : ((k + 1 : Nat) : Int) * t = (k : Int) * t + t := by rw [Int.natCast_add, Int.add_mul]; simp
    simp only [List.take_succ_cons, smI, hin]
    rw [e]
    split <;> omega
theorem pre_eq (t : Int) : ∀ (l : List Int) (k : Nat), k ≤ l.length → (∀ a ∈ l.take k, t ≤ a) → (∀ a ∈ l.drop k, a ≤ t) → smI (l.take k) = (k : Int) * t + hin t l
  | l, 0, _, _, h => by
    have := hin_z h
    simp only [List.drop_zero] at this
    simp only [List.take_zero, smI, this]; omega
  | [], k + 1, h, _, _ => by simp at h
  | a :: l, k + 1, h, h1, h2 => by
    have := pre_eq t l k (by simpa using h) (fun x hx => h1 x (by simp [hx])) (fun x hx => h2 x (by simpa using hx))
    have ha := h1 a (by simp)
    have e : ((k + 1 : Nat) : Int) * t = (k : Int) * t + t := by rw [Int.natCast_add, Int.add_mul]; simp
    simp only [List.take_succ_cons, smI, hin]
    rw [e]
    split <;> omega
theorem maj {x y sx sy : List Int} (hx : sx.Perm x) (hy : sy.Perm y) (hs : sx.Pairwise fun a b => b ≤ a) (hl : x.length = y.length) (h : ∀ t, hin t y ≤ hin t x) {k : Nat} (hk : k < sx.length) : smI (sy.take (k + 1)) ≤ smI (sx.take (k + 1)) := by
  have e1 := hx.length_eq
  have e2 := hy.length_eq
  rw [List.pairwise_iff_getElem] at hs
  have p1 := pre_le sx[k] sy (k + 1) (by omega)
  have p2 := pre_eq sx[k] sx (k + 1) (by omega) (fun a ha => by
    obtain ⟨i, hi, rfl⟩ := List.mem_iff_getElem.1 ha
    rw [List.length_take] at hi
    rw [List.getElem_take]
    by_cases e : i = k
    · subst e; exact Int.le_refl _
    · exact hs i k (by omega) hk (by omega)) (fun a ha => by
    obtain ⟨i, hi, rfl⟩ := List.mem_iff_getElem.1 ha
    rw [List.length_drop] at hi
    rw [List.getElem_drop]
    exact hs k (k + 1 + i) hk (by omega) (by omega))
  have p3 := h sx[k]
  rw [← hin_perm _ hx, ← hin_perm _ hy] at p3
  omega
theorem two_perm : ∀ (l : List Int) (i j : Nat) (hi : i < l.length) (hj : j < l.length), i ≠ j → ∃ r : List Int, l.Perm (l[i] :: l[j] :: r) ∧ ∀ x y, ((l.set i x).set j y).Perm (x :: y :: r)
  | [], i, j, hi, _, _ => by simp at hi
  | a :: l, 0, 0, _, _, h => absurd rfl h
  | a :: l, 0, j + 1, hi, hj, _ => by
    have hj : j < l.length := by simpa using hj
    refine ⟨l.eraseIdx j, ?_, fun x y => ?_⟩
    · simp only [List.getElem_cons_zero, List.getElem_cons_succ]
      exact .cons _ (one_perm l j hj).1
    · simp only [List.set_cons_zero, List.set_cons_succ]
      exact .cons _ ((one_perm l j hj).2 y)
  | a :: l, i + 1, 0, hi, hj, _ => by
    have hi : i < l.length := by simpa using hi
    refine ⟨l.eraseIdx i, ?_, fun x y => ?_⟩
    · simp only [List.getElem_cons_zero, List.getElem_cons_succ]
      exact (List.Perm.cons _ (one_perm l i hi).1).trans (.swap _ _ _)
    · simp only [List.set_cons_zero, List.set_cons_succ]
      exact (List.Perm.cons _ ((one_perm l i hi).2 x)).trans (.swap _ _ _)
  | a :: l, i + 1, j + 1, hi, hj, h => by
    obtain ⟨r, h1, h2⟩ := two_perm l i j (by simpa using hi) (by simpa using hj) (by omega)
    refine ⟨a :: r, ?_, fun x y => ?_⟩
    · simp only [List.getElem_cons_succ]
      exact (List.Perm.cons _ h1).trans ((List.Perm.swap _ _ _).trans (.cons _ (.swap _ _ _)))
    · simp only [List.set_cons_succ]
      exact (List.Perm.cons _ (h2 x y)).trans ((List.Perm.swap _ _ _).trans (.cons _ (.swap _ _ _)))
where
  one_perm : ∀ (l : List Int) (i : Nat) (hi : i < l.length), l.Perm (l[i] :: l.eraseIdx i) ∧ ∀ x, (l.set i x).Perm (x :: l.eraseIdx i)
    | [], i, hi => by simp at hi
    | a :: l, 0, _ => ⟨.refl _, fun x => .refl _⟩
    | a :: l, i + 1, hi => by
      obtain ⟨h1, h2⟩ := one_perm l i (by simpa using hi)
      refine ⟨?_, fun x => ?_⟩
      · simp only [List.getElem_cons_succ, List.eraseIdx_cons_succ]
        exact (List.Perm.cons _ h1).trans (.swap _ _ _)
      · simp only [List.set_cons_succ, List.eraseIdx_cons_succ]
        exact (List.Perm.cons _ (h2 x)).trans (.swap _ _ _)
def gaveL (l : List Int) (i j : Nat) (m : Int) : List Int := (l.set i (l.getD i 0 - m)).set j (l.getD j 0 + m)
theorem gave_two {l : List Int} {i j : Nat} {m : Int} (hi : i < l.length) (hj : j < l.length) (h : i ≠ j) : ∃ r x y, l.getD i 0 = x ∧ l.getD j 0 = y ∧ l.Perm (x :: y :: r) ∧ (gaveL l i j m).Perm ((x - m) :: (y + m) :: r) := by
  obtain ⟨r, h1, h2⟩ := two_perm l i j hi hj h
  refine ⟨r, l[i], l[j], by simp [hi], by simp [hj], h1, ?_⟩
  unfold gaveL
  rw [show l.getD i 0 = l[i] by simp [hi], show l.getD j 0 = l[j] by simp [hj]]
  exact h2 _ _
theorem gave_sum {l : List Int} {i j : Nat} {m : Int} (hi : i < l.length) (hj : j < l.length) (h : i ≠ j) : smI (gaveL l i j m) = smI l := by
  obtain ⟨r, x, y, _, _, h1, h2⟩ := gave_two (m := m) hi hj h
  rw [smI_perm h1, smI_perm h2]
  simp only [smI]; omega
theorem gave_hin {l : List Int} {i j : Nat} {m : Int} (hi : i < l.length) (hj : j < l.length) (h : i ≠ j) (hm : 0 ≤ m) (hd : 2 * m ≤ l.getD i 0 - l.getD j 0) (t : Int) : hin t (gaveL l i j m) ≤ hin t l := by
  obtain ⟨r, x, y, e1, e2, h1, h2⟩ := gave_two (m := m) hi hj h
  rw [e1, e2] at hd
  rw [hin_perm t h1, hin_perm t h2]
  simp only [hin]
  split <;> split <;> split <;> split <;> omega
def dsI (a : Int) : List Int → Int
  | [] => 0
  | b :: l => max (a - b) (b - a) + dsI a l
def gapL : List Int → Int
  | [] => 0
  | a :: l => dsI a l + gapL l
theorem dsI_append (a : Int) (x y : List Int) : dsI a (x ++ y) = dsI a x + dsI a y := by
  induction x with
  | nil => simp [dsI]
  | cons b x ih => simp only [List.cons_append, dsI, ih]; omega
theorem dsI_perm {a b : List Int} (x : Int) (h : a.Perm b) : dsI x a = dsI x b := by
  induction h with
  | nil => rfl
  | cons y _ ih => simp only [dsI, ih]
  | swap y z l => simp only [dsI]; omega
  | trans _ _ h1 h2 => exact h1.trans h2
theorem gapL_perm {a b : List Int} (h : a.Perm b) : gapL a = gapL b := by
  induction h with
  | nil => rfl
  | cons y h ih => simp only [gapL, ih, dsI_perm y h]
  | swap y z l => simp only [gapL, dsI]; omega
  | trans _ _ h1 h2 => exact h1.trans h2
theorem gapL_snoc (l : List Int) (a : Int) : gapL (l ++ [a]) = gapL l + dsI a l := by
  have : (l ++ [a]).Perm (a :: l) := List.perm_append_comm
  rw [gapL_perm this]
  simp only [gapL]; omega
theorem dsI_nn (a : Int) (l : List Int) : 0 ≤ dsI a l := by
  induction l with
  | nil => exact Int.le_refl _
  | cons b l ih => simp only [dsI]; omega
theorem gapL_nn (l : List Int) : 0 ≤ gapL l := by
  induction l with
  | nil => exact Int.le_refl _
  | cons b l ih => have := dsI_nn b l; simp only [gapL]; omega
def stkS (s : St) : List Int := s.leaves.map (·.2)
theorem stkS_len (s : St) : (stkS s).length = s.leaves.length := by simp [stkS]
theorem stkS_rng {s : St} (hs : s.Ok) : ∀ e ∈ stkS s, 0 ≤ e ∧ e ≤ 20 := fun e he => by
  obtain ⟨x, hx, rfl⟩ := List.mem_map.1 he
  exact hs.st x hx
theorem r63_one {H : Hp} {a0 : Sl} {x : List Int} (hx : SL H a0 x) (hG : Good x.length x) :
    Lt.Ok (r63 ⟨false, H.n, 0, 1, 1, 0⟩ (H.push (.cells [.sl a0] false))) fun r H' => Gr H H' ∧ r = true := by
  unfold r63
  have g0 := Gr.push H (.cells [.sl a0] false)
  have hg := Hp.get_push_new H (.cells [.sl a0] false)
  obtain ⟨K, hK⟩ : ∃ K, FUEL = K + 2 := ⟨FUEL - 2, by unfold FUEL; omega⟩
  rw [hK]
  generalize H.push (.cells [.sl a0] false) = A at *
  have hxA := hx.gr g0
  have hl := hxA.len
  have h1 := hG.1; have h6 := hG.2.1
  have hld : A.ldSl H.n (0 + (0 : Int).toNat * 1) = some a0 := ldSl_get hg rfl
  rw [r63_l0]
  refine Lt.Ok.pos (by show (0 : Int) < 1; decide) (Lt.Ok.ck (by show (0 : Int) ≤ 0 ∧ (0 : Int) < 1; decide) (Lt.Ok.ld hld ?_))
  unfold r63_j1
  refine Lt.Ok.neg (by omega) (Lt.Ok.neg (by omega) (Lt.Ok.ck (by show (0 : Int) ≤ 0 ∧ (0 : Int) < 1; decide) (Lt.Ok.ld (b := a0) hld (Lt.Ok.neg (by simp) ?_))))
  refine Lt.Ok.bind (r110_ok hxA (by omega) (by omega)) fun r A' ⟨e, hr⟩ => ?_
  subst e
  dsimp only
  refine Lt.Ok.neg (by have := hr.2 fun e he => (hG.2.2.2 e he).1; omega) ?_
  refine Lt.Ok.bind (r94_ok hxA (by omega) (by omega)) fun r2 A' ⟨e, hr2⟩ => ?_
  subst e
  dsimp only
  refine Lt.Ok.neg (by have := hr2.2 fun e he => (hG.2.2.2 e he).2; simp; omega) ?_
  rw [show w64 ((0 : Int) + 1) = 1 by decide +kernel, r63_l0]
  exact Lt.Ok.neg (by show ¬ (1 : Int) < 1; decide) (Lt.Ok.ret ⟨g0, rfl⟩)
theorem dsI_le {a : Int} (ha : 0 ≤ a ∧ a ≤ 20) : ∀ (l : List Int), (∀ e ∈ l, 0 ≤ e ∧ e ≤ 20) → dsI a l ≤ 20 * l.length
  | [], _ => by simp [dsI]
  | b :: l, h => by
    have h1 := h b (by simp)
    have h2 := dsI_le ha l fun e he => h e (by simp [he])
    simp only [dsI, List.length_cons]; omega
theorem gapL_le : ∀ (l : List Int), (∀ e ∈ l, 0 ≤ e ∧ e ≤ 20) → l.length ≤ 6 → gapL l ≤ 120 * l.length
  | [], _, _ => by simp [gapL]
  | b :: l, h, h6 => by
    have h1 := dsI_le (h b (by simp)) l fun e he => h e (by simp [he])
    simp only [List.length_cons] at h6
    have h2 := gapL_le l (fun e he => h e (by simp [he])) (by omega)
    simp only [gapL, List.length_cons]; omega
theorem r17_ok {H : Hp} {v : Sl} {x : List Int} (hv : SL H v x) (hG : Good x.length x) : Lt.Ok (r17 v H) fun r A => Gr H A ∧ r = (gapL x, 0) := by
  unfold r17
  have h6 := hG.2.1
  have hrng := hG.2.2.2
  refine Lt.Ok.bind (r63_one hv hG) fun b A ⟨gA, hb⟩ => ?_
  refine Lt.Ok.pos hb ?_
  dsimp only
  have hvA := hv.gr gA
  have hl := hvA.len
  have hcap := hvA.cap
  have hopn : v.opn = 0 ∨ v.opn = 1 := hvA.opn
  refine Lt.Ok.loop (L := fun K (q : Int × Int) D => r17_l0 K v q.1 v (v.len : Int) q.2 D) (fun m q D => D = A ∧ ∃ i : Nat, q.2 = (i : Int) ∧ i + m = x.length ∧ q.1 = gapL (x.take i)) ?_ FUEL x.length (0, 0) A (by unfold FUEL; omega) ⟨rfl, 0, rfl, by omega, rfl⟩
  rintro K m ⟨s, i'⟩ D ⟨rfl, i, hi', him, hs⟩ ih
  dsimp only at hi' hs ⊢
  subst hi'; subst hs
  rw [r17_l0]
  refine Lt.Ok.ite (fun hlt => ?_) fun hlt => ?_
  · have hil : i < x.length := by omega
    have bx := hrng _ (List.getElem_mem hil)
    have b1 := gapL_le (x.take i) (fun e he => hrng e (List.mem_of_mem_take he)) (by rw [List.length_take]; omega)
    have b0 := gapL_nn (x.take i)
    rw [List.length_take] at b1
    refine Lt.Ok.ck (by omega) (Lt.Ok.ld (hvA.ldI (i := i) (j := 0) (n := x[i]) hil rfl) (Lt.Ok.ck (by refine ⟨?_, hopn⟩; omega) ?_))
    have hcut : SL D (v.cut 1 (0 : Int).toNat ((i : Int)).toNat) (x.take i) := by
      have := hvA.cut (lo := 0) (hi := i) (by omega) (by omega)
      rw [List.drop_zero, Nat.sub_zero] at this
      exact this
    have hcl := hcut.len
    rw [List.length_take] at hcl
    refine Lt.Ok.loop (L := fun K' (q : Int × Int) D' => r17_l1 (fun v1_ v2_ v3_ v4_ v5_ H_ => r17_l0 K v1_ v2_ v3_ v4_ v5_ H_) K' v q.1 x[i] v (v.len : Int) (i : Int) (v.cut 1 (0 : Int).toNat ((i : Int)).toNat) ((v.cut 1 (0 : Int).toNat ((i : Int)).toNat).len : Int) q.2 D') (fun m' q D' => D' = D ∧ ∃ j : Nat, q.2 = (j : Int) ∧ j + m' = i ∧ q.1 = gapL (x.take i) + dsI x[i] (x.take j)) ?_ FUEL i (gapL (x.take i), 0) D (by unfold FUEL; omega) ⟨rfl, 0, rfl, by omega, by simp [dsI]⟩
    rintro K' m' ⟨s, j'⟩ D' ⟨rfl, j, hj', hjm, hs⟩ ih'
    dsimp only at hj' hs ⊢
    subst hj'; subst hs
    rw [r17_l1]
    have b2 := dsI_le bx (x.take j) (fun e he => hrng e (List.mem_of_mem_take he))
    have b3 := dsI_nn x[i] (x.take j)
    rw [List.length_take] at b2
    refine Lt.Ok.ite (fun hlt' => ?_) fun hlt' => ?_
    · have hji : j < i := by omega
      have hjl : j < x.length := by omega
      have by' := hrng _ (List.getElem_mem hjl)
      have e0 : D'.ldI .i64 (v.cut 1 (0 : Int).toNat ((i : Int)).toNat).b ((v.cut 1 (0 : Int).toNat ((i : Int)).toNat).o + ((j : Int)).toNat * 1) = some x[j] := hcut.ldI (i := j) (j := 0) (by rw [List.length_take]; omega) (by rw [List.getElem_take]; rfl)
      refine Lt.Ok.ck (by omega) (Lt.Ok.ld e0 ?_)
      rw [w64_id (n := x[i] - x[j]) (by omega) (by omega), w64_id (n := x[j] - x[i]) (by omega) (by omega), w64_succ (by omega)]
      have em : (if x[i] - x[j] < x[j] - x[i] then x[j] - x[i] else x[i] - x[j]) = max (x[i] - x[j]) (x[j] - x[i]) := by omega
      rw [em, w64_id (by omega) (by omega)]
      refine ih' (m' - 1) (_, _) D' (by omega) ⟨rfl, j + 1, rfl, by omega, ?_⟩
      rw [List.take_succ_eq_append_getElem hjl, dsI_append]
      simp only [dsI]; omega
    · have : j = i := by omega
      subst this
      rw [w64_succ (by omega)]
      refine ih (m - 1) (_, _) D' (by omega) ⟨rfl, j + 1, rfl, by omega, ?_⟩
      rw [List.take_succ_eq_append_getElem hil, gapL_snoc]
  · have : i = x.length := by omega
    subst this
    rw [List.take_length]
    exact Lt.Ok.ret ⟨gA, rfl⟩
def fGap (s : St) (_ : List ByteArray × List Int) : Rep := if s.leaves = [] then ([], 4) else ([itoaA (gapL (stkS s))], 0)
theorem itoa_k {n : Int} (h0 : 0 ≤ n) (h1 : n ≤ 720) : (itoaA n).size ≤ 3 := by
  obtain ⟨k, rfl⟩ := Int.eq_ofNat_of_zero_le h0
  have key : ∀ k : Nat, k < 721 → (itoaA (k : Int)).size ≤ 3 := by decide +kernel
  exact key k (by omega)
theorem app98 (k b : Nat) (x y : Sl) (H : Hp) : callv (appA (k + 1)) (.fn 98 [.ptr b 0] []) [.agg [.sl x, .sl y]] H = (r98 (appA k) b 0 x y H).map fun p => (.tup [.sl p.1.1, .int .i64 p.1.2], p.2) := rfl
theorem stkS_good {s : St} (hs : s.Ok) (h : s.leaves ≠ []) : Good (stkS s).length (stkS s) := by
  have := List.length_pos_iff.2 h
  have := hs.l6
  exact ⟨by rw [stkS_len]; omega, by rw [stkS_len]; omega, rfl, stkS_rng hs⟩
theorem one_cell {H : Hp} (x : Int) : SL (H.push (.cells [.int .i64 x] false)) ⟨false, H.n, 0, 1, 1, 0⟩ [x] := .of_get (ro := false) (Hp.get_push_new _ _) rfl rfl (Nat.le_refl _) (.inl rfl) rfl
theorem fGap_ok {k : Nat} {B : Hp} {P : Nat → Prop} {b : Nat} {s : St} {wn wu : Sl} (h : StAt B P b s) (hs : s.Ok) (p : List ByteArray × List Int) :
    Lt.Ok (callv (appA (k + 2)) (.fn 98 [.ptr b 0] []) [.agg [.sl wn, .sl wu]] B) (RepQ B (fGap s p)) := by
  rw [app98]
  obtain ⟨_, v1, v2, v3, hg, h1, _, _⟩ := h
  have l6 := hs.l6
  have key : Lt.Ok (r98 (appA (k + 1)) b 0 wn wu B) fun r A => Gr B A ∧ r.2 = (fGap s p).2 ∧ (r.2 = 0 → SL A r.1 (fGap s p).1) := by
    unfold r98
    refine Lt.Ok.lt ?_
    have g0 := Gr.push B (.cells [.sl wn, .sl wu] false)
    have hg0 := (g0.2 _ (Hp.get_lt hg)).trans hg
    generalize B.push (.cells [.sl wn, .sl wu] false) = A at *
    have h1A := h1.sl.gr g0
    have hl := h1A.len
    refine Lt.Ok.ld (ldSl_get hg0 rfl) ?_
    unfold fGap
    refine Lt.Ok.ite (fun hc => ?_) fun hc => ?_
    · have : s.leaves = [] := List.length_eq_zero_iff.1 (by omega)
      rw [if_pos this]
      exact Lt.Ok.ret ⟨g0, rfl, fun e => by cases e⟩
    · have hne : s.leaves ≠ [] := fun e => hc (by rw [hl, e]; rfl)
      rw [if_neg hne]
      refine Lt.Ok.bind (r153_ok hg0 h1A (by omega)) fun w C ⟨gC, hw⟩ => ?_
      dsimp only
      refine Lt.Ok.bind (r17_ok (x := stkS s) hw.1.sl (stkS_good hs hne)) fun q D ⟨gD, hq⟩ => ?_
      dsimp only
      subst hq
      have bl := gapL_le (stkS s) (stkS_rng hs) (by rw [stkS_len]; omega)
      have b0 := gapL_nn (stkS s)
      rw [stkS_len] at bl
      have g1 := Gr.push D (.cells [.int .i64 (gapL (stkS s))] false)
      refine Lt.Ok.bind (numbers_ok (k := k) (one_cell (gapL (stkS s))) (by simp) (fun i hi => by simp at hi; subst hi; omega)) fun r E ⟨gE, hr⟩ => ?_
      exact Lt.Ok.ret ⟨(((g0.trans gC).trans gD).trans g1).trans gE, rfl, fun _ => hr⟩
  obtain ⟨r, A, e, g, h2, h3⟩ := key
  rw [e]
  refine Lt.Ok.ret ⟨g, r.1, by rw [h2], fun he => ?_⟩
  refine ⟨h3 (by rw [h2]; exact he), ?_⟩
  have bl := gapL_le (stkS s) (stkS_rng hs) (by rw [stkS_len]; omega)
  have b0 := gapL_nn (stkS s)
  rw [stkS_len] at bl
  have := itoa_k (n := gapL (stkS s)) b0 (by omega)
  unfold fGap
  split
  · exact ⟨by simp, by simp [szs]⟩
  · exact ⟨by simp, by simp [szs]; omega⟩
theorem ask_gap {k : Nat} {H : Hp} {P : Nat → Prop} {b : Nat} {s : St} {text : ByteArray} (h : StAt H P b s) (hs : s.Ok) (ht : text.size ≤ 4194304) (hw : wordS text = wGap) :
    Lt.Ok (r62 (appA (k + 2)) b 0 text H) fun r A => Gr H A ∧ r = askV f0 text wGap (fGap s) := by
  unfold r62
  obtain ⟨r, hr⟩ := r97_sp text H ht
  refine is hr ?_
  dsimp only
  rw [hw]
  refine Lt.Ok.pos (by decide +kernel) ?_
  exact r62_j0_ok (k := k) (.refl _) ht (by decide) (by decide) fun p _ B wn wu gB _ _ => fGap_ok (h.gr gB) hs p
end Go.Lt.P10

namespace Go.Lt
/-! ### insertion, plain -/
structure Ord (T : Type) where
  lt : T → T → Bool
  asym : ∀ {p q}, lt p q = true → lt q p = false
  ntr : ∀ {p q r}, lt q p = false → lt r q = false → lt r p = false
section
variable {T : Type} [Inhabited T] (O : Ord T)
def atD (q : List T) (t : Nat) : T := q.getD t default
theorem atD_eq {q : List T} {t : Nat} (h : t < q.length) : q[t] = atD q t := by
  unfold atD
  rw [List.getD_eq_getElem?_getD, List.getElem?_eq_getElem h]; rfl
theorem atD_set {q : List T} {j : Nat} (h : j < q.length) (x : T) (t : Nat) : atD (q.set j x) t = if t = j then x else atD q t := by
  unfold atD
  rw [List.getD_eq_getElem?_getD, List.getD_eq_getElem?_getD, List.getElem?_set]
  by_cases e : j = t
  · subst e; simp [h]
  · rw [if_neg e, if_neg (fun c => e c.symm)]
def Ord.so (q : List T) : Prop := ∀ t t', t < t' → t' < q.length → O.lt (atD q t') (atD q t) = false
def Ord.sb (q : List T) (i j : Nat) : Prop := ∀ t t', t < t' → t' ≤ i → t' ≠ j → O.lt (atD q t') (atD q t) = false
theorem Ord.swap {q : List T} {i j : Nat} (hi : i < q.length) (hj : j + 1 ≤ i) (h : O.sb q i (j + 1)) (hl : O.lt (atD q (j + 1)) (atD q j) = true) : O.sb ((q.set (j + 1) (atD q j)).set j (atD q (j + 1))) i j := by
  have e : ∀ t, atD ((q.set (j + 1) (atD q j)).set j (atD q (j + 1))) t = if t = j then atD q (j + 1) else if t = j + 1 then atD q j else atD q t := fun t => by
    rw [atD_set (by simp; omega), atD_set (by omega)]
  intro t t' h1 h2 h3
  rw [e, e, if_neg h3]
  by_cases c1 : t' = j + 1
  · subst c1
    rw [if_pos rfl]
    by_cases c2 : t = j
    · subst c2; rw [if_pos rfl]; exact O.asym hl
    · rw [if_neg c2, if_neg (by omega)]
      exact h t j (by omega) (by omega) (by omega)
  · rw [if_neg c1]
    by_cases c2 : t = j
    · subst c2; rw [if_pos rfl]; exact h (t + 1) t' (by omega) h2 c1
    · rw [if_neg c2]
      by_cases c3 : t = j + 1
      · subst c3; rw [if_pos rfl]; exact h j t' (by omega) h2 c1
      · rw [if_neg c3]; exact h t t' h1 h2 c1
theorem Ord.stop {q : List T} {i j : Nat} (hj : j ≤ i) (h : O.sb q i j) (hs : 0 < j → O.lt (atD q j) (atD q (j - 1)) = false) : ∀ t t', t < t' → t' ≤ i → O.lt (atD q t') (atD q t) = false := by
  intro t t' h1 h2
  by_cases e : t' = j
  · subst e
    have := hs (by omega)
    by_cases e2 : t = t' - 1
    · subst e2; exact this
    · exact O.ntr (h t (t' - 1) (by omega) (by omega) (by omega)) this
  · exact h t t' h1 h2 e
theorem Ord.pairwise {q : List T} (h : O.so q) : q.Pairwise fun a b => O.lt b a = false := by
  rw [List.pairwise_iff_getElem]
  intro i j hi hj hij
  rw [atD_eq hi, atD_eq hj]
  exact h i j hij hj
end
end Go.Lt

namespace Go.Lt.P10
open Go Go.Lt Go.Proofs
abbrev ActT := Int × Int × Int × ByteArray
def Chs.act (C : Chs) (a : ActT) : Chs :=
  if a.1 = 0 then (C.do a.2.2.2).1 else if a.1 = 2 then (C.go a.2.1).1 else if a.1 = 3 then (C.back a.2.1).1 else if a.1 = 5 then (C.move a.2.1).1 else C
theorem Chs.act_ok {C : Chs} (h : C.Ok) (a : ActT) : (C.act a).Ok := by
  unfold Chs.act
  split
  · exact Chs.do_ok h _
  split
  · exact Chs.go_ok h _
  split
  · exact Chs.back_ok h _
  split
  · exact Chs.move_ok h _
  · exact h
theorem Sp.ok {c p p' : Nat} {H H' : Hp} {b : Nat} (h : Sp c p p' H H') (hb : b < H.n) (h1 : b ≠ c) (h2 : b ≠ p) : b < H'.n ∧ b ≠ p' ∧ H'.get b = H.get b := by
  refine ⟨Nat.lt_of_lt_of_le hb h.n, ?_, h.e b hb h1 h2⟩
  rcases h.q with e | e <;> omega
theorem Chs.ups_step {C : Chs} (hC : C.Ok) {p : Nat} (h0 : p ≠ 0) : C.ups p p = p :: C.ups (C.par p) (C.par p) := by
  obtain ⟨q, rfl⟩ : ∃ q, p = q + 1 := ⟨p - 1, by omega⟩
  have hp : C.par (q + 1) ≤ q := by
    by_cases hl : q + 1 < C.pages.length
    · have := hC.up (q + 1) (by omega) hl; omega
    · unfold Chs.par; rw [List.getElem?_eq_none (by omega)]; simp
  conv => lhs; unfold Chs.ups
  rw [if_neg h0, Chs.ups_fuel hC q _ hp]
theorem Chs.way_eq {C : Chs} (hC : C.Ok) {p : Nat} (hp : p < C.pages.length) : C.way p = (C.ups p p).reverse := by
  unfold Chs.way; rw [Chs.ups_fuel hC _ _ (by omega)]
theorem Chs.way_zero {C : Chs} (hC : C.Ok) : C.way 0 = [] := by
  rw [Chs.way_eq hC (by have := hC.one; omega)]; rfl
theorem Chs.way_step {C : Chs} (hC : C.Ok) {p : Nat} (h0 : p ≠ 0) (hp : p < C.pages.length) : C.way p = C.way (C.par p) ++ [p] := by
  have := hC.up p (by omega) hp
  rw [Chs.way_eq hC hp, Chs.way_eq hC (by omega), Chs.ups_step hC h0, List.reverse_cons]
theorem wrapU {n : Int} : 0 ≤ IntKind.wrap .u64 n := by
  unfold IntKind.wrap
  simp [IntKind.signed, IntKind.bits]
  omega
theorem wrapU_id {n : Int} (h0 : 0 ≤ n) (h : n < 9223372036854775808) : IntKind.wrap .u64 n = n := by
  unfold IntKind.wrap
  simp [IntKind.signed, IntKind.bits]
  omega
theorem umod (a : Int) {n : Nat} (h0 : 1 ≤ n) (h1 : n ≤ 1000000) : IntKind.wrap .u64 (n : Int) ≠ 0 ∧ ∃ q : Nat, q < n ∧ w64 (Int.tmod (IntKind.wrap .u64 a) (IntKind.wrap .u64 (n : Int))) = (q : Int) := by
  rw [wrapU_id (n := (n : Int)) (by omega) (by omega)]
  have hm0 : 0 ≤ Int.tmod (IntKind.wrap .u64 a) (n : Int) := Int.tmod_nonneg _ wrapU
  have hm1 : Int.tmod (IntKind.wrap .u64 a) (n : Int) < n := Int.tmod_lt_of_pos _ (by omega)
  rw [w64_id (by omega) (by omega)]
  exact ⟨by omega, (Int.tmod (IntKind.wrap .u64 a) (n : Int)).toNat, by omega, by omega⟩
theorem Own.putI {α : Type} {Q : α → Hp → Prop} {H : Hp} {v : Sl} {q : List Int} (h : Own H v q) {j : Nat} {f : Hp → Option (α × Hp)} (hj : j < q.length) (n : Int)
    (k : ∀ H', Own H' v (q.set j n) → Only v.b H H' → H'.n = H.n → Lt.Ok (f H') Q) : Lt.Ok ((H.st v.b (v.o + j * 1) (.int .i64 n)).bind f) Q := by
  rw [h.o, Nat.zero_add, Nat.mul_one]
  have hel : (encs q).length = q.length * 1 := encs_len q
  refine Lt.Ok.st h.get (by omega) fun A e hg => ?_
  have oth : ∀ b, b ≠ v.b → A.get b = H.get b := fun b hb => by rw [e]; exact Hp.get_set_other _ _ hb
  exact k A ⟨h.nn, h.o, by rw [List.length_set]; exact h.len, h.cap, h.opn, by rw [hg, encs_ints]⟩ ⟨by rw [e]; simp, fun c _ hc => oth c hc⟩ (by rw [e]; simp)
def fallO : Ord Int := ⟨fun p q => decide (q < p), fun h => by simp at *; omega, fun h k => by simp at *; omega⟩
def SaysI (a : App) (fv : AV) : Prop := ∀ H (p q : Int), 0 ≤ p ∧ p ≤ 20 → 0 ≤ q ∧ q ≤ 20 → Lt.Ok (callv a fv [.int .i64 p, .int .i64 q] H) fun r H' => Gr H H' ∧ r = .int .i64 (q - p)
theorem says173 (k : Nat) : SaysI (appA (k + 1)) (.fn 173 [] []) := by
  intro H p q hp hq
  show Lt.Ok ((r173 p q H).map fun p => (AV.int .i64 p.1, p.2)) _
  unfold r173
  rw [w64_id (by omega) (by omega)]
  exact Lt.Ok.ret ⟨.refl _, rfl⟩
abbrev R20 (q : List Int) : Prop := ∀ e ∈ q, 0 ≤ e ∧ e ≤ 20
section
variable {a : App} {fv : AV} {v : Sl} {Q : Unit → Hp → Prop}
theorem r322_l1_ok (hc : SaysI a fv) {kt : Sl → Int → Int → AV → Int → Hp → Option (Unit × Hp)} {q : List Int} (hq : R20 q) (hb : q.length ≤ 1000000) {i : Nat} {n : Int} {H : Hp} (ho : Own H v q) (hi : i < q.length) (hs : fallO.sb q i i)
    (k : ∀ q' H', Own H' v q' → Only v.b H H' → q'.Perm q → (∀ t t', t < t' → t' ≤ i → fallO.lt (atD q' t') (atD q' t) = false) → Lt.Ok (kt v 0 n fv ((i + 1 : Nat) : Int) H') Q) :
    Lt.Ok (r322_l1 a kt FUEL v 0 n fv i i H) Q := by
  refine Lt.Ok.loop (L := fun K (s : Int) H' => r322_l1 a kt K v 0 n fv i s H') (fun m s H' => ∃ j : Nat, s = j ∧ j ≤ i ∧ m = j ∧ ∃ q', Own H' v q' ∧ Only v.b H H' ∧ q'.Perm q ∧ fallO.sb q' i j) ?_ FUEL i i H (by unfold FUEL; omega) ⟨i, rfl, Nat.le_refl _, rfl, q, ho, .refl _ _, .refl _, hs⟩
  rintro K m s H1 ⟨j, rfl, hj, rfl, q', h1, g1, hp, hsb⟩ ih
  try dsimp only at *
  have hql := hp.length_eq
  have hvl := h1.len
  have hr : R20 q' := fun e he => hq e (hp.mem_iff.1 he)
  rw [r322_l1]
  have stop : (0 < m → fallO.lt (atD q' m) (atD q' (m - 1)) = false) → ∀ kt1 H2, Own H2 v q' → Only v.b H H2 → Lt.Ok (r322_j2 a kt kt1 v 0 n fv i m false H2) Q := by
    intro h kt1 H2 o2 g2
    unfold r322_j2
    refine Lt.Ok.neg (by simp) ?_
    rw [w64_succ (by omega)]
    exact k q' H2 o2 g2 hp (fallO.stop hj hsb h)
  by_cases h : 0 < m
  · obtain ⟨j, rfl⟩ : ∃ j, m = j + 1 := ⟨m - 1, by omega⟩
    have ej : w64 (((j + 1 : Nat) : Int) - 1) = (j : Int) := by rw [w64_id (by omega) (by omega)]; omega
    rw [ej]
    have hg := h1.sl
    have b1 := hr _ (List.getElem_mem (l := q') (n := j + 1) (by omega))
    have b2 := hr _ (List.getElem_mem (l := q') (n := j) (by omega))
    refine Lt.Ok.pos (by omega) (Lt.Ok.ck (by omega) (Lt.Ok.ld (hg.ldI (i := j + 1) (j := 0) (by omega) rfl) (Lt.Ok.ck (by omega) (Lt.Ok.ld (hg.ldI (i := j) (j := 0) (by omega) rfl) ?_))))
    refine Lt.Ok.bind (hc H1 q'[j + 1] q'[j] b1 b2) fun r H2 ⟨g2, hr⟩ => ?_
    subst hr
    refine Lt.Ok.ld rfl ?_
    have o2 := h1.gr g2
    have gg := g1.trans (Gr.only (b := v.b) g2)
    by_cases hl : q'[j] - q'[j + 1] < 0
    · rw [decide_eq_true hl]
      unfold r322_j2
      rw [ej]
      have hg2 := o2.sl
      refine Lt.Ok.pos rfl (Lt.Ok.ck (by omega) (Lt.Ok.ld (hg2.ldI (i := j) (j := 0) (by omega) rfl) (Lt.Ok.ck (by omega) (Lt.Ok.ld (hg2.ldI (i := j + 1) (j := 0) (by omega) rfl) (Lt.Ok.ck (by omega) ?_)))))
      refine Own.putI o2 (j := j + 1) (by omega) q'[j] fun H3 o3 g3 n3 => Lt.Ok.ck (by omega) (Own.putI o3 (j := j) (by simp; omega) q'[j + 1] fun H4 o4 g4 n4 => ?_)
      try dsimp only
      refine ih j _ H4 (by omega) ⟨j, rfl, by omega, rfl, _, o4, gg.trans (g3.trans g4), (swap_perm (by omega)).trans hp, ?_⟩
      rw [atD_eq (show j < q'.length by omega), atD_eq (show j + 1 < q'.length by omega)]
      refine fallO.swap (by omega) (by omega) hsb ?_
      rw [← atD_eq (show j < q'.length by omega), ← atD_eq (show j + 1 < q'.length by omega)]
      show decide _ = true
      exact decide_eq_true (by omega)
    · rw [decide_eq_false hl]
      refine stop (fun _ => ?_) _ H2 o2 gg
      rw [Nat.add_sub_cancel, ← atD_eq (show j < q'.length by omega), ← atD_eq (show j + 1 < q'.length by omega)]
      show decide _ = false
      exact decide_eq_false (by omega)
  · exact Lt.Ok.neg (by omega) (stop (fun h' => absurd h' h) _ H1 h1 g1)
theorem r322_ok (hc : SaysI a fv) {q : List Int} (hq : R20 q) (hb : q.length ≤ 1000000) {H : Hp} (ho : Own H v q) :
    Lt.Ok (r322 a v 0 q.length fv H) fun _ H' => ∃ q', Own H' v q' ∧ Only v.b H H' ∧ q'.Perm q ∧ fallO.so q' := by
  unfold r322
  rw [show w64 (0 + 1) = ((1 : Nat) : Int) by decide]
  refine Lt.Ok.loop (L := fun K (s : Int) H' => r322_l0 a K v 0 q.length fv s H') (fun m s H' => ∃ i : Nat, s = i ∧ 1 ≤ i ∧ q.length ≤ i + m ∧ ∃ q', Own H' v q' ∧ Only v.b H H' ∧ q'.Perm q ∧ ∀ t t', t < t' → t' < i → fallO.lt (atD q' t') (atD q' t) = false) ?_ FUEL q.length _ H (by unfold FUEL; omega) ⟨1, rfl, Nat.le_refl _, by omega, q, ho, .refl _ _, .refl _, fun t t' h1 h2 => by omega⟩
  rintro K m s H1 ⟨i, rfl, hi1, hm, q', h1, g1, hp, hs⟩ ih
  try dsimp only at *
  have hql := hp.length_eq
  rw [r322_l0]
  by_cases h : i < q.length
  · refine Lt.Ok.pos (by omega) (r322_l1_ok hc (fun e he => hq e (hp.mem_iff.1 he)) (by omega) h1 (by omega) (fun t t' a1 a2 a3 => hs t t' a1 (by omega)) fun q2 H2 o2 g2 p2 s2 => ?_)
    exact ih (m - 1) _ H2 (by omega) ⟨i + 1, rfl, by omega, by omega, q2, o2, g1.trans g2, p2.trans hp, fun t t' a1 a2 => s2 t t' a1 (by omega)⟩
  · exact Lt.Ok.neg (by omega) (Lt.Ok.ret ⟨q', h1, g1, hp, fun t t' a1 a2 => hs t t' a1 (by omega)⟩)
end
theorem r296_at {n : Nat} (hn : n ∈ [0, 1, 2, 3, 4, 5, 6, 7, 8, 9, 10, 11, 12]) (H : Hp) : r296 (n : Int) H = some (([0, 1, 2, 2, 3, 3, 3, 3, 4, 4, 4, 4, 4] : List Int).getD n 0, H) := by
  simp only [List.mem_cons, List.not_mem_nil, or_false] at hn
  rcases hn with rfl | rfl | rfl | rfl | rfl | rfl | rfl | rfl | rfl | rfl | rfl | rfl | rfl <;> kernel_rfl
theorem r296_small {n : Nat} (hn : n ≤ 12) (H : Hp) : ∃ x, r296 (IntKind.wrap .u64 (n : Int)) H = some (x, H) := by
  rw [wrapU_id (n := (n : Int)) (by omega) (by omega)]
  exact ⟨_, r296_at (by simp; omega) H⟩
theorem r232_ok {k : Nat} {fv : AV} (hc : SaysI (appA (k + 1)) fv) {v : Sl} {q : List Int} (hq : R20 q) (hb : q.length ≤ 12) {H : Hp} (ho : Own H v q) :
    Lt.Ok (r232 (appA (k + 1)) v fv H) fun _ H' => ∃ q', Own H' v q' ∧ Only v.b H H' ∧ q'.Perm q ∧ fallO.so q' := by
  unfold r232
  have hl := ho.len
  rw [hl]
  obtain ⟨x, e⟩ := r296_small hb H
  refine Lt.Ok.ld e ?_
  unfold r295
  rw [show FUEL = 18446744073709551615 + 1 from rfl, r295_l0]
  refine Lt.Ok.bind (P := fun _ H' => ∃ q', Own H' v q' ∧ Only v.b H H' ∧ q'.Perm q ∧ fallO.so q') ?_ fun _ H' h => Lt.Ok.ret h
  rw [w64_id (by omega) (by omega)]
  exact Lt.Ok.pos (by omega) (Lt.Ok.bind (r322_ok hc hq (by omega) ho) fun _ H' h => Lt.Ok.ret h)
structure Col {T : Type} [El T] (T0 B : Nat) (H0 H : Hp) (w : Sl) (l : List T) (i : Nat) : Prop where
  n : B + 3 ≤ H.n
  old : ∀ b, b < B → H.get b = H0.get b
  o : H.get B = some (.cells [.sl w] false)
  d : H.get (B + 1) = some .dfr
  p : H.get (B + 2) = some (.loop .ready none T0 13 [(2, .ptr B 0)])
  a : AccL (B + 3) H w (l.take i)
theorem lowA {T : Type} [El T] {n0 : Nat} {H : Hp} {w : Sl} {l : List T} (h : AccL n0 H w l) (hn : w.nil = false) : n0 ≤ w.b ∧ w.b < H.n := by
  rcases h with ⟨rfl, _⟩ | ⟨_, _, _, _, h5, h6, _⟩
  · simp [nilS] at hn
  · exact ⟨h5, Hp.get_lt h6⟩
theorem round_col {T : Type} [El T] {T0 B : Nat} {H0 H : Hp} {w : Sl} {l : List T} {i : Nat} (h : Col T0 B H0 H w l i) (hi : i < l.length) (hb : l.length ≤ 1000) {H1 : Hp} (g : Gr H H1) {f : Hp → Option (Option Code × Hp)} {es : Nat} (hes : es = El.sz T)
    (hf : ∀ E : Hp, E = H1.set (B + 2) (.loop .busy none T0 13 [(2, .ptr B 0)]) → f H1 = (E.ldSl B 0).bind fun x3 => (E.apN es x3 (El.enc l[i]) 1).bind fun x7 => (x7.2.st B 0 (.sl x7.1)).bind fun H8 => some (none, H8)) :
    Lt.Ok (f H1) fun r H' => r = none ∧ ∃ w', B + 3 ≤ H'.n ∧ (∀ b, b < B → H'.get b = H0.get b) ∧ H'.get B = some (.cells [.sl w'] false) ∧ H'.get (B + 1) = some .dfr ∧ H'.get (B + 2) = some (.loop .busy none T0 13 [(2, .ptr B 0)]) ∧ AccL (B + 3) H' w' (l.take (i + 1)) := by
  subst hes
  have hn := h.n
  have pD : H1.get (B + 2) = some (.loop .ready none T0 13 [(2, .ptr B 0)]) := by rw [g.2 _ (by omega)]; exact h.p
  have hlt := Hp.get_lt pD
  rw [hf _ rfl]
  generalize hE : H1.set (B + 2) (.loop .busy none T0 13 [(2, .ptr B 0)]) = E
  have oE : ∀ x, x ≠ B + 2 → E.get x = H1.get x := fun x hx => by rw [← hE, Hp.get_set_other _ _ hx]
  have pE : E.get (B + 2) = some (.loop .busy none T0 13 [(2, .ptr B 0)]) := by rw [← hE, Hp.get_set_same _ _ hlt]
  have nE : E.n = H1.n := by rw [← hE]; simp
  clear hE
  have gn := g.1
  have sE : E.get B = some (.cells [.sl w] false) := by rw [oE _ (by omega), g.2 _ (by omega)]; exact h.o
  refine Lt.Ok.ld (ldSl_get sE rfl) ?_
  have aE : AccL (B + 3) E w (l.take i) := Acc.keep (AccL.gr h.a g) fun hw => by
    have := lowA h.a hw
    exact oE _ (by omega)
  have hlw := aE.len
  rw [List.length_take] at hlw
  obtain ⟨w', H', e1, a1, b1, c1, _, _, _⟩ := Acc.apN (k := 1) (xs := El.enc l[i]) aE (El.pos (T := T)) (by rw [El.len]; omega) (by omega) (by omega)
  refine Lt.Ok.ld e1 ?_
  have kp : ∀ x, x < B + 3 → H'.get x = E.get x := fun x hx => b1.2 x (by omega) fun hw => by have := lowA h.a hw; omega
  have sF : H'.get B = some (.cells [.sl w] false) := by rw [kp _ (by omega)]; exact sE
  refine Lt.Ok.st sF (by simp) fun G eG hG => Lt.Ok.ret ⟨rfl, w', ?_, fun b hb => ?_, hG, ?_, ?_, ?_⟩
  · rw [eG]; have := b1.1; simp; omega
  · rw [eG, Hp.get_set_other _ _ (by omega), kp _ (by omega), oE _ (by omega), g.2 _ (by omega)]; exact h.old b hb
  · rw [eG, Hp.get_set_other _ _ (by omega), kp _ (by omega), oE _ (by omega), g.2 _ (by omega)]; exact h.d
  · rw [eG, Hp.get_set_other _ _ (by omega), kp _ (by omega)]; exact pE
  · rw [List.take_succ_eq_append_getElem hi]
    unfold AccL
    rw [encs_append, encs_one]
    refine Acc.keep a1 fun hw => ?_
    rw [eG, Hp.get_set_other]
    rcases a1 with ⟨rfl, _⟩ | ⟨_, _, _, _, h5, _⟩
    · simp [nilS] at hw
    · omega
theorem col_next {T : Type} [El T] {T0 B : Nat} {H0 H' : Hp} {w' : Sl} {l : List T} {i : Nat} (h1 : B + 3 ≤ H'.n) (h2 : ∀ b, b < B → H'.get b = H0.get b) (h3 : H'.get B = some (.cells [.sl w'] false)) (h4 : H'.get (B + 1) = some .dfr) (h5 : H'.get (B + 2) = some (.loop .busy none T0 13 [(2, .ptr B 0)])) (h6 : AccL (B + 3) H' w' (l.take i)) :
    ∃ A, H'.lnext (B + 2) T0 none = some A ∧ Col T0 B H0 A w' l i := by
  have hnx : H'.lnext (B + 2) T0 none = some (H'.set (B + 2) (.loop .ready none T0 13 [(2, .ptr B 0)])) := by
    unfold Hp.lnext; rw [h5]; simp
  have hlt := Hp.get_lt h5
  refine ⟨_, hnx, by simpa using h1, fun b hb => ?_, ?_, ?_, ?_, ?_⟩
  · rw [Hp.get_set_other _ _ (by omega)]; exact h2 b hb
  · rw [Hp.get_set_other _ _ (by omega)]; exact h3
  · rw [Hp.get_set_other _ _ (by omega)]; exact h4
  · rw [Hp.get_set_same _ _ hlt]
  · refine Acc.keep h6 fun hw => ?_
    have := lowA h6 hw
    rw [Hp.get_set_other _ _ (by omega)]
theorem col_start {T : Type} [El T] (T0 : Nat) (H : Hp) (l : List T) : Col T0 H.n H (((H.push (.cells [.sl ⟨true, 0, 0, 0, 0, 0⟩] false)).push .dfr).push (.loop .ready none T0 13 [(2, .ptr H.n 0)])) ⟨true, 0, 0, 0, 0, 0⟩ l 0 := by
  have n1 : (H.push (.cells [.sl ⟨true, 0, 0, 0, 0, 0⟩] false)).n = H.n + 1 := by simp
  have gA : Gr H (((H.push (.cells [.sl ⟨true, 0, 0, 0, 0, 0⟩] false)).push .dfr).push (.loop .ready none T0 13 [(2, .ptr H.n 0)])) := (Gr.push _ _).trans ((Gr.push _ _).trans (.push _ _))
  refine ⟨by simp, fun b hb => gA.2 b hb, ?_, ?_, ?_, by simpa using AccL.nilS⟩
  · rw [Hp.get_push_old _ _ (by simp; omega), Hp.get_push_old _ _ (by simp)]; simp
  · rw [Hp.get_push_old _ _ (by simp), ← n1, Hp.get_push_new]
  · rw [show H.n + 2 = ((H.push (.cells [.sl ⟨true, 0, 0, 0, 0, 0⟩] false)).push .dfr).n by simp, Hp.get_push_new]
theorem col_end {T : Type} [El T] {T0 B : Nat} {H H' : Hp} {w : Sl} {l : List T} (C : Col T0 B H H' w l l.length) (hB : B = H.n) (hne : l ≠ []) {Q : Sl → Hp → Prop} (k : ∀ A, Gr H A → Own A w l → H.n ≤ w.b → Q w A) :
    Lt.Ok ((H'.lend (B + 2)).bind fun q3 => if jmp q3.1 = some 0 then ((q3.2.ldSl B 0).bind fun x5 => ck (dfrB [B + 1] q3.2 = true) (some (x5, kill [B + 1] q3.2))) else none) Q := by
  subst hB
  have hn := C.n
  have hend : H'.lend (H.n + 2) = some (none, H'.set (H.n + 2) .dead) := by unfold Hp.lend; rw [C.p]
  refine Lt.Ok.ld hend (Lt.Ok.pos rfl ?_)
  generalize hG : H'.set (H.n + 2) .dead = G
  have oG : ∀ x, x ≠ H.n + 2 → G.get x = H'.get x := fun x hx => by rw [← hG, Hp.get_set_other _ _ hx]
  have nG : G.n = H'.n := by rw [← hG]; simp
  clear hG
  have sG : G.get H.n = some (.cells [.sl w] false) := by rw [oG _ (by omega)]; exact C.o
  have dG : G.get (H.n + 1) = some .dfr := by rw [oG _ (by omega)]; exact C.d
  have ha := C.a
  rw [List.take_of_length_le (Nat.le_refl _)] at ha
  refine Lt.Ok.ld (ldSl_get sG rfl) (Lt.Ok.ck (by simp [dfrB, Hp.isDfr, dG]) (Lt.Ok.ret (k _ ⟨by rw [kill_n]; dsimp only; omega, fun b hb => ?_⟩ ?_ ?_)))
  · rw [kill_get (by simp; omega), oG _ (by omega)]; exact C.old b hb
  · rcases ha with ⟨rfl, e⟩ | ⟨h1, h2, h3, h4, h5, h6, h7⟩
    · exfalso
      cases l with
      | nil => exact hne rfl
      | cons x l =>
        rw [encs_cons] at e
        have := congrArg List.length e
        rw [List.length_append, El.len] at this
        have := El.pos (T := T)
        simp at *; omega
    · refine ⟨h1, h2, ?_, by omega, .inr h3, ?_⟩
      · rw [encs_len] at h7
        exact (Nat.eq_of_mul_eq_mul_right El.pos h7).symm
      · rw [kill_get (by simp; omega), oG _ (by omega)]; exact h6
  · rcases ha with ⟨rfl, e⟩ | ⟨h1, h2, h3, h4, h5, h6, h7⟩
    · exfalso
      cases l with
      | nil => exact hne rfl
      | cons x l =>
        rw [encs_cons] at e
        have := congrArg List.length e
        rw [List.length_append, El.len] at this
        have := El.pos (T := T)
        simp at *; omega
    · omega
theorem round_ok {k B : Nat} {H0 H : Hp} {w : Sl} {l : List Int} {i : Nat} (h : Col 1 B H0 H w l i) (hi : i < l.length) (hb : l.length ≤ 1000) :
    Lt.Ok (callv (appA (k + 1)) (.yld (B + 2)) [.int .i64 l[i]] H) fun r H' => r = .bool true ∧ ∃ w', Col 1 B H0 H' w' l (i + 1) := by
  show Lt.Ok (ydisp (appA k) (B + 2) [.int .i64 l[i]] H) _
  unfold ydisp
  rw [h.p]
  simp only
  refine Lt.Ok.bind (round_col h hi hb (.refl _) (f := fun H => r294q1 (appA k) (B + 2) B l[i] H) rfl fun E e => ?_) ?_
  · unfold r294q1
    have hbeg : H.lbegin (B + 2) = some E := by unfold Hp.lbegin; rw [h.p, e]
    rw [hbeg]; rfl
  · rintro r H' ⟨rfl, w', h1, h2, h3, h4, h5, h6⟩
    obtain ⟨A, e, C⟩ := col_next h1 h2 h3 h4 h5 h6
    dsimp only
    rw [e]
    exact Lt.Ok.ret ⟨rfl, w', C⟩
theorem r231_ok {k : Nat} {H : Hp} {c : Nat} {v : Sl} {l : List Int} (hc : H.get c = some (.cells [.sl v] false)) (hv : SL H v l) (hb : l.length ≤ 1000) (hne : l ≠ []) :
    Lt.Ok (r231 (appA (k + 2)) (.fn 233 [] [.ptr c 0]) H) fun w H' => Gr H H' ∧ Own H' w l ∧ H.n ≤ w.b := by
  unfold r231
  refine Lt.Ok.bind (P := fun w H' => Gr H H' ∧ Own H' w l ∧ H.n ≤ w.b) ?_ fun w H' h => Lt.Ok.ret h
  unfold r294
  refine Lt.Ok.lt ?_
  have n1 : (H.push (.cells [.sl ⟨true, 0, 0, 0, 0, 0⟩] false)).n = H.n + 1 := by simp
  rw [n1]
  have hlen := hv.len
  have C0 := col_start 1 H l
  have gA : Gr H (((H.push (.cells [.sl ⟨true, 0, 0, 0, 0, 0⟩] false)).push .dfr).push (.loop .ready none 1 13 [(2, .ptr H.n 0)])) := (Gr.push _ _).trans ((Gr.push _ _).trans (.push _ _))
  generalize ((H.push (.cells [.sl ⟨true, 0, 0, 0, 0, 0⟩] false)).push .dfr).push (.loop .ready none 1 13 [(2, .ptr H.n 0)]) = A at *
  have hcl := Hp.get_lt hc
  refine Lt.Ok.bind (P := fun _ H' => ∃ w, Col 1 H.n H H' w l l.length) ?_ ?_
  · show Lt.Ok ((r233 (appA (k + 1)) (.yld (H.n + 2)) c A).map fun p => (AV.tup [], p.2)) _
    have h1 : Lt.Ok (r233 (appA (k + 1)) (.yld (H.n + 2)) c A) fun _ H' => ∃ w, Col 1 H.n H H' w l l.length := by
      unfold r233
      refine Lt.Ok.ld (ldSl_get (by rw [gA.2 _ hcl]; exact hc) rfl) ?_
      rw [hlen]
      refine Lt.Ok.loop (L := fun K (s : Int) H' => r233_l0 (appA (k + 1)) K (.yld (H.n + 2)) v l.length s H') (fun m s H' => ∃ i : Nat, s = i ∧ i + m = l.length ∧ ∃ w, Col 1 H.n H H' w l i) ?_ FUEL l.length 0 A (by unfold FUEL; omega) ⟨0, rfl, by omega, _, C0⟩
      rintro K m s H1 ⟨i, rfl, hm, w, C⟩ ih
      try dsimp only at *
      rw [r233_l0]
      by_cases h : i < l.length
      · have gH : Gr H H1 := ⟨by have := C.n; omega, C.old⟩
        refine Lt.Ok.pos (by omega) (Lt.Ok.ck (by omega) (Lt.Ok.ld ((hv.gr gH).ldI (i := i) (j := 0) h rfl) ?_))
        refine Lt.Ok.bind (round_ok C h hb) fun r H2 ⟨hr, w', C2⟩ => ?_
        subst hr
        refine Lt.Ok.ld rfl (Lt.Ok.pos rfl ?_)
        rw [w64_succ (by omega)]
        exact ih (m - 1) _ H2 (by omega) ⟨i + 1, rfl, by omega, w', C2⟩
      · have hi : i = l.length := by omega
        subst hi
        exact Lt.Ok.neg (by omega) (Lt.Ok.ret ⟨w, C⟩)
    obtain ⟨u, H', e, h⟩ := h1
    rw [e]
    exact Lt.Ok.ret h
  · rintro r H' ⟨w, C⟩
    exact col_end C rfl hne fun A g o h => ⟨g, o, h⟩
theorem r120_ok {k : Nat} {H : Hp} {v : Sl} {l : List Int} (hv : SL H v l) (hq : R20 l) (hb : l.length ≤ 12) (hne : l ≠ []) :
    Lt.Ok (r120 (appA (k + 2)) v H) fun w A => Gr H A ∧ ∃ q, SL A w q ∧ q.Perm l ∧ fallO.so q := by
  unfold r120
  have g0 := Gr.push H (.cells [.sl v] false)
  have hg := Hp.get_push_new H (.cells [.sl v] false)
  have key : r172 v H = some (.fn 233 [] [.ptr H.n 0], H.push (.cells [.sl v] false)) := rfl
  refine Lt.Ok.ld key ?_
  generalize H.push (.cells [.sl v] false) = A at *
  unfold r171
  refine Lt.Ok.bind (P := fun w B => Gr H B ∧ ∃ q, SL B w q ∧ q.Perm l ∧ fallO.so q) ?_ fun w B h => Lt.Ok.ret h
  refine Lt.Ok.bind (r231_ok (k := k) hg (hv.gr g0) (by omega) hne) fun w B ⟨gB, ho, hw⟩ => ?_
  refine Lt.Ok.bind (r232_ok (k := k + 1) (says173 _) hq hb ho) fun _ C ⟨q, o, oo, hp, hs⟩ => ?_
  have := g0.1
  dsimp only at hw
  refine Lt.Ok.ret ⟨?_, q, o.sl, hp, hs⟩
  refine ⟨Nat.le_trans (g0.trans gB).1 oo.1, fun b hb => ?_⟩
  rw [oo.2 b (Nat.lt_of_lt_of_le hb (g0.trans gB).1) (by dsimp only; omega)]
  exact (g0.trans gB).2 b hb
/-! ### Uneven -/
def preL (q : List Int) : List Int := (List.range q.length).map fun i => smI (q.take (i + 1))
theorem preL_len (q : List Int) : (preL q).length = q.length := by simp [preL]
theorem preL_get {q : List Int} {i : Nat} (h : i < (preL q).length) : (preL q)[i] = smI (q.take (i + 1)) := by simp [preL]
theorem smI_rng : ∀ (q : List Int), R20 q → 0 ≤ smI q ∧ smI q ≤ 20 * q.length
  | [], _ => by simp [smI]
  | a :: l, h => by
    have h1 := h a (by simp)
    have h2 := smI_rng l fun e he => h e (by simp [he])
    simp only [smI, List.length_cons]; omega
theorem r119_ok {H : Hp} {v : Sl} {q : List Int} (hv : SL H v q) (hq : R20 q) (hb : q.length ≤ 12) : Lt.Ok (r119 v H) fun w A => Gr H A ∧ SL A w (preL q) := by
  unfold r119
  have hl := hv.len
  refine Lt.Ok.loop (L := fun K (t : Sl × Int × Int) A => r119_l0 K t.1 t.2.1 v (v.len : Int) t.2.2 A) (fun m t A => ∃ i : Nat, t.2.2 = (i : Int) ∧ i + m = q.length ∧ t.2.1 = smI (q.take i) ∧ Gr H A ∧ AccN H.n A t.1 ((List.range i).map fun i => smI (q.take (i + 1)))) ?_ FUEL q.length (⟨true, 0, 0, 0, 0, 0⟩, 0, 0) H (by unfold FUEL; omega) ⟨0, rfl, by omega, rfl, .refl _, ⟨AccL.nilS, fun _ => rfl⟩⟩
  rintro K m ⟨w, s, i'⟩ A ⟨i, hi, him, hs, g, ha⟩ ih
  dsimp only at *
  subst hi; subst hs
  rw [r119_l0]
  refine Lt.Ok.ite (fun hlt => ?_) fun hlt => ?_
  · have hil : i < q.length := by omega
    have r1 := smI_rng (q.take i) fun e he => hq e (List.mem_of_mem_take he)
    have r2 := hq _ (List.getElem_mem hil)
    rw [List.length_take] at r1
    have es : smI (q.take (i + 1)) = smI (q.take i) + q[i] := by rw [List.take_succ_eq_append_getElem hil, smI_append]; simp [smI]
    refine Lt.Ok.ck (by omega) (Lt.Ok.ld ((hv.gr g).ldI (i := i) (j := 0) (n := q[i]) hil rfl) ?_)
    rw [w64_id (n := smI (q.take i) + q[i]) (by omega) (by omega)]
    refine Lt.Ok.bind (AccN.push ha g.1 (smI (q.take i) + q[i]) rfl rfl (by simp; omega)) fun w' B ⟨k1, k2, _, _⟩ => ?_
    dsimp only
    rw [w64_succ (by omega)]
    refine ih (m - 1) (w', _, _) B (by omega) ⟨i + 1, rfl, by omega, es.symm, But.gr k2 ha.1 g, ?_⟩
    rw [List.range_succ, List.map_append]
    simp only [List.map_cons, List.map_nil, es]
    exact k1
  · have : i = q.length := by omega
    subst this
    exact Lt.Ok.ret ⟨g, ha.1.sl⟩
theorem r66_ok {k : Nat} {H : Hp} {v w : Sl} {x y : List Int} (hx : SL H v x) (hy : SL H w y) (rx : R20 x) (ry : R20 y) (hlen : x.length = y.length) (hne : x ≠ []) (hb : x.length ≤ 12) (hh : ∀ t, hin t y ≤ hin t x) (hsum : smI x = smI y) :
    Lt.Ok (r66 (appA (k + 2)) v w H) fun r A => Gr H A ∧ r = true := by
  unfold r66
  have hne2 : y ≠ [] := fun e => hne (List.length_eq_zero_iff.1 (by rw [hlen, e]; rfl))
  have hpos := List.length_pos_iff.2 hne
  refine Lt.Ok.bind (r120_ok (k := k) hx rx hb hne) fun a A ⟨gA, sx, ha, px, ox⟩ => ?_
  have lx := px.length_eq
  dsimp only at ha ⊢
  refine Lt.Ok.bind (r119_ok ha (fun e he => rx e (px.mem_iff.1 he)) (by omega)) fun b B ⟨gB, hb1⟩ => ?_
  dsimp only at hb1 ⊢
  refine Lt.Ok.bind (r120_ok (k := k) (hy.gr (gA.trans gB)) ry (by omega) hne2) fun c C ⟨gC, sy, hc, py, oy⟩ => ?_
  have ly := py.length_eq
  dsimp only at hc ⊢
  refine Lt.Ok.bind (r119_ok hc (fun e he => ry e (py.mem_iff.1 he)) (by omega)) fun d D ⟨gD, hd⟩ => ?_
  dsimp only at hd ⊢
  have hbD := hb1.gr (gC.trans gD)
  have g := ((gA.trans gB).trans gC).trans gD
  have lb := hbD.len
  have ld := hd.len
  rw [preL_len] at lb ld
  have fx : sx.Pairwise fun a b => b ≤ a := (fallO.pairwise ox).imp fun {a b} h => by
    have h : decide (a < b) = false := h
    simp at h; exact h
  refine Lt.Ok.loop (L := fun K (i : Int) E => r66_l0 (appA (k + 2)) K b d (b.len : Int) i E) (fun m i' E => E = D ∧ ∃ i : Nat, i' = (i : Int) ∧ i + m = x.length) ?_ FUEL x.length 0 D (by unfold FUEL; omega) ⟨rfl, 0, rfl, by omega⟩
  rintro K m i' E ⟨rfl, i, rfl, him⟩ ih
  rw [r66_l0]
  refine Lt.Ok.ite (fun hlt => ?_) fun hlt => ?_
  · have hil : i < x.length := by omega
    have i1 : i < (preL sx).length := by rw [preL_len]; omega
    have i2 : i < (preL sy).length := by rw [preL_len]; omega
    refine Lt.Ok.ck (by omega) (Lt.Ok.ld (hbD.ldI (i := i) (j := 0) (n := (preL sx)[i]) i1 rfl) (Lt.Ok.ck (by omega) (Lt.Ok.ld (hd.ldI (i := i) (j := 0) (n := (preL sy)[i]) i2 rfl) ?_)))
    rw [preL_get, preL_get]
    have := maj px py fx hlen hh (k := i) (by omega)
    refine Lt.Ok.neg (by omega) ?_
    rw [w64_succ (by omega)]
    exact ih (m - 1) _ E (by omega) ⟨rfl, i + 1, rfl, by omega⟩
  · have e1 : w64 ((b.len : Int) - 1) = ((x.length - 1 : Nat) : Int) := by rw [w64_id (by omega) (by omega)]; omega
    have e2 : w64 ((d.len : Int) - 1) = ((x.length - 1 : Nat) : Int) := by rw [w64_id (by omega) (by omega)]; omega
    rw [e1, e2]
    have i1 : x.length - 1 < (preL sx).length := by rw [preL_len]; omega
    have i2 : x.length - 1 < (preL sy).length := by rw [preL_len]; omega
    refine Lt.Ok.ck (by omega) (Lt.Ok.ld (hbD.ldI (i := x.length - 1) (j := 0) (n := (preL sx)[x.length - 1]) i1 rfl) (Lt.Ok.ck (by omega) (Lt.Ok.ld (hd.ldI (i := x.length - 1) (j := 0) (n := (preL sy)[x.length - 1]) i2 rfl) ?_)))
    refine Lt.Ok.ret ⟨g, ?_⟩
    rw [preL_get, preL_get, List.take_of_length_le (by omega), List.take_of_length_le (by omega), smI_perm px, smI_perm py, hsum]
    simp
theorem r22_ok {k : Nat} {H : Hp} {v w : Sl} {x y : List Int} (hx : SL H v x) (hy : SL H w y) (gx : Good x.length x) (gy : Good x.length y) (hh : ∀ t, hin t y ≤ hin t x) (hsum : smI x = smI y) :
    Lt.Ok (r22 (appA (k + 2)) v w H) fun r A => Gr H A ∧ r = (true, 0) := by
  unfold r22
  have l1 := gx.2.1; have l2 := gy.2.1; have l3 := gy.2.2.1; have l0 := gx.1
  refine Lt.Ok.bind (r63_ok hx hy (by omega) (by omega)) fun r A ⟨gA, hr⟩ => ?_
  refine Lt.Ok.pos (hr.2 ⟨gx, gy⟩) ?_
  refine Lt.Ok.bind (r66_ok (k := k) (hx.gr gA) (hy.gr gA) gx.2.2.2 gy.2.2.2 l3.symm (fun e => by rw [e] at l0; simp at l0) (by omega) hh hsum) fun q B ⟨gB, hq⟩ => ?_
  exact Lt.Ok.ret ⟨gA.trans gB, by rw [hq]⟩
theorem opened_ok {k : Nat} {H : Hp} {v : Sl} {l : List ByteArray} (hv : SL H v l) (hb : ∀ a ∈ l, a.size ≤ 4194304) :
    Lt.Ok (r10 (appA (k + 2)) v H) fun r A => r.2 = 0 ∧ Gr H A ∧ H.n ≤ r.1 ∧ ∃ pv C t, ChAt A r.1 pv C t ∧ C.Ok ∧ H.n ≤ pv.b := by
  unfold r10
  refine Lt.Ok.bind new_ok fun r A ⟨h0, g, hc, pv, t0, hA, hp⟩ => ?_
  obtain ⟨c, o⟩ := r
  dsimp only at h0 hc hA ⊢
  subst h0
  have hl := hv.len
  have hcap := hv.cap
  have hopn : v.opn = 0 ∨ v.opn = 1 := hv.opn
  generalize hN : (if 100 < (v.len : Int) then (100 : Int) else (v.len : Int)) = N
  obtain ⟨n, rfl⟩ : ∃ n : Nat, N = n := by
    split at hN
    · exact ⟨100, by omega⟩
    · exact ⟨v.len, by omega⟩
  have hn : n ≤ v.len ∧ n ≤ 100 := by split at hN <;> omega
  refine Lt.Ok.ck (by refine ⟨?_, hopn⟩; omega) ?_
  simp only [Int.toNat_zero, Int.toNat_natCast]
  have hcut : SL A (v.cut 1 0 n) (l.take n) := by
    have := (hv.gr g).cut (lo := 0) (hi := n) (by omega) (by omega)
    rw [List.drop_zero, Nat.sub_zero] at this
    exact this
  have hln : (l.take n).length = n := by rw [List.length_take]; omega
  have hcl := hcut.len
  generalize hw : v.cut 1 0 n = w at *
  have hwb : (l.take n) ≠ [] → w.b < H.n := fun hne => by
    have hvne : l ≠ [] := fun e => hne (by rw [e]; simp)
    have := SL.lt hv hvne
    have hnn := hv.nonnil hvne
    rw [← hw]
    simp [Sl.cut, hnn]
    exact this
  refine Lt.Ok.loop (L := fun K (i : Int) D => r10_l0 (appA (k + 2)) K c 0 w (w.len : Int) i D) (fun m i' D => ∃ (i : Nat) (pe : Sl) (E : Chs) (te : Nat), i' = (i : Int) ∧ i + m = n ∧ Gr H D ∧ ChAt D c pe E te ∧ E.Ok ∧ H.n ≤ pe.b ∧ SL D w (l.take n)) ?_ FUEL n 0 A (by unfold FUEL; omega) ⟨0, pv, Chs.new, t0, rfl, by omega, g, hA, Chs.new_ok, hp, hcut⟩
  rintro K m i' D ⟨i, pe, E, te, rfl, him, gD, hD, hE, hpe, hs⟩ ih
  rw [r10_l0]
  refine Lt.Ok.ite (fun hlt => ?_) fun hlt => ?_
  · have hil : i < (l.take n).length := by omega
    have hsz := hb _ (List.mem_of_mem_take (List.getElem_mem hil))
    have e0 : D.ldStr w.b (w.o + ((i : Int)).toNat * 1) = some (l.take n)[i] := SL.ldStr hs (i := i) (j := 0) hil rfl
    refine Lt.Ok.ck (by omega) (Lt.Ok.ld e0 ?_)
    refine Lt.Ok.bind (do_ok (k := k) hD hE hsz) fun rd G ⟨hr, pe', te', hG, sG⟩ => ?_
    dsimp only
    have gn := gD.1
    have gG := sG.gr gD hc hpe
    have hsG : SL G w (l.take n) := SL.sp hs fun hne => sG.e _ (by have := hwb hne; omega) (by have := hwb hne; omega) (by have := hwb hne; omega)
    rw [w64_succ (by omega)]
    exact ih (m - 1) _ G (by omega) ⟨i + 1, pe', _, te', rfl, by omega, gG, hG, Chs.do_ok hE _, by rcases sG.q with e | e <;> omega, hsG⟩
  · exact Lt.Ok.ret ⟨rfl, gD, hc, pe, E, te, hD, hE, hpe⟩
theorem words1_ok {k : Nat} {H : Hp} {v : Sl} {n : Int} (hv : SL H v [n]) (h0 : -9223372036854775808 ≤ n ∧ n ≤ 9223372036854775807) (hs : (itoaA n).size ≤ 1000) : Lt.Ok (r19 (appA (k + 1)) v H) fun r A => Gr H A ∧ r = ByteArray.mk #[32] ++ itoaA n := by
  unfold r19
  have hl := hv.len
  simp only [List.length_cons, List.length_nil] at hl
  obtain ⟨K, hK⟩ : ∃ K, FUEL = K + 2 := ⟨FUEL - 2, by unfold FUEL; omega⟩
  rw [hK, r19_l0]
  have z1 : (ByteArray.mk #[32]).size = 1 := rfl
  have z0 : (ByteArray.mk #[]).size = 0 := rfl
  refine Lt.Ok.pos (by omega) (Lt.Ok.ck (by omega) (Lt.Ok.ld (hv.ldI (i := 0) (j := 0) (n := n) (by simp) rfl) ?_))
  rw [app33]
  unfold itoaP
  rw [if_pos h0]
  simp only [Option.bind_some, AV.asStr]
  refine Lt.Ok.ck (by omega) (Lt.Ok.ck (by simp only [ByteArray.size_append]; omega) ?_)
  rw [show w64 ((0 : Int) + 1) = 1 by decide +kernel, r19_l0]
  refine Lt.Ok.neg (by omega) (Lt.Ok.ret ⟨.refl _, ?_⟩)
  rw [show (ByteArray.mk #[]) = ByteArray.empty from rfl, ByteArray.empty_append]
/-! ### names and numbers, as the reference reads them -/
theorem bget (w : ByteArray) (p : Nat) (h : p < w.size) : w[p]'h = w.data.toList[p]'(by rw [Array.length_toList]; exact h) := by
  rw [Array.getElem_toList]; rfl
theorem strCnt_cnt (s : ByteArray) : strCnt s 32 = (s.data.toList.count 32 : Nat) := by
  unfold strCnt
  rw [Lib.foldl_data, show ((0 : Nat) : Int) = 0 from rfl, Lib.count_foldl]
  unfold Lib.countByte
  simp
theorem strIdx_none {s : ByteArray} (h : strCnt s 32 = 0) : strIdx s 32 < 0 := by
  rw [strCnt_cnt] at h
  unfold strIdx
  split
  · rename_i i hi
    exfalso
    have h1 := List.find?_some hi
    have h2 := List.mem_range.1 (List.mem_of_find?_eq_some hi)
    have h3 : s[i]'h2 = 32 := by
      have : s[i]! = s[i]'h2 := getElem!_pos s i h2
      rw [this] at h1
      have := beq_iff_eq.1 h1
      rw [this]; rfl
    have h4 : (32 : UInt8) ∈ s.data.toList := by
      rw [← h3, bget s i h2]
      exact List.getElem_mem _
    have := List.count_pos_iff.2 h4
    omega
  · decide
theorem words_head (s : ByteArray) : ∃ r, words s = wordS s :: r := by
  obtain ⟨k, hk, _⟩ := strCnt_eq s 32
  unfold words wordS
  rw [hk]
  simp only [Int.toNat_natCast]
  cases k with
  | zero =>
    have := strIdx_none (s := s) (by rw [hk]; rfl)
    rw [if_neg (by omega)]
    exact ⟨[], rfl⟩
  | succ k =>
    unfold wordsN
    by_cases h : strIdx s 32 < 0
    · rw [if_pos h, if_neg (by omega)]; exact ⟨[], rfl⟩
    · rw [if_neg h, if_pos (by omega)]; exact ⟨_, rfl⟩
def b1 : ByteArray := ByteArray.mk #[49]
theorem parse_dS {x : ByteArray} {fs : List UInt8} {xs : List ByteArray} {p : List ByteArray × List Int} (h : parseS (100 :: fs) (x :: xs) = some p) : ∃ n, numS x = some n ∧ ∃ q, parseS fs xs = some q ∧ p = (q.1, n :: q.2) := by
  rw [parseS, if_neg (by decide)] at h
  obtain ⟨n, hn, h⟩ := Option.bind_eq_some_iff.1 h
  obtain ⟨q, hq, e⟩ := Option.map_eq_some_iff.1 h
  exact ⟨n, hn, q, hq, e.symm⟩
theorem readS_tail {form text : ByteArray} {p : List ByteArray × List Int} (h : readS form text = some p) : ∃ ws : List ByteArray, words text = wordS text :: ws ∧ ws.length = form.size ∧ parseS form.data.toList ws = some p := by
  obtain ⟨r, hr⟩ := words_head text
  unfold readS at h
  rw [hr] at h
  split at h
  · rename_i hc; exact ⟨r, hr, hc.1, h⟩
  · cases h
theorem three {α : Type} {l : List α} (h : l.length = 3) : ∃ a b c, l = [a, b, c] := by
  match l, h with
  | [a, b, c], _ => exact ⟨a, b, c, rfl⟩
inductive Did (s t : St) (text : ByteArray) : Prop
  | leaf (a x : ByteArray) (n : Int) (hw : words text = [wLeaf, a, x]) (hn : numS x = some n) (hs : (s.find a).isSome = false) (ht : t = { s with leaves := s.leaves ++ [(a, n)] })
  | give (a b x : ByteArray) (n : Int) (i j : Nat) (hw : words text = [wGive, a, b, x]) (hn : numS x = some n) (hi : s.find a = some i) (hj : s.find b = some j) (hij : i ≠ j) (h1 : 1 ≤ n) (h20 : n ≤ 20) (hd : 2 * n ≤ stock s i - stock s j) (ht : t = setStock (setStock s i (stock s i - n)) j (stock s j + n))
  | order (a : ByteArray) (i : Nat) (hw : words text = [wOrder, a]) (hi : s.find a = some i) (h0 : stock s i ≠ 0) (ho : s.orders.length ≠ 40) (ht : t = { setStock s i (stock s i - 1) with orders := s.orders ++ [(i : Int)] })
  | taste (x y : ByteArray) (i j : Int) (hw : words text = [wTaste, x, y]) (hi : numS x = some i) (hj : numS y = some j) (h1 : i ≤ 1) (h2 : j ≤ 1) (ht : t = if i = 0 then if j = 0 then { s with t0 := s.t0 + 1 } else { s with t1 := s.t1 + 1 } else if j = 0 then { s with t2 := s.t2 + 1 } else { s with t3 := s.t3 + 1 })
  | offer (x y : ByteArray) (i j : Int) (hw : words text = [wOffer, x, y]) (hi : numS x = some i) (hj : numS y = some j) (ht : t = { s with offers := s.offers ++ [(i, j)] })
theorem did_of {s t : St} {text w : ByteArray} (h : doS s text = (.inr t, w)) : Did s t text := by
  unfold doS at h
  split at h
  · rename_i hw
    have hw := strEq_iff.1 hw
    obtain ⟨_, p, hr, hf⟩ := act_ok h
    obtain ⟨ws, h1, h2, h3⟩ := readS_tail hr
    obtain ⟨a, x, rfl⟩ := two (show ws.length = 2 from h2)
    obtain ⟨_, q1, g1, rfl⟩ := parse_n (show parseS [110, 100] [a, x] = some p from h3)
    obtain ⟨n, hn, q2, g2, rfl⟩ := parse_dS g1
    obtain rfl := parse_nil g2
    have hf : leafS s a n = .inr t := hf
    unfold leafS at hf
    split at hf
    · cases hf
    rename_i hs
    split at hf
    · cases hf
    split at hf
    · cases hf
    injection hf with hf
    exact .leaf a x n (by rw [h1, hw]) hn (by simpa using hs) hf.symm
  split at h
  · rename_i hw
    have hw := strEq_iff.1 hw
    obtain ⟨_, p, hr, hf⟩ := act_ok h
    obtain ⟨ws, h1, h2, h3⟩ := readS_tail hr
    obtain ⟨a, b, x, rfl⟩ := three (show ws.length = 3 from h2)
    obtain ⟨_, q1, g1, rfl⟩ := parse_n (show parseS [110, 110, 100] [a, b, x] = some p from h3)
    obtain ⟨_, q2, g2, rfl⟩ := parse_n g1
    obtain ⟨n, hn, q3, g3, rfl⟩ := parse_dS g2
    obtain rfl := parse_nil g3
    have hf : giveS s a b n = .inr t := hf
    unfold giveS at hf
    split at hf
    · rename_i i j hi hj
      split at hf
      · rename_i hc
        injection hf with hf
        exact .give a b x n i j (by rw [h1, hw]) hn hi hj hc.1 hc.2.1 hc.2.2.1 hc.2.2.2 hf.symm
      · cases hf
    · cases hf
  split at h
  · rename_i hw
    have hw := strEq_iff.1 hw
    obtain ⟨_, p, hr, hf⟩ := act_ok h
    obtain ⟨ws, h1, h2, h3⟩ := readS_tail hr
    obtain ⟨a, rfl⟩ := List.length_eq_one_iff.1 (show ws.length = 1 from h2)
    obtain ⟨_, q1, g1, rfl⟩ := parse_n (show parseS [110] [a] = some p from h3)
    obtain rfl := parse_nil g1
    have hf : orderS s a = .inr t := hf
    unfold orderS at hf
    split at hf
    · cases hf
    · rename_i i hi
      split at hf
      · cases hf
      rename_i h0
      split at hf
      · cases hf
      rename_i h40
      injection hf with hf
      exact .order a i (by rw [h1, hw]) hi h0 h40 hf.symm
  split at h
  · rename_i hw
    have hw := strEq_iff.1 hw
    obtain ⟨_, p, hr, hf⟩ := act_ok h
    obtain ⟨ws, h1, h2, h3⟩ := readS_tail hr
    obtain ⟨x, y, rfl⟩ := two (show ws.length = 2 from h2)
    obtain ⟨i, hi, q1, g1, rfl⟩ := parse_dS (show parseS [100, 100] [x, y] = some p from h3)
    obtain ⟨j, hj, q2, g2, rfl⟩ := parse_dS g1
    obtain rfl := parse_nil g2
    have hf : tasteS s i j = .inr t := hf
    unfold tasteS at hf
    split at hf
    · cases hf
    rename_i hc
    split at hf
    · cases hf
    injection hf with hf
    exact .taste x y i j (by rw [h1, hw]) hi hj (by omega) (by omega) hf.symm
  split at h
  · rename_i hw
    have hw := strEq_iff.1 hw
    obtain ⟨_, p, hr, hf⟩ := act_ok h
    obtain ⟨ws, h1, h2, h3⟩ := readS_tail hr
    obtain ⟨x, y, rfl⟩ := two (show ws.length = 2 from h2)
    obtain ⟨i, hi, q1, g1, rfl⟩ := parse_dS (show parseS [100, 100] [x, y] = some p from h3)
    obtain ⟨j, hj, q2, g2, rfl⟩ := parse_dS g1
    obtain rfl := parse_nil g2
    have hf : offerS s i j = .inr t := hf
    unfold offerS at hf
    split at hf
    · cases hf
    split at hf
    · cases hf
    split at hf
    · cases hf
    injection hf with hf
    exact .offer x y i j (by rw [h1, hw]) hi hj hf.symm
  · cases h
theorem numS_atoi {x : ByteArray} {n : Int} (h : numS x = some n) : Lib.atoiAll x.data.toList = .ok n ∧ 0 ≤ n := by
  have h0 := numS_nonneg h
  unfold numS at h
  split at h
  · rename_i v hv
    split at h
    · injection h with h; subst h; exact ⟨hv, h0⟩
    · cases h
  · cases h
/-! ### doing the changes of a way, in plain Lean -/
theorem last_app (q x : Nat) (l : List Nat) : (q :: (l ++ [x])).getLast (by simp) = x := by
  have e : q :: (l ++ [x]) = (q :: l) ++ [x] := rfl
  simp only [e]
  exact List.getLast_concat
def Chs.Chain (C : Chs) : Nat → List Nat → Prop
  | _, [] => True
  | q, x :: l => 0 < x ∧ x < C.pages.length ∧ C.par x = q ∧ C.Chain x l
theorem Chs.chain_append {C : Chs} : ∀ (l : List Nat) (q x : Nat), C.Chain q l → 0 < x → x < C.pages.length → C.par x = (q :: l).getLast (by simp) → C.Chain q (l ++ [x])
  | [], q, x, _, h0, hx, hp => ⟨h0, hx, hp, trivial⟩
  | y :: l, q, x, h, h0, hx, hp => ⟨h.1, h.2.1, h.2.2.1, Chs.chain_append l y x h.2.2.2 h0 hx (by rw [hp, List.getLast_cons_cons])⟩
theorem Chs.ways_last' {C : Chs} (hC : C.Ok) {p : Nat} (hp : p < C.pages.length) : (0 :: C.way p).getLast (by simp) = p := by
  by_cases h0 : p = 0
  · subst h0; simp [Chs.way_zero hC]
  · simp only [Chs.way_step hC h0 hp]; exact last_app _ _ _
theorem Chs.way_chain {C : Chs} (hC : C.Ok) : ∀ (n p : Nat), p ≤ n → p < C.pages.length → C.Chain 0 (C.way p)
  | n, p, hn, hp => by
    by_cases h0 : p = 0
    · subst h0; rw [Chs.way_zero hC]; trivial
    · have hup := hC.up p (by omega) hp
      obtain ⟨n, rfl⟩ : ∃ n', n = n' + 1 := ⟨n - 1, by omega⟩
      rw [Chs.way_step hC h0 hp]
      exact Chs.chain_append _ _ _ (Chs.way_chain hC n _ (by omega) (by omega)) (by omega) hp (Chs.ways_last' hC (by omega)).symm
end Go.Lt.P10
