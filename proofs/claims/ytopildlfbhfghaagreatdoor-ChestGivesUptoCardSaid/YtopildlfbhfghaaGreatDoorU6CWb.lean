/- PLAIN LAWS OF WHAT IS COMPUTED, for the statement 'ChestGives'. Nothing is asked of the input. -/
import Derived.Test.YtopildlfbhfghaaGreatDoorU6CSl
import Derived.Test.YtopildlfbhfghaaGreatDoorU6CFl
import Derived.Test.YtopildlfbhfghaaGreatDoorU6CGw
set_option linter.unusedVariables false
set_option linter.unusedSimpArgs false
set_option maxHeartbeats 4000000
namespace Go.Lt.P10
/-! ### sums of numbers, hinges, and what is less uneven -/
def smI : List Int → Int
 | [] => 0
 | a :: l => a + smI l
theorem smI_append (a b : List Int) : smI (a ++ b) = smI a + smI b := by
 induction a with
 | nil => simp [smI]
 | cons x a ih => simp only [List.cons_append, smI, ih]; omega
theorem smI_perm {a b : List Int} (h : a.Perm b) : smI a = smI b := by
 induction h with
 | nil => rfl
 | cons x _ ih => simp only [smI, ih]
 | swap x y l => simp only [smI]; omega
 | trans _ _ h1 h2 => exact h1.trans h2
theorem two_perm : ∀ (l : List Int) (i j : Nat) (hi : i < l.length) (hj : j < l.length), i ≠ j → ∃ r : List Int, l.Perm (l[i] :: l[j] :: r) ∧ ∀ x y, ((l.set i x).set j y).Perm (x :: y :: r)
 | [], i, j, hi, _, _ => by simp at hi
 | a :: l, 0, 0, _, _, h => absurd rfl h
 | a :: l, 0, j + 1, hi, hj, _ => by
  have hj : j < l.length := by simpa using hj
  refine ⟨l.eraseIdx j, ?_, fun x y => ?_⟩
  ·simp only [List.getElem_cons_zero, List.getElem_cons_succ]
   exact .cons _ (one_perm l j hj).1
  ·simp only [List.set_cons_zero, List.set_cons_succ]
   exact .cons _ ((one_perm l j hj).2 y)
 | a :: l, i + 1, 0, hi, hj, _ => by
  have hi : i < l.length := by simpa using hi
  refine ⟨l.eraseIdx i, ?_, fun x y => ?_⟩
  ·simp only [List.getElem_cons_zero, List.getElem_cons_succ]
   exact (List.Perm.cons _ (one_perm l i hi).1).trans (.swap _ _ _)
  ·simp only [List.set_cons_zero, List.set_cons_succ]
   exact (List.Perm.cons _ ((one_perm l i hi).2 x)).trans (.swap _ _ _)
 | a :: l, i + 1, j + 1, hi, hj, h => by
  obtain ⟨r, h1, h2⟩ := two_perm l i j (by simpa using hi) (by simpa using hj) (by omega)
  refine ⟨a :: r, ?_, fun x y => ?_⟩
  ·simp only [List.getElem_cons_succ]
   exact (List.Perm.cons _ h1).trans ((List.Perm.swap _ _ _).trans (.cons _ (.swap _ _ _)))
  ·simp only [List.set_cons_succ]
   exact (List.Perm.cons _ (h2 x y)).trans ((List.Perm.swap _ _ _).trans (.cons _ (.swap _ _ _)))
where
 one_perm : ∀ (l : List Int) (i : Nat) (hi : i < l.length), l.Perm (l[i] :: l.eraseIdx i) ∧ ∀ x, (l.set i x).Perm (x :: l.eraseIdx i)
  | [], i, hi => by simp at hi
  | a :: l, 0, _ => ⟨.refl _, fun x => .refl _⟩
  | a :: l, i + 1, hi => by
   obtain ⟨h1, h2⟩ := one_perm l i (by simpa using hi)
   refine ⟨?_, fun x => ?_⟩
   ·simp only [List.getElem_cons_succ, List.eraseIdx_cons_succ]
    exact (List.Perm.cons _ h1).trans (.swap _ _ _)
   ·simp only [List.set_cons_succ, List.eraseIdx_cons_succ]
    exact (List.Perm.cons _ (h2 x)).trans (.swap _ _ _)
def gaveL (l : List Int) (i j : Nat) (m : Int) : List Int := (l.set i (l.getD i 0 - m)).set j (l.getD j 0 + m)
theorem gave_two {l : List Int} {i j : Nat} {m : Int} (hi : i < l.length) (hj : j < l.length) (h : i ≠ j) : ∃ r x y, l.getD i 0 = x ∧ l.getD j 0 = y ∧ l.Perm (x :: y :: r) ∧ (gaveL l i j m).Perm ((x - m) :: (y + m) :: r) := by
 obtain ⟨r, h1, h2⟩ := two_perm l i j hi hj h
 refine ⟨r, l[i], l[j], by simp [hi], by simp [hj], h1, ?_⟩
 unfold gaveL
 rw [show l.getD i 0 = l[i] by simp [hi], show l.getD j 0 = l[j] by simp [hj]]
 exact h2 _ _
theorem gave_sum {l : List Int} {i j : Nat} {m : Int} (hi : i < l.length) (hj : j < l.length) (h : i ≠ j) : smI (gaveL l i j m) = smI l := by
 obtain ⟨r, x, y, _, _, h1, h2⟩ := gave_two (m := m) hi hj h
 rw [smI_perm h1, smI_perm h2]
 simp only [smI]; omega
def dsI (a : Int) : List Int → Int
 | [] => 0
 | b :: l => max (a - b) (b - a) + dsI a l
def gapL : List Int → Int
 | [] => 0
 | a :: l => dsI a l + gapL l
theorem dsI_append (a : Int) (x y : List Int) : dsI a (x ++ y) = dsI a x + dsI a y := by
 induction x with
 | nil => simp [dsI]
 | cons b x ih => simp only [List.cons_append, dsI, ih]; omega
theorem dsI_perm {a b : List Int} (x : Int) (h : a.Perm b) : dsI x a = dsI x b := by
 induction h with
 | nil => rfl
 | cons y _ ih => simp only [dsI, ih]
 | swap y z l => simp only [dsI]; omega
 | trans _ _ h1 h2 => exact h1.trans h2
theorem gapL_perm {a b : List Int} (h : a.Perm b) : gapL a = gapL b := by
 induction h with
 | nil => rfl
 | cons y h ih => simp only [gapL, ih, dsI_perm y h]
 | swap y z l => simp only [gapL, dsI]; omega
 | trans _ _ h1 h2 => exact h1.trans h2
theorem gapL_snoc (l : List Int) (a : Int) : gapL (l ++ [a]) = gapL l + dsI a l := by
 have : (l ++ [a]).Perm (a :: l) := List.perm_append_comm
 rw [gapL_perm this]
 simp only [gapL]; omega
theorem dsI_nn (a : Int) (l : List Int) : 0 ≤ dsI a l := by
 induction l with
 | nil => exact Int.le_refl _
 | cons b l ih => simp only [dsI]; omega
theorem gapL_nn (l : List Int) : 0 ≤ gapL l := by
 induction l with
 | nil => exact Int.le_refl _
 | cons b l ih => have := dsI_nn b l; simp only [gapL]; omega
theorem dsI_gave {x y m : Int} (hm : 0 ≤ m) (hd : 2 * m ≤ x - y) (l : List Int) : dsI (x - m) l + dsI (y + m) l ≤ dsI x l + dsI y l := by
 induction l with
 | nil => simp [dsI]
 | cons b l ih => simp only [dsI]; omega
theorem gave_gap {l : List Int} {i j : Nat} {m : Int} (hi : i < l.length) (hj : j < l.length) (h : i ≠ j) (hm : 0 ≤ m) (hd : 2 * m ≤ l.getD i 0 - l.getD j 0) : gapL (gaveL l i j m) ≤ gapL l := by
 obtain ⟨r, x, y, e1, e2, h1, h2⟩ := gave_two (m := m) hi hj h
 rw [e1, e2] at hd
 rw [gapL_perm h1, gapL_perm h2]
 have := dsI_gave hm hd r
 simp only [gapL, dsI]; omega
/-! ### a give, by its words -/
def sp1 : ByteArray := ByteArray.mk #[32]
theorem spl_one {c : UInt8} : ∀ {l w : List UInt8}, spl c l = [w] → l = w
 | [], w, h => by
  injection h with h
 | x :: l, w, h => by
  rw [spl_cons] at h
  split at h
  ·injection h with _ h
   exact absurd h (spl_ne c l)
  ·cases hl : spl c l with
   | nil => exact absurd hl (spl_ne c l)
   | cons v r =>
    rw [hl] at h
    injection h with h1 h2
    subst h2
    rw [spl_one hl, h1]
theorem words_one {a b : ByteArray} (h : words a = [b]) : a = b := by
 have := words_spl a
 rw [h] at this
 exact Lb_inj (spl_one this.symm)
def giveLn (a b : ByteArray) (n : Int) : ByteArray := ((((ByteArray.mk #[103, 105, 118, 101, 32]) ++ a) ++ sp1) ++ b) ++ (sp1 ++ itoaA n)
theorem itoa_words {n : Int} (h0 : 0 ≤ n) (h1 : n < 12) : words (itoaA n) = [itoaA n] ∧ numS (itoaA n) = some n ∧ (itoaA n).size ≤ 2 := by
 obtain ⟨k, rfl⟩ := Int.eq_ofNat_of_zero_le h0
 have key : ∀ k : Nat, k < 12 → words (itoaA (k : Int)) = [itoaA (k : Int)] ∧ numS (itoaA (k : Int)) = some (k : Int) ∧ (itoaA (k : Int)).size ≤ 2 := by decide +kernel
 exact key k (by omega)
theorem words_give (a b : ByteArray) {n : Int} (h0 : 0 ≤ n) (h1 : n < 12) : words (giveLn a b n) = wGive :: (words a ++ (words b ++ [itoaA n])) := by
 have e : giveLn a b n = (((((wGive ++ sp1) ++ a) ++ sp1) ++ b) ++ sp1) ++ itoaA n := by
  unfold giveLn
  have : (ByteArray.mk #[103, 105, 118, 101, 32]) = wGive ++ sp1 := by decide +kernel
  rw [this, ← ByteArray.append_assoc]
 have w1 : words wGive = [wGive] := by decide +kernel
 have k1 := words_append ((((wGive ++ sp1) ++ a) ++ sp1) ++ b) (itoaA n)
 have k2 := words_append ((wGive ++ sp1) ++ a) b
 have k3 := words_append wGive a
 show words (giveLn a b n) = _
 rw [e]
 unfold sp1 at *
 rw [k1, k2, k3, w1, (itoa_words h0 h1).1]
 simp
theorem cons_ne {α : Type} {a b : α} {l m : List α} (h : a :: l = b :: m) : a = b := by injection h
theorem did_give {s t : St} {a b w : ByteArray} {n : Int} (h0 : 0 ≤ n) (h1 : n < 12) (h : doS s (giveLn a b n) = (.inr t, w)) :
  ∃ i j : Nat, s.find a = some i ∧ s.find b = some j ∧ i ≠ j ∧ 1 ≤ n ∧ 2 * n ≤ stock s i - stock s j ∧ t = setStock (setStock s i (stock s i - n)) j (stock s j + n) := by
 have hw := words_give a b h0 h1
 cases did_of h with
 | leaf _ _ _ hw' _ _ _ => rw [hw'] at hw; exact absurd (cons_ne hw) (by decide +kernel)
 | order _ _ hw' _ _ _ _ => rw [hw'] at hw; exact absurd (cons_ne hw) (by decide +kernel)
 | taste _ _ _ _ hw' _ _ _ _ _ => rw [hw'] at hw; exact absurd (cons_ne hw) (by decide +kernel)
 | offer _ _ _ _ hw' _ _ _ => rw [hw'] at hw; exact absurd (cons_ne hw) (by decide +kernel)
 | give a' b' x m i j hw' hn hi hj hij m1 m20 hd ht =>
  rw [hw'] at hw
  injection hw with _ hw
  have la := (words_len a).1
  have lb := (words_len b).1
  have hl := congrArg List.length hw
  simp only [List.length_cons, List.length_nil, List.length_append] at hl
  obtain ⟨p, hp⟩ := List.length_eq_one_iff.1 (show (words a).length = 1 by omega)
  obtain ⟨q, hq⟩ := List.length_eq_one_iff.1 (show (words b).length = 1 by omega)
  rw [hp, hq] at hw
  simp only [List.cons_append, List.nil_append, List.cons.injEq, and_true] at hw
  obtain ⟨rfl, rfl, rfl⟩ := hw
  rw [← words_one hp] at hi
  rw [← words_one hq] at hj
  rw [(itoa_words h0 h1).2.1] at hn
  injection hn with hn
  subst hn
  exact ⟨i, j, hi, hj, hij, m1, hd, ht⟩
theorem stks_getD {s : St} {i : Nat} (h : i < s.leaves.length) : (stksS s).getD i 0 = stock s i := by
 have : i < (stksS s).length := by rw [stks_len]; exact h
 rw [List.getD_eq_getElem?_getD, List.getElem?_eq_getElem this, stks_get this]; rfl
theorem stks_gave {s : St} {i j : Nat} (hi : i < s.leaves.length) (hj : j < s.leaves.length) (n : Int) : stksS (setStock (setStock s i (stock s i - n)) j (stock s j + n)) = gaveL (stksS s) i j n := by
 unfold gaveL
 rw [stks_set, stks_set, stks_getD hi, stks_getD hj]
theorem Chs.do_did {C : Chs} (hC : C.Ok) {line : ByteArray} (h : (C.do line).2.2 = 0) : ∃ w, doS (C.now C.at') line = (.inr ((C.do line).1.now (C.do line).1.at'), w) := by
 obtain ⟨h0, hp, hc, hold, _, _⟩ := Chs.do_then hC h
 have hD := Chs.do_ok hC line
 obtain ⟨w, hw⟩ := hD.did _ (by omega) hD.cur
 rw [hp, hc, (hold _ hC.cur).1] at hw
 exact ⟨w, hw⟩
theorem Lb_join (w : ByteArray) (l : List ByteArray) : Lb (joinA (w :: l) sp1) = Lb w ++ (l.map fun x => (32 : UInt8) :: Lb x).flatten := by
 unfold joinA Lb sp1
 simp only [List.map_cons, Lib.join_cons, Lib.joinTail, List.map_map]
 congr 1
theorem join_two (w x : ByteArray) : joinA [w, x] sp1 = w ++ (sp1 ++ x) := by
 apply Lb_inj
 rw [Lb_join, Lb_app, Lb_app]
 simp [sp1]
 rfl
theorem name_Lb {x : ByteArray} (h : isNameS x = true) : (∀ c ∈ Lb x, 97 ≤ c.toNat ∧ c.toNat ≤ 122) ∧ 1 ≤ x.size ∧ x.size ≤ 8 := by
 rw [isNameS_eq] at h
 simp only [Bool.and_eq_true, decide_eq_true_eq, List.all_eq_true] at h
 exact ⟨fun c hc => by have := h.2 c hc; unfold lowB at this; simpa using this, h.1⟩
theorem words_no {x : ByteArray} (h : (32 : UInt8) ∉ Lb x) : words x = [x] := map_Lb_inj (by rw [words_spl, spl_no h]; rfl)
/-! ### the state as a string -/
theorem asStrs_map : ∀ l : List ByteArray, asStrs (l.map .str) = some l
 | [] => rfl
 | x :: l => by simp only [List.map_cons, asStrs, asStrs_map l, Option.map_some]
def szs (l : List ByteArray) : Nat := (l.map (·.size)).sum
theorem szs_le {K : Nat} : ∀ {l : List ByteArray}, (∀ x ∈ l, x.size ≤ K) → szs l ≤ l.length * K
 | [], _ => by simp [szs]
 | x :: l, h => by
  have h1 := h x (by simp)
  have h2 := szs_le (l := l) fun y hy => h y (by simp [hy])
  simp only [szs, List.map_cons, List.sum_cons, List.length_cons, Nat.add_mul, Nat.one_mul] at h2 ⊢
  omega
theorem join_size (xs : List ByteArray) (sep : ByteArray) : (joinA xs sep).size ≤ szs xs + xs.length * sep.size := by
 have hj : (joinA xs sep).size = (Lib.join (xs.map (·.data.toList)) sep.data.toList).length := by simp [joinA, ByteArray.size]
 rw [hj]
 cases xs with
 | nil => simp [Lib.join_nil]
 | cons x r =>
  rw [List.map_cons, Lib.join_cons, List.length_append]
  have ht : ∀ l : List ByteArray, (Lib.joinTail sep.data.toList (l.map (·.data.toList))).length = szs l + l.length * sep.size := by
   intro l
   induction l with
   | nil => simp [Lib.joinTail, szs]
   | cons y l ih =>
    have e : (Lib.joinTail sep.data.toList ((y :: l).map (·.data.toList))).length = (sep.data.toList.length + y.data.toList.length) + (Lib.joinTail sep.data.toList (l.map (·.data.toList))).length := by
     simp [Lib.joinTail]; omega
    have e1 : sep.data.toList.length = sep.size := by rw [Array.length_toList]; rfl
    have e2 : y.data.toList.length = y.size := by rw [Array.length_toList]; rfl
    rw [e, ih, e1, e2]
    simp only [szs, List.map_cons, List.sum_cons, List.length_cons, Nat.add_mul, Nat.one_mul]
    omega
  have e2 : x.data.toList.length = x.size := by rw [Array.length_toList]; rfl
  rw [ht, e2]
  simp only [szs, List.map_cons, List.sum_cons, List.length_cons, Nat.add_mul, Nat.one_mul]
  omega
theorem app109 (k : Nat) (v : Sl) (sep : ByteArray) (H : Hp) : appA (k + 1) 109 [.sl v, .str sep] H = joinP v sep H := rfl
theorem app131 (k : Nat) (b : Nat) (s : ByteArray) (H : Hp) : appA (k + 1) 131 [.ptr b 0, .str s] H = wsP b s H := rfl
theorem app136 (k : Nat) (b : Nat) (H : Hp) : appA (k + 1) 136 [.ptr b 0] H = strP b H := rfl
theorem app132 (k : Nat) (b : Nat) (w : ByteArray) (v : Sl) (H : Hp) : callv (appA (k + 1)) (.fn 132 [] [.ptr b 0]) [.str w, .sl v] H = (r132 (appA k) w v b H).map fun p => (.tup [], p.2) := rfl
theorem join_ok {H : Hp} {v : Sl} {l : List ByteArray} (h : SL H v l) (sep : ByteArray) (hl : l.length ≤ 4194305) (hs : szs l + l.length * sep.size ≤ 140737488355328) : joinP v sep H = some (.str (joinA l sep), H) := by
 unfold joinP
 have e := h.lds
 have e1 : v.len * El.sz ByteArray = v.len := Nat.mul_one _
 rw [e1, enc_str] at e
 rw [e]
 simp only [Option.bind_some, asStrs_map]
 have := join_size l sep
 rw [if_pos ⟨by omega, by omega⟩]
def BldAt (n0 : Nat) (H : Hp) (b : Nat) (o : Option ByteArray) : Prop :=
 n0 ≤ b ∧ ((o = none ∧ H.get b = some (.bld none 0)) ∨ ∃ l q, o = some l ∧ n0 ≤ q ∧ b ≠ q ∧ H.get b = some (.bld (some q) l.size) ∧ H.get q = some (.buf l))
theorem BldAt.gr {n0 b : Nat} {H H' : Hp} {o : Option ByteArray} (h : BldAt n0 H b o) (g : Gr H H') : BldAt n0 H' b o := by
 obtain ⟨h0, h⟩ := h
 refine ⟨h0, ?_⟩
 rcases h with ⟨h1, h2⟩ | ⟨l, q, h1, h2, h3, h4, h5⟩
 ·exact .inl ⟨h1, by rw [g.2 _ (Hp.get_lt h2)]; exact h2⟩
 ·exact .inr ⟨l, q, h1, h2, h3, by rw [g.2 _ (Hp.get_lt h4)]; exact h4, by rw [g.2 _ (Hp.get_lt h5)]; exact h5⟩
def accO (o : Option ByteArray) (s : ByteArray) : ByteArray := match o with | none => s | some l => l ++ s
def szO (o : Option ByteArray) : Nat := match o with | none => 0 | some l => l.size
theorem szO_acc (o : Option ByteArray) (s : ByteArray) : (accO o s).size = szO o + s.size := by
 cases o with
 | none => simp [accO, szO]
 | some l => simp [accO, szO, ByteArray.size_append]
structure Lo (n0 : Nat) (H H' : Hp) : Prop where
 n : H.n ≤ H'.n
 e : ∀ c, c < n0 → H'.get c = H.get c
theorem Lo.refl (n0 : Nat) (H : Hp) : Lo n0 H H := ⟨Nat.le_refl _, fun _ _ => rfl⟩
theorem Lo.trans {n0 : Nat} {A B C : Hp} (h : Lo n0 A B) (k : Lo n0 B C) : Lo n0 A C := ⟨Nat.le_trans h.n k.n, fun c hc => (k.e c hc).trans (h.e c hc)⟩
theorem Lo.of_gr {n0 : Nat} {A B : Hp} (g : Gr A B) (h : n0 ≤ A.n) : Lo n0 A B := ⟨g.1, fun c hc => g.2 c (by omega)⟩
theorem ws_ok {n0 b : Nat} {H : Hp} {o : Option ByteArray} (h : BldAt n0 H b o) {s : ByteArray} (h1 : 1 ≤ s.size) (h2 : szO o + s.size ≤ 16777216) :
  ∃ A, wsP b s H = some (.tup [.int .i64 s.size, .niliface], A) ∧ BldAt n0 A b (some (accO o s)) ∧ Lo n0 H A := by
 obtain ⟨h0, h⟩ := h
 rcases h with ⟨rfl, hg⟩ | ⟨l, q, rfl, hq0, hbq, hg, hgq⟩
 ·have hb := Hp.get_lt hg
  refine ⟨_, by unfold wsP; rw [hg]; simp only; rw [if_pos ⟨h1, by simp only [szO] at h2; omega⟩], ⟨h0, .inr ⟨s, H.n, rfl, by omega, by omega, ?_, ?_⟩⟩, ⟨by simp, fun c hc => ?_⟩⟩
  ·exact Hp.get_set_same _ _ (by simp; omega)
  ·rw [Hp.get_set_other _ _ (by omega)]
   have : H.n = (H.set b .dead).n := by simp
   conv => lhs; arg 2; rw [this]
   exact Hp.get_push_new _ _
  ·rw [Hp.get_set_other _ _ (by omega), Hp.get_push_old _ _ (by simp; omega), Hp.get_set_other _ _ (by omega)]
 ·have hb := Hp.get_lt hg
  have hqn := Hp.get_lt hgq
  have hsz : (l ++ s).size = l.size + s.size := ByteArray.size_append ..
  refine ⟨_, by unfold wsP; rw [hg]; simp only; rw [hgq]; simp only; rw [if_pos ⟨trivial, h1, by simp only [szO] at h2; omega, hbq⟩], ⟨h0, .inr ⟨l ++ s, H.n, rfl, by omega, by omega, ?_, ?_⟩⟩, ⟨by simp, fun c hc => ?_⟩⟩
  ·rw [hsz]; exact Hp.get_set_same _ _ (by simp; omega)
  ·rw [Hp.get_set_other _ _ (by omega)]
   have : H.n = ((H.set q .dead).set b .dead).n := by simp
   conv => lhs; arg 2; rw [this]
   exact Hp.get_push_new _ _
  ·rw [Hp.get_set_other _ _ (by omega), Hp.get_push_old _ _ (by simp; omega), Hp.get_set_other _ _ (by omega), Hp.get_set_other _ _ (by omega)]
theorem str_ok {n0 b : Nat} {H : Hp} {l : ByteArray} (h : BldAt n0 H b (some l)) (h1 : 1 ≤ l.size) : ∃ A, strP b H = some (.str l, A) ∧ Lo n0 H A := by
 obtain ⟨h0, h⟩ := h
 rcases h with ⟨e, _⟩ | ⟨l', q, e, hq0, hbq, hg, hgq⟩
 ·cases e
 injection e with e
 subst e
 refine ⟨_, by unfold strP; rw [hg]; simp only; rw [hgq]; simp only; rw [if_pos ⟨trivial, h1, hbq⟩], ⟨by simp, fun c hc => ?_⟩⟩
 rw [Hp.get_set_other _ _ (by omega), Hp.get_set_other _ _ (by omega)]
def lineA (w : ByteArray) (l : List ByteArray) : ByteArray := joinA (w :: l) (ByteArray.mk #[32]) ++ ByteArray.mk #[10]
theorem line_size (w : ByteArray) (l : List ByteArray) : 1 ≤ (lineA w l).size ∧ (lineA w l).size ≤ w.size + szs l + l.length + 2 := by
 have h := join_size (w :: l) (ByteArray.mk #[32])
 have e : (ByteArray.mk #[32]).size = 1 := rfl
 have e2 : (ByteArray.mk #[10]).size = 1 := rfl
 unfold lineA
 rw [ByteArray.size_append, e2]
 rw [e] at h
 simp only [szs, List.map_cons, List.sum_cons, List.length_cons, Nat.mul_one] at h ⊢
 omega
theorem r132_ok {k n0 b : Nat} {H : Hp} {o : Option ByteArray} {v : Sl} {l : List ByteArray} (h : BldAt n0 H b o) (hn : n0 ≤ H.n) (hv : SL H v l) (w : ByteArray) (hl : l.length ≤ 1000) (hs : szO o + w.size + szs l + l.length + 2 ≤ 16777216) :
  Lt.Ok (r132 (appA (k + 1)) w v b H) fun _ A => BldAt n0 A b (some (accO o (lineA w l))) ∧ Lo n0 H A := by
 unfold r132
 have g0 := Gr.push H (.cells [.str w] false)
 have hg := Hp.get_push_new H (.cells [.str w] false)
 have hnn := Hp.n_push H (.cells [.str w] false)
 generalize H.push (.cells [.str w] false) = A at *
 have hvA := hv.gr g0
 have hlen := hvA.len
 have hlds := hvA.lds
 have e1 : v.len * El.sz ByteArray = v.len * 1 := rfl
 rw [e1] at hlds
 refine Lt.Ok.ld hlds (Lt.Ok.ck ?_ ?_)
 ·rw [enc_str, List.all_map, List.all_eq_true]; intro x _; rfl
 have key : Lt.Ok (A.app 1 ⟨false, H.n, 0, 1, 1, 0⟩ (encs l) v.len) fun r B => Gr A B ∧ SL B r (w :: l) := by
  unfold Hp.app
  rw [if_pos (by dsimp only; omega)]
  by_cases h0 : v.len = 0
  ·have : l = [] := List.length_eq_zero_iff.1 (by omega)
   subst this
   rw [if_pos (by dsimp only; omega), if_neg (by simp)]
   simp only [encs, List.flatMap_nil, Hp.sts, Option.map_some]
   exact Lt.Ok.ret ⟨.refl _, .of_get (ro := false) hg rfl (by simp [h0]) (by simp [h0]) (.inl rfl) rfl⟩
  ·rw [if_neg (by dsimp only; omega)]
   have hld : A.lds H.n (0 + 0) 1 = some [.str w] := by
    have := lds_cells (H := A) (b := H.n) (ro := false) [.str w] [] hg
    exact this
   have : A.lds (⟨false, H.n, 0, 1, 1, 0⟩ : Sl).b (⟨false, H.n, 0, 1, 1, 0⟩ : Sl).o ((⟨false, H.n, 0, 1, 1, 0⟩ : Sl).len * 1) = some [.str w] := hld
   rw [this]
   simp only [Option.bind_some, if_true]
   refine Lt.Ok.ret ⟨Gr.push _ _, .of_get (ro := false) (Hp.get_push_new _ _) rfl (by simp [hlen]; omega) (Nat.le_refl _) (.inr rfl) rfl⟩
 refine Lt.Ok.bind key fun r B ⟨gB, hr⟩ => ?_
 dsimp only
 rw [app109, join_ok hr _ (by simp; omega) (by
  have : (ByteArray.mk #[32]).size = 1 := rfl
  rw [this]
  simp only [szs, List.map_cons, List.sum_cons, List.length_cons]
  unfold szs at hs
  omega)]
 simp only [Option.bind_some, AV.asStr]
 have hls := line_size w l
 have hjs : (joinA (w :: l) (ByteArray.mk #[32])).size + (ByteArray.mk #[10]).size = (lineA w l).size := by unfold lineA; rw [ByteArray.size_append]
 refine Lt.Ok.ck (by omega) ?_
 rw [app131]
 obtain ⟨D, e, hD, lD⟩ := ws_ok (h.gr (g0.trans gB)) (s := lineA w l) hls.1 (by omega)
 have e' : wsP b (joinA (w :: l) (ByteArray.mk #[32]) ++ ByteArray.mk #[10]) B = some (.tup [.int .i64 (lineA w l).size, .niliface], D) := e
 rw [e']
 simp only [Option.bind_some, AV.asT, List.length_cons, List.length_nil]
 refine Lt.Ok.ck (by simp) ?_
 simp only [List.getElem?_cons_zero, List.getElem?_cons_succ, Option.bind_some, AV.asI, if_true]
 exact Lt.Ok.ret ⟨hD, (Lo.of_gr (g0.trans gB) hn).trans lD⟩
def nameOf (s : St) (i : Int) : ByteArray := (s.leaves.getD i.toNat (ByteArray.mk #[], 0)).1
theorem names_ok {H : Hp} {P : Nat → Prop} {b : Nat} {s : St} (h : StAt H P b s) {v : Sl} {l : List Int} (hv : SL H v l) (hl : l.length ≤ 1000) (hr : ∀ i ∈ l, 0 ≤ i ∧ i < s.leaves.length) :
  Lt.Ok (r133 b 0 v H) fun r A => Gr H A ∧ SL A r (l.map (nameOf s)) := by
 unfold r133
 obtain ⟨hb, v1, v2, v3, hg, h1, _, _⟩ := h
 have hlen := hv.len
 have h1len := h1.sl.len
 refine Lt.Ok.loop (L := fun K (t : Sl × Int) A => r133_l0 K b 0 t.1 v (v.len : Int) t.2 A) (fun m t A => ∃ i : Nat, t.2 = (i : Int) ∧ i + m = l.length ∧ Gr H A ∧ AccN H.n A t.1 ((l.take i).map (nameOf s))) ?_ FUEL l.length (⟨true, 0, 0, 0, 0, 0⟩, 0) H (by unfold FUEL; omega) ⟨0, rfl, by omega, .refl _, ⟨AccL.nilS, fun _ => rfl⟩⟩
 rintro K m ⟨r, i'⟩ A ⟨i, hi, him, g, ha⟩ ih
 dsimp only at *
 subst hi
 rw [r133_l0]
 refine Lt.Ok.ite (fun hlt => ?_) fun hlt => ?_
 ·have hil : i < l.length := by omega
  obtain ⟨k0, k1⟩ := hr l[i] (List.getElem_mem hil)
  obtain ⟨q, hq⟩ := Int.eq_ofNat_of_zero_le k0
  have hql : q < s.leaves.length := by omega
  refine Lt.Ok.ck (by omega) (Lt.Ok.ld ((hv.gr g).ldI (i := i) (j := 0) (n := (q : Int)) hil (by rw [hq]; rfl)) (Lt.Ok.ld (ldSl_get (n := v1) ((g.2 _ (Hp.get_lt hg)).trans hg) rfl) (Lt.Ok.ck (by omega) (Lt.Ok.ld (SL.ldStr (h1.sl.gr g) (i := q) (j := 0) hql rfl) ?_))))
  refine Lt.Ok.bind (AccN.push ha g.1 s.leaves[q].1 rfl rfl (by simp; omega)) fun r' B ⟨k1, k2, k3, k4⟩ => ?_
  dsimp only
  rw [w64_succ (by omega)]
  refine ih (m - 1) (r', _) B (by omega) ⟨i + 1, rfl, by omega, But.gr k2 ha.1 g, ?_⟩
  rw [List.take_succ_eq_append_getElem hil, List.map_append]
  have e : [l[i]].map (nameOf s) = [s.leaves[q].1] := by
   simp only [List.map_cons, List.map_nil, nameOf, hq, Int.toNat_natCast, List.getD_eq_getElem?_getD, List.getElem?_eq_getElem hql, Option.getD_some]
  rw [e]; exact k1
 ·have : i = l.length := by omega
  subst this
  rw [List.take_length] at ha
  exact Lt.Ok.ret ⟨g, ha.1.sl⟩
theorem numbers_ok {k : Nat} {H : Hp} {v : Sl} {l : List Int} (hv : SL H v l) (hl : l.length ≤ 1000) (hr : ∀ i ∈ l, -9223372036854775808 ≤ i ∧ i ≤ 9223372036854775807) :
  Lt.Ok (r134 (appA (k + 1)) v H) fun r A => Gr H A ∧ SL A r (l.map itoaA) := by
 unfold r134
 have hlen := hv.len
 refine Lt.Ok.loop (L := fun K (t : Sl × Int) A => r134_l0 (appA (k + 1)) K t.1 v (v.len : Int) t.2 A) (fun m t A => ∃ i : Nat, t.2 = (i : Int) ∧ i + m = l.length ∧ Gr H A ∧ AccN H.n A t.1 ((l.take i).map itoaA)) ?_ FUEL l.length (⟨true, 0, 0, 0, 0, 0⟩, 0) H (by unfold FUEL; omega) ⟨0, rfl, by omega, .refl _, ⟨AccL.nilS, fun _ => rfl⟩⟩
 rintro K m ⟨r, i'⟩ A ⟨i, hi, him, g, ha⟩ ih
 dsimp only at *
 subst hi
 rw [r134_l0]
 refine Lt.Ok.ite (fun hlt => ?_) fun hlt => ?_
 ·have hil : i < l.length := by omega
  refine Lt.Ok.ck (by omega) (Lt.Ok.ld ((hv.gr g).ldI (i := i) (j := 0) (n := l[i]) hil rfl) ?_)
  rw [app33]
  unfold itoaP
  rw [if_pos (hr _ (List.getElem_mem hil))]
  simp only [Option.bind_some, AV.asStr]
  refine Lt.Ok.bind (AccN.push ha g.1 (itoaA l[i]) rfl rfl (by simp; omega)) fun r' B ⟨k1, k2, k3, k4⟩ => ?_
  dsimp only
  rw [w64_succ (by omega)]
  refine ih (m - 1) (r', _) B (by omega) ⟨i + 1, rfl, by omega, But.gr k2 ha.1 g, ?_⟩
  rw [List.take_succ_eq_append_getElem hil, List.map_append]
  exact k1
 ·have : i = l.length := by omega
  subst this
  rw [List.take_length] at ha
  exact Lt.Ok.ret ⟨g, ha.1.sl⟩
theorem concat_ok {H : Hp} {b : Nat} {x y : Sl} {l1 l2 : List Int} (hg : H.get b = some (.cells [.sl x, .sl y] false)) (hx : SL H x l1) (hy : SL H y l2) (h0 : 1 ≤ l1.length + l2.length) (hl : l1.length + l2.length ≤ 1000) :
  Lt.Ok (r135 ⟨false, b, 0, 2, 2, 0⟩ H) fun r A => Gr H A ∧ SL A r (l1 ++ l2) := by
 unfold r135
 have e : ∃ k, FUEL = k + 3 := ⟨FUEL - 3, by unfold FUEL; omega⟩
 obtain ⟨k, e⟩ := e
 have hxl := hx.len; have hyl := hy.len
 have q1 : ∀ A : Hp, A.get b = some (.cells [.sl x, .sl y] false) → A.ldSl b (0 + (0 : Int).toNat * 1) = some x := fun A h => ldSl_get (n := x) h rfl
 have q2 : ∀ A : Hp, A.get b = some (.cells [.sl x, .sl y] false) → A.ldSl b (0 + (1 : Int).toNat * 1) = some y := fun A h => ldSl_get (n := y) h rfl
 rw [e, r135_l0]
 dsimp only
 refine Lt.Ok.pos (by first | omega | (dsimp only; omega)) (Lt.Ok.ck (by first | omega | (dsimp only; omega)) (Lt.Ok.ld (q1 H hg) ?_))
 rw [w64_id (n := 0 + (x.len : Int)) (by omega) (by omega), w64_id (n := (0 : Int) + 1) (by omega) (by omega)]
 refine Lt.Ok.neg (by omega) ?_
 rw [r135_l0]
 refine Lt.Ok.pos (by first | omega | (dsimp only; omega)) (Lt.Ok.ck (by first | omega | (dsimp only; omega)) (Lt.Ok.ld (q2 H hg) ?_))
 rw [w64_id (n := 0 + (x.len : Int) + (y.len : Int)) (by omega) (by omega), w64_id (n := (0 : Int) + 1 + 1) (by omega) (by omega)]
 refine Lt.Ok.neg (by omega) ?_
 rw [r135_l0]
 refine Lt.Ok.neg (by first | omega | (dsimp only; omega)) ?_
 have hN : 0 + (x.len : Int) + (y.len : Int) = ((l1.length + l2.length : Nat) : Int) := by omega
 rw [hN]
 generalize hNN : l1.length + l2.length = N at *
 have hgrow : Lt.Ok (r186 ⟨true, 0, 0, 0, 0, 0⟩ (N : Int) H) fun r A => r = ⟨false, H.n, 0, 0, N, 1⟩ ∧ A = H.push (.cells (zerosA [.int .i64 0] (N * 1)) false) := by
  unfold r186
  have e1 : w64 ((N : Int) - w64 (((0 : Nat) : Int) - ((0 : Nat) : Int))) = (N : Int) := by rw [w64_id (n := ((0 : Nat) : Int) - ((0 : Nat) : Int)) (by omega) (by omega), w64_id (by omega) (by omega)]; omega
  dsimp only
  rw [e1]
  simp only [Int.toNat_natCast]
  exact Lt.Ok.neg (by omega) (Lt.Ok.ck trivial (Lt.Ok.pos (by omega) (Lt.Ok.ck trivial (Lt.Ok.ck (by simp) (Lt.Ok.ck rfl (Lt.Ok.ck (by omega) (Lt.Ok.ck (by simp) (Lt.Ok.lt (Lt.Ok.ret ⟨rfl, rfl⟩)))))))))
 refine Lt.Ok.bind hgrow fun r A ⟨er, eA⟩ => ?_
 subst er
 have g0 : Gr H A := by rw [eA]; exact Gr.push _ _
 have hbn := Hp.get_lt hg
 have hAg : A.get H.n = some (.cells (zerosA [.int .i64 0] (N * 1)) false) := by rw [eA]; exact Hp.get_push_new _ _
 have hAb := (g0.2 b hbn).trans hg
 have hAn : H.n < A.n := Hp.get_lt hAg
 rw [e, r135_l1]
 dsimp only
 have hz : (zerosA [.int .i64 0] (N * 1)).length = N := by rw [zerosA_len]; omega
 generalize zerosA [AV.int .i64 0] (N * 1) = zs at *
 have e1 : x.len * El.sz Int = x.len * 1 := rfl
 have e2 : y.len * El.sz Int = y.len * 1 := rfl
 have one : ∀ l : List Int, (encs l).all AV.one = true := fun l => by
  rw [List.all_eq_true]
  intro z hz
  have : ∀ l : List Int, ∀ z ∈ encs l, AV.one z = true := by
   intro l
   induction l with
   | nil => intro z hz; cases hz
   | cons a l ih =>
    intro z hz
    rw [encs_cons] at hz
    rcases List.mem_append.1 hz with hz | hz
    ·have : z = .int .i64 a := by simpa [El.enc] using hz
     subst this; rfl
    ·exact ih z hz
  exact this l z hz
 have el : ∀ l : List Int, (encs l).length = l.length := fun l => by rw [encs_len]; exact Nat.mul_one _
 refine Lt.Ok.pos (by first | omega | (dsimp only; omega)) (Lt.Ok.ck (by first | omega | (dsimp only; omega)) (Lt.Ok.ld (q1 A hAb) (Lt.Ok.ld (by have := (hx.gr g0).lds; rw [e1] at this; exact this) (Lt.Ok.ck (one _) ?_))))
 obtain ⟨B, b1, b2, b3, b4⟩ := sts_blk (encs l1) 0 A zs hAg (by rw [el]; omega)
 have hap : A.app 1 ⟨false, H.n, 0, 0, N, 1⟩ (encs l1) x.len = some (⟨false, H.n, 0, x.len, N, 1⟩, B) := by
  unfold Hp.app
  rw [if_pos (by first | omega | (dsimp only; omega)), if_pos (by first | omega | (dsimp only; omega)), if_neg (by simp)]
  dsimp only
  rw [Nat.zero_mul, Nat.zero_add, b1]
  simp
 rw [hap]
 simp only [Option.bind_some]
 rw [w64_id (n := (0 : Int) + 1) (by omega) (by omega), r135_l1]
 have gB : Gr H B := ⟨by rw [b3]; omega, fun c hc => by rw [b4 c (by omega)]; exact g0.2 c hc⟩
 have hBb := (gB.2 b hbn).trans hg
 refine Lt.Ok.pos (by first | omega | (dsimp only; omega)) (Lt.Ok.ck (by first | omega | (dsimp only; omega)) (Lt.Ok.ld (q2 B hBb) (Lt.Ok.ld (by have := (hy.gr gB).lds; rw [e2] at this; exact this) (Lt.Ok.ck (one _) ?_))))
 obtain ⟨D, d1, d2, d3, d4⟩ := sts_blk (encs l2) l1.length B _ b2 (by simp only [List.take_zero, List.nil_append, List.length_append, List.length_drop, el, hz, Nat.zero_add]; omega)
 have hap : B.app 1 ⟨false, H.n, 0, x.len, N, 1⟩ (encs l2) y.len = some (⟨false, H.n, 0, N, N, 1⟩, D) := by
  unfold Hp.app
  rw [if_pos (by first | omega | (dsimp only; omega)), if_pos (by first | omega | (dsimp only; omega)), if_neg (by simp)]
  dsimp only
  rw [Nat.zero_add, Nat.mul_one, hxl, d1]
  simp only [Option.map_some]
  congr 3
  omega
 rw [hap]
 simp only [Option.bind_some]
 rw [w64_id (n := (0 : Int) + 1 + 1) (by omega) (by omega), r135_l1]
 refine Lt.Ok.neg (by first | omega | (dsimp only; omega)) (Lt.Ok.ret ⟨⟨by rw [d3, b3]; omega, fun c hc => by rw [d4 c (by omega)]; exact gB.2 c hc⟩, ?_⟩)
 refine .of_get (ro := false) (v := ⟨false, H.n, 0, N, N, 1⟩) (l := l1 ++ l2) ?_ rfl (by simp [hNN]) (Nat.le_refl _) (.inr rfl) rfl
 rw [d2]
 congr 2
 rw [encs_append]
 have t1 : (List.take 0 zs ++ encs l1 ++ List.drop (0 + (encs l1).length) zs).take l1.length = encs l1 := by
  simp only [List.take_zero, List.nil_append]
  rw [List.take_append_of_le_length (by rw [el]; exact Nat.le_refl _), List.take_of_length_le (by rw [el]; exact Nat.le_refl _)]
 have t2 : (List.take 0 zs ++ encs l1 ++ List.drop (0 + (encs l1).length) zs).drop (l1.length + (encs l2).length) = [] := by
  apply List.drop_eq_nil_of_le
  simp only [List.take_zero, List.nil_append, List.length_append, List.length_drop, el, hz, Nat.zero_add]
  omega
 rw [t1, t2, List.append_nil]
/-! ### text -/
def wLeafSp : ByteArray := ByteArray.mk #[108, 101, 97, 102, 32]
def wOrders : ByteArray := ByteArray.mk #[111, 114, 100, 101, 114, 115]
def wTastes : ByteArray := ByteArray.mk #[116, 97, 115, 116, 101, 115]
def wOffers : ByteArray := ByteArray.mk #[111, 102, 102, 101, 114, 115]
def leafLn (l : ByteArray × Int) : ByteArray := (((wLeafSp ++ l.1) ++ ByteArray.mk #[32]) ++ itoaA l.2) ++ ByteArray.mk #[10]
def offW (p : Int × Int) : ByteArray := (itoaA p.1 ++ ByteArray.mk #[44]) ++ itoaA p.2
def leavesO (l : List (ByteArray × Int)) : Option ByteArray := l.foldl (fun o x => some (accO o (leafLn x))) none
def textS (s : St) : ByteArray :=
 accO (some (accO (some (accO (leavesO s.leaves) (lineA wOrders (s.orders.map (nameOf s))))) (lineA wTastes ([s.t0, s.t1, s.t2, s.t3].map itoaA)))) (lineA wOffers (s.offers.map offW))
theorem itoa_small {n : Int} (h0 : 0 ≤ n) (h1 : n ≤ 40) : (itoaA n).size ≤ 4 := by
 obtain ⟨k, rfl⟩ := Int.eq_ofNat_of_zero_le h0
 have key : ∀ k : Nat, k < 41 → (itoaA (k : Int)).size ≤ 4 := by decide +kernel
 exact key k (by omega)
theorem leafLn_size {l : ByteArray × Int} (h1 : l.1.size ≤ 8) (h2 : 0 ≤ l.2 ∧ l.2 ≤ 20) : 1 ≤ (leafLn l).size ∧ (leafLn l).size ≤ 19 := by
 have := itoa_small h2.1 (by omega)
 unfold leafLn wLeafSp
 simp only [ByteArray.size_append]
 have e1 : (ByteArray.mk #[108, 101, 97, 102, 32]).size = 5 := rfl
 have e2 : (ByteArray.mk #[32]).size = 1 := rfl
 have e3 : (ByteArray.mk #[10]).size = 1 := rfl
 omega
theorem leavesO_size : ∀ (l : List (ByteArray × Int)), (∀ x ∈ l, x.1.size ≤ 8 ∧ 0 ≤ x.2 ∧ x.2 ≤ 20) → szO (leavesO l) ≤ 19 * l.length := by
 intro l
 have key : ∀ (l : List (ByteArray × Int)) (o : Option ByteArray), (∀ x ∈ l, x.1.size ≤ 8 ∧ 0 ≤ x.2 ∧ x.2 ≤ 20) → szO (l.foldl (fun o x => some (accO o (leafLn x))) o) ≤ szO o + 19 * l.length := by
  intro l
  induction l with
  | nil => intro o _; simp
  | cons x l ih =>
   intro o h
   have h1 := ih (some (accO o (leafLn x))) fun y hy => h y (by simp [hy])
   have h2 := leafLn_size (h x (by simp)).1 (h x (by simp)).2
   have h3 : szO (some (accO o (leafLn x))) = szO o + (leafLn x).size := szO_acc o _
   rw [h3] at h1
   simp only [List.foldl_cons, List.length_cons]
   omega
 intro h
 have := key l none h
 have e : szO none = 0 := rfl
 unfold leavesO
 omega
theorem szs_names {s : St} (hs : s.Ok) : szs (s.orders.map (nameOf s)) ≤ 40 * 8 := by
 have h := szs_le (K := 8) (l := s.orders.map (nameOf s)) fun x hx => by
  obtain ⟨i, hi, rfl⟩ := List.mem_map.1 hx
  obtain ⟨h0, h1⟩ := hs.ol i hi
  unfold nameOf
  have hlt : i.toNat < s.leaves.length := by omega
  rw [List.getD_eq_getElem?_getD, List.getElem?_eq_getElem hlt]
  exact hs.nm _ (List.getElem_mem hlt)
 have := hs.o40
 rw [List.length_map] at h
 omega
theorem szs_tastes {s : St} (hs : s.Ok) : szs ([s.t0, s.t1, s.t2, s.t3].map itoaA) ≤ 16 := by
 obtain ⟨a0, a1, a2, a3, a4⟩ := hs.ts
 exact szs_le (K := 4) (l := [s.t0, s.t1, s.t2, s.t3].map itoaA) fun x hx => by
  obtain ⟨i, hi, rfl⟩ := List.mem_map.1 hx
  simp only [List.mem_cons, List.not_mem_nil, or_false] at hi
  rcases hi with rfl | rfl | rfl | rfl <;> exact itoa_small (by omega) (by omega)
theorem offW_size {p : Int × Int} (h : 0 ≤ p.1 ∧ p.1 ≤ 30 ∧ 0 ≤ p.2 ∧ p.2 ≤ 30) : (offW p).size ≤ 9 := by
 have h1 := itoa_small h.1 (by omega)
 have h2 := itoa_small h.2.2.1 (by omega)
 unfold offW
 simp only [ByteArray.size_append]
 have e2 : (ByteArray.mk #[44]).size = 1 := rfl
 omega
theorem r80_l1_ok {k n0 bb b o : Nat} {H A : Hp} {s : St} {v3 : Sl} {o2 : ByteArray} (hs : s.Ok) (h3 : SL H v3 s.offers) (hn : n0 = H.n) (lA : Lo n0 H A) (hB : BldAt n0 A bb (some o2)) (h2 : o2.size ≤ 100000) :
  Lt.Ok (r80_l1 (appA (k + 2)) FUEL bb bb ⟨true, 0, 0, 0, 0, 0⟩ v3 (v3.len : Int) 0 A) fun r B => Gr H B ∧ r = accO (some o2) (lineA wOffers (s.offers.map offW)) := by
 subst hn
 have hl := h3.len
 have h8 := hs.f8
 refine Lt.Ok.loop (L := fun K (t : Sl × Int) D => r80_l1 (appA (k + 2)) K bb bb t.1 v3 (v3.len : Int) t.2 D) (fun m t D => ∃ i : Nat, t.2 = (i : Int) ∧ i + m = s.offers.length ∧ Gr A D ∧ AccN A.n D t.1 ((s.offers.take i).map offW)) ?_ FUEL s.offers.length (⟨true, 0, 0, 0, 0, 0⟩, 0) A (by unfold FUEL; omega) ⟨0, rfl, by omega, .refl _, ⟨AccL.nilS, fun _ => rfl⟩⟩
 rintro K m ⟨r, i'⟩ D ⟨i, hi, him, g, ha⟩ ih
 dsimp only at *
 subst hi
 have lD : Lo H.n H D := lA.trans (.of_gr g lA.n)
 have hD := hB.gr g
 have h3D : SL D v3 s.offers := SL.sp h3 fun hne => lD.e _ (SL.lt h3 hne)
 rw [r80_l1]
 refine Lt.Ok.ite (fun hlt => ?_) fun hlt => ?_
 ·have hil : i < s.offers.length := by omega
  have hx := hs.fl _ (List.getElem_mem hil)
  have e0 : D.ldI .i64 v3.b (v3.o + ((i : Int)).toNat * 2) = some s.offers[i].1 := h3D.ldI (i := i) (j := 0) hil rfl
  have e1 : D.ldI .i64 v3.b ((v3.o + ((i : Int)).toNat * 2) + 1) = some s.offers[i].2 := h3D.ldI (i := i) (j := 1) hil rfl
  refine Lt.Ok.ck (by omega) (Lt.Ok.ld e0 (Lt.Ok.ld e1 ?_))
  obtain ⟨F, q1, q2, q3, q4⟩ := sts_blk [.int .i64 s.offers[i].1, .int .i64 s.offers[i].2] 0 (D.push (.cells [.int .i64 0, .int .i64 0] false)) _ (Hp.get_push_new _ _) (by simp)
  have q2' : F.get D.n = some (.cells [.int .i64 s.offers[i].1, .int .i64 s.offers[i].2] false) := by rw [q2]; simp
  have gF : Gr D F := ⟨by rw [q3]; simp, fun c hc => by rw [q4 c (by omega), Hp.get_push_old _ _ hc]⟩
  refine Lt.Ok.ld q1 (Lt.Ok.ld (ldI_get q2' rfl) ?_)
  rw [app33]
  unfold itoaP
  rw [if_pos (by omega)]
  simp only [Option.bind_some, AV.asStr]
  have z1 := itoa_small hx.1 (by omega)
  have z2 := itoa_small hx.2.2.1 (by omega)
  have z3 : (ByteArray.mk #[44]).size = 1 := rfl
  refine Lt.Ok.ck (by omega) (Lt.Ok.ld (ldI_get q2' rfl) ?_)
  rw [app33]
  unfold itoaP
  rw [if_pos (by omega)]
  simp only [Option.bind_some, AV.asStr]
  refine Lt.Ok.ck (by rw [ByteArray.size_append]; omega) ?_
  have haF := ha.gr gF
  refine Lt.Ok.bind (AccN.push haF (g.trans gF).1 (offW s.offers[i]) rfl rfl (by simp; omega)) fun r' B ⟨k1, k2, k3, k4⟩ => ?_
  dsimp only
  refine Lt.Ok.ck (ldI_get q2' rfl) ?_
  rw [w64_succ (by omega)]
  refine ih (m - 1) (r', _) B (by omega) ⟨i + 1, rfl, by omega, But.gr k2 haF.1 (g.trans gF), ?_⟩
  rw [List.take_succ_eq_append_getElem hil, List.map_append]; exact k1
 ·have : i = s.offers.length := by omega
  subst this
  rw [List.take_length] at ha
  rw [app132]
  have hsz : szs (s.offers.map offW) ≤ 8 * 9 := by
   have := szs_le (K := 9) (l := s.offers.map offW) fun x hx => by
    obtain ⟨p, hp, rfl⟩ := List.mem_map.1 hx
    exact offW_size (hs.fl p hp)
   rw [List.length_map] at this
   omega
  have hw : wOffers.size = 6 := rfl
  refine Lt.Ok.bind (P := fun _ B => BldAt H.n B bb (some (accO (some o2) (lineA wOffers (s.offers.map offW)))) ∧ Lo H.n D B) ?_ fun _ B ⟨hB, lB⟩ => ?_
  ·obtain ⟨u, B, e1, h1, h2'⟩ := r132_ok (k := k) hD lD.n ha.1.sl wOffers (by rw [List.length_map]; omega) (by simp only [szO]; rw [List.length_map]; omega)
   have e1 : r132 (appA (k + 1)) wOffers r bb D = some (u, B) := e1
   show Lt.Ok ((r132 (appA (k + 1)) wOffers r bb D).map _) _
   rw [e1]
   exact Lt.Ok.ret ⟨h1, h2'⟩
  ·rw [app136]
   obtain ⟨E, e1, lE⟩ := str_ok hB (by have := line_size wOffers (s.offers.map offW); simp only [accO, ByteArray.size_append]; omega)
   dsimp only
   rw [e1]
   simp only [Option.bind_some, AV.asStr]
   have := (lD.trans lB).trans lE
   exact Lt.Ok.ret ⟨⟨this.n, this.e⟩, rfl⟩
theorem text_ok {k : Nat} {H : Hp} {P : Nat → Prop} {b : Nat} {s : St} (h : StAt H P b s) (hs : s.Ok) : Lt.Ok (r80 (appA (k + 2)) b 0 H) fun r A => Gr H A ∧ r = textS s := by
 unfold r80
 refine Lt.Ok.lt ?_
 have hst := h
 obtain ⟨hb, v1, v2, v3, hg, h1, h2, h3⟩ := h
 have hbn := Hp.get_lt hg
 have g0 := Gr.push H (.bld none 0)
 have hB0 : BldAt H.n (H.push (.bld none 0)) H.n none := ⟨Nat.le_refl _, .inl ⟨rfl, Hp.get_push_new _ _⟩⟩
 have hn0 := Hp.n_push H (.bld none 0)
 generalize H.push (.bld none 0) = A0 at *
 have h6 := hs.l6
 have hl1 := h1.sl.len
 refine Lt.Ok.ld (ldSl_get (n := v1) ((g0.2 _ hbn).trans hg) rfl) ?_
 have hall : ∀ x ∈ s.leaves, x.1.size ≤ 8 ∧ 0 ≤ x.2 ∧ x.2 ≤ 20 := fun x hx => ⟨hs.nm x hx, hs.st x hx⟩
 refine Lt.Ok.loop (L := fun K (i : Int) D => r80_l0 (appA (k + 2)) K b 0 H.n v1 (v1.len : Int) i D) (fun m i' D => ∃ i : Nat, i' = (i : Int) ∧ i + m = s.leaves.length ∧ Lo H.n H D ∧ BldAt H.n D H.n (leavesO (s.leaves.take i))) ?_ FUEL s.leaves.length 0 A0 (by unfold FUEL; omega) ⟨0, rfl, by omega, .of_gr g0 (Nat.le_refl _), hB0⟩
 rintro K m i' D ⟨i, rfl, him, lD, hD⟩ ih
 have h1D : SL D v1 s.leaves := SL.sp h1.sl fun hne => lD.e _ (SL.lt h1.sl hne)
 rw [r80_l0]
 refine Lt.Ok.ite (fun hlt => ?_) fun hlt => ?_
 ·have hil : i < s.leaves.length := by omega
  have hx := hall _ (List.getElem_mem hil)
  have e0 : D.ldStr v1.b (v1.o + ((i : Int)).toNat * 2) = some s.leaves[i].1 := SL.ldStr h1D (i := i) (j := 0) hil rfl
  have e1 : D.ldI .i64 v1.b ((v1.o + ((i : Int)).toNat * 2) + 1) = some s.leaves[i].2 := h1D.ldI (i := i) (j := 1) hil rfl
  refine Lt.Ok.ck (by omega) (Lt.Ok.ld e0 (Lt.Ok.ld e1 ?_))
  obtain ⟨F, q1, q2, q3, q4⟩ := sts_blk [.str s.leaves[i].1, .int .i64 s.leaves[i].2] 0 (D.push (.cells [.str (ByteArray.mk #[]), .int .i64 0] false)) _ (Hp.get_push_new _ _) (by simp)
  have q2' : F.get D.n = some (.cells [.str s.leaves[i].1, .int .i64 s.leaves[i].2] false) := by rw [q2]; simp
  have gF : Gr D F := ⟨by rw [q3]; simp, fun c hc => by rw [q4 c (by omega), Hp.get_push_old _ _ hc]⟩
  have q5 : F.ldStr D.n (0 + 0) = some s.leaves[i].1 := by simp [Hp.ldStr, ld_of_get q2', AV.asStr]
  have z0 := itoa_small hx.2.1 (by omega)
  have z1 : (ByteArray.mk #[108, 101, 97, 102, 32]).size = 5 := rfl
  have z2 : (ByteArray.mk #[32]).size = 1 := rfl
  have z3 : (ByteArray.mk #[10]).size = 1 := rfl
  refine Lt.Ok.ld q1 (Lt.Ok.ld q5 (Lt.Ok.ck (by omega) (Lt.Ok.ck (by simp only [ByteArray.size_append]; omega) (Lt.Ok.ld (ldI_get q2' rfl) ?_))))
  rw [app33]
  unfold itoaP
  rw [if_pos (by omega)]
  simp only [Option.bind_some, AV.asStr]
  refine Lt.Ok.ck (by simp only [ByteArray.size_append]; omega) (Lt.Ok.ck (by simp only [ByteArray.size_append]; omega) ?_)
  rw [app131]
  have hsz := leavesO_size (s.leaves.take i) fun x hx => hall x (List.mem_of_mem_take hx)
  rw [List.length_take] at hsz
  have hln := leafLn_size hx.1 hx.2
  obtain ⟨E, e2, hE, lE⟩ := ws_ok (hD.gr gF) (s := leafLn s.leaves[i]) hln.1 (by omega)
  have e2 : wsP H.n (((((ByteArray.mk #[108, 101, 97, 102, 32]) ++ s.leaves[i].1) ++ (ByteArray.mk #[32])) ++ itoaA s.leaves[i].2) ++ (ByteArray.mk #[10])) F = some (.tup [.int .i64 (leafLn s.leaves[i]).size, .niliface], E) := e2
  rw [e2]
  simp only [Option.bind_some, AV.asT, List.length_cons, List.length_nil]
  refine Lt.Ok.ck (by simp) ?_
  simp only [List.getElem?_cons_zero, List.getElem?_cons_succ, Option.bind_some, AV.asI, if_true]
  refine Lt.Ok.ck q5 ?_
  rw [w64_succ (by omega)]
  refine ih (m - 1) _ E (by omega) ⟨i + 1, rfl, by omega, (lD.trans (.of_gr gF lD.n)).trans lE, ?_⟩
  have e3 : leavesO (s.leaves.take (i + 1)) = some (accO (leavesO (s.leaves.take i)) (leafLn s.leaves[i])) := by
   unfold leavesO
   rw [List.take_succ_eq_append_getElem hil, List.foldl_append]; rfl
  rw [e3]; exact hE
 ·have : i = s.leaves.length := by omega
  subst this
  rw [List.take_length] at hD
  have hgD : D.get b = some (.cells (stCells v1 v2 v3 s) false) := (lD.e _ hbn).trans hg
  have h2D : SL D v2 s.orders := SL.sp h2.sl fun hne => lD.e _ (SL.lt h2.sl hne)
  have hsD : StAt D P b s := hst.mono (fun c _ hc => lD.e c hc) fun _ _ hc => hc
  refine Lt.Ok.ld (ldSl_get (n := v2) hgD rfl) (Lt.Ok.bind (names_ok hsD h2D (by have := hs.o40; omega) hs.ol) fun r2 E ⟨gE, hr2⟩ => ?_)
  have hDE := hD.gr gE
  have lE := lD.trans (.of_gr gE lD.n)
  have sz0 := leavesO_size s.leaves hall
  have sz1 := szs_names hs
  have o40 := hs.o40
  dsimp only
  rw [app132]
  have hw1 : wOrders.size = 6 := rfl
  have hw2 : wTastes.size = 6 := rfl
  refine Lt.Ok.bind (P := fun _ B => BldAt H.n B H.n (some (accO (leavesO s.leaves) (lineA wOrders (s.orders.map (nameOf s))))) ∧ Lo H.n E B) ?_ fun _ B ⟨hB, lB⟩ => ?_
  ·obtain ⟨u, B, e1, k1, k2⟩ := r132_ok (k := k) hDE lE.n hr2 wOrders (by rw [List.length_map]; omega) (by rw [List.length_map]; omega)
   have e1 : r132 (appA (k + 1)) (ByteArray.mk #[111, 114, 100, 101, 114, 115]) r2 H.n E = some (u, B) := e1
   rw [e1]
   exact Lt.Ok.ret ⟨k1, k2⟩
  dsimp only
  have lB' := lE.trans lB
  have hgB : B.get b = some (.cells (stCells v1 v2 v3 s) false) := (lB'.e _ hbn).trans hg
  have n1 := line_size wOrders (s.orders.map (nameOf s))
  rw [List.length_map] at n1
  have n2 := szO_acc (leavesO s.leaves) (lineA wOrders (s.orders.map (nameOf s)))
  generalize ho1 : accO (leavesO s.leaves) (lineA wOrders (s.orders.map (nameOf s))) = o1 at *
  generalize hx1 : (⟨false, b, ((0 + 2) + (0 : Int).toNat * 2) + (0 : Int).toNat * 1, (((2 : Nat) : Int) : Int).toNat - (0 : Int).toNat, 2 - (0 : Int).toNat, 0⟩ : Sl) = x
  generalize hy1 : (⟨false, b, ((0 + 2) + (1 : Int).toNat * 2) + (0 : Int).toNat * 1, (((2 : Nat) : Int) : Int).toNat - (0 : Int).toNat, 2 - (0 : Int).toNat, 0⟩ : Sl) = y
  have g3 := Gr.push B (.cells [.sl x, .sl y] false)
  have hg3 := Hp.get_push_new B (.cells [.sl x, .sl y] false)
  generalize B.push (.cells [.sl x, .sl y] false) = B3 at *
  have hgB3 := (g3.2 b (Hp.get_lt hgB)).trans hgB
  have hx : SL B3 x [s.t0, s.t1] := by
   subst hx1
   refine ⟨⟨rfl, ?_⟩, Nat.le_refl _, .inl rfl, fun h => by cases h⟩
   simp [Hp.lds, ld_of_get hgB3, stCells, encs, El.enc]
  have hy : SL B3 y [s.t2, s.t3] := by
   subst hy1
   refine ⟨⟨rfl, ?_⟩, Nat.le_refl _, .inl rfl, fun h => by cases h⟩
   simp [Hp.lds, ld_of_get hgB3, stCells, encs, El.enc]
  obtain ⟨t0, t1, t2, t3, t4⟩ := hs.ts
  refine Lt.Ok.bind (concat_ok hg3 hx hy (by simp) (by simp)) fun r4 B4 ⟨g4, hr4⟩ => ?_
  dsimp only at hr4 ⊢
  refine Lt.Ok.bind (numbers_ok (k := k + 1) hr4 (by simp) (fun i hi => by
   simp only [List.cons_append, List.nil_append, List.mem_cons, List.not_mem_nil, or_false] at hi
   rcases hi with rfl | rfl | rfl | rfl <;> omega)) fun r5 B5 ⟨g5, hr5⟩ => ?_
  dsimp only at hr5 ⊢
  rw [app132]
  have g35 := (g3.trans g4).trans g5
  have l5 := lB'.trans (.of_gr g35 lB'.n)
  have sz2 := szs_tastes hs
  refine Lt.Ok.bind (P := fun _ C => BldAt H.n C H.n (some (accO (some o1) (lineA wTastes ([s.t0, s.t1, s.t2, s.t3].map itoaA)))) ∧ Lo H.n B5 C) ?_ fun _ C ⟨hC, lC⟩ => ?_
  ·obtain ⟨u, C, e1, k1, k2⟩ := r132_ok (k := k) (hB.gr g35) l5.n hr5 wTastes (by simp) (by
    have : szs (([s.t0, s.t1] ++ [s.t2, s.t3]).map itoaA) ≤ 16 := sz2
    have e : (([s.t0, s.t1] ++ [s.t2, s.t3]).map itoaA).length = 4 := by simp
    have e2 : szO (some o1) = o1.size := rfl
    omega)
   have e1 : r132 (appA (k + 1)) (ByteArray.mk #[116, 97, 115, 116, 101, 115]) r5 H.n B5 = some (u, C) := e1
   rw [e1]
   exact Lt.Ok.ret ⟨k1, k2⟩
  dsimp only
  have lC' := l5.trans lC
  have hgC : C.get b = some (.cells (stCells v1 v2 v3 s) false) := (lC'.e _ hbn).trans hg
  have m1 := line_size wTastes ([s.t0, s.t1, s.t2, s.t3].map itoaA)
  have m2 := szO_acc (some o1) (lineA wTastes ([s.t0, s.t1, s.t2, s.t3].map itoaA))
  have m3 : ([s.t0, s.t1, s.t2, s.t3].map itoaA).length = 4 := rfl
  have e2 : szO (some o1) = o1.size := rfl
  refine Lt.Ok.ld (ldSl_get (n := v3) hgC rfl) ((r80_l1_ok (k := k) (b := b) (o := 0) hs h3.sl rfl lC' hC (by omega)).mono fun r Z ⟨gZ, hr⟩ => ⟨gZ, ?_⟩)
  rw [hr]
  unfold textS
  rw [ho1]
theorem state_ok {k : Nat} {H : Hp} {c : Nat} {pv : Sl} {C : Chs} {t : Nat} (h : ChAt H c pv C t) (hC : C.Ok) : Lt.Ok (r41 (appA (k + 2)) c 0 H) fun r A => Gr H A ∧ r = textS (C.now C.at') := by
 unfold r41
 refine is (none_ok h hC) (Lt.Ok.neg (by simp) ?_)
 obtain ⟨b, e, hst⟩ := now_ok h hC
 refine is e ?_
 exact Lt.Ok.bind (text_ok hst (hC.st _ hC.cur)) fun r A h => Lt.Ok.ret h
/-! ### stocks out of the text of a state -/
def LbO (o : Option ByteArray) : List UInt8 := match o with | none => [] | some l => Lb l
theorem Lb_acc (o : Option ByteArray) (x : ByteArray) : Lb (accO o x) = LbO o ++ Lb x := by
 cases o with
 | none => rfl
 | some l => exact Lb_app l x
def leafL (l : ByteArray × Int) : List UInt8 := Lb wLeaf ++ 32 :: (Lb l.1 ++ 32 :: Lb (itoaA l.2))
theorem Lb_leaf (l : ByteArray × Int) : Lb (leafLn l) = leafL l ++ [10] := by
 unfold leafLn leafL
 simp only [Lb_app, List.append_assoc, List.cons_append]
 rfl
theorem Lb_leaves (ls : List (ByteArray × Int)) : ∀ o : Option ByteArray, LbO (ls.foldl (fun o x => some (accO o (leafLn x))) o) = LbO o ++ (ls.map fun l => leafL l ++ [10]).flatten := by
 induction ls with
 | nil => intro o; simp
 | cons l ls ih =>
  intro o
  rw [List.foldl_cons, ih]
  show Lb (accO o (leafLn l)) ++ _ = _
  rw [Lb_acc, Lb_leaf, List.map_cons, List.flatten_cons, List.append_assoc]
theorem spl_lines {c : UInt8} (ls : List (List UInt8)) (R : List UInt8) (h : ∀ l ∈ ls, c ∉ l) : spl c ((ls.map fun l => l ++ [c]).flatten ++ R) = ls ++ spl c R := by
 induction ls with
 | nil => rfl
 | cons l ls ih =>
  rw [List.map_cons, List.flatten_cons, List.append_assoc, List.append_assoc, List.singleton_append, spl_cut (h l (by simp)), ih fun x hx => h x (by simp [hx])]
  rfl
theorem name_no {x : ByteArray} (h : isNameS x = true) : (10 : UInt8) ∉ Lb x ∧ (32 : UInt8) ∉ Lb x := ⟨fun hc => by have := (name_Lb h).1 _ hc; simp at this, fun hc => by have := (name_Lb h).1 _ hc; simp at this⟩
theorem itoa_no {n : Int} (h0 : 0 ≤ n) (h1 : n ≤ 20) : (10 : UInt8) ∉ Lb (itoaA n) ∧ (32 : UInt8) ∉ Lb (itoaA n) ∧ Lib.atoiAll (itoaA n).data.toList = .ok n := by
 obtain ⟨k, rfl⟩ := Int.eq_ofNat_of_zero_le h0
 have key : ∀ k : Nat, k < 21 → (10 : UInt8) ∉ Lb (itoaA (k : Int)) ∧ (32 : UInt8) ∉ Lb (itoaA (k : Int)) ∧ Lib.atoiAll (itoaA (k : Int)).data.toList = .ok (k : Int) := by decide +kernel
 exact key k (by omega)
theorem text_lines {s : St} (hs : s.Ok) : ∃ x t t', wordsC 10 (textS s) = (s.leaves.map fun l => Bs (leafL l)) ++ x :: t ∧ words x = wOrders :: t' := by
 have hn : ∀ l ∈ s.leaves.map leafL, (10 : UInt8) ∉ l := fun l hl => by
  obtain ⟨y, hy, rfl⟩ := List.mem_map.1 hl
  have h1 := name_no (hs.na y hy)
  have h2 := itoa_no (hs.st y hy).1 (hs.st y hy).2
  unfold leafL
  simp only [List.mem_append, List.mem_cons, not_or]
  exact ⟨by decide, by decide, h1.1, by decide, h2.1⟩
 have ho : (10 : UInt8) ∉ Lb (joinA (wOrders :: s.orders.map (nameOf s)) sp1) := by
  rw [Lb_join]
  simp only [List.mem_append, not_or, List.mem_flatten, List.mem_map]
  refine ⟨by decide, ?_⟩
  rintro ⟨l, ⟨y, ⟨i, hi, rfl⟩, rfl⟩, hc⟩
  rcases List.mem_cons.1 hc with hc | hc
  ·exact absurd hc (by decide)
  ·have h1 := hs.ol i hi
   have hlt : i.toNat < s.leaves.length := by omega
   have e : nameOf s i = (s.leaves[i.toNat]).1 := by
    unfold nameOf
    rw [List.getD_eq_getElem?_getD, List.getElem?_eq_getElem hlt]; rfl
   rw [e] at hc
   exact (name_no (hs.na _ (List.getElem_mem hlt))).1 hc
 obtain ⟨R, hR⟩ : ∃ R, Lb (textS s) = ((s.leaves.map leafL).map fun l => l ++ [10]).flatten ++ (Lb (joinA (wOrders :: s.orders.map (nameOf s)) sp1) ++ 10 :: R) := by
  unfold textS
  rw [Lb_acc]
  simp only [LbO]
  rw [Lb_acc]
  simp only [LbO]
  rw [Lb_acc]
  unfold leavesO
  rw [Lb_leaves]
  refine ⟨Lb (lineA wTastes ([s.t0, s.t1, s.t2, s.t3].map itoaA)) ++ Lb (lineA wOffers (s.offers.map offW)), ?_⟩
  rw [List.map_map]
  unfold lineA
  simp only [Lb_app, LbO, List.nil_append, List.append_assoc]
  rfl
 refine ⟨joinA (wOrders :: s.orders.map (nameOf s)) sp1, (spl 10 R).map Bs, (match s.orders.map (nameOf s) with | [] => [] | y :: l => (spl 32 (Lb y ++ (l.map fun x => (32 : UInt8) :: Lb x).flatten)).map Bs), ?_, ?_⟩
 ·apply map_Lb_inj
  rw [wordsC_spl, hR, spl_lines _ _ hn, spl_cut ho, List.map_append, List.map_cons, List.map_map, List.map_map]
  have e1 : (spl 10 R).map (Lb ∘ Bs) = spl 10 R := by simp [Lb_Bs, Function.comp_def]
  have e2 : s.leaves.map (Lb ∘ fun l => Bs (leafL l)) = s.leaves.map leafL := by simp [Lb_Bs, Function.comp_def]
  rw [e1, e2]
 ·apply map_Lb_inj
  rw [words_spl, Lb_join]
  cases s.orders.map (nameOf s) with
  | nil => decide
  | cons y l =>
   rw [List.map_cons, List.flatten_cons, List.cons_append, spl_cut (by decide), List.map_cons, List.map_map]
   congr 1
   simp [Lb_Bs, Function.comp_def]
theorem leaf_words {l : ByteArray × Int} (hn : isNameS l.1 = true) (h : 0 ≤ l.2 ∧ l.2 ≤ 20) : words (Bs (leafL l)) = [wLeaf, l.1, itoaA l.2] := by
 apply map_Lb_inj
 rw [words_spl, Lb_Bs]
 unfold leafL
 rw [spl_cut (by decide), spl_cut (name_no hn).2, spl_no (itoa_no h.1 h.2).2.1]
 rfl
/-! ### questions -/
abbrev Rep := List ByteArray × Int
def askV (form text w : ByteArray) (f : List ByteArray × List Int → Rep) : ByteArray × Int :=
 match readS form text with
 | none => (ByteArray.mk #[], 3)
 | some p => if (f p).2 = 0 then (joinA (w :: (f p).1) (ByteArray.mk #[32]), 0) else (ByteArray.mk #[], (f p).2)
def RepQ (H : Hp) (rep : Rep) (r : AV) (A : Hp) : Prop := Gr H A ∧ ∃ v, r = .tup [.sl v, .int .i64 rep.2] ∧ (rep.2 = 0 → SL A v rep.1 ∧ rep.1.length ≤ 1000 ∧ szs rep.1 ≤ 1000000)
theorem word_app {H : Hp} {v : Sl} {l : List ByteArray} (hv : SL H v l) (w : ByteArray) (hl : l.length ≤ 1000) {α : Type} {Q : α → Hp → Prop} {f : Sl × Hp → Option (α × Hp)} (k : ∀ r B, Gr H B → SL B r (w :: l) → Lt.Ok (f (r, B)) Q) :
  Lt.Ok (((H.push (.cells [.str w] false)).lds v.b v.o (v.len * 1)).bind fun x => ck (x.all AV.one = true) (((H.push (.cells [.str w] false)).app 1 ⟨false, H.n, 0, 1, 1, 0⟩ x v.len).bind f)) Q := by
 have g0 := Gr.push H (.cells [.str w] false)
 have hg := Hp.get_push_new H (.cells [.str w] false)
 generalize H.push (.cells [.str w] false) = A at *
 have hvA := hv.gr g0
 have hlen := hvA.len
 have hlds := hvA.lds
 have e1 : v.len * El.sz ByteArray = v.len * 1 := rfl
 rw [e1] at hlds
 refine Lt.Ok.ld hlds (Lt.Ok.ck ?_ ?_)
 ·rw [enc_str, List.all_map, List.all_eq_true]; intro x _; rfl
 have key : Lt.Ok (A.app 1 ⟨false, H.n, 0, 1, 1, 0⟩ (encs l) v.len) fun r B => Gr A B ∧ SL B r (w :: l) := by
  unfold Hp.app
  rw [if_pos (by dsimp only; omega)]
  by_cases h0 : v.len = 0
  ·have : l = [] := List.length_eq_zero_iff.1 (by omega)
   subst this
   rw [if_pos (by dsimp only; omega), if_neg (by simp)]
   simp only [encs, List.flatMap_nil, Hp.sts, Option.map_some]
   exact Lt.Ok.ret ⟨.refl _, .of_get (ro := false) hg rfl (by simp [h0]) (by simp [h0]) (.inl rfl) rfl⟩
  ·rw [if_neg (by dsimp only; omega)]
   have hld : A.lds H.n (0 + 0) 1 = some [.str w] := by
    have := lds_cells (H := A) (b := H.n) (ro := false) [.str w] [] hg
    exact this
   have : A.lds (⟨false, H.n, 0, 1, 1, 0⟩ : Sl).b (⟨false, H.n, 0, 1, 1, 0⟩ : Sl).o ((⟨false, H.n, 0, 1, 1, 0⟩ : Sl).len * 1) = some [.str w] := hld
   rw [this]
   simp only [Option.bind_some, if_true]
   refine Lt.Ok.ret ⟨Gr.push _ _, .of_get (ro := false) (Hp.get_push_new _ _) rfl (by simp [hlen]; omega) (Nat.le_refl _) (.inr rfl) rfl⟩
 exact Lt.Ok.bind key fun r B ⟨gB, hr⟩ => k r B (g0.trans gB) hr
theorem r62_j0_ok {k : Nat} {H A : Hp} {text w form : ByteArray} {v4 : AV} {f : List ByteArray × List Int → Rep} (gA : Gr H A) (hs : text.size ≤ 4194304) (hw : w.size ≤ 4194304) (hf : form.size ≤ 8)
  (hact : ∀ p, readS form text = some p → ∀ B wn wu, Gr A B → SL B wn p.1 → SL B wu p.2 → Lt.Ok (callv (appA (k + 2)) v4 [.agg [.sl wn, .sl wu]] B) (RepQ B (f p))) :
  Lt.Ok (r62_j0 (appA (k + 2)) text w form v4 A) fun r D => Gr H D ∧ r = askV form text w f := by
 unfold r62_j0 askV
 refine Lt.Ok.bind (r108_ok (k := k + 1) hf hs) fun r B ⟨g, hr⟩ => ?_
 dsimp only
 obtain ⟨C, h1, h2, h3, h4⟩ := sts_blk [.sl r.1, .sl r.2.1] 0 (B.push (.cells [.sl ⟨true, 0, 0, 0, 0, 0⟩, .sl ⟨true, 0, 0, 0, 0, 0⟩] false)) _ (Hp.get_push_new _ _) (by simp)
 have h2' : C.get B.n = some (.cells [.sl r.1, .sl r.2.1] false) := by rw [h2]; simp
 have gC : Gr B C := ⟨by rw [h3]; simp, fun c hc => by rw [h4 c (by omega), Hp.get_push_old _ _ hc]⟩
 refine Lt.Ok.ld h1 ?_
 have gAC : Gr A C := g.trans gC
 cases hrd : readS form text with
 | none =>
  rw [hrd] at hr
  exact Lt.Ok.neg (by rw [hr]; simp) (Lt.Ok.ret ⟨gA.trans gAC, rfl⟩)
 | some p =>
  rw [hrd] at hr
  obtain ⟨hr1, hr2, hr3⟩ := hr
  refine Lt.Ok.pos hr1 (Lt.Ok.ld (ldSl_get h2' rfl) (Lt.Ok.ld (ldSl_get h2' rfl) ?_))
  refine Lt.Ok.bind (hact p hrd C r.1 r.2.1 gAC (hr2.gr gC) (hr3.gr gC)) fun q D ⟨gD, v, hq, hv⟩ => ?_
  subst hq
  simp only [Option.bind_some, AV.asT, List.length_cons, List.length_nil]
  refine Lt.Ok.ck (by simp) ?_
  simp only [List.getElem?_cons_zero, List.getElem?_cons_succ, Option.bind_some, AV.asI, AV.asSl, if_true]
  have gHD := gA.trans (gAC.trans gD)
  by_cases he : (f p).2 = 0
  ·obtain ⟨hv1, hv2, hv3⟩ := hv he
   rw [if_pos he]
   refine Lt.Ok.neg (by simp [he]) (word_app hv1 w hv2 fun r2 E gE hr2 => ?_)
   dsimp only
   rw [app109, join_ok hr2 _ (by simp; omega) (by
    have : (ByteArray.mk #[32]).size = 1 := rfl
    rw [this]
    simp only [szs, List.map_cons, List.sum_cons, List.length_cons]
    unfold szs at hv3
    omega)]
   exact Lt.Ok.ret ⟨gHD.trans gE, rfl⟩
  ·rw [if_neg he]
   exact Lt.Ok.pos he (Lt.Ok.ret ⟨gHD, rfl⟩)
def wGap : ByteArray := ByteArray.mk #[103, 97, 112]
def f0 : ByteArray := ByteArray.mk #[]
theorem ask_ok {k : Nat} {H : Hp} {c : Nat} {pv : Sl} {C : Chs} {t : Nat} {text : ByteArray} {v : ByteArray × Int} (h : ChAt H c pv C t) (hC : C.Ok)
  (hr : ∀ b P, StAt H P b (C.now C.at') → Lt.Ok (r62 (appA k) b 0 text H) fun r A => Gr H A ∧ r = v) : Lt.Ok (r14 (appA k) c 0 text H) fun r A => Gr H A ∧ r = v := by
 unfold r14
 refine is (none_ok h hC) (Lt.Ok.neg (by simp) ?_)
 obtain ⟨b, e, hst⟩ := now_ok h hC
 refine is e ?_
 exact Lt.Ok.bind (hr b _ hst) fun r A ⟨g, hr⟩ => Lt.Ok.ret ⟨g, by rw [hr]⟩
/-! ### gap -/
def stkS (s : St) : List Int := s.leaves.map (·.2)
theorem stkS_len (s : St) : (stkS s).length = s.leaves.length := by simp [stkS]
theorem stkS_rng {s : St} (hs : s.Ok) : ∀ e ∈ stkS s, 0 ≤ e ∧ e ≤ 20 := fun e he => by
 obtain ⟨x, hx, rfl⟩ := List.mem_map.1 he
 exact hs.st x hx
theorem r63_one {H : Hp} {a0 : Sl} {x : List Int} (hx : SL H a0 x) (hG : Good x.length x) :
  Lt.Ok (r63 ⟨false, H.n, 0, 1, 1, 0⟩ (H.push (.cells [.sl a0] false))) fun r H' => Gr H H' ∧ r = true := by
 unfold r63
 have g0 := Gr.push H (.cells [.sl a0] false)
 have hg := Hp.get_push_new H (.cells [.sl a0] false)
 obtain ⟨K, hK⟩ : ∃ K, FUEL = K + 2 := ⟨FUEL - 2, by unfold FUEL; omega⟩
 rw [hK]
 generalize H.push (.cells [.sl a0] false) = A at *
 have hxA := hx.gr g0
 have hl := hxA.len
 have h1 := hG.1; have h6 := hG.2.1
 have hld : A.ldSl H.n (0 + (0 : Int).toNat * 1) = some a0 := ldSl_get hg rfl
 rw [r63_l0]
 refine Lt.Ok.pos (by show (0 : Int) < 1; decide) (Lt.Ok.ck (by show (0 : Int) ≤ 0 ∧ (0 : Int) < 1; decide) (Lt.Ok.ld hld ?_))
 unfold r63_j1
 refine Lt.Ok.neg (by omega) (Lt.Ok.neg (by omega) (Lt.Ok.ck (by show (0 : Int) ≤ 0 ∧ (0 : Int) < 1; decide) (Lt.Ok.ld (b := a0) hld (Lt.Ok.neg (by simp) ?_))))
 refine Lt.Ok.bind (r110_ok hxA (by omega) (by omega)) fun r A' ⟨e, hr⟩ => ?_
 subst e
 dsimp only
 refine Lt.Ok.neg (by have := hr.2 fun e he => (hG.2.2.2 e he).1; omega) ?_
 refine Lt.Ok.bind (r94_ok hxA (by omega) (by omega)) fun r2 A' ⟨e, hr2⟩ => ?_
 subst e
 dsimp only
 refine Lt.Ok.neg (by have := hr2.2 fun e he => (hG.2.2.2 e he).2; simp; omega) ?_
 rw [show w64 ((0 : Int) + 1) = 1 by decide +kernel, r63_l0]
 exact Lt.Ok.neg (by show ¬ (1 : Int) < 1; decide) (Lt.Ok.ret ⟨g0, rfl⟩)
theorem dsI_le {a : Int} (ha : 0 ≤ a ∧ a ≤ 20) : ∀ (l : List Int), (∀ e ∈ l, 0 ≤ e ∧ e ≤ 20) → dsI a l ≤ 20 * l.length
 | [], _ => by simp [dsI]
 | b :: l, h => by
  have h1 := h b (by simp)
  have h2 := dsI_le ha l fun e he => h e (by simp [he])
  simp only [dsI, List.length_cons]; omega
theorem gapL_le : ∀ (l : List Int), (∀ e ∈ l, 0 ≤ e ∧ e ≤ 20) → l.length ≤ 6 → gapL l ≤ 120 * l.length
 | [], _, _ => by simp [gapL]
 | b :: l, h, h6 => by
  have h1 := dsI_le (h b (by simp)) l fun e he => h e (by simp [he])
  simp only [List.length_cons] at h6
  have h2 := gapL_le l (fun e he => h e (by simp [he])) (by omega)
  simp only [gapL, List.length_cons]; omega
theorem r17_ok {H : Hp} {v : Sl} {x : List Int} (hv : SL H v x) (hG : Good x.length x) : Lt.Ok (r17 v H) fun r A => Gr H A ∧ r = (gapL x, 0) := by
 unfold r17
 have h6 := hG.2.1
 have hrng := hG.2.2.2
 refine Lt.Ok.bind (r63_one hv hG) fun b A ⟨gA, hb⟩ => ?_
 refine Lt.Ok.pos hb ?_
 dsimp only
 have hvA := hv.gr gA
 have hl := hvA.len
 have hcap := hvA.cap
 have hopn : v.opn = 0 ∨ v.opn = 1 := hvA.opn
 refine Lt.Ok.loop (L := fun K (q : Int × Int) D => r17_l0 K v q.1 v (v.len : Int) q.2 D) (fun m q D => D = A ∧ ∃ i : Nat, q.2 = (i : Int) ∧ i + m = x.length ∧ q.1 = gapL (x.take i)) ?_ FUEL x.length (0, 0) A (by unfold FUEL; omega) ⟨rfl, 0, rfl, by omega, rfl⟩
 rintro K m ⟨s, i'⟩ D ⟨rfl, i, hi', him, hs⟩ ih
 dsimp only at hi' hs ⊢
 subst hi'; subst hs
 rw [r17_l0]
 refine Lt.Ok.ite (fun hlt => ?_) fun hlt => ?_
 ·have hil : i < x.length := by omega
  have bx := hrng _ (List.getElem_mem hil)
  have b1 := gapL_le (x.take i) (fun e he => hrng e (List.mem_of_mem_take he)) (by rw [List.length_take]; omega)
  have b0 := gapL_nn (x.take i)
  rw [List.length_take] at b1
  refine Lt.Ok.ck (by omega) (Lt.Ok.ld (hvA.ldI (i := i) (j := 0) (n := x[i]) hil rfl) (Lt.Ok.ck (by refine ⟨?_, hopn⟩; omega) ?_))
  have hcut : SL D (v.cut 1 (0 : Int).toNat ((i : Int)).toNat) (x.take i) := by
   have := hvA.cut (lo := 0) (hi := i) (by omega) (by omega)
   rw [List.drop_zero, Nat.sub_zero] at this
   exact this
  have hcl := hcut.len
  rw [List.length_take] at hcl
  refine Lt.Ok.loop (L := fun K' (q : Int × Int) D' => r17_l1 (fun v1_ v2_ v3_ v4_ v5_ H_ => r17_l0 K v1_ v2_ v3_ v4_ v5_ H_) K' v q.1 x[i] v (v.len : Int) (i : Int) (v.cut 1 (0 : Int).toNat ((i : Int)).toNat) ((v.cut 1 (0 : Int).toNat ((i : Int)).toNat).len : Int) q.2 D') (fun m' q D' => D' = D ∧ ∃ j : Nat, q.2 = (j : Int) ∧ j + m' = i ∧ q.1 = gapL (x.take i) + dsI x[i] (x.take j)) ?_ FUEL i (gapL (x.take i), 0) D (by unfold FUEL; omega) ⟨rfl, 0, rfl, by omega, by simp [dsI]⟩
  rintro K' m' ⟨s, j'⟩ D' ⟨rfl, j, hj', hjm, hs⟩ ih'
  dsimp only at hj' hs ⊢
  subst hj'; subst hs
  rw [r17_l1]
  have b2 := dsI_le bx (x.take j) (fun e he => hrng e (List.mem_of_mem_take he))
  have b3 := dsI_nn x[i] (x.take j)
  rw [List.length_take] at b2
  refine Lt.Ok.ite (fun hlt' => ?_) fun hlt' => ?_
  ·have hji : j < i := by omega
   have hjl : j < x.length := by omega
   have by' := hrng _ (List.getElem_mem hjl)
   have e0 : D'.ldI .i64 (v.cut 1 (0 : Int).toNat ((i : Int)).toNat).b ((v.cut 1 (0 : Int).toNat ((i : Int)).toNat).o + ((j : Int)).toNat * 1) = some x[j] := hcut.ldI (i := j) (j := 0) (by rw [List.length_take]; omega) (by rw [List.getElem_take]; rfl)
   refine Lt.Ok.ck (by omega) (Lt.Ok.ld e0 ?_)
   rw [w64_id (n := x[i] - x[j]) (by omega) (by omega), w64_id (n := x[j] - x[i]) (by omega) (by omega), w64_succ (by omega)]
   have em : (if x[i] - x[j] < x[j] - x[i] then x[j] - x[i] else x[i] - x[j]) = max (x[i] - x[j]) (x[j] - x[i]) := by omega
   rw [em, w64_id (by omega) (by omega)]
   refine ih' (m' - 1) (_, _) D' (by omega) ⟨rfl, j + 1, rfl, by omega, ?_⟩
   rw [List.take_succ_eq_append_getElem hjl, dsI_append]
   simp only [dsI]; omega
  ·have : j = i := by omega
   subst this
   rw [w64_succ (by omega)]
   refine ih (m - 1) (_, _) D' (by omega) ⟨rfl, j + 1, rfl, by omega, ?_⟩
   rw [List.take_succ_eq_append_getElem hil, gapL_snoc]
 ·have : i = x.length := by omega
  subst this
  rw [List.take_length]
  exact Lt.Ok.ret ⟨gA, rfl⟩
def fGap (s : St) (_ : List ByteArray × List Int) : Rep := if s.leaves = [] then ([], 4) else ([itoaA (gapL (stkS s))], 0)
theorem itoa_k {n : Int} (h0 : 0 ≤ n) (h1 : n ≤ 720) : (itoaA n).size ≤ 3 := by
 obtain ⟨k, rfl⟩ := Int.eq_ofNat_of_zero_le h0
 have key : ∀ k : Nat, k < 721 → (itoaA (k : Int)).size ≤ 3 := by decide +kernel
 exact key k (by omega)
theorem app98 (k b : Nat) (x y : Sl) (H : Hp) : callv (appA (k + 1)) (.fn 98 [.ptr b 0] []) [.agg [.sl x, .sl y]] H = (r98 (appA k) b 0 x y H).map fun p => (.tup [.sl p.1.1, .int .i64 p.1.2], p.2) := rfl
theorem stkS_good {s : St} (hs : s.Ok) (h : s.leaves ≠ []) : Good (stkS s).length (stkS s) := by
 have := List.length_pos_iff.2 h
 have := hs.l6
 exact ⟨by rw [stkS_len]; omega, by rw [stkS_len]; omega, rfl, stkS_rng hs⟩
theorem one_cell {H : Hp} (x : Int) : SL (H.push (.cells [.int .i64 x] false)) ⟨false, H.n, 0, 1, 1, 0⟩ [x] := .of_get (ro := false) (Hp.get_push_new _ _) rfl rfl (Nat.le_refl _) (.inl rfl) rfl
theorem fGap_ok {k : Nat} {B : Hp} {P : Nat → Prop} {b : Nat} {s : St} {wn wu : Sl} (h : StAt B P b s) (hs : s.Ok) (p : List ByteArray × List Int) :
  Lt.Ok (callv (appA (k + 2)) (.fn 98 [.ptr b 0] []) [.agg [.sl wn, .sl wu]] B) (RepQ B (fGap s p)) := by
 rw [app98]
 obtain ⟨_, v1, v2, v3, hg, h1, _, _⟩ := h
 have l6 := hs.l6
 have key : Lt.Ok (r98 (appA (k + 1)) b 0 wn wu B) fun r A => Gr B A ∧ r.2 = (fGap s p).2 ∧ (r.2 = 0 → SL A r.1 (fGap s p).1) := by
  unfold r98
  refine Lt.Ok.lt ?_
  have g0 := Gr.push B (.cells [.sl wn, .sl wu] false)
  have hg0 := (g0.2 _ (Hp.get_lt hg)).trans hg
  generalize B.push (.cells [.sl wn, .sl wu] false) = A at *
  have h1A := h1.sl.gr g0
  have hl := h1A.len
  refine Lt.Ok.ld (ldSl_get hg0 rfl) ?_
  unfold fGap
  refine Lt.Ok.ite (fun hc => ?_) fun hc => ?_
  ·have : s.leaves = [] := List.length_eq_zero_iff.1 (by omega)
   rw [if_pos this]
   exact Lt.Ok.ret ⟨g0, rfl, fun e => by cases e⟩
  ·have hne : s.leaves ≠ [] := fun e => hc (by rw [hl, e]; rfl)
   rw [if_neg hne]
   refine Lt.Ok.bind (r153_ok hg0 h1A (by omega)) fun w C ⟨gC, hw⟩ => ?_
   dsimp only
   refine Lt.Ok.bind (r17_ok (x := stkS s) hw.1.sl (stkS_good hs hne)) fun q D ⟨gD, hq⟩ => ?_
   dsimp only
   subst hq
   have bl := gapL_le (stkS s) (stkS_rng hs) (by rw [stkS_len]; omega)
   have b0 := gapL_nn (stkS s)
   rw [stkS_len] at bl
   have g1 := Gr.push D (.cells [.int .i64 (gapL (stkS s))] false)
   refine Lt.Ok.bind (numbers_ok (k := k) (one_cell (gapL (stkS s))) (by simp) (fun i hi => by simp at hi; subst hi; omega)) fun r E ⟨gE, hr⟩ => ?_
   exact Lt.Ok.ret ⟨(((g0.trans gC).trans gD).trans g1).trans gE, rfl, fun _ => hr⟩
 obtain ⟨r, A, e, g, h2, h3⟩ := key
 rw [e]
 refine Lt.Ok.ret ⟨g, r.1, by rw [h2], fun he => ?_⟩
 refine ⟨h3 (by rw [h2]; exact he), ?_⟩
 have bl := gapL_le (stkS s) (stkS_rng hs) (by rw [stkS_len]; omega)
 have b0 := gapL_nn (stkS s)
 rw [stkS_len] at bl
 have := itoa_k (n := gapL (stkS s)) b0 (by omega)
 unfold fGap
 split
 ·exact ⟨by simp, by simp [szs]⟩
 ·exact ⟨by simp, by simp [szs]; omega⟩
theorem ask_gap {k : Nat} {H : Hp} {P : Nat → Prop} {b : Nat} {s : St} {text : ByteArray} (h : StAt H P b s) (hs : s.Ok) (ht : text.size ≤ 4194304) (hw : wordS text = wGap) :
  Lt.Ok (r62 (appA (k + 2)) b 0 text H) fun r A => Gr H A ∧ r = askV f0 text wGap (fGap s) := by
 unfold r62
 obtain ⟨r, hr⟩ := r97_sp text H ht
 refine is hr ?_
 dsimp only
 rw [hw]
 refine Lt.Ok.pos (by decide +kernel) ?_
 exact r62_j0_ok (k := k) (.refl _) ht (by decide) (by decide) fun p _ B wn wu gB _ _ => fGap_ok (h.gr gB) hs p
theorem textS_size {s : St} (hs : s.Ok) : (textS s).size ≤ 4000 := by
 have hall : ∀ x ∈ s.leaves, x.1.size ≤ 8 ∧ 0 ≤ x.2 ∧ x.2 ≤ 20 := fun x hx => ⟨hs.nm x hx, hs.st x hx⟩
 have h1 := leavesO_size s.leaves hall
 have h2 := line_size wOrders (s.orders.map (nameOf s))
 have h3 := line_size wTastes ([s.t0, s.t1, s.t2, s.t3].map itoaA)
 have h4 := line_size wOffers (s.offers.map offW)
 have s2 := szs_le (K := 8) (l := s.orders.map (nameOf s)) fun x hx => by
  obtain ⟨i, hi, rfl⟩ := List.mem_map.1 hx
  have h := hs.ol i hi
  have hlt : i.toNat < s.leaves.length := by omega
  have e : nameOf s i = (s.leaves[i.toNat]).1 := by
   unfold nameOf
   rw [List.getD_eq_getElem?_getD, List.getElem?_eq_getElem hlt]; rfl
  rw [e]; exact hs.nm _ (List.getElem_mem hlt)
 have tsb := hs.ts
 have s3 := szs_le (K := 4) (l := [s.t0, s.t1, s.t2, s.t3].map itoaA) fun x hx => by
  obtain ⟨i, hi, rfl⟩ := List.mem_map.1 hx
  simp only [List.mem_cons, List.not_mem_nil, or_false] at hi
  exact itoa_small (by omega) (by omega)
 have s4 := szs_le (K := 9) (l := s.offers.map offW) fun x hx => by
  obtain ⟨p, hp, rfl⟩ := List.mem_map.1 hx
  have h := hs.fl p hp
  have q1 := itoa_small h.1 (by omega)
  have q2 := itoa_small h.2.2.1 (by omega)
  have z : (ByteArray.mk #[44]).size = 1 := rfl
  unfold offW
  simp only [ByteArray.size_append]; omega
 have l6 := hs.l6; have o40 := hs.o40; have f8 := hs.f8
 have w1 : wOrders.size = 6 := rfl
 have w2 : wTastes.size = 6 := rfl
 have w3 : wOffers.size = 6 := rfl
 rw [List.length_map] at s2 s4 h2 h4
 have e4 : ([s.t0, s.t1, s.t2, s.t3].map itoaA).length = 4 := rfl
 rw [e4] at s3 h3
 unfold textS
 rw [szO_acc]
 simp only [szO]
 rw [szO_acc]
 simp only [szO]
 rw [szO_acc]
 omega
theorem smI_le20 : ∀ (l : List Int), (∀ x ∈ l, 0 ≤ x ∧ x ≤ 20) → 0 ≤ smI l ∧ smI l ≤ 20 * l.length
 | [], _ => by simp [smI]
 | x :: l, h => by
  have h1 := h x (by simp)
  have h2 := smI_le20 l fun y hy => h y (by simp [hy])
  simp only [smI, List.length_cons]; omega
theorem spl_len (c : UInt8) : ∀ (l : List UInt8), ∀ p ∈ spl c l, p.length ≤ l.length := by
 intro l
 induction l with
 | nil => intro p hp; rw [spl_no (by simp)] at hp; simp at hp; subst hp; simp
 | cons x l ih =>
  intro p hp
  rw [spl_cons] at hp
  split at hp
  ·rcases List.mem_cons.1 hp with rfl | hp
   ·simp
   ·have := ih p hp; simp; omega
  ·split at hp
   ·simp at hp; subst hp; simp
   ·rename_i a r e
    rcases List.mem_cons.1 hp with rfl | hp
    ·have := ih a (by rw [e]; simp); simp; omega
    ·have := ih p (by rw [e]; simp [hp]); simp; omega
theorem r31_ok {k : Nat} {H : Hp} {c : Nat} {pv : Sl} {C : Chs} {t : Nat} (h : ChAt H c pv C t) (hC : C.Ok) :
  Lt.Ok (r31 (appA (k + 2)) c 0 H) fun r A => Gr H A ∧ r = (smI (stksS (C.now C.at')), ((C.now C.at').leaves.length : Int), true) := by
 have hst := hC.st _ hC.cur
 unfold r31
 refine Lt.Ok.bind (state_ok (k := k) h hC) fun tx A ⟨gA, hx⟩ => ?_
 dsimp only
 subst hx
 have hsz := textS_size hst
 refine Lt.Ok.bind (r52_okC 10 (s := textS (C.now C.at')) (by omega)) fun v B ⟨hv, _, _, gB⟩ => ?_
 dsimp only
 obtain ⟨x, tl, t', hw, hx⟩ := text_lines hst
 rw [hw] at hv
 have hlen := hv.len
 rw [hlen]
 have l6 := hst.l6
 generalize C.now C.at' = s at *
 have hln : ((s.leaves.map fun l => Bs (leafL l)) ++ x :: tl).length = s.leaves.length + (tl.length + 1) := by simp
 rw [hln]
 refine Lt.Ok.loop (L := fun K (q : Int × Int × Int) D => r31_l0 (appA (k + 2)) K q.1 q.2.1 v ((s.leaves.length + (tl.length + 1) : Nat) : Int) q.2.2 D) (fun m q D => ∃ i : Nat, q.2.2 = (i : Int) ∧ i + m = s.leaves.length ∧ q.2.1 = (i : Int) ∧ q.1 = smI ((stksS s).take i) ∧ Gr B D) ?_ FUEL s.leaves.length (0, 0, 0) B (by unfold FUEL; omega) ⟨0, rfl, by omega, rfl, rfl, .refl _⟩
 rintro K m ⟨sm, ct, j⟩ D ⟨i, hj, him, hct, hsm, g⟩ ih
 dsimp only at *
 subst hj; subst hct; subst hsm
 rw [r31_l0]
 refine Lt.Ok.pos (by omega) (Lt.Ok.ck (by omega) ?_)
 by_cases hlt : i < s.leaves.length
 ·have hw1 := leaf_words (hst.na _ (List.getElem_mem hlt)) (hst.st _ (List.getElem_mem hlt))
  have hstk := hst.st _ (List.getElem_mem hlt)
  have hno := itoa_no hstk.1 hstk.2
  have hsm := smI_le20 ((stksS s).take i) fun x hx => by
   obtain ⟨y, hy, rfl⟩ := List.mem_map.1 (List.mem_of_mem_take hx)
   exact hst.st y hy
  rw [List.length_take] at hsm
  have hil : i < ((s.leaves.map fun l => Bs (leafL l)) ++ x :: tl).length := by omega
  have e0 : D.ldStr v.b (v.o + ((i : Int)).toNat * 1) = some (Bs (leafL s.leaves[i])) := by
   have := SL.ldStr (hv.gr g) (i := i) (j := 0) hil rfl
   rw [List.getElem_append_left (by rw [List.length_map]; exact hlt), List.getElem_map] at this
   exact this
  have hsl : (Bs (leafL s.leaves[i])).size ≤ 4194304 := by
   rw [← Lb_size, Lb_Bs]
   have e : (leafLn s.leaves[i]).size = (leafL s.leaves[i]).length + 1 := by rw [← Lb_size, Lb_leaf]; simp
   have := leafLn_size (hst.nm _ (List.getElem_mem hlt)) hstk
   omega
  have hgi : (stksS s)[i]'(by rw [stks_len]; exact hlt) = (s.leaves[i]).2 := by simp [stksS]
  have hsum : smI ((stksS s).take i) + (s.leaves[i]).2 = smI ((stksS s).take (i + 1)) := by
   rw [List.take_succ_eq_append_getElem (by rw [stks_len]; exact hlt), smI_append, hgi]; simp [smI]
  refine Lt.Ok.ld e0 (Lt.Ok.bind (r52_ok hsl) fun u E ⟨hu, _, _, gE⟩ => ?_)
  dsimp only
  rw [hw1] at hu
  have hul := hu.len
  simp only [List.length_cons, List.length_nil] at hul
  refine Lt.Ok.ck (by omega) (Lt.Ok.ld (SL.ldStr hu (i := 0) (j := 0) (by simp) rfl) (Lt.Ok.pos (strEq_iff.2 rfl) (Lt.Ok.neg (by omega) (Lt.Ok.ck (by omega) (Lt.Ok.ld (SL.ldStr hu (i := 2) (j := 0) (by simp) rfl) ?_)))))
  rw [app53]
  have ea : atoiP (itoaA (s.leaves[i]).2) E = some (.tup [.int .i64 (s.leaves[i]).2, .niliface], E) := by
   unfold atoiP
   rw [if_pos (by have := itoa_small hstk.1 (by omega); omega)]
   unfold atoiV
   rw [hno.2.2]
  refine Lt.Ok.ld ea ?_
  refine Lt.Ok.ld rfl (Lt.Ok.ck rfl (Lt.Ok.ld rfl (Lt.Ok.ld rfl (Lt.Ok.ld rfl (Lt.Ok.ld rfl (Lt.Ok.neg (by simp) (Lt.Ok.neg (by omega) ?_)))))))
  unfold r31_j1
  refine Lt.Ok.neg (by simp only [decide_eq_true_eq]; omega) ?_
  rw [w64_id (n := smI ((stksS s).take i) + (s.leaves[i]).2) (by omega) (by omega), w64_succ (by omega), hsum]
  exact ih (m - 1) (_, _, _) E (by omega) ⟨i + 1, rfl, by omega, rfl, rfl, g.trans gE⟩
 ·have hi : i = s.leaves.length := by omega
  have hil : i < ((s.leaves.map fun l => Bs (leafL l)) ++ x :: tl).length := by omega
  have hxm : x.size ≤ 4194304 := by
   have hm : Lb x ∈ (wordsC 10 (textS s)).map Lb := by rw [hw]; simp
   rw [wordsC_spl] at hm
   have := spl_len 10 _ _ hm
   rw [Lb_size, Lb_size] at this
   omega
  have e0 : D.ldStr v.b (v.o + ((i : Int)).toNat * 1) = some x := by
   have := SL.ldStr (hv.gr g) (i := i) (j := 0) hil rfl
   rw [List.getElem_append_right (by rw [List.length_map]; omega)] at this
   simp only [List.length_map, hi, Nat.sub_self, List.getElem_cons_zero] at this
   rw [hi]; exact this
  refine Lt.Ok.ld e0 (Lt.Ok.bind (r52_ok hxm) fun u E ⟨hu, _, _, gE⟩ => ?_)
  dsimp only
  rw [hx] at hu
  have hul := hu.len
  simp only [List.length_cons] at hul
  refine Lt.Ok.ck (by omega) (Lt.Ok.ld (SL.ldStr hu (i := 0) (j := 0) (by simp) rfl) (Lt.Ok.neg (by rw [show (wOrders :: t')[0]'(by simp) = wOrders from rfl]; decide +kernel) (Lt.Ok.ret ⟨(gA.trans gB).trans (g.trans gE), ?_⟩)))
  rw [hi, List.take_of_length_le (by rw [stks_len]; exact Nat.le_refl _)]
/-! ### gap out of an answer -/
theorem gap_ask6 (s : St) : askV f0 wGap wGap (fGap s) = if s.leaves = [] then (ByteArray.mk #[], 4) else (ByteArray.mk #[103, 97, 112, 32] ++ itoaA (gapL (stkS s)), 0) := by
 unfold askV
 have e : readS f0 wGap = some ([], []) := by decide +kernel
 rw [e]
 dsimp only
 unfold fGap
 by_cases h : s.leaves = []
 ·rw [if_pos h, if_pos h]; rfl
 ·rw [if_neg h, if_neg h]
  refine congrArg (fun x => (x, (0 : Int))) ((join_two _ _).trans ?_)
  apply Lb_inj
  simp only [Lb_app]
  rfl
theorem gap_atoi {n : Int} (h0 : 0 ≤ n) (h1 : n ≤ 720) (H : Hp) : atoiP (itoaA n) H = some (.tup [.int .i64 n, .niliface], H) := by
 obtain ⟨v, rfl⟩ := Int.eq_ofNat_of_zero_le h0
 have hz := itoa_k h0 h1
 unfold atoiP
 rw [if_pos (by omega)]
 unfold atoiV
 have e : (itoaA (v : Int)).data.toList = Lib.decDigits v := by
  show (Lib.itoa (v : Int)) = _
  unfold Lib.itoa
  rw [if_neg (by omega)]; rfl
 rw [e, (dig_back v (by omega)).2]
theorem trim_no (H : Hp) : r77 (ByteArray.mk #[]) (ByteArray.mk #[103, 97, 112, 32]) H = some (ByteArray.mk #[], H) := rfl
theorem trim_yes (x : ByteArray) (H : Hp) : r77 (ByteArray.mk #[103, 97, 112, 32] ++ x) (ByteArray.mk #[103, 97, 112, 32]) H = some (x, H) := by
 have z : (ByteArray.mk #[103, 97, 112, 32]).size = 4 := rfl
 have hs : (ByteArray.mk #[103, 97, 112, 32] ++ x).size = 4 + x.size := by rw [ByteArray.size_append, z]
 have e1 : (ByteArray.mk #[103, 97, 112, 32] ++ x).extract 0 4 = ByteArray.mk #[103, 97, 112, 32] := by
  apply Lb_inj
  rw [Lb_ext, Lb_app]
  simp [Lb, List.extract]
 have e2 : (ByteArray.mk #[103, 97, 112, 32] ++ x).extract 4 (4 + x.size) = x := by
  apply Lb_inj
  rw [Lb_ext, Lb_app]
  have : (Lb x).length = x.size := Lb_size x
  show List.extract ([103, 97, 112, 32] ++ Lb x) 4 (4 + x.size) = Lb x
  simp [List.extract, ← this]
 unfold r77 r128 r180 ck
 rw [z, hs, if_pos (by omega), if_pos (by omega)]
 simp only [Option.bind_some]
 rw [show (0 : Int).toNat = 0 from rfl, show (((4 : Nat) : Int)).toNat = 4 from rfl, e1, if_pos (strEq_iff.2 rfl)]
 rw [if_pos (by omega), Int.toNat_natCast, e2]
 rfl
theorem r32_ok {k : Nat} {H : Hp} {c : Nat} {pv : Sl} {C : Chs} {t : Nat} (h : ChAt H c pv C t) (hC : C.Ok) :
  Lt.Ok (r32 (appA (k + 2)) c 0 H) fun r A => Gr H A ∧ r.2 = decide ((C.now C.at').leaves ≠ []) ∧ ((C.now C.at').leaves ≠ [] → r.1 = gapL (stkS (C.now C.at'))) := by
 have hst := hC.st _ hC.cur
 unfold r32
 refine Lt.Ok.bind (ask_ok (k := k + 2) h hC (text := wGap) fun b P hst' => ask_gap (k := k) hst' hst (by decide) (by decide +kernel)) fun r A ⟨gA, hr⟩ => ?_
 rw [gap_ask6] at hr
 subst hr
 dsimp only
 by_cases hl : (C.now C.at').leaves = []
 ·rw [if_pos hl]
  refine Lt.Ok.ld (trim_no A) ?_
  dsimp only
  rw [app53]
  obtain ⟨n, e, he⟩ := atoi_any (ByteArray.mk #[]) (by decide) A
  rw [he]
  refine Lt.Ok.ld rfl (Lt.Ok.ld rfl (Lt.Ok.ck rfl (Lt.Ok.ld rfl (Lt.Ok.ld rfl (Lt.Ok.ld rfl (Lt.Ok.neg (by decide) (Lt.Ok.ret ⟨gA, by simp [hl], fun h => absurd hl h⟩)))))))
 ·rw [if_neg hl]
  have b0 := gapL_nn (stkS (C.now C.at'))
  have bl := gapL_le (stkS (C.now C.at')) (stkS_rng hst) (by rw [stkS_len]; have := hst.l6; omega)
  rw [stkS_len] at bl
  have l6 := hst.l6
  refine Lt.Ok.ld (trim_yes _ A) ?_
  dsimp only
  rw [app53, gap_atoi b0 (by omega)]
  refine Lt.Ok.ld rfl (Lt.Ok.ld rfl (Lt.Ok.ck rfl (Lt.Ok.ld rfl (Lt.Ok.ld rfl (Lt.Ok.ld rfl (Lt.Ok.pos rfl (Lt.Ok.ld rfl (Lt.Ok.neg (by simp) (Lt.Ok.ret ⟨gA, by simp [hl, b0], fun _ => rfl⟩)))))))))
section
variable {H : Hp} {c : Nat} {pv : Sl} {C : Chs} {t : Nat}
theorem back_ok (h : ChAt H c pv C t) (hC : C.Ok) (n : Int) : Lt.Ok (r75 c 0 n H) fun r A => r = (C.back n).2 ∧ ChAt A c pv (C.back n).1 t ∧ Sp c pv.b pv.b H A := by
 unfold r75 Chs.back
 refine is (none_ok h hC) (Lt.Ok.neg (by simp) ?_)
 dsimp only
 refine Lt.Ok.ite (fun hc => ?_) fun hc => ?_
 ·rw [if_pos hc]; exact Lt.Ok.ret ⟨rfl, h, .of_gr (.refl _)⟩
 rw [if_neg hc]
 refine Lt.Ok.ld (ldI_get h.get rfl) (Lt.Ok.bind (way_ok h hC hC.cur) fun v A ⟨g, hv⟩ => ?_)
 have hA := h.gr g
 have sA : Sp c pv.b pv.b H A := .of_gr g
 have hl := hv.len
 rw [ints_len] at hl
 have hwl := C.way_len hC C.at'
 have hm := hC.most
 dsimp only
 refine Lt.Ok.ite (fun hc2 => ?_) fun hc2 => ?_
 ·rw [if_pos (by omega)]; exact Lt.Ok.ret ⟨rfl, hA, sA⟩
 rw [if_neg (by omega)]
 have hplen := h.len
 refine Lt.Ok.loop (L := fun K (i : Int) B => r75_l0 K c 0 n i B) (fun m i B => ∃ q p : Nat, i = (q : Int) ∧ q + m = n.toNat ∧ p < C.pages.length ∧ C.anc n.toNat C.at' = C.anc m p ∧ ChAt B c pv ⟨C.pages, p⟩ t ∧ Sp c pv.b pv.b H B) ?_ FUEL n.toNat 0 A (by unfold FUEL; omega) ⟨0, C.at', rfl, by omega, hC.cur, rfl, hA, sA⟩
 rintro K m i B ⟨q, p, rfl, hqm, hp, hanc, hB, sB⟩ ih
 rw [r75_l0]
 refine Lt.Ok.ite (fun hlt => ?_) fun hlt => ?_
 ·obtain ⟨m, rfl⟩ : ∃ m', m = m' + 1 := ⟨m - 1, by omega⟩
  refine Lt.Ok.ld (ldSl_get hB.get rfl) (Lt.Ok.ld (ldI_get hB.get rfl) (Lt.Ok.ck (by dsimp only; omega) (Lt.Ok.ld (hB.ldPar (i := p) hp) ?_)))
  dsimp only
  rw [par_get hp]
  refine hB.setAt fun D hD sD => ?_
  rw [w64_succ (by omega)]
  exact ih m _ D (by omega) ⟨q + 1, C.par p, rfl, by omega, Nat.lt_of_le_of_lt (C.par_le hC p) hp, hanc, hD, sB.trans sD⟩
 ·have : m = 0 := by omega
  subst this
  have e : C.anc n.toNat C.at' = p := hanc
  rw [e]
  exact Lt.Ok.ret ⟨rfl, hB, sB⟩
end
end Go.Lt.P10
