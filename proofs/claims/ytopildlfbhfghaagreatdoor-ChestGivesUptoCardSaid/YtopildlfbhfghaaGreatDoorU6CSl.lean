/- PLAIN LAWS OF WHAT IS COMPUTED, for the statement 'ChestGives'. Nothing is asked of the input. -/
import Derived.Test.YtopildlfbhfghaaGreatDoorU6CFl
import Derived.Test.YtopildlfbhfghaaGreatDoorLB
import Derived.Test.YtopildlfbhfghaaGreatDoorU6CGw
import Derived.Test.YtopildlfbhfghaaGreatDoorU6CIx
set_option linter.unusedVariables false
set_option linter.unusedSimpArgs false
set_option maxHeartbeats 4000000
namespace Go.Lt.P10
open Go Go.Lt Go.Proofs
abbrev ActT := Int × Int × Int × ByteArray
def Chs.act (C : Chs) (a : ActT) : Chs :=
 if a.1 = 0 then (C.do a.2.2.2).1 else if a.1 = 2 then (C.go a.2.1).1 else if a.1 = 3 then (C.back a.2.1).1 else if a.1 = 5 then (C.move a.2.1).1 else C
theorem Chs.act_ok {C : Chs} (h : C.Ok) (a : ActT) : (C.act a).Ok := by
 unfold Chs.act
 split
 ·exact Chs.do_ok h _
 split
 ·exact Chs.go_ok h _
 split
 ·exact Chs.back_ok h _
 split
 ·exact Chs.move_ok h _
 ·exact h
theorem Sp.ok {c p p' : Nat} {H H' : Hp} {b : Nat} (h : Sp c p p' H H') (hb : b < H.n) (h1 : b ≠ c) (h2 : b ≠ p) : b < H'.n ∧ b ≠ p' ∧ H'.get b = H.get b := by
 refine ⟨Nat.lt_of_lt_of_le hb h.n, ?_, h.e b hb h1 h2⟩
 rcases h.q with e | e <;> omega
theorem Chs.ups_step {C : Chs} (hC : C.Ok) {p : Nat} (h0 : p ≠ 0) : C.ups p p = p :: C.ups (C.par p) (C.par p) := by
 obtain ⟨q, rfl⟩ : ∃ q, p = q + 1 := ⟨p - 1, by omega⟩
 have hp : C.par (q + 1) ≤ q := by
  by_cases hl : q + 1 < C.pages.length
  ·have := hC.up (q + 1) (by omega) hl; omega
  ·unfold Chs.par; rw [List.getElem?_eq_none (by omega)]; simp
 conv => lhs; unfold Chs.ups
 rw [if_neg h0, Chs.ups_fuel hC q _ hp]
theorem Chs.way_eq {C : Chs} (hC : C.Ok) {p : Nat} (hp : p < C.pages.length) : C.way p = (C.ups p p).reverse := by
 unfold Chs.way; rw [Chs.ups_fuel hC _ _ (by omega)]
theorem Chs.way_zero {C : Chs} (hC : C.Ok) : C.way 0 = [] := by
 rw [Chs.way_eq hC (by have := hC.one; omega)]; rfl
theorem Chs.way_step {C : Chs} (hC : C.Ok) {p : Nat} (h0 : p ≠ 0) (hp : p < C.pages.length) : C.way p = C.way (C.par p) ++ [p] := by
 have := hC.up p (by omega) hp
 rw [Chs.way_eq hC hp, Chs.way_eq hC (by omega), Chs.ups_step hC h0, List.reverse_cons]
theorem last_app (q x : Nat) (l : List Nat) : (q :: (l ++ [x])).getLast (by simp) = x := by
 have e : q :: (l ++ [x]) = (q :: l) ++ [x] := rfl
 simp only [e]
 exact List.getLast_concat
def Chs.Chain (C : Chs) : Nat → List Nat → Prop
 | _, [] => True
 | q, x :: l => 0 < x ∧ x < C.pages.length ∧ C.par x = q ∧ C.Chain x l
theorem Chs.chain_append {C : Chs} : ∀ (l : List Nat) (q x : Nat), C.Chain q l → 0 < x → x < C.pages.length → C.par x = (q :: l).getLast (by simp) → C.Chain q (l ++ [x])
 | [], q, x, _, h0, hx, hp => ⟨h0, hx, hp, trivial⟩
 | y :: l, q, x, h, h0, hx, hp => ⟨h.1, h.2.1, h.2.2.1, Chs.chain_append l y x h.2.2.2 h0 hx (by rw [hp, List.getLast_cons_cons])⟩
theorem Chs.ways_last' {C : Chs} (hC : C.Ok) {p : Nat} (hp : p < C.pages.length) : (0 :: C.way p).getLast (by simp) = p := by
 by_cases h0 : p = 0
 ·subst h0; simp [Chs.way_zero hC]
 ·simp only [Chs.way_step hC h0 hp]; exact last_app _ _ _
theorem Chs.way_chain {C : Chs} (hC : C.Ok) : ∀ (n p : Nat), p ≤ n → p < C.pages.length → C.Chain 0 (C.way p)
 | n, p, hn, hp => by
  by_cases h0 : p = 0
  ·subst h0; rw [Chs.way_zero hC]; trivial
  ·have hup := hC.up p (by omega) hp
   obtain ⟨n, rfl⟩ : ∃ n', n = n' + 1 := ⟨n - 1, by omega⟩
   rw [Chs.way_step hC h0 hp]
   exact Chs.chain_append _ _ _ (Chs.way_chain hC n _ (by omega) (by omega)) (by omega) hp (Chs.ways_last' hC (by omega)).symm
def Chs.path (C : Chs) (p : Nat) : List ByteArray := (C.way p).map C.chg
structure Along (C : Chs) (p i : Nat) (D : Chs) : Prop where
 ok : D.Ok
 len : D.pages.length = i + 1
 cur : D.at' = i
 st : ∀ q, (0 :: C.way p)[i]? = some q → D.now i = C.now q
 lnk : ∀ j x, j < i → (C.way p)[j]? = some x → D.par (j + 1) = j ∧ D.chg (j + 1) = C.chg x
theorem Along.new {C : Chs} (hC : C.Ok) (p : Nat) : Along C p 0 Chs.new where
 ok := Chs.new_ok
 len := rfl
 cur := rfl
 st := fun q hq => by
  have : q = 0 := by simpa using hq.symm
  subst this
  rw [hC.root.2]; rfl
 lnk := fun j x h => by omega
theorem Chs.way_len_le {C : Chs} (hC : C.Ok) {p : Nat} (hp : p < C.pages.length) : (C.way p).length ≤ p := by
 rw [Chs.way_eq hC hp, List.length_reverse]; exact Chs.ups_len hC _ _
theorem Chs.chain_get {C : Chs} : ∀ (l : List Nat) (q i : Nat) (h : i < l.length), C.Chain q l → 0 < l[i] ∧ l[i] < C.pages.length ∧ C.par l[i] = (q :: l)[i]'(by simp; omega)
 | x :: l, q, 0, _, h => ⟨h.1, h.2.1, h.2.2.1⟩
 | x :: l, q, i + 1, hi, h => Chs.chain_get l x i (by simpa using hi) h.2.2.2
theorem Along.child {C D : Chs} {p i : Nat} (h : Along C p i D) (ch : ByteArray) : D.child i ch = none := by
 unfold Chs.child
 rw [List.findIdx?_eq_none_iff]
 intro q hq
 obtain ⟨j, hj, rfl⟩ := List.mem_iff_getElem.1 hq
 have hl := h.len
 have hpar : D.pages[j].parent = D.par j := par_get hj
 have hchg : D.pages[j].change = D.chg j := chg_get hj
 rw [hpar, hchg]
 by_cases h0 : j = 0
 ·subst h0
  rw [h.ok.rc]
  have : strEq (ByteArray.mk #[]) (ByteArray.mk #[]) = true := by decide +kernel
  rw [this]; simp
 ·have := h.ok.up j (by omega) hj
  rw [decide_eq_false (by omega)]; simp
theorem Along.step {C D : Chs} {p i : Nat} (hC : C.Ok) (hp : p < C.pages.length) (h : Along C p i D) (hi : i < (C.way p).length) :
  (D.do (C.chg ((C.way p)[i]))).2.2 = 0 ∧ Along C p (i + 1) (D.do (C.chg ((C.way p)[i]))).1 := by
 have hch := Chs.way_chain hC p p (Nat.le_refl _) hp
 obtain ⟨h0, hx, hpar⟩ := Chs.chain_get _ _ i hi hch
 obtain ⟨w, hd⟩ := hC.did _ h0 hx
 have hst := h.st _ (List.getElem?_eq_getElem (by simp; omega))
 rw [hpar] at hd
 have hcur := h.cur
 have hl := h.len
 have hwl := Chs.way_len_le hC hp
 have hm := hC.most
 have hdo : D.do (C.chg ((C.way p)[i])) = (⟨D.pages ++ [⟨C.chg ((C.way p)[i]), i, C.now ((C.way p)[i])⟩], i + 1⟩, w, 0) := by
  unfold Chs.do
  rw [hcur, hst, hd]
  dsimp only
  rw [h.child]
  dsimp only
  rw [if_neg (by omega), hl]
 have hok := Chs.do_ok h.ok (C.chg ((C.way p)[i]))
 rw [hdo] at hok ⊢
 refine ⟨rfl, hok, by simp; omega, rfl, fun q hq => ?_, fun j x hj hq => ?_⟩
 ·have : q = (C.way p)[i] := by
   rw [List.getElem?_cons_succ, List.getElem?_eq_getElem hi] at hq
   injection hq with hq; exact hq.symm
  subst this
  unfold Chs.now
  dsimp only
  rw [List.getElem?_append_right (by omega)]
  simp [hl]
 ·by_cases he : j = i
  ·subst he
   rw [List.getElem?_eq_getElem hi] at hq
   injection hq with hq
   subst hq
   unfold Chs.par Chs.chg
   dsimp only
   rw [List.getElem?_append_right (by omega)]
   simp [hl]
  ·obtain ⟨k1, k2⟩ := h.lnk j x (by omega) hq
   have e : (D.pages ++ [(⟨C.chg ((C.way p)[i]), i, C.now ((C.way p)[i])⟩ : Pg)])[j + 1]? = D.pages[j + 1]? := List.getElem?_append_left (by omega)
   exact ⟨by show (Option.map _ _).getD 0 = j; rw [e]; exact k1, by show (Option.map _ _).getD (ByteArray.mk #[]) = _; rw [e]; exact k2⟩
theorem Along.path {C D : Chs} {p i : Nat} (hC : C.Ok) (h : Along C p i D) (hi : i ≤ (C.way p).length) : ∀ j, j ≤ i → (D.way j).map D.chg = ((C.way p).take j).map C.chg
 | 0, _ => by rw [Chs.way_zero h.ok]; rfl
 | j + 1, hj => by
  have hl := h.len
  obtain ⟨k1, k2⟩ := h.lnk j ((C.way p)[j]'(by omega)) (by omega) (List.getElem?_eq_getElem (by omega))
  rw [Chs.way_step h.ok (by omega) (by omega), k1, List.map_append, Along.path hC h hi j (by omega), List.take_succ_eq_append_getElem (by omega), List.map_append]
  simp [k2]
theorem actS_inl {s : St} {w text form r : ByteArray} {f : St → List ByteArray × List Int → Act} {e : Int} (hf : ∀ p e, f s p = .inl e → e ≠ 0) (h : actS s w text form f = (.inl e, r)) : e ≠ 0 ∧ r = ByteArray.mk #[] := by
 unfold actS at h
 split at h
 ·injection h with h1 h2
  injection h1 with h1
  subst h1
  exact ⟨by decide, h2.symm⟩
 ·split at h
  ·rename_i e' he
   injection h with h1 h2
   injection h1 with h1
   subst h1
   exact ⟨hf _ _ he, h2.symm⟩
  ·injection h with h1 h2
   cases h1
theorem inl_ne {a b : Int} {h : b ≠ 0} (e : (Sum.inl b : Act) = .inl a) : a ≠ 0 := by injection e with e; omega
theorem doS_inl {s : St} {text r : ByteArray} {e : Int} (h : doS s text = (.inl e, r)) : e ≠ 0 ∧ r = ByteArray.mk #[] := by
 unfold doS at h
 split at h
 ·refine actS_inl (fun p e hp => ?_) h
  unfold fLeaf at hp
  split at hp
  ·unfold leafS at hp
   split at hp
   ·exact inl_ne (h := by decide) hp
   split at hp
   ·exact inl_ne (h := by decide) hp
   split at hp
   ·exact inl_ne (h := by decide) hp
   ·cases hp
  ·exact inl_ne (h := by decide) hp
 split at h
 ·refine actS_inl (fun p e hp => ?_) h
  unfold fGive at hp
  split at hp
  ·unfold giveS at hp
   split at hp
   ·split at hp
    ·cases hp
    ·exact inl_ne (h := by decide) hp
   ·exact inl_ne (h := by decide) hp
  ·exact inl_ne (h := by decide) hp
 split at h
 ·refine actS_inl (fun p e hp => ?_) h
  unfold fOrder at hp
  split at hp
  ·unfold orderS at hp
   split at hp
   ·exact inl_ne (h := by decide) hp
   split at hp
   ·exact inl_ne (h := by decide) hp
   split at hp
   ·exact inl_ne (h := by decide) hp
   ·cases hp
  ·exact inl_ne (h := by decide) hp
 split at h
 ·refine actS_inl (fun p e hp => ?_) h
  unfold fTaste at hp
  split at hp
  ·unfold tasteS at hp
   split at hp
   ·exact inl_ne (h := by decide) hp
   split at hp
   ·exact inl_ne (h := by decide) hp
   ·cases hp
  ·exact inl_ne (h := by decide) hp
 split at h
 ·refine actS_inl (fun p e hp => ?_) h
  unfold fOffer at hp
  split at hp
  ·unfold offerS at hp
   split at hp
   ·exact inl_ne (h := by decide) hp
   split at hp
   ·exact inl_ne (h := by decide) hp
   split at hp
   ·exact inl_ne (h := by decide) hp
   ·cases hp
  ·exact inl_ne (h := by decide) hp
 ·injection h with h1 h2
  exact ⟨inl_ne (h := by decide) h1, h2.symm⟩
theorem Chs.do_not {C : Chs} {line : ByteArray} (h : (C.do line).2.2 ≠ 0) : (C.do line).1 = C ∧ (C.do line).2.1 = ByteArray.mk #[] := by
 unfold Chs.do at h ⊢
 split
 ·exact ⟨rfl, rfl⟩
 ·rename_i s w hd
  rw [hd] at h
  dsimp only at h
  split
  ·rename_i i hi
   rw [hi] at h
   exact absurd rfl h
  ·rename_i hi
   rw [hi] at h
   dsimp only at h
   split
   ·exact ⟨rfl, rfl⟩
   ·rename_i h2
    rw [if_neg h2] at h
    exact absurd rfl h
theorem Chs.child_pos {C : Chs} (hC : C.Ok) {p i : Nat} {ch : ByteArray} (h : C.child p ch = some i) : 0 < i := by
 obtain ⟨hi, hp, _⟩ := List.findIdx?_eq_some_iff_getElem.1 h
 rcases Nat.eq_zero_or_pos i with h0 | h0
 ·subst h0
  rw [chg_get hi, hC.rc] at hp
  have : strEq (ByteArray.mk #[]) (ByteArray.mk #[]) = true := by decide +kernel
  rw [this] at hp
  simp at hp
 ·exact h0
theorem Chs.do_then {C : Chs} (hC : C.Ok) {line : ByteArray} (h : (C.do line).2.2 = 0) :
  (C.do line).1.at' ≠ 0 ∧ (C.do line).1.par (C.do line).1.at' = C.at' ∧ (C.do line).1.chg (C.do line).1.at' = line ∧ (∀ i, i < C.pages.length → (C.do line).1.now i = C.now i ∧ (C.do line).1.par i = C.par i ∧ (C.do line).1.chg i = C.chg i) ∧
  (⟨(C.do line).1.pages, C.at'⟩ : Chs).do line = C.do line ∧ C.pages.length ≤ (C.do line).1.pages.length := by
 have hok := Chs.do_ok hC line
 rcases hd : doS (C.now C.at') line with ⟨e | s, w⟩
 ·have e1 : C.do line = (C, ByteArray.mk #[], e) := by unfold Chs.do; rw [hd]
  rw [e1] at h
  exact absurd h (doS_inl hd).1
 cases hi : C.child C.at' line with
 | some i =>
  have e1 : C.do line = (⟨C.pages, i⟩, w, 0) := by unfold Chs.do; rw [hd]; dsimp only; rw [hi]
  rw [e1]
  obtain ⟨h1, h2⟩ := Chs.child_is hi
  have h0 := Chs.child_pos hC hi
  exact ⟨by dsimp only; omega, h1, h2, fun i hi => ⟨rfl, rfl, rfl⟩, e1, Nat.le_refl _⟩
 | none =>
  by_cases h2 : C.pages.length = 200
  ·have e1 : C.do line = (C, ByteArray.mk #[], 7) := by unfold Chs.do; rw [hd]; dsimp only; rw [hi]; dsimp only; rw [if_pos h2]
   rw [e1] at h
   exact absurd h (by dsimp only; decide)
  have e1 : C.do line = (⟨C.pages ++ [⟨line, C.at', s⟩], C.pages.length⟩, w, 0) := by unfold Chs.do; rw [hd]; dsimp only; rw [hi]; dsimp only; rw [if_neg h2]
  rw [e1] at hok ⊢
  dsimp only at hok ⊢
  have hone := hC.one
  generalize hD : (⟨C.pages ++ [(⟨line, C.at', s⟩ : Pg)], C.pages.length⟩ : Chs) = D at hok
  have hDp : C.pages ++ [(⟨line, C.at', s⟩ : Pg)] = D.pages := by rw [← hD]
  have old : ∀ i, i < C.pages.length → D.pages[i]? = C.pages[i]? := fun i hi => by rw [← hDp]; exact List.getElem?_append_left hi
  have new : D.pages[C.pages.length]? = some ⟨line, C.at', s⟩ := by rw [← hDp]; simp
  have hp : D.par C.pages.length = C.at' := by unfold Chs.par; rw [new]; rfl
  have hc : D.chg C.pages.length = line := by unfold Chs.chg; rw [new]; rfl
  have hlen : C.pages.length < D.pages.length := by rw [← hDp]; simp
  have hu := hok.uq C.pages.length (by omega) hlen
  rw [hp, hc] at hu
  refine ⟨by omega, hp, hc, fun i hi => ⟨by unfold Chs.now; rw [old i hi], by unfold Chs.par; rw [old i hi], by unfold Chs.chg; rw [old i hi]⟩, ?_, by simp⟩
  rw [hDp]
  have e2 : (⟨D.pages, C.at'⟩ : Chs).now C.at' = C.now C.at' := by unfold Chs.now; dsimp only; rw [old _ hC.cur]
  have e3 : (⟨D.pages, C.at'⟩ : Chs).child C.at' line = some C.pages.length := hu
  unfold Chs.do
  dsimp only
  rw [e2, hd]
  dsimp only
  rw [e3]
  dsimp only
  rw [← hD]
section
variable {C : Chs}
end
end Go.Lt.P10

namespace Go.Lt
open Go.RowKit
/-! ### blocks of a function's own -/
structure Cx (H0 H : Hp) (E : List (Nat × List AV)) : Prop where
 g : Gr H0 H
 e : ∀ p ∈ E, H.get p.1 = some (.cells p.2 false)
 nd : E.Pairwise fun p q => p.1 ≠ q.1
 lo : ∀ p ∈ E, H0.n ≤ p.1
section
variable {H0 H H' : Hp} {E : List (Nat × List AV)}
theorem Cx.nil (H : Hp) : Cx H H [] := ⟨.refl _, fun _ h => (by cases h), .nil, fun _ h => (by cases h)⟩
theorem Cx.lt (c : Cx H0 H E) {p : Nat × List AV} (h : p ∈ E) : p.1 < H.n := Hp.get_lt (c.e p h)
theorem Cx.gr (c : Cx H0 H E) (g : Gr H H') : Cx H0 H' E := ⟨c.g.trans g, fun p h => by rw [g.2 _ (c.lt h)]; exact c.e p h, c.nd, c.lo⟩
theorem Cx.weak (c : Cx H0 H E) {E' : List (Nat × List AV)} (h : E'.Sublist E) : Cx H0 H E' := ⟨c.g, fun p hp => c.e p (h.subset hp), c.nd.sublist h, fun p hp => c.lo p (h.subset hp)⟩
theorem Cx.push (c : Cx H0 H E) (cs : List AV) : Cx H0 (H.push (.cells cs false)) ((H.n, cs) :: E) where
 g := c.g.trans (.push _ _)
 e := fun p h => by
  rcases List.mem_cons.1 h with rfl | h
  ·exact Hp.get_push_new _ _
  ·rw [Hp.get_push_old _ _ (c.lt h)]; exact c.e p h
 nd := List.pairwise_cons.2 ⟨fun p h => by have := c.lt h; show H.n ≠ p.1; omega, c.nd⟩
 lo := fun p h => by
  rcases List.mem_cons.1 h with rfl | h
  ·exact c.g.1
  ·exact c.lo p h
theorem Cx.set (c : Cx H0 H E) {i b : Nat} {zs : List AV} (hi : E[i]? = some (b, zs)) (vs : List AV) (hg : H'.get b = some (.cells vs false)) (hn : H'.n = H.n) (ho : ∀ x, x ≠ b → H'.get x = H.get x) : Cx H0 H' (E.set i (b, vs)) := by
 obtain ⟨hil, hie⟩ := List.getElem?_eq_some_iff.1 hi
 have hm : (b, zs) ∈ E := hie ▸ List.getElem_mem hil
 have hb := c.lo _ hm
 have ne : ∀ j (hj : j < E.length), j ≠ i → E[j].1 ≠ b := fun j hj hji => by
  rcases Nat.lt_or_ge j i with h | h
  ·have := List.pairwise_iff_getElem.1 c.nd j i hj hil h
   rw [hie] at this; exact this
  ·have := List.pairwise_iff_getElem.1 c.nd i j hil hj (by omega)
   rw [hie] at this; exact fun q => this q.symm
 refine ⟨⟨by rw [hn]; exact c.g.1, fun x hx => by rw [ho x (by dsimp only at hb; omega)]; exact c.g.2 x hx⟩, fun p h => ?_, ?_, fun p h => ?_⟩
 ·obtain ⟨j, hj, rfl⟩ := List.mem_iff_getElem.1 h
  by_cases e : j = i
  ·subst e; rw [List.getElem_set_self]; exact hg
  ·have hj' : j < E.length := by simpa using hj
   rw [List.getElem_set_ne (fun q => e q.symm), ho _ (ne j hj' e)]
   exact c.e _ (List.getElem_mem hj')
 ·rw [List.pairwise_iff_getElem]
  intro x y hx hy hxy
  have hx' : x < E.length := by simpa using hx
  have hy' : y < E.length := by simpa using hy
  by_cases ex : x = i
  ·subst ex
   rw [List.getElem_set_self, List.getElem_set_ne (by omega)]
   exact fun q => ne y hy' (by omega) q.symm
  ·rw [List.getElem_set_ne (fun q => ex q.symm)]
   by_cases ey : y = i
   ·subst ey
    rw [List.getElem_set_self]
    exact ne x hx' ex
   ·rw [List.getElem_set_ne (fun q => ey q.symm)]
    exact List.pairwise_iff_getElem.1 c.nd x y hx' hy' hxy
 ·obtain ⟨j, hj, rfl⟩ := List.mem_iff_getElem.1 h
  by_cases e : j = i
  ·subst e; rw [List.getElem_set_self]; exact hb
  ·rw [List.getElem_set_ne (fun q => e q.symm)]; exact c.lo _ (List.getElem_mem _)
end
section
variable {α : Type} {Q : α → Hp → Prop} {H0 H : Hp} {E : List (Nat × List AV)}
theorem Ok.box (c : Cx H0 H E) {cs : List AV} {f : Hp → Option (α × Hp)} (k : ∀ A, Gr H A → Cx H0 A ((H.n, cs) :: E) → Ok (f A) Q) : Ok (Go.Lt.lt (H.push (.cells cs false)) f) Q :=
 Ok.lt (k _ (.push _ _) (c.push cs))
theorem SL.congr {T : Type} [El T] {H H' : Hp} {v : Sl} {l : List T} (h : SL H v l) (e : H'.get v.b = H.get v.b) : SL H' v l := ⟨h.cs.congr e, h.cap, h.opn, h.nil⟩
theorem Ok.own {β : Type} {x : Option (β × Hp)} {b : β} {f : β × Hp → Option (α × Hp)} (h : Ok x fun r _ => r = b) (k : ∀ X, Ok (f (b, X)) Q) : Ok (x.bind f) Q :=
 Ok.bind h fun r X e => by subst e; exact k X
end
end Go.Lt

namespace Go.Lt
/-! ### slices that grow, among blocks of one's own -/
section
variable {H0 A A' : Hp} {E E' : List (Nat × List AV)}
def sub (v : Sl) (cs : List AV) : List (Nat × List AV) := if v.nil = true then [] else [(v.b, cs)]
def AS (es : Nat) (v : Sl) (n : Nat) : Prop := (v = nilS ∧ n = 0) ∨ (v.nil = false ∧ v.o = 0 ∧ v.opn = es ∧ v.cap = v.len ∧ v.len = n)
theorem AS.nil {es : Nat} : AS es ⟨true, 0, 0, 0, 0, 0⟩ 0 := .inl ⟨rfl, rfl⟩
theorem AS.len {es n : Nat} {v : Sl} (a : AS es v n) : v.len = n := by
 rcases a with ⟨rfl, rfl⟩ | ⟨_, _, _, _, h⟩
 ·rfl
 ·exact h
theorem Cx.acc {T : Type} [El T] (c : Cx H0 A E) {v : Sl} {l : List T} (a : AS (El.sz T) v l.length) (h : ∀ p ∈ sub v (encs l), p ∈ E) : AccL H0.n A v l := by
 rcases a with ⟨rfl, hn⟩ | ⟨h1, h2, h3, h4, h5⟩
 ·obtain rfl := List.length_eq_zero_iff.1 hn
  exact AccL.nilS
 ·have hm : (v.b, encs l) ∈ E := h _ (by simp [sub, h1])
  exact .inr ⟨h1, h2, h3, h4, c.lo _ hm, c.e _ hm, by rw [encs_len, h5]⟩
theorem Cx.sl {T : Type} [El T] (c : Cx H0 A E) {v : Sl} {l : List T} (a : AS (El.sz T) v l.length) (h : ∀ p ∈ sub v (encs l), p ∈ E) : SL A v l := (c.acc a h).sl
end
end Go.Lt

namespace Go.Lt.P10
open Go Go.Lt Go.Proofs
section
variable {H : Hp} {c : Nat} {pv : Sl} {C : Chs} {t : Nat}
end
end Go.Lt.P10

namespace Go.Lt
theorem Cx.add {T : Type} [El T] {H0 H A : Hp} {E : List (Nat × List AV)} (c : Cx H0 H E) (g : Gr H A) {v : Sl} {l : List T} (h : AccL H.n A v l) : Cx H0 A (sub v (encs l) ++ E) ∧ AS (El.sz T) v l.length := by
 have hl := h.len
 rcases h with ⟨rfl, e⟩ | ⟨h1, h2, h3, h4, h5, h6, h7⟩
 ·exact ⟨c.gr g, .inl ⟨rfl, hl.symm⟩⟩
 ·have cA := c.gr g
  refine ⟨⟨cA.g, fun p hp => ?_, ?_, fun p hp => ?_⟩, .inr ⟨h1, h2, h3, h4, hl⟩⟩
  ·rcases List.mem_append.1 hp with hp | hp
   ·simp [sub, h1] at hp; subst hp; exact h6
   ·exact cA.e p hp
  ·rw [List.pairwise_append]
   refine ⟨by unfold sub; split <;> simp, cA.nd, fun q hq p hp => ?_⟩
   simp [sub, h1] at hq
   subst hq
   have := c.lt hp
   dsimp only; omega
  ·rcases List.mem_append.1 hp with hp | hp
   ·simp [sub, h1] at hp; subst hp; have := c.g.1; dsimp only; omega
   ·exact cA.lo p hp
def SLn {T : Type} [El T] (n0 : Nat) (A : Hp) (v : Sl) (l : List T) : Prop := SL A v l ∧ (v.nil = false → n0 ≤ v.b)
theorem SLn.gr {T : Type} [El T] {n0 : Nat} {A B : Hp} {v : Sl} {l : List T} (h : SLn n0 A v l) (g : Gr A B) : SLn n0 B v l := ⟨h.1.gr g, h.2⟩
theorem Cx.sln {T : Type} [El T] {H0 A : Hp} {E : List (Nat × List AV)} (c : Cx H0 A E) {v : Sl} {l : List T} (a : AS (El.sz T) v l.length) (h : ∀ p ∈ sub v (encs l), p ∈ E) : SLn H0.n A v l :=
 ⟨c.sl a h, fun hn => c.lo (v.b, encs l) (h _ (by simp [sub, hn]))⟩
end Go.Lt
namespace Go.Lt.P10
open Go Go.Lt Go.Proofs
theorem SLn.sp {T : Type} [El T] {n0 : Nat} {A B : Hp} {v : Sl} {l : List T} {c p p' : Nat} (h : SLn n0 A v l) (s : Sp c p p' A B) (hc : c < n0) (hp : p < n0) : SLn n0 B v l := by
 refine ⟨SL.sp h.1 fun hne => ?_, h.2⟩
 have := h.2 (h.1.nonnil hne)
 exact s.e _ (SL.lt h.1 hne) (by omega) (by omega)
/-! ### what the statements across layers read of a path -/
def nmsS (s : St) : List ByteArray := s.leaves.map (·.1)
def stksS (s : St) : List Int := s.leaves.map (·.2)
theorem stks_len (s : St) : (stksS s).length = s.leaves.length := by simp [stksS]
theorem stks_get {s : St} {i : Nat} (h : i < (stksS s).length) : (stksS s)[i] = stock s i := by
 rw [stks_len] at h
 rw [stock_eq h]; simp [stksS]
theorem stks_set (s : St) (i : Nat) (n : Int) : stksS (setStock s i n) = (stksS s).set i n := by
 unfold stksS
 rw [setStock_leaves]
 apply List.ext_getElem
 ·simp
 ·intro j h1 h2
  simp only [List.getElem_map, List.getElem_modify, List.getElem_set]
  split <;> simp_all
theorem atoi_any (s : ByteArray) (hs : s.size ≤ 4194304) (H : Hp) : ∃ n e, atoiP s H = some (.tup [.int .i64 n, e], H) := by
 unfold atoiP
 rw [if_pos (by omega)]
 unfold atoiV
 cases Lib.atoiAll s.data.toList with
 | «syntax» => exact ⟨_, _, rfl⟩
 | range => exact ⟨_, _, rfl⟩
 | ok v => exact ⟨_, _, rfl⟩
def tsC (s : St) : List AV := [.int .i64 s.t0, .int .i64 s.t1, .int .i64 s.t2, .int .i64 s.t3]
def z4 : List AV := [.int .i64 0, .int .i64 0, .int .i64 0, .int .i64 0]
structure LrI (H D : Hp) (b1 b5 : Nat) (s : St) (vp vn vs vo vf : Sl) (path : List ByteArray) : Prop where
 cx : Cx H D (sub vf (encs s.offers) ++ (sub vo (encs s.orders) ++ (sub vs (encs (stksS s)) ++ (sub vn (encs (nmsS s)) ++ (sub vp (encs path) ++ [(b5, tsC s), (b1, z4)])))))
 ap : AS 1 vp path.length
 an : AS 1 vn (nmsS s).length
 as' : AS 1 vs (stksS s).length
 ao : AS 1 vo s.orders.length
 af : AS 2 vf s.offers.length
section
variable {H D : Hp} {b1 b5 : Nat} {s : St} {vp vn vs vo vf : Sl} {path : List ByteArray}
theorem LrI.gr {A : Hp} (h : LrI H D b1 b5 s vp vn vs vo vf path) (g : Gr D A) : LrI H A b1 b5 s vp vn vs vo vf path := ⟨h.cx.gr g, h.ap, h.an, h.as', h.ao, h.af⟩
theorem LrI.sln (h : LrI H D b1 b5 s vp vn vs vo vf path) : SL D vn (nmsS s) := h.cx.sl h.an fun p hp => by simp [hp]
theorem LrI.slo (h : LrI H D b1 b5 s vp vn vs vo vf path) : SL D vo s.orders := h.cx.sl h.ao fun p hp => by simp [hp]
variable {α : Type} {Q : α → Hp → Prop}
end
def LrQ (n0 : Nat) (s : St) (r : Sl × Sl × Sl × Int × Int × Int × Int × Sl) (A : Hp) : Prop :=
 SLn n0 A r.1 (nmsS s) ∧ SLn n0 A r.2.1 (stksS s) ∧ SLn n0 A r.2.2.1 s.orders ∧ r.2.2.2 = (s.t0, s.t1, s.t2, s.t3, r.2.2.2.2.2.2.2) ∧ SLn n0 A r.2.2.2.2.2.2.2 s.offers
theorem LrQ.gr {n0 : Nat} {s : St} {r : Sl × Sl × Sl × Int × Int × Int × Int × Sl} {A B : Hp} (h : LrQ n0 s r A) (g : Gr A B) : LrQ n0 s r B := ⟨h.1.gr g, h.2.1.gr g, h.2.2.1.gr g, h.2.2.2.1, h.2.2.2.2.gr g⟩
def sepB (c : UInt8) : ByteArray := ByteArray.mk #[c]
def wordsNC (c : UInt8) : Nat → ByteArray → List ByteArray
 | 0, s => [s]
 | k + 1, s => if strIdx s (c.toNat : Int) < 0 then [s] else s.extract 0 (strIdx s (c.toNat : Int)).toNat :: wordsNC c k (s.extract ((strIdx s (c.toNat : Int)).toNat + 1) s.size)
def wordsC (c : UInt8) (s : ByteArray) : List ByteArray := wordsNC c (strCnt s (c.toNat : Int)).toNat s
theorem bt_sepB (c : UInt8) : bt (sepB c) 0 = (c.toNat : Int) := rfl
theorem r193_sep (c : UInt8) (s : ByteArray) (H : Hp) : r193 s (sepB c) H = some (strIdx s (c.toNat : Int), H) := by
 unfold r193
 rw [if_neg (show ¬ ((sepB c).size : Int) = 0 by rw [show ((sepB c).size : Int) = 1 from rfl]; decide)]
 unfold r193_j0
 have h1 : ((sepB c).size : Int) = 1 := rfl
 cases he : strEq (sepB c) s with
 | true =>
  rw [if_pos rfl]
  have := strEq_iff.1 he
  subst this
  have h2 : strIdx (sepB c) (c.toNat : Int) = 0 := strIdx_self c
  rw [h2]
 | false =>
  rw [if_neg (by simp), if_pos h1, ck, if_pos (by rw [h1]; decide), bt_sepB]
  rfl
theorem r146_sep (c : UInt8) (s : ByteArray) (H : Hp) : r146 s (sepB c) H = some (strIdx s (c.toNat : Int), H) := by
 unfold r146; rw [r193_sep c]; rfl
theorem r88_l0_okC (c : UInt8) {H0 H : Hp} {v5 : Sl} {s0 : ByteArray} {N : Nat} (h5 : v5 = ⟨false, v5.b, 0, N, N, 0⟩) (hN1 : 1 ≤ N) (hN : N ≤ 4194305) (hs0 : s0.size ≤ 4194304) {cs : List AV} (hg : H.get v5.b = some (.cells cs false)) (hl : cs.length = N) :
  Ok (r88_l0 FUEL s0 (sepB c) 0 ((N - 1 : Nat) : Int) v5 0 H) fun v H' => SL H' v (wordsNC c (N - 1) s0) ∧ v.nil = false ∧ v.b = v5.b ∧ H'.n = H.n ∧ ∀ b, b ≠ v5.b → H'.get b = H.get b := by
 have hln : v5.len = N := by rw [h5]
 have hcp : v5.cap = N := by rw [h5]
 have hop : v5.opn = 0 := by rw [h5]
 have ho : v5.o = 0 := by rw [h5]
 refine Ok.loop (L := fun K (s : ByteArray × Int) H => r88_l0 K s.1 (sepB c) 0 ((N - 1 : Nat) : Int) v5 s.2 H) (fun m s A => ∃ (i : Nat) (done : List ByteArray) (cs : List AV), s.2 = (i : Int) ∧ i + m = N - 1 ∧ s.1.size ≤ 4194304 ∧ A.get v5.b = some (.cells cs false) ∧ cs.length = N ∧ cs.take i = encs done ∧ done.length = i ∧ wordsNC c (N - 1) s0 = done ++ wordsNC c m s.1 ∧ A.n = H.n ∧ ∀ b, b ≠ v5.b → A.get b = H.get b) ?_ FUEL (N - 1) (s0, 0) H (by unfold FUEL; omega) ⟨0, [], cs, rfl, by omega, hs0, hg, hl, rfl, rfl, rfl, rfl, fun _ _ => rfl⟩
 rintro K m ⟨s, i'⟩ A ⟨i, done, cs, hi, him, hsz, hgA, hlA, ht, hd, hw, hn, hoth⟩ ih
 dsimp only at *
 subst hi
 rw [r88_l0]
 refine Ok.ite (fun hlt => ?_) fun hlt => ?_
 ·have hlt' : i < N - 1 := by omega
  refine is (r146_sep c s A) ?_
  obtain ⟨m', rfl⟩ : ∃ m', m = m' + 1 := ⟨m - 1, by omega⟩
  refine Ok.ite (fun hneg => ?_) fun hneg => ?_
  ·refine (r88_j2_ok h5 hgA hlA (by omega) hN ht hd).mono fun v H' ⟨a, b, c0, d, e⟩ => ⟨?_, b, c0, by omega, fun x hx => by rw [e x hx, hoth x hx]⟩
   rw [hw]
   have : wordsNC c (m' + 1) s = [s] := by unfold wordsNC; rw [if_pos hneg]
   rw [this]; exact a
  ·dsimp only at hneg ⊢
   rcases strIdx_cases s (c.toNat : Int) with h | ⟨j, h, hj⟩
   ·rw [h] at hneg; exact absurd hneg (by decide)
   ·rw [h]
    have h1 : (sepB c).size = 1 := rfl
    have hw0 : w64 ((j : Int) + 0) = (j : Int) := by rw [w64_id (by omega) (by omega)]; omega
    have hw1 : w64 ((j : Int) + ((sepB c).size : Int)) = ((j + 1 : Nat) : Int) := by rw [h1]; exact w64_succ (by omega)
    rw [hw0, hw1]
    refine Ok.ck (by omega) (Ok.ck (by omega) ?_)
    rw [ho]
    refine Ok.st hgA (by simp; omega) fun H' e hg' => ?_
    refine Ok.ck (by omega) ?_
    rw [w64_succ (show i < 9223372036854775807 by omega)]
    simp only [Int.toNat_zero, Int.toNat_natCast, Nat.zero_add, Nat.mul_one] at hg' ⊢
    refine ih m' (s.extract (j + 1) s.size, ((i + 1 : Nat) : Int)) H' (by omega) ⟨i + 1, done ++ [s.extract 0 j], _, rfl, by omega, ?_, hg', by simp; omega, ?_, by simp [hd], ?_, by rw [e]; simp; omega, fun b hb => by rw [e, Hp.get_set_other _ _ hb, hoth b hb]⟩
    ·simp [ByteArray.size_extract]; omega
    ·rw [encs_append, encs_one, List.take_succ_eq_append_getElem (by simp; omega), List.getElem_set_self, List.take_set_of_le (Nat.le_refl _), ht]
     rfl
    ·rw [hw]
     have : wordsNC c (m' + 1) s = s.extract 0 j :: wordsNC c m' (s.extract (j + 1) s.size) := by
      conv => lhs; unfold wordsNC
      rw [if_neg (by omega), h]; rfl
     rw [this]; simp
 ·have : i = N - 1 := by omega
  have hm : m = 0 := by omega
  subst hm
  refine (r88_j2_ok h5 hgA hlA (by omega) hN ht hd).mono fun v H' ⟨a, b, c0, d, e⟩ => ⟨?_, b, c0, by omega, fun x hx => by rw [e x hx, hoth x hx]⟩
  rw [hw]; exact a
theorem r52_okC (c : UInt8) {H : Hp} {s : ByteArray} (hs : s.size ≤ 4194304) : Ok (r52 s (sepB c) H) fun v H' => SL H' v (wordsC c s) ∧ v.nil = false ∧ v.b = H.n ∧ Gr H H' := by
 unfold r52 r88
 rw [if_neg (by decide), if_neg (by rw [show strEq (sepB c) (ByteArray.mk #[]) = false from rfl]; decide), if_pos (by decide)]
 unfold r145
 rw [if_neg (show ¬ ((sepB c).size : Int) = 0 by rw [show ((sepB c).size : Int) = 1 from rfl]; decide), if_pos (show ((sepB c).size : Int) = 1 from rfl), ck, if_pos (by rw [show ((sepB c).size : Int) = 1 from rfl]; decide), bt_sepB]
 simp only [Option.bind_some]
 obtain ⟨k, hk, hks⟩ := strCnt_eq s (c.toNat : Int)
 rw [hk, w64_succ (by omega)]
 unfold r88_j1
 have e1 : (if (w64 ((s.size : Int) + 1)) < ((k + 1 : Nat) : Int) then (w64 ((s.size : Int) + 1)) else ((k + 1 : Nat) : Int)) = ((k + 1 : Nat) : Int) := by
  rw [w64_succ (by omega), if_neg (by omega)]
 rw [e1]
 refine Ok.bind (P := fun v H' => SL H' v (wordsC c s) ∧ v.nil = false ∧ v.b = H.n ∧ Gr H H') ?_ fun v H' h => Ok.ret h
 refine Ok.ck (by omega) (Ok.lt ?_)
 simp only [Int.toNat_natCast, Nat.mul_one]
 have e2 : w64 (((k + 1 : Nat) : Int) - 1) = ((k + 1 - 1 : Nat) : Int) := by rw [w64_id (by omega) (by omega)]; omega
 rw [e2]
 refine (r88_l0_okC c (H0 := H) (v5 := ⟨false, H.n, 0, k + 1, k + 1, 0⟩) rfl (by omega) (by omega) hs (Hp.get_push_new _ _) (by rw [zerosA_len])).mono fun v H' ⟨a, b, c0, d, e⟩ => ⟨?_, b, c0, ⟨by rw [d]; simp, fun b hb => by rw [e b (by show b ≠ H.n; omega), Hp.get_push_old _ _ hb]⟩⟩
 have : wordsC c s = wordsNC c (k + 1 - 1) s := by unfold wordsC; rw [hk]; rfl
 rw [this]; exact a
theorem wordsN_C : ∀ k s, wordsNC 32 k s = wordsN k s
 | 0, _ => rfl
 | k + 1, s => by
  unfold wordsNC wordsN
  rw [show (((32 : UInt8).toNat : Nat) : Int) = 32 from rfl]
  split
  ·rfl
  ·rw [wordsN_C k]
theorem words_C (s : ByteArray) : wordsC 32 s = words s := by
 unfold wordsC words
 rw [show (((32 : UInt8).toNat : Nat) : Int) = 32 from rfl, wordsN_C]
/-! ### what stands between bytes, as lists -/
def spl (c : UInt8) : List UInt8 → List (List UInt8)
 | [] => [[]]
 | x :: l => if x = c then [] :: spl c l else match spl c l with
  | [] => [[x]]
  | w :: r => (x :: w) :: r
theorem spl_ne (c : UInt8) : ∀ l, spl c l ≠ []
 | [] => by simp [spl]
 | x :: l => by
  unfold spl
  split
  ·simp
  ·split <;> simp
theorem spl_no {c : UInt8} : ∀ {l : List UInt8}, c ∉ l → spl c l = [l]
 | [], _ => rfl
 | x :: l, h => by
  unfold spl
  rw [if_neg (fun e => h (by simp [e])), spl_no (l := l) fun e => h (by simp [e])]
theorem spl_cons (c x : UInt8) (l : List UInt8) : spl c (x :: l) = if x = c then [] :: spl c l else match spl c l with
  | [] => [[x]]
  | w :: r => (x :: w) :: r := by
 conv => lhs; unfold spl
theorem spl_cut {c : UInt8} : ∀ {a b : List UInt8}, c ∉ a → spl c (a ++ c :: b) = a :: spl c b
 | [], b, _ => by rw [List.nil_append, spl_cons, if_pos rfl]
 | x :: a, b, h => by
  rw [List.cons_append, spl_cons, if_neg (fun e => h (by simp [e])), spl_cut (a := a) fun e => h (by simp [e])]
theorem spl_append (c : UInt8) : ∀ (a b : List UInt8), spl c (a ++ c :: b) = spl c a ++ spl c b
 | [], b => by rw [List.nil_append, spl_cons, if_pos rfl]; rfl
 | x :: a, b => by
  rw [List.cons_append, spl_cons, spl_cons, spl_append c a b]
  split
  ·rfl
  ·cases h : spl c a with
   | nil => exact absurd h (spl_ne c a)
   | cons w r => rfl
def Bs (l : List UInt8) : ByteArray := ⟨l.toArray⟩
def Lb (b : ByteArray) : List UInt8 := b.data.toList
theorem Bs_Lb (b : ByteArray) : Bs (Lb b) = b := by
 unfold Bs Lb
 rw [Array.toArray_toList]
theorem Lb_Bs (l : List UInt8) : Lb (Bs l) = l := by simp [Bs, Lb]
theorem Lb_app (a b : ByteArray) : Lb (a ++ b) = Lb a ++ Lb b := by simp [Lb]
theorem Lb_size (b : ByteArray) : (Lb b).length = b.size := by unfold Lb; rw [Array.length_toList]; rfl
theorem Lb_inj {a b : ByteArray} (h : Lb a = Lb b) : a = b := by rw [← Bs_Lb a, ← Bs_Lb b, h]
theorem Lb_ext (b : ByteArray) (i j : Nat) : Lb (b.extract i j) = (Lb b).extract i j := by
 unfold Lb
 rw [ByteArray.data_extract, Array.toList_extract]
theorem get_bang {s : ByteArray} {i : Nat} (h : i < s.size) : s[i]! = (Lb s)[i]'(by rw [Lb_size]; exact h) := by
 rw [getElem!_pos s i h]
 exact bget s i h
theorem byte_back (c : UInt8) : ((c.toNat : Int)).toNat.toUInt8 = c := by simp
theorem strIdx_is {s : ByteArray} {c : UInt8} {i : Nat} (h : strIdx s (c.toNat : Int) = i) : ∃ a b, Lb s = a ++ c :: b ∧ c ∉ a ∧ a.length = i := by
 unfold strIdx at h
 split at h
 ·rename_i j hj
  have hji : j = i := by omega
  subst hji
  rw [List.find?_range_eq_some] at hj
  obtain ⟨h1, h2, h3⟩ := hj
  rw [byte_back] at h1
  have hs := List.mem_range.1 h2
  rw [get_bang hs, beq_iff_eq] at h1
  have hl : j < (Lb s).length := by rw [Lb_size]; exact hs
  refine ⟨(Lb s).take j, (Lb s).drop (j + 1), ?_, fun hm => ?_, by rw [List.length_take]; omega⟩
  ·rw [← h1, ← List.drop_eq_getElem_cons hl, List.take_append_drop]
  ·obtain ⟨k, hk, e⟩ := List.mem_iff_getElem.1 hm
   rw [List.length_take] at hk
   rw [List.getElem_take] at e
   have := h3 k (by omega)
   rw [byte_back, get_bang (by omega), e] at this
   simp at this
 ·omega
theorem strIdx_neg {s : ByteArray} {c : UInt8} (h : strIdx s (c.toNat : Int) < 0) : c ∉ Lb s := by
 intro hm
 obtain ⟨k, hk, e⟩ := List.mem_iff_getElem.1 hm
 unfold strIdx at h
 split at h
 ·omega
 ·rename_i hn
  have := List.find?_eq_none.1 hn k (List.mem_range.2 (by rw [← Lb_size]; exact hk))
  rw [byte_back, get_bang (by rw [← Lb_size]; exact hk), e] at this
  simp at this
theorem strCnt_eqC (s : ByteArray) (c : UInt8) : strCnt s (c.toNat : Int) = ((Lb s).count c : Nat) := by
 unfold strCnt
 rw [Lib.foldl_data, Lib.count_foldl]
 unfold Lib.countByte
 rw [byte_back]
 simp [Lb]
theorem wordsNC_spl (c : UInt8) : ∀ (k : Nat) (s : ByteArray), (Lb s).count c = k → (wordsNC c k s).map Lb = spl c (Lb s)
 | 0, s, h => by
  unfold wordsNC
  rw [spl_no (List.count_eq_zero.1 h)]; rfl
 | k + 1, s, h => by
  unfold wordsNC
  split
  ·rename_i hn
   have := strIdx_neg hn
   rw [List.count_eq_zero.2 this] at h
   cases h
  ·rename_i hn
   rcases strIdx_cases s (c.toNat : Int) with e | ⟨i, e, hi⟩
   ·omega
   ·obtain ⟨a, b, e1, e2, e3⟩ := strIdx_is e
    rw [e, Int.toNat_natCast]
    have x1 : Lb (s.extract 0 i) = a := by
     rw [Lb_ext, e1, List.extract_eq_take_drop]
     simp [← e3]
    have x2 : Lb (s.extract (i + 1) s.size) = b := by
     rw [Lb_ext, e1, List.extract_eq_take_drop, ← Lb_size, e1, ← e3]
     have : (a ++ c :: b).drop (a.length + 1) = b := by rw [List.drop_append]; simp
     rw [this, List.take_of_length_le (by simp; omega)]
    rw [List.map_cons, x1, wordsNC_spl c k _ (by
     rw [x2]
     rw [e1, List.count_append, List.count_cons, List.count_eq_zero.2 e2] at h
     simp at h; omega), x2, e1, spl_cut e2]
theorem wordsC_spl (c : UInt8) (s : ByteArray) : (wordsC c s).map Lb = spl c (Lb s) := by
 unfold wordsC
 exact wordsNC_spl c _ s (by rw [strCnt_eqC]; simp)
theorem words_spl (s : ByteArray) : (words s).map Lb = spl 32 (Lb s) := by
 rw [← words_C, wordsC_spl]
theorem map_Lb_inj {a b : List ByteArray} (h : a.map Lb = b.map Lb) : a = b := by
 have : ∀ l : List ByteArray, (l.map Lb).map Bs = l := fun l => by
  rw [List.map_map]
  conv => rhs; rw [← List.map_id l]
  exact List.map_congr_left fun x _ => Bs_Lb x
 rw [← this a, ← this b, h]
theorem words_append (a b : ByteArray) : words ((a ++ ByteArray.mk #[32]) ++ b) = words a ++ words b := by
 apply map_Lb_inj
 rw [words_spl, List.map_append, words_spl, words_spl, Lb_app, Lb_app]
 have : Lb (ByteArray.mk #[32]) = [32] := rfl
 rw [this, List.append_assoc]
 exact spl_append 32 _ _
end Go.Lt.P10
