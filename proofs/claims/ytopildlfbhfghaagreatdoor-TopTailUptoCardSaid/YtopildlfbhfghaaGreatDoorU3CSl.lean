/- PLAIN LAWS OF WHAT IS COMPUTED, for the statement 'TopTail'. Nothing is asked of the input. -/
import Derived.Test.YtopildlfbhfghaaGreatDoorU3CFl
import Derived.Test.YtopildlfbhfghaaGreatDoorLB
import Derived.Test.YtopildlfbhfghaaGreatDoorU3CGw
import Derived.Test.YtopildlfbhfghaaGreatDoorU3CIx
set_option linter.unusedVariables false
set_option linter.unusedSimpArgs false
set_option maxHeartbeats 4000000
namespace Go.Lt.P10
open Go Go.Lt Go.Proofs
abbrev ActT := Int × Int × Int × ByteArray
def Chs.act (C : Chs) (a : ActT) : Chs :=
 if a.1 = 0 then (C.do a.2.2.2).1 else if a.1 = 2 then (C.go a.2.1).1 else if a.1 = 3 then (C.back a.2.1).1 else if a.1 = 5 then (C.move a.2.1).1 else C
theorem Chs.act_ok {C : Chs} (h : C.Ok) (a : ActT) : (C.act a).Ok := by
 unfold Chs.act
 split
 ·exact Chs.do_ok h _
 split
 ·exact Chs.go_ok h _
 split
 ·exact Chs.back_ok h _
 split
 ·exact Chs.move_ok h _
 ·exact h
theorem Sp.ok {c p p' : Nat} {H H' : Hp} {b : Nat} (h : Sp c p p' H H') (hb : b < H.n) (h1 : b ≠ c) (h2 : b ≠ p) : b < H'.n ∧ b ≠ p' ∧ H'.get b = H.get b := by
 refine ⟨Nat.lt_of_lt_of_le hb h.n, ?_, h.e b hb h1 h2⟩
 rcases h.q with e | e <;> omega
theorem Chs.ups_step {C : Chs} (hC : C.Ok) {p : Nat} (h0 : p ≠ 0) : C.ups p p = p :: C.ups (C.par p) (C.par p) := by
 obtain ⟨q, rfl⟩ : ∃ q, p = q + 1 := ⟨p - 1, by omega⟩
 have hp : C.par (q + 1) ≤ q := by
  by_cases hl : q + 1 < C.pages.length
  ·have := hC.up (q + 1) (by omega) hl; omega
  ·unfold Chs.par; rw [List.getElem?_eq_none (by omega)]; simp
 conv => lhs; unfold Chs.ups
 rw [if_neg h0, Chs.ups_fuel hC q _ hp]
theorem Chs.way_eq {C : Chs} (hC : C.Ok) {p : Nat} (hp : p < C.pages.length) : C.way p = (C.ups p p).reverse := by
 unfold Chs.way; rw [Chs.ups_fuel hC _ _ (by omega)]
theorem Chs.way_zero {C : Chs} (hC : C.Ok) : C.way 0 = [] := by
 rw [Chs.way_eq hC (by have := hC.one; omega)]; rfl
theorem Chs.way_step {C : Chs} (hC : C.Ok) {p : Nat} (h0 : p ≠ 0) (hp : p < C.pages.length) : C.way p = C.way (C.par p) ++ [p] := by
 have := hC.up p (by omega) hp
 rw [Chs.way_eq hC hp, Chs.way_eq hC (by omega), Chs.ups_step hC h0, List.reverse_cons]
theorem last_app (q x : Nat) (l : List Nat) : (q :: (l ++ [x])).getLast (by simp) = x := by
 have e : q :: (l ++ [x]) = (q :: l) ++ [x] := rfl
 simp only [e]
 exact List.getLast_concat
def Chs.Chain (C : Chs) : Nat → List Nat → Prop
 | _, [] => True
 | q, x :: l => 0 < x ∧ x < C.pages.length ∧ C.par x = q ∧ C.Chain x l
theorem Chs.chain_append {C : Chs} : ∀ (l : List Nat) (q x : Nat), C.Chain q l → 0 < x → x < C.pages.length → C.par x = (q :: l).getLast (by simp) → C.Chain q (l ++ [x])
 | [], q, x, _, h0, hx, hp => ⟨h0, hx, hp, trivial⟩
 | y :: l, q, x, h, h0, hx, hp => ⟨h.1, h.2.1, h.2.2.1, Chs.chain_append l y x h.2.2.2 h0 hx (by rw [hp, List.getLast_cons_cons])⟩
theorem Chs.ways_last' {C : Chs} (hC : C.Ok) {p : Nat} (hp : p < C.pages.length) : (0 :: C.way p).getLast (by simp) = p := by
 by_cases h0 : p = 0
 ·subst h0; simp [Chs.way_zero hC]
 ·simp only [Chs.way_step hC h0 hp]; exact last_app _ _ _
theorem Chs.way_chain {C : Chs} (hC : C.Ok) : ∀ (n p : Nat), p ≤ n → p < C.pages.length → C.Chain 0 (C.way p)
 | n, p, hn, hp => by
  by_cases h0 : p = 0
  ·subst h0; rw [Chs.way_zero hC]; trivial
  ·have hup := hC.up p (by omega) hp
   obtain ⟨n, rfl⟩ : ∃ n', n = n' + 1 := ⟨n - 1, by omega⟩
   rw [Chs.way_step hC h0 hp]
   exact Chs.chain_append _ _ _ (Chs.way_chain hC n _ (by omega) (by omega)) (by omega) hp (Chs.ways_last' hC (by omega)).symm
def Chs.path (C : Chs) (p : Nat) : List ByteArray := (C.way p).map C.chg
structure Along (C : Chs) (p i : Nat) (D : Chs) : Prop where
 ok : D.Ok
 len : D.pages.length = i + 1
 cur : D.at' = i
 st : ∀ q, (0 :: C.way p)[i]? = some q → D.now i = C.now q
 lnk : ∀ j x, j < i → (C.way p)[j]? = some x → D.par (j + 1) = j ∧ D.chg (j + 1) = C.chg x
theorem Along.new {C : Chs} (hC : C.Ok) (p : Nat) : Along C p 0 Chs.new where
 ok := Chs.new_ok
 len := rfl
 cur := rfl
 st := fun q hq => by
  have : q = 0 := by simpa using hq.symm
  subst this
  rw [hC.root.2]; rfl
 lnk := fun j x h => by omega
theorem Chs.way_len_le {C : Chs} (hC : C.Ok) {p : Nat} (hp : p < C.pages.length) : (C.way p).length ≤ p := by
 rw [Chs.way_eq hC hp, List.length_reverse]; exact Chs.ups_len hC _ _
theorem Chs.chain_get {C : Chs} : ∀ (l : List Nat) (q i : Nat) (h : i < l.length), C.Chain q l → 0 < l[i] ∧ l[i] < C.pages.length ∧ C.par l[i] = (q :: l)[i]'(by simp; omega)
 | x :: l, q, 0, _, h => ⟨h.1, h.2.1, h.2.2.1⟩
 | x :: l, q, i + 1, hi, h => Chs.chain_get l x i (by simpa using hi) h.2.2.2
theorem Along.child {C D : Chs} {p i : Nat} (h : Along C p i D) (ch : ByteArray) : D.child i ch = none := by
 unfold Chs.child
 rw [List.findIdx?_eq_none_iff]
 intro q hq
 obtain ⟨j, hj, rfl⟩ := List.mem_iff_getElem.1 hq
 have hl := h.len
 have hpar : D.pages[j].parent = D.par j := par_get hj
 have hchg : D.pages[j].change = D.chg j := chg_get hj
 rw [hpar, hchg]
 by_cases h0 : j = 0
 ·subst h0
  rw [h.ok.rc]
  have : strEq (ByteArray.mk #[]) (ByteArray.mk #[]) = true := by decide +kernel
  rw [this]; simp
 ·have := h.ok.up j (by omega) hj
  rw [decide_eq_false (by omega)]; simp
theorem Along.step {C D : Chs} {p i : Nat} (hC : C.Ok) (hp : p < C.pages.length) (h : Along C p i D) (hi : i < (C.way p).length) :
  (D.do (C.chg ((C.way p)[i]))).2.2 = 0 ∧ Along C p (i + 1) (D.do (C.chg ((C.way p)[i]))).1 := by
 have hch := Chs.way_chain hC p p (Nat.le_refl _) hp
 obtain ⟨h0, hx, hpar⟩ := Chs.chain_get _ _ i hi hch
 obtain ⟨w, hd⟩ := hC.did _ h0 hx
 have hst := h.st _ (List.getElem?_eq_getElem (by simp; omega))
 rw [hpar] at hd
 have hcur := h.cur
 have hl := h.len
 have hwl := Chs.way_len_le hC hp
 have hm := hC.most
 have hdo : D.do (C.chg ((C.way p)[i])) = (⟨D.pages ++ [⟨C.chg ((C.way p)[i]), i, C.now ((C.way p)[i])⟩], i + 1⟩, w, 0) := by
  unfold Chs.do
  rw [hcur, hst, hd]
  dsimp only
  rw [h.child]
  dsimp only
  rw [if_neg (by omega), hl]
 have hok := Chs.do_ok h.ok (C.chg ((C.way p)[i]))
 rw [hdo] at hok ⊢
 refine ⟨rfl, hok, by simp; omega, rfl, fun q hq => ?_, fun j x hj hq => ?_⟩
 ·have : q = (C.way p)[i] := by
   rw [List.getElem?_cons_succ, List.getElem?_eq_getElem hi] at hq
   injection hq with hq; exact hq.symm
  subst this
  unfold Chs.now
  dsimp only
  rw [List.getElem?_append_right (by omega)]
  simp [hl]
 ·by_cases he : j = i
  ·subst he
   rw [List.getElem?_eq_getElem hi] at hq
   injection hq with hq
   subst hq
   unfold Chs.par Chs.chg
   dsimp only
   rw [List.getElem?_append_right (by omega)]
   simp [hl]
  ·obtain ⟨k1, k2⟩ := h.lnk j x (by omega) hq
   have e : (D.pages ++ [(⟨C.chg ((C.way p)[i]), i, C.now ((C.way p)[i])⟩ : Pg)])[j + 1]? = D.pages[j + 1]? := List.getElem?_append_left (by omega)
   exact ⟨by show (Option.map _ _).getD 0 = j; rw [e]; exact k1, by show (Option.map _ _).getD (ByteArray.mk #[]) = _; rw [e]; exact k2⟩
theorem Along.path {C D : Chs} {p i : Nat} (hC : C.Ok) (h : Along C p i D) (hi : i ≤ (C.way p).length) : ∀ j, j ≤ i → (D.way j).map D.chg = ((C.way p).take j).map C.chg
 | 0, _ => by rw [Chs.way_zero h.ok]; rfl
 | j + 1, hj => by
  have hl := h.len
  obtain ⟨k1, k2⟩ := h.lnk j ((C.way p)[j]'(by omega)) (by omega) (List.getElem?_eq_getElem (by omega))
  rw [Chs.way_step h.ok (by omega) (by omega), k1, List.map_append, Along.path hC h hi j (by omega), List.take_succ_eq_append_getElem (by omega), List.map_append]
  simp [k2]
section
variable {C : Chs}
def stepS (s : St) (line : ByteArray) : St := match (doS s line).1 with | .inr t => t | .inl _ => s
theorem now_fold (hC : C.Ok) : ∀ (n p : Nat), p ≤ n → p < C.pages.length → (C.path p).foldl stepS St.new = C.now p := by
 intro n
 induction n with
 | zero =>
  intro p h hp
  have : p = 0 := by omega
  subst this
  unfold Chs.path
  rw [Chs.way_zero hC, hC.root.2]; rfl
 | succ n ih =>
  intro p h hp
  by_cases h0 : p = 0
  ·subst h0
   unfold Chs.path
   rw [Chs.way_zero hC, hC.root.2]; rfl
  ·have hup := hC.up p (by omega) hp
   have := ih (C.par p) (by omega) (by omega)
   unfold Chs.path at this ⊢
   rw [Chs.way_step hC h0 hp, List.map_append, List.foldl_append, this]
   obtain ⟨w, hw⟩ := hC.did p (by omega) hp
   show stepS (C.now (C.par p)) (C.chg p) = C.now p
   unfold stepS
   rw [hw]
theorem stepS_ok {s : St} (h : s.Ok) (line : ByteArray) : (stepS s line).Ok := by
 unfold stepS
 split
 ·rename_i t ht
  exact doS_ok (w := (doS s line).2) h (by rw [← ht])
 ·exact h
theorem path_did (hC : C.Ok) : ∀ (n p : Nat), p ≤ n → p < C.pages.length → ∀ i (h : i < (C.path p).length), ∃ w, doS (((C.path p).take i).foldl stepS St.new) (C.path p)[i] = (.inr (((C.path p).take (i + 1)).foldl stepS St.new), w) := by
 intro n
 induction n with
 | zero =>
  intro p h hp i hi
  have : p = 0 := by omega
  subst this
  unfold Chs.path at hi
  rw [Chs.way_zero hC] at hi
  simp at hi
 | succ n ih =>
  intro p h hp i hi
  by_cases h0 : p = 0
  ·subst h0
   unfold Chs.path at hi
   rw [Chs.way_zero hC] at hi
   simp at hi
  ·have hup := hC.up p (by omega) hp
   have hpath : C.path p = C.path (C.par p) ++ [C.chg p] := by
    unfold Chs.path
    rw [Chs.way_step hC h0 hp, List.map_append]; rfl
   have hf := now_fold hC n (C.par p) (by omega) (by omega)
   obtain ⟨w, hw⟩ := hC.did p (by omega) hp
   have ihp := ih (C.par p) (by omega) (by omega)
   generalize C.path (C.par p) = q at *
   simp only [hpath] at hi ⊢
   rw [List.length_append] at hi
   by_cases hlt : i < q.length
   ·obtain ⟨w', hw'⟩ := ihp i hlt
    refine ⟨w', ?_⟩
    rw [List.getElem_append_left hlt, List.take_append_of_le_length (by omega), List.take_append_of_le_length (by omega)]
    exact hw'
   ·have : i = q.length := by simp at hi; omega
    subst this
    refine ⟨w, ?_⟩
    have e1 : (q ++ [C.chg p]).take q.length = q := by simp
    have e2 : (q ++ [C.chg p]).take (q.length + 1) = q ++ [C.chg p] := by rw [List.take_of_length_le (by simp)]
    rw [e1, e2, List.foldl_append, hf, List.getElem_append_right (Nat.le_refl _)]
    simp only [Nat.sub_self, List.getElem_cons_zero, List.foldl_cons, List.foldl_nil]
    rw [hw]
    unfold stepS
    rw [hw]
theorem fold_ok (l : List ByteArray) : ∀ {s : St}, s.Ok → (l.foldl stepS s).Ok := by
 induction l with
 | nil => intro s h; exact h
 | cons x l ih => intro s h; exact ih (stepS_ok h x)
end
end Go.Lt.P10

namespace Go.Lt
open Go.RowKit
/-! ### blocks of a function's own -/
structure Cx (H0 H : Hp) (E : List (Nat × List AV)) : Prop where
 g : Gr H0 H
 e : ∀ p ∈ E, H.get p.1 = some (.cells p.2 false)
 nd : E.Pairwise fun p q => p.1 ≠ q.1
 lo : ∀ p ∈ E, H0.n ≤ p.1
section
variable {H0 H H' : Hp} {E : List (Nat × List AV)}
theorem Cx.nil (H : Hp) : Cx H H [] := ⟨.refl _, fun _ h => (by cases h), .nil, fun _ h => (by cases h)⟩
theorem Cx.lt (c : Cx H0 H E) {p : Nat × List AV} (h : p ∈ E) : p.1 < H.n := Hp.get_lt (c.e p h)
theorem Cx.gr (c : Cx H0 H E) (g : Gr H H') : Cx H0 H' E := ⟨c.g.trans g, fun p h => by rw [g.2 _ (c.lt h)]; exact c.e p h, c.nd, c.lo⟩
theorem Cx.weak (c : Cx H0 H E) {E' : List (Nat × List AV)} (h : E'.Sublist E) : Cx H0 H E' := ⟨c.g, fun p hp => c.e p (h.subset hp), c.nd.sublist h, fun p hp => c.lo p (h.subset hp)⟩
theorem Cx.push (c : Cx H0 H E) (cs : List AV) : Cx H0 (H.push (.cells cs false)) ((H.n, cs) :: E) where
 g := c.g.trans (.push _ _)
 e := fun p h => by
  rcases List.mem_cons.1 h with rfl | h
  ·exact Hp.get_push_new _ _
  ·rw [Hp.get_push_old _ _ (c.lt h)]; exact c.e p h
 nd := List.pairwise_cons.2 ⟨fun p h => by have := c.lt h; show H.n ≠ p.1; omega, c.nd⟩
 lo := fun p h => by
  rcases List.mem_cons.1 h with rfl | h
  ·exact c.g.1
  ·exact c.lo p h
theorem Cx.set (c : Cx H0 H E) {i b : Nat} {zs : List AV} (hi : E[i]? = some (b, zs)) (vs : List AV) (hg : H'.get b = some (.cells vs false)) (hn : H'.n = H.n) (ho : ∀ x, x ≠ b → H'.get x = H.get x) : Cx H0 H' (E.set i (b, vs)) := by
 obtain ⟨hil, hie⟩ := List.getElem?_eq_some_iff.1 hi
 have hm : (b, zs) ∈ E := hie ▸ List.getElem_mem hil
 have hb := c.lo _ hm
 have ne : ∀ j (hj : j < E.length), j ≠ i → E[j].1 ≠ b := fun j hj hji => by
  rcases Nat.lt_or_ge j i with h | h
  ·have := List.pairwise_iff_getElem.1 c.nd j i hj hil h
   rw [hie] at this; exact this
  ·have := List.pairwise_iff_getElem.1 c.nd i j hil hj (by omega)
   rw [hie] at this; exact fun q => this q.symm
 refine ⟨⟨by rw [hn]; exact c.g.1, fun x hx => by rw [ho x (by dsimp only at hb; omega)]; exact c.g.2 x hx⟩, fun p h => ?_, ?_, fun p h => ?_⟩
 ·obtain ⟨j, hj, rfl⟩ := List.mem_iff_getElem.1 h
  by_cases e : j = i
  ·subst e; rw [List.getElem_set_self]; exact hg
  ·have hj' : j < E.length := by simpa using hj
   rw [List.getElem_set_ne (fun q => e q.symm), ho _ (ne j hj' e)]
   exact c.e _ (List.getElem_mem hj')
 ·rw [List.pairwise_iff_getElem]
  intro x y hx hy hxy
  have hx' : x < E.length := by simpa using hx
  have hy' : y < E.length := by simpa using hy
  by_cases ex : x = i
  ·subst ex
   rw [List.getElem_set_self, List.getElem_set_ne (by omega)]
   exact fun q => ne y hy' (by omega) q.symm
  ·rw [List.getElem_set_ne (fun q => ex q.symm)]
   by_cases ey : y = i
   ·subst ey
    rw [List.getElem_set_self]
    exact ne x hx' ex
   ·rw [List.getElem_set_ne (fun q => ey q.symm)]
    exact List.pairwise_iff_getElem.1 c.nd x y hx' hy' hxy
 ·obtain ⟨j, hj, rfl⟩ := List.mem_iff_getElem.1 h
  by_cases e : j = i
  ·subst e; rw [List.getElem_set_self]; exact hb
  ·rw [List.getElem_set_ne (fun q => e q.symm)]; exact c.lo _ (List.getElem_mem _)
end
section
variable {α : Type} {Q : α → Hp → Prop} {H0 H : Hp} {E : List (Nat × List AV)}
theorem Ok.box (c : Cx H0 H E) {cs : List AV} {f : Hp → Option (α × Hp)} (k : ∀ A, Gr H A → Cx H0 A ((H.n, cs) :: E) → Ok (f A) Q) : Ok (Go.Lt.lt (H.push (.cells cs false)) f) Q :=
 Ok.lt (k _ (.push _ _) (c.push cs))
theorem Ok.alo (c : Cx H0 H E) {zs vs : List AV} {f : Hp → Option (α × Hp)} (k : ∀ A, Gr H A → Cx H0 A ((H.n, vs) :: E) → Ok (f A) Q) (hl : vs.length = zs.length := by rfl) : Ok (((H.push (.cells zs false)).sts H.n 0 vs).bind f) Q := by
 obtain ⟨D, h1, h2, h3, h4⟩ := sts_blk vs 0 (H.push (.cells zs false)) zs (Hp.get_push_new _ _) (by omega)
 have := (c.push zs).set (i := 0) rfl vs (by rw [h2]; simp [hl]) h3 h4
 exact Ok.ld h1 (k D ⟨by rw [h3]; simp, fun x hx => by rw [h4 x (by omega), Hp.get_push_old _ _ hx]⟩ this)
theorem Ok.cld (c : Cx H0 H E) {k : IntKind} {b o : Nat} {n : Int} {cs : List AV} {f : Int → Option (α × Hp)} (hm : (b, cs) ∈ E) (e : cs[o]? = some (.int k n)) (kk : Ok (f n) Q) : Ok ((H.ldI k b o).bind f) Q := by
 refine Ok.ld ?_ kk
 simp [Hp.ldI, ld_of_get (c.e _ hm), e, AV.asI]
theorem Ok.cst (c : Cx H0 H E) (i : Nat) {b : Nat} {zs vs : List AV} {f : Hp → Option (α × Hp)} (hi : E[i]? = some (b, zs)) (hl : vs.length = zs.length) (k : ∀ A, A.n = H.n → (∀ x, x ≠ b → A.get x = H.get x) → Cx H0 A (E.set i (b, vs)) → Ok (f A) Q) : Ok ((H.sts b 0 vs).bind f) Q := by
 obtain ⟨hil, hie⟩ := List.getElem?_eq_some_iff.1 hi
 have hm : (b, zs) ∈ E := hie ▸ List.getElem_mem hil
 obtain ⟨D, h1, h2, h3, h4⟩ := sts_blk vs 0 H zs (c.e _ hm) (by omega)
 exact Ok.ld h1 (k D h3 h4 (c.set hi vs (by rw [h2]; simp [hl]) h3 h4))
theorem Ok.cst1 (c : Cx H0 H E) (i : Nat) {b o : Nat} {zs : List AV} {v : AV} {f : Hp → Option (α × Hp)} (hi : E[i]? = some (b, zs)) (hl : o < zs.length) (k : ∀ A, A.n = H.n → (∀ x, x ≠ b → A.get x = H.get x) → Cx H0 A (E.set i (b, zs.set o v)) → Ok (f A) Q) : Ok ((H.st b o v).bind f) Q := by
 obtain ⟨hil, hie⟩ := List.getElem?_eq_some_iff.1 hi
 have hm : (b, zs) ∈ E := hie ▸ List.getElem_mem hil
 rw [st_eq (c.e _ hm) hl]
 exact k _ (by simp) (fun x hx => Hp.get_set_other _ _ hx) (c.set hi _ (Hp.get_set_same _ _ (c.lt hm)) (by simp) fun x hx => Hp.get_set_other _ _ hx)
theorem SL.congr {T : Type} [El T] {H H' : Hp} {v : Sl} {l : List T} (h : SL H v l) (e : H'.get v.b = H.get v.b) : SL H' v l := ⟨h.cs.congr e, h.cap, h.opn, h.nil⟩
theorem Ok.own {β : Type} {x : Option (β × Hp)} {b : β} {f : β × Hp → Option (α × Hp)} (h : Ok x fun r _ => r = b) (k : ∀ X, Ok (f (b, X)) Q) : Ok (x.bind f) Q :=
 Ok.bind h fun r X e => by subst e; exact k X
end
end Go.Lt

namespace Go.Lt
/-! ### slices that grow, among blocks of one's own -/
section
variable {H0 A A' : Hp} {E E' : List (Nat × List AV)}
theorem Cx.perm (c : Cx H0 A E) (p : E.Perm E') : Cx H0 A E' :=
 ⟨c.g, fun q hq => c.e q (p.mem_iff.2 hq), (p.pairwise_iff fun h q => h q.symm).1 c.nd, fun q hq => c.lo q (p.mem_iff.2 hq)⟩
def sub (v : Sl) (cs : List AV) : List (Nat × List AV) := if v.nil = true then [] else [(v.b, cs)]
def AS (es : Nat) (v : Sl) (n : Nat) : Prop := (v = nilS ∧ n = 0) ∨ (v.nil = false ∧ v.o = 0 ∧ v.opn = es ∧ v.cap = v.len ∧ v.len = n)
theorem AS.nil {es : Nat} : AS es ⟨true, 0, 0, 0, 0, 0⟩ 0 := .inl ⟨rfl, rfl⟩
theorem AS.len {es n : Nat} {v : Sl} (a : AS es v n) : v.len = n := by
 rcases a with ⟨rfl, rfl⟩ | ⟨_, _, _, _, h⟩
 ·rfl
 ·exact h
theorem Cx.acc {T : Type} [El T] (c : Cx H0 A E) {v : Sl} {l : List T} (a : AS (El.sz T) v l.length) (h : ∀ p ∈ sub v (encs l), p ∈ E) : AccL H0.n A v l := by
 rcases a with ⟨rfl, hn⟩ | ⟨h1, h2, h3, h4, h5⟩
 ·obtain rfl := List.length_eq_zero_iff.1 hn
  exact AccL.nilS
 ·have hm : (v.b, encs l) ∈ E := h _ (by simp [sub, h1])
  exact .inr ⟨h1, h2, h3, h4, c.lo _ hm, c.e _ hm, by rw [encs_len, h5]⟩
theorem Cx.sl {T : Type} [El T] (c : Cx H0 A E) {v : Sl} {l : List T} (a : AS (El.sz T) v l.length) (h : ∀ p ∈ sub v (encs l), p ∈ E) : SL A v l := (c.acc a h).sl
theorem Cx.app1 {T : Type} [El T] {v : Sl} {l : List T} (c : Cx H0 A (sub v (encs l) ++ E)) (a : AS (El.sz T) v l.length) (x : T) {es : Nat} {cs : List AV} (hes : es = El.sz T) (hcs : cs = El.enc x) (hb : l.length < 4294967296) :
  Ok (A.apN es v cs 1) fun v' A' => Cx H0 A' (sub v' (encs (l ++ [x])) ++ E) ∧ AS (El.sz T) v' (l ++ [x]).length := by
 have hacc := c.acc a fun p hp => List.mem_append_left _ hp
 refine (P10.AccL.push0 hacc c.g.1 x hes hcs hb).mono fun v' A' ⟨h1, h2, h3, h4⟩ => ?_
 have hE : ∀ p ∈ E, p ∈ sub v (encs l) ++ E := fun p hp => List.mem_append_right _ hp
 have hne : ∀ p ∈ E, v.nil = false → p.1 ≠ v.b := fun p hp hn e => by
  have := (List.pairwise_append.1 c.nd).2.2 (v.b, encs l) (by simp [sub, hn]) p hp
  exact this e.symm
 have hn1 := h2.1
 rcases h1 with ⟨e, _⟩ | ⟨k1, k2, k3, k4, k5, k6, k7⟩
 ·rw [e] at h4; cases h4
 ·refine ⟨⟨h2.gr hacc c.g, fun p hp => ?_, ?_, fun p hp => ?_⟩, .inr ⟨k1, k2, k3, k4, ?_⟩⟩
  ·rcases List.mem_append.1 hp with hp | hp
   ·simp [sub, h4] at hp; subst hp; exact k6
   ·rw [h2.2 _ (c.lt (hE p hp)) fun hn => hne p hp hn]
    exact c.e p (hE p hp)
  ·rw [List.pairwise_append]
   refine ⟨by unfold sub; split <;> simp, (List.pairwise_append.1 c.nd).2.1, fun q hq p hp => ?_⟩
   simp [sub, h4] at hq
   subst hq
   rcases h3 with e | e
   ·subst e
    exact fun z => hne p hp h4 z.symm
   ·have := c.lt (hE p hp)
    dsimp only; omega
  ·rcases List.mem_append.1 hp with hp | hp
   ·simp [sub, h4] at hp; subst hp; exact k5
   ·exact c.lo p (hE p hp)
  ·rw [encs_len] at k7
   exact (Nat.eq_of_mul_eq_mul_right El.pos k7).symm
theorem Cx.putI {α : Type} {Q : α → Hp → Prop} {v : Sl} {l : List Int} (c : Cx H0 A (sub v (encs l) ++ E)) (a : AS 1 v l.length) {i : Nat} (n : Int) (hi : i < l.length) {f : Hp → Option (α × Hp)}
  (k : ∀ A', Cx H0 A' (sub v (encs (l.set i n)) ++ E) → Ok (f A') Q) : Ok ((A.st v.b (v.o + i * 1) (.int .i64 n)).bind f) Q := by
 rcases a with ⟨rfl, hn⟩ | ⟨h1, h2, h3, h4, h5⟩
 ·omega
 ·have e : sub v (encs l) ++ E = (v.b, encs l) :: E := by simp [sub, h1]
  have e2 : sub v (encs (l.set i n)) ++ E = (v.b, encs (l.set i n)) :: E := by simp [sub, h1]
  rw [e] at c
  rw [h2, Nat.zero_add, Nat.mul_one]
  refine Ok.cst1 c 0 rfl (by rw [encs_len]; exact Nat.lt_of_lt_of_le hi (by show l.length ≤ l.length * 1; omega)) fun A' _ _ c' => k A' ?_
  rw [e2]
  simpa [P10.encs_ints] using c'
end
end Go.Lt

namespace Go.Lt.P10
open Go Go.Lt Go.Proofs
section
variable {H : Hp} {c : Nat} {pv : Sl} {C : Chs} {t : Nat}
theorem path_ok (h : ChAt H c pv C t) (hC : C.Ok) : Lt.Ok (r43 c 0 H) fun r A => Gr H A ∧ AccN H.n A r (C.path C.at') := by
 unfold r43
 refine is (none_ok h hC) (Lt.Ok.neg (by simp) ?_)
 dsimp only
 have hm := hC.most
 refine Lt.Ok.ld (ldI_get h.get rfl) (Lt.Ok.bind (way_ok h hC hC.cur) fun v A ⟨g, hv⟩ => ?_)
 have hA := h.gr g
 have hvs := hv.sl
 have hl := hv.len
 rw [ints_len] at hl
 have hwl := C.way_len hC C.at'
 dsimp only
 refine Lt.Ok.loop (L := fun K (s : Sl × Int) B => r43_l0 K c 0 s.1 v (v.len : Int) s.2 B) (fun m s B => ∃ i : Nat, s.2 = (i : Int) ∧ i + m = (C.way C.at').length ∧ Gr A B ∧ AccN A.n B s.1 (((C.way C.at').take i).map C.chg)) ?_ FUEL (C.way C.at').length (⟨true, 0, 0, 0, 0, 0⟩, 0) A (by unfold FUEL; omega) ⟨0, rfl, by omega, .refl _, ⟨AccL.nilS, fun _ => rfl⟩⟩
 rintro K m ⟨r, i'⟩ B ⟨i, hi, him, gB, ha⟩ ih
 dsimp only at *
 subst hi
 have hB := hA.gr gB
 have hlen := hB.len
 rw [r43_l0]
 refine Lt.Ok.ite (fun hlt => ?_) fun hlt => ?_
 ·have hil : i < (C.way C.at').length := by omega
  have hx : (C.way C.at')[i] < C.pages.length := by
   have := (Chs.way_mem hC (List.getElem_mem hil)).2
   have := hC.cur
   omega
  refine Lt.Ok.ck (by omega) (Lt.Ok.ld ((hvs.gr gB).ldI (i := i) (j := 0) (n := ((C.way C.at')[i] : Int)) (by rw [ints_len]; exact hil) (by simp only [ints, List.getElem_map]; rfl)) (Lt.Ok.ld (ldSl_get hB.get rfl) (Lt.Ok.ck (by omega) (Lt.Ok.ld (hB.ldCh hx) ?_))))
  rw [chg_get hx]
  refine Lt.Ok.bind (AccN.push ha gB.1 (C.chg (C.way C.at')[i]) rfl rfl (by simp; omega)) fun r' D ⟨k1, k2, k3, k4⟩ => ?_
  dsimp only
  rw [w64_succ (by omega)]
  refine ih (m - 1) (r', _) D (by omega) ⟨i + 1, rfl, by omega, But.gr k2 ha.1 gB, ?_⟩
  rw [List.take_succ_eq_append_getElem hil, List.map_append]
  exact k1
 ·have : i = (C.way C.at').length := by omega
  subst this
  rw [List.take_length] at ha
  have e : AccN H.n B r (C.path C.at') := by
   refine ⟨?_, ha.2⟩
   rcases ha.1 with h | ⟨h1, h2, h3, h4, h5, h6, h7⟩
   ·exact .inl h
   ·exact .inr ⟨h1, h2, h3, h4, Nat.le_trans g.1 h5, h6, h7⟩
  exact Lt.Ok.ret ⟨g.trans gB, e⟩
end
end Go.Lt.P10

namespace Go.Lt
theorem Cx.add {T : Type} [El T] {H0 H A : Hp} {E : List (Nat × List AV)} (c : Cx H0 H E) (g : Gr H A) {v : Sl} {l : List T} (h : AccL H.n A v l) : Cx H0 A (sub v (encs l) ++ E) ∧ AS (El.sz T) v l.length := by
 have hl := h.len
 rcases h with ⟨rfl, e⟩ | ⟨h1, h2, h3, h4, h5, h6, h7⟩
 ·exact ⟨c.gr g, .inl ⟨rfl, hl.symm⟩⟩
 ·have cA := c.gr g
  refine ⟨⟨cA.g, fun p hp => ?_, ?_, fun p hp => ?_⟩, .inr ⟨h1, h2, h3, h4, hl⟩⟩
  ·rcases List.mem_append.1 hp with hp | hp
   ·simp [sub, h1] at hp; subst hp; exact h6
   ·exact cA.e p hp
  ·rw [List.pairwise_append]
   refine ⟨by unfold sub; split <;> simp, cA.nd, fun q hq p hp => ?_⟩
   simp [sub, h1] at hq
   subst hq
   have := c.lt hp
   dsimp only; omega
  ·rcases List.mem_append.1 hp with hp | hp
   ·simp [sub, h1] at hp; subst hp; have := c.g.1; dsimp only; omega
   ·exact cA.lo p hp
def SLn {T : Type} [El T] (n0 : Nat) (A : Hp) (v : Sl) (l : List T) : Prop := SL A v l ∧ (v.nil = false → n0 ≤ v.b)
theorem SLn.gr {T : Type} [El T] {n0 : Nat} {A B : Hp} {v : Sl} {l : List T} (h : SLn n0 A v l) (g : Gr A B) : SLn n0 B v l := ⟨h.1.gr g, h.2⟩
theorem Cx.sln {T : Type} [El T] {H0 A : Hp} {E : List (Nat × List AV)} (c : Cx H0 A E) {v : Sl} {l : List T} (a : AS (El.sz T) v l.length) (h : ∀ p ∈ sub v (encs l), p ∈ E) : SLn H0.n A v l :=
 ⟨c.sl a h, fun hn => c.lo (v.b, encs l) (h _ (by simp [sub, hn]))⟩
end Go.Lt
namespace Go.Lt.P10
open Go Go.Lt Go.Proofs
theorem SLn.sp {T : Type} [El T] {n0 : Nat} {A B : Hp} {v : Sl} {l : List T} {c p p' : Nat} (h : SLn n0 A v l) (s : Sp c p p' A B) (hc : c < n0) (hp : p < n0) : SLn n0 B v l := by
 refine ⟨SL.sp h.1 fun hne => ?_, h.2⟩
 have := h.2 (h.1.nonnil hne)
 exact s.e _ (SL.lt h.1 hne) (by omega) (by omega)
/-! ### what the statements across layers read of a path -/
theorem strEq_comm (a b : ByteArray) : strEq a b = strEq b a := by
 rw [Bool.eq_iff_iff, strEq_iff, strEq_iff]
 exact ⟨Eq.symm, Eq.symm⟩
def nmsS (s : St) : List ByteArray := s.leaves.map (·.1)
def stksS (s : St) : List Int := s.leaves.map (·.2)
theorem find_nms (s : St) (x : ByteArray) : (nmsS s).findIdx? (fun y => strEq x y) = s.find x := by
 unfold nmsS St.find
 rw [List.findIdx?_map]
 congr 1
 funext l
 exact strEq_comm _ _
theorem stks_len (s : St) : (stksS s).length = s.leaves.length := by simp [stksS]
theorem nms_len (s : St) : (nmsS s).length = s.leaves.length := by simp [nmsS]
theorem stks_get {s : St} {i : Nat} (h : i < (stksS s).length) : (stksS s)[i] = stock s i := by
 rw [stks_len] at h
 rw [stock_eq h]; simp [stksS]
theorem nms_set (s : St) (i : Nat) (n : Int) : nmsS (setStock s i n) = nmsS s := by
 unfold nmsS
 rw [setStock_leaves]
 apply List.ext_getElem
 ·simp
 ·intro j h1 h2
  simp only [List.getElem_map, List.getElem_modify]
  split <;> rfl
theorem stks_set (s : St) (i : Nat) (n : Int) : stksS (setStock s i n) = (stksS s).set i n := by
 unfold stksS
 rw [setStock_leaves]
 apply List.ext_getElem
 ·simp
 ·intro j h1 h2
  simp only [List.getElem_map, List.getElem_modify, List.getElem_set]
  split <;> simp_all
theorem atoi_any (s : ByteArray) (hs : s.size ≤ 4194304) (H : Hp) : ∃ n e, atoiP s H = some (.tup [.int .i64 n, e], H) := by
 unfold atoiP
 rw [if_pos (by omega)]
 unfold atoiV
 cases Lib.atoiAll s.data.toList with
 | «syntax» => exact ⟨_, _, rfl⟩
 | range => exact ⟨_, _, rfl⟩
 | ok v => exact ⟨_, _, rfl⟩
theorem atoi_num {s : ByteArray} {n : Int} (hs : s.size ≤ 4194304) (h : numS s = some n) (H : Hp) : ∃ e, atoiP s H = some (.tup [.int .i64 n, e], H) := by
 unfold atoiP
 rw [if_pos (by omega)]
 unfold atoiV
 rw [(numS_atoi h).1]
 exact ⟨_, rfl⟩
def tsC (s : St) : List AV := [.int .i64 s.t0, .int .i64 s.t1, .int .i64 s.t2, .int .i64 s.t3]
def z4 : List AV := [.int .i64 0, .int .i64 0, .int .i64 0, .int .i64 0]
structure LrI (H D : Hp) (b1 b5 : Nat) (s : St) (vp vn vs vo vf : Sl) (path : List ByteArray) : Prop where
 cx : Cx H D (sub vf (encs s.offers) ++ (sub vo (encs s.orders) ++ (sub vs (encs (stksS s)) ++ (sub vn (encs (nmsS s)) ++ (sub vp (encs path) ++ [(b5, tsC s), (b1, z4)])))))
 ap : AS 1 vp path.length
 an : AS 1 vn (nmsS s).length
 as' : AS 1 vs (stksS s).length
 ao : AS 1 vo s.orders.length
 af : AS 2 vf s.offers.length
section
variable {H D : Hp} {b1 b5 : Nat} {s : St} {vp vn vs vo vf : Sl} {path : List ByteArray}
theorem LrI.gr {A : Hp} (h : LrI H D b1 b5 s vp vn vs vo vf path) (g : Gr D A) : LrI H A b1 b5 s vp vn vs vo vf path := ⟨h.cx.gr g, h.ap, h.an, h.as', h.ao, h.af⟩
theorem LrI.slp (h : LrI H D b1 b5 s vp vn vs vo vf path) : SL D vp path := h.cx.sl h.ap fun p hp => by simp [hp]
theorem LrI.sln (h : LrI H D b1 b5 s vp vn vs vo vf path) : SL D vn (nmsS s) := h.cx.sl h.an fun p hp => by simp [hp]
theorem LrI.sls (h : LrI H D b1 b5 s vp vn vs vo vf path) : SL D vs (stksS s) := h.cx.sl h.as' fun p hp => by simp [hp]
theorem LrI.slo (h : LrI H D b1 b5 s vp vn vs vo vf path) : SL D vo s.orders := h.cx.sl h.ao fun p hp => by simp [hp]
theorem perm3 {α : Type} (a b c : List α) : (a ++ (b ++ c)).Perm (b ++ (a ++ c)) := by
 rw [← List.append_assoc, ← List.append_assoc]
 exact List.Perm.append_right _ List.perm_append_comm
theorem permS {α : Type} (a b c d : List α) : (a ++ (b ++ (c ++ d))).Perm (c ++ (a ++ (b ++ d))) := ((perm3 b c d).append_left a).trans (perm3 a c (b ++ d))
theorem permN {α : Type} (a b c d e : List α) : (a ++ (b ++ (c ++ (d ++ e)))).Perm (d ++ (a ++ (b ++ (c ++ e)))) := (((perm3 c d e).append_left b).append_left a).trans (permS a b d (c ++ e))
theorem permT {α : Type} (a b c d e : List α) (x y : α) : (a ++ (b ++ (c ++ (d ++ (e ++ [x, y]))))).Perm (x :: (a ++ (b ++ (c ++ (d ++ (e ++ [y])))))) := by
 have e1 : a ++ (b ++ (c ++ (d ++ (e ++ [x, y])))) = (a ++ (b ++ (c ++ (d ++ e)))) ++ x :: [y] := by simp
 have e2 : a ++ (b ++ (c ++ (d ++ (e ++ [y])))) = (a ++ (b ++ (c ++ (d ++ e)))) ++ [y] := by simp
 rw [e1, e2]
 exact List.perm_middle
variable {α : Type} {Q : α → Hp → Prop}
theorem lr_head {k : Nat} {A : Hp} {v : Sl} {ws : List ByteArray} {x : ByteArray} (hv : SL A v (ws ++ [x])) (h1 : 1 ≤ ws.length) (hb : ws.length ≤ 8) (hx : x.size ≤ 4194304) {f : Int → Hp → Option (α × Hp)} {g : Option (α × Hp)} (K : ∀ n, (∀ m, numS x = some m → n = m) → Lt.Ok (f n A) Q) :
  Lt.Ok (if 1 < (v.len : Int) then ck ((0 : Int) ≤ (w64 ((v.len : Int) - 1)) ∧ (w64 ((v.len : Int) - 1)) < (v.len : Int)) ((A.ldStr v.b (v.o + (w64 ((v.len : Int) - 1) : Int).toNat * 1)).bind fun x7 => (appA (k + 1) 53 [.str x7] A).bind fun p8 => (p8.1.asT).bind fun x9 => ck (x9.length = 2) ((x9[0]?).bind fun x11 => (x11.asI .i64).bind fun x12 => (x9[1]?).bind fun x13 => f x12 p8.2)) else g) Q := by
 have hl := hv.len
 rw [List.length_append, List.length_singleton] at hl
 have ew : w64 ((v.len : Int) - 1) = (ws.length : Int) := by rw [w64_id (by omega) (by omega)]; omega
 have e0 : A.ldStr v.b (v.o + ((ws.length : Nat) : Int).toNat * 1) = some x := SL.ldStr hv (i := ws.length) (j := 0) (by simp) (by simp [El.enc])
 rw [ew]
 refine Lt.Ok.pos (by omega) (Lt.Ok.ck (by omega) (Lt.Ok.ld e0 ?_))
 rw [app53]
 have key : ∃ n e, atoiP x A = some (.tup [.int .i64 n, e], A) ∧ ∀ m, numS x = some m → n = m := by
  cases hn : numS x with
  | none =>
   obtain ⟨n, e, h⟩ := atoi_any x hx A
   exact ⟨n, e, h, fun m q => by cases q⟩
  | some m =>
   obtain ⟨e, h⟩ := atoi_num hx hn A
   exact ⟨m, e, h, fun m' q => by injection q⟩
 obtain ⟨n, e, h, hn⟩ := key
 rw [h]
 exact K n hn
theorem ws_ld {A : Hp} {v : Sl} {ws : List ByteArray} (hv : SL A v ws) {i : Nat} (hi : i < ws.length) : A.ldStr v.b (v.o + ((i : Int)).toNat * 1) = some ws[i] := SL.ldStr hv (i := i) (j := 0) hi rfl
theorem r11_step {k : Nat} {A : Hp} {t : St} {line : ByteArray} {v : Sl} {pl : Int} {i : Int} (I : LrI H A b1 b5 s vp vn vs vo vf path) (hs : s.Ok) (hd : Did s t line) (hv : SL A v (words line)) (hsz : ∀ x ∈ words line, x.size ≤ 4194304)
  {kt : Nat → Sl → Sl → Sl → Nat → Sl → Sl → Int → Int → Hp → Option ((Sl × Sl × Sl × Int × Int × Int × Int × Sl) × Hp)} {R : (Sl × Sl × Sl × Int × Int × Int × Int × Sl) → Hp → Prop}
  (K : ∀ D' vn' vs' vo' vf', LrI H D' b1 b5 t vp vn' vs' vo' vf' path → Lt.Ok (kt b1 vn' vs' vo' b5 vf' vp pl (w64 (i + 1)) D') R) :
  Lt.Ok (if 1 < (v.len : Int) then ck ((0 : Int) ≤ (w64 ((v.len : Int) - 1)) ∧ (w64 ((v.len : Int) - 1)) < (v.len : Int)) ((A.ldStr v.b (v.o + (w64 ((v.len : Int) - 1) : Int).toNat * 1)).bind fun x7 => (appA (k + 1) 53 [.str x7] A).bind fun p8 => (p8.1.asT).bind fun x9 => ck (x9.length = 2) ((x9[0]?).bind fun x11 => (x11.asI .i64).bind fun x12 => (x9[1]?).bind fun x13 => r11_j7 (appA (k + 1)) kt b1 vn vs vo b5 vf v x12 vp pl i p8.2)) else r11_j7 (appA (k + 1)) kt b1 vn vs vo b5 vf v 0 vp pl i A) R := by
 have hl := hv.len
 have l6 := hs.l6; have o40 := hs.o40; have f8 := hs.f8
 cases hd with
 | leaf a x n hw hn hf ht =>
  rw [hw] at hv hl hsz
  refine lr_head (ws := [wLeaf, a]) hv (by simp) (by simp) (hsz _ (by simp)) fun m hm => ?_
  have hm := hm n hn
  subst hm
  simp only [List.length_cons, List.length_nil] at hl
  have z0 : A.ldStr v.b (v.o + (0 : Int).toNat * 1) = some wLeaf := ws_ld hv (i := 0) (by simp)
  have z1 : A.ldStr v.b (v.o + (1 : Int).toNat * 1) = some a := ws_ld hv (i := 1) (by simp)
  unfold r11_j7
  refine Lt.Ok.ck (by omega) (Lt.Ok.ld z0 (Lt.Ok.pos (by decide +kernel) ?_))
  unfold r11_j6
  refine Lt.Ok.pos (decide_eq_true (by omega)) (Lt.Ok.ck (by omega) (Lt.Ok.ld z1 ?_))
  refine Lt.Ok.bind ((I.cx.perm (permN _ _ _ _ _)).app1 I.an a rfl rfl (by rw [nms_len]; omega)) fun vn' B ⟨c1, a1⟩ => ?_
  dsimp only
  refine Lt.Ok.bind (((c1.perm (permN _ _ _ _ _).symm).perm (permS _ _ _ _)).app1 (l := stksS s) I.as' m rfl rfl (by rw [stks_len]; omega)) fun vs' D ⟨c2, a2⟩ => ?_
  refine K _ _ _ _ _ ?_
  have e1 : nmsS t = nmsS s ++ [a] := by rw [ht]; simp [nmsS]
  have e2 : stksS t = stksS s ++ [m] := by rw [ht]; simp [stksS]
  have e3 : t.orders = s.orders := by rw [ht]
  have e4 : t.offers = s.offers := by rw [ht]
  have e5 : tsC t = tsC s := by rw [ht]; rfl
  have c3 := c2.perm (permS _ _ _ _).symm
  exact ⟨by rw [e1, e2, e3, e4, e5]; exact c3, I.ap, by rw [e1]; exact a1, by rw [e2]; exact a2, by rw [e3]; exact I.ao, by rw [e4]; exact I.af⟩
 | give a b x n p q hw hn hp hq hpq h1 h20 hd ht =>
  rw [hw] at hv hl hsz
  refine lr_head (ws := [wGive, a, b]) hv (by simp) (by simp) (hsz _ (by simp)) fun m hm => ?_
  have hm := hm n hn
  subst hm
  simp only [List.length_cons, List.length_nil] at hl
  have z0 : A.ldStr v.b (v.o + (0 : Int).toNat * 1) = some wGive := ws_ld hv (i := 0) (by simp)
  have z1 : A.ldStr v.b (v.o + (1 : Int).toNat * 1) = some a := ws_ld hv (i := 1) (by simp)
  have z2 : A.ldStr v.b (v.o + (2 : Int).toNat * 1) = some b := ws_ld hv (i := 2) (by simp)
  have lp := find_lt hp
  have lq := find_lt hq
  have rp := stock_rng hs lp
  have rq := stock_rng hs lq
  unfold r11_j7
  refine Lt.Ok.ck (by omega) (Lt.Ok.ld z0 (Lt.Ok.neg (by decide +kernel) ?_))
  unfold r11_j6
  refine Lt.Ok.neg (by simp) (Lt.Ok.ck (by omega) (Lt.Ok.ld z0 (Lt.Ok.pos (by decide +kernel) ?_)))
  unfold r11_j5
  refine Lt.Ok.pos (decide_eq_true (by omega)) (Lt.Ok.ck (by omega) (Lt.Ok.ld z1 ?_))
  refine Lt.Ok.bind (r23_ok I.sln (by rw [nms_len]; omega) a) fun r B ⟨gB, hr⟩ => ?_
  rw [find_nms, hp] at hr
  subst hr
  have z2B : B.ldStr v.b (v.o + (2 : Int).toNat * 1) = some b := ws_ld (hv.gr gB) (i := 2) (by simp)
  refine Lt.Ok.ck (by omega) (Lt.Ok.ld z2B ?_)
  refine Lt.Ok.bind (r23_ok (I.sln.gr gB) (by rw [nms_len]; omega) b) fun r D ⟨gD, hr⟩ => ?_
  rw [find_nms, hq] at hr
  subst hr
  have ID := (I.gr gB).gr gD
  have hls := ID.sls.len
  rw [stks_len] at hls
  dsimp only [idxI]
  refine Lt.Ok.ck z2 (Lt.Ok.pos (by omega) ?_)
  unfold r11_j1
  have e0 : D.ldI .i64 vs.b (vs.o + ((p : Int)).toNat * 1) = some (stock s p) := ID.sls.ldI (i := p) (j := 0) (by rw [stks_len]; exact lp) (by rw [stks_get (by rw [stks_len]; exact lp)]; rfl)
  refine Lt.Ok.pos (decide_eq_true (by omega)) (Lt.Ok.ck (by omega) (Lt.Ok.ld e0 (Lt.Ok.ck (by omega) ?_)))
  rw [w64_id (n := stock s p - m) (by omega) (by omega)]
  refine Cx.putI (ID.cx.perm (permS _ _ _ _)) ID.as' (i := p) (stock s p - m) (by rw [stks_len]; exact lp) fun E c1 => ?_
  have a1 : AS 1 vs ((stksS s).set p (stock s p - m)).length := by rw [List.length_set]; exact ID.as'
  have s1 : SL E vs ((stksS s).set p (stock s p - m)) := c1.sl a1 fun z hz => by simp [hz]
  have lq' : q < ((stksS s).set p (stock s p - m)).length := by rw [List.length_set, stks_len]; exact lq
  have e1 : E.ldI .i64 vs.b (vs.o + ((q : Int)).toNat * 1) = some (stock s q) := s1.ldI (i := q) (j := 0) lq' (by
   rw [List.getElem_set_ne hpq, stks_get (by rw [stks_len]; exact lq)]; rfl)
  refine Lt.Ok.ck (by omega) (Lt.Ok.ld e1 (Lt.Ok.ck (by omega) ?_))
  rw [w64_id (n := stock s q + m) (by omega) (by omega)]
  refine Cx.putI c1 a1 (i := q) (stock s q + m) lq' fun F c2 => ?_
  refine K _ _ _ _ _ ?_
  have f1 : nmsS t = nmsS s := by rw [ht, nms_set, nms_set]
  have f2 : stksS t = ((stksS s).set p (stock s p - m)).set q (stock s q + m) := by rw [ht, stks_set, stks_set]
  have f3 : t.orders = s.orders := by rw [ht]; rfl
  have f4 : t.offers = s.offers := by rw [ht]; rfl
  have f5 : tsC t = tsC s := by rw [ht]; rfl
  have c3 := c2.perm (permS _ _ _ _).symm
  exact ⟨by rw [f1, f2, f3, f4, f5]; exact c3, ID.ap, by rw [f1]; exact ID.an, by rw [f2]; simpa using ID.as', by rw [f3]; exact ID.ao, by rw [f4]; exact ID.af⟩
 | order a p hw hp h0 ho ht =>
  rw [hw] at hv hl hsz
  refine lr_head (ws := [wOrder]) hv (by simp) (by simp) (hsz _ (by simp)) fun m _ => ?_
  simp only [List.length_cons, List.length_nil] at hl
  have z0 : A.ldStr v.b (v.o + (0 : Int).toNat * 1) = some wOrder := ws_ld hv (i := 0) (by simp)
  have z1 : A.ldStr v.b (v.o + (1 : Int).toNat * 1) = some a := ws_ld hv (i := 1) (by simp)
  have lp := find_lt hp
  have rp := stock_rng hs lp
  unfold r11_j7
  refine Lt.Ok.ck (by omega) (Lt.Ok.ld z0 (Lt.Ok.neg (by decide +kernel) ?_))
  unfold r11_j6
  refine Lt.Ok.neg (by simp) (Lt.Ok.ck (by omega) (Lt.Ok.ld z0 (Lt.Ok.neg (by decide +kernel) ?_)))
  unfold r11_j5
  refine Lt.Ok.neg (by simp) (Lt.Ok.ck (by omega) (Lt.Ok.ld z0 (Lt.Ok.pos (by decide +kernel) ?_)))
  unfold r11_j4
  refine Lt.Ok.pos (decide_eq_true (by omega)) (Lt.Ok.ck (by omega) (Lt.Ok.ld z1 ?_))
  refine Lt.Ok.bind (r23_ok I.sln (by rw [nms_len]; omega) a) fun r D ⟨gD, hr⟩ => ?_
  rw [find_nms, hp] at hr
  subst hr
  have ID := I.gr gD
  have hls := ID.sls.len
  rw [stks_len] at hls
  dsimp only [idxI]
  have e0 : D.ldI .i64 vs.b (vs.o + ((p : Int)).toNat * 1) = some (stock s p) := ID.sls.ldI (i := p) (j := 0) (by rw [stks_len]; exact lp) (by rw [stks_get (by rw [stks_len]; exact lp)]; rfl)
  refine Lt.Ok.pos (by omega) (Lt.Ok.ck (by omega) (Lt.Ok.ld e0 (Lt.Ok.ck (by omega) ?_)))
  rw [w64_id (n := stock s p - 1) (by omega) (by omega)]
  refine Cx.putI (ID.cx.perm (permS _ _ _ _)) ID.as' (i := p) (stock s p - 1) (by rw [stks_len]; exact lp) fun E c1 => ?_
  refine Lt.Ok.bind (((c1.perm (permS _ _ _ _).symm).perm (perm3 _ _ _)).app1 (l := s.orders) ID.ao (p : Int) rfl rfl (by omega)) fun vo' F ⟨c2, a2⟩ => ?_
  refine K _ _ _ _ _ ?_
  have f1 : nmsS t = nmsS s := by rw [ht]; exact nms_set _ _ _
  have f2 : stksS t = (stksS s).set p (stock s p - 1) := by rw [ht]; exact stks_set _ _ _
  have f3 : t.orders = s.orders ++ [(p : Int)] := by rw [ht]
  have f4 : t.offers = s.offers := by rw [ht]; rfl
  have f5 : tsC t = tsC s := by rw [ht]; rfl
  have c3 := c2.perm (perm3 _ _ _).symm
  exact ⟨by rw [f1, f2, f3, f4, f5]; exact c3, ID.ap, by rw [f1]; exact ID.an, by rw [f2]; simpa using ID.as', by rw [f3]; exact a2, by rw [f4]; exact ID.af⟩
 | taste x y p q hw hx hy h1 h2 ht =>
  rw [hw] at hv hl hsz
  refine lr_head (ws := [wTaste, x]) hv (by simp) (by simp) (hsz _ (by simp)) fun m hm => ?_
  have hm := hm q hy
  subst hm
  simp only [List.length_cons, List.length_nil] at hl
  have z0 : A.ldStr v.b (v.o + (0 : Int).toNat * 1) = some wTaste := ws_ld hv (i := 0) (by simp)
  have z1 : A.ldStr v.b (v.o + (1 : Int).toNat * 1) = some x := ws_ld hv (i := 1) (by simp)
  have p0 := numS_nonneg hx
  have m0 := numS_nonneg hy
  obtain ⟨t0, t1, t2, t3, t4⟩ := hs.ts
  unfold r11_j7
  refine Lt.Ok.ck (by omega) (Lt.Ok.ld z0 (Lt.Ok.neg (by decide +kernel) ?_))
  unfold r11_j6
  refine Lt.Ok.neg (by simp) (Lt.Ok.ck (by omega) (Lt.Ok.ld z0 (Lt.Ok.neg (by decide +kernel) ?_)))
  unfold r11_j5
  refine Lt.Ok.neg (by simp) (Lt.Ok.ck (by omega) (Lt.Ok.ld z0 (Lt.Ok.neg (by decide +kernel) ?_)))
  unfold r11_j4
  refine Lt.Ok.neg (by simp) (Lt.Ok.ck (by omega) (Lt.Ok.ld z0 (Lt.Ok.pos (by decide +kernel) ?_)))
  unfold r11_j3
  refine Lt.Ok.pos (decide_eq_true (by omega)) (Lt.Ok.ck (by omega) (Lt.Ok.ld z1 ?_))
  rw [app53]
  obtain ⟨e, he⟩ := atoi_num (hsz x (by simp)) hx A
  rw [he]
  simp only [Option.bind_some, AV.asT, List.length_cons, List.length_nil]
  refine Lt.Ok.ck (by simp) ?_
  simp only [List.getElem?_cons_zero, List.getElem?_cons_succ, Option.bind_some, AV.asI, if_true]
  refine Lt.Ok.pos p0 (Lt.Ok.pos (by omega) (Lt.Ok.pos m0 ?_))
  unfold r11_j8
  refine Lt.Ok.pos (decide_eq_true (by omega)) ?_
  have c0 := I.cx.perm (permT _ _ _ _ _ _ _)
  have fin : ∀ (j : Nat) (z : Int) (D' : Hp) (u : St), u = t → u.leaves = s.leaves → u.orders = s.orders → u.offers = s.offers → tsC u = (tsC s).set j (.int .i64 z) → Cx H D' ((b5, (tsC s).set j (.int .i64 z)) :: (sub vf (encs s.offers) ++ (sub vo (encs s.orders) ++ (sub vs (encs (stksS s)) ++ (sub vn (encs (nmsS s)) ++ (sub vp (encs path) ++ [(b1, z4)])))))) → Lt.Ok (kt b1 vn vs vo b5 vf vp pl (w64 (i + 1)) D') R := by
   intro j z D' u hu f1 f3 f4 f5 c1
   subst hu
   have g1 : nmsS u = nmsS s := by unfold nmsS; rw [f1]
   have g2 : stksS u = stksS s := by unfold stksS; rw [f1]
   have c3 := c1.perm (permT _ _ _ _ _ _ _).symm
   exact K _ _ _ _ _ ⟨by rw [g1, g2, f3, f4, f5]; exact c3, I.ap, by rw [g1]; exact I.an, by rw [g2]; exact I.as', by rw [f3]; exact I.ao, by rw [f4]; exact I.af⟩
  have wu : ∀ z : Int, 0 ≤ z ∧ z ≤ 16 → w64 (z + 1) = z + 1 := fun z hz => w64_id (by omega) (by omega)
  rcases (show p = 0 ∨ p = 1 by omega) with rfl | rfl <;> rcases (show m = 0 ∨ m = 1 by omega) with rfl | rfl
  ·rw [show w64 ((w64 (2 * (0 : Int))) + (0 : Int)) = 0 by decide +kernel]
   refine Lt.Ok.ck (by decide) (Lt.Ok.cld c0 (.head _) (n := s.t0) rfl (Lt.Ok.ck (by decide) (Lt.Ok.cst1 c0 0 rfl (by simp [tsC]) fun D' _ _ c1 => ?_)))
   rw [wu s.t0 (by omega)] at c1
   exact fin 0 (s.t0 + 1) D' { s with t0 := s.t0 + 1 } ht.symm rfl rfl rfl rfl c1
  ·rw [show w64 ((w64 (2 * (0 : Int))) + (1 : Int)) = 1 by decide +kernel]
   refine Lt.Ok.ck (by decide) (Lt.Ok.cld c0 (.head _) (n := s.t1) rfl (Lt.Ok.ck (by decide) (Lt.Ok.cst1 c0 0 rfl (by simp [tsC]) fun D' _ _ c1 => ?_)))
   rw [wu s.t1 (by omega)] at c1
   exact fin 1 (s.t1 + 1) D' { s with t1 := s.t1 + 1 } ht.symm rfl rfl rfl rfl c1
  ·rw [show w64 ((w64 (2 * (1 : Int))) + (0 : Int)) = 2 by decide +kernel]
   refine Lt.Ok.ck (by decide) (Lt.Ok.cld c0 (.head _) (n := s.t2) rfl (Lt.Ok.ck (by decide) (Lt.Ok.cst1 c0 0 rfl (by simp [tsC]) fun D' _ _ c1 => ?_)))
   rw [wu s.t2 (by omega)] at c1
   exact fin 2 (s.t2 + 1) D' { s with t2 := s.t2 + 1 } ht.symm rfl rfl rfl rfl c1
  ·rw [show w64 ((w64 (2 * (1 : Int))) + (1 : Int)) = 3 by decide +kernel]
   refine Lt.Ok.ck (by decide) (Lt.Ok.cld c0 (.head _) (n := s.t3) rfl (Lt.Ok.ck (by decide) (Lt.Ok.cst1 c0 0 rfl (by simp [tsC]) fun D' _ _ c1 => ?_)))
   rw [wu s.t3 (by omega)] at c1
   exact fin 3 (s.t3 + 1) D' { s with t3 := s.t3 + 1 } ht.symm rfl rfl rfl rfl c1
 | offer x y p q hw hx hy ht =>
  rw [hw] at hv hl hsz
  refine lr_head (ws := [wOffer, x]) hv (by simp) (by simp) (hsz _ (by simp)) fun m hm => ?_
  have hm := hm q hy
  subst hm
  simp only [List.length_cons, List.length_nil] at hl
  have z0 : A.ldStr v.b (v.o + (0 : Int).toNat * 1) = some wOffer := ws_ld hv (i := 0) (by simp)
  have z1 : A.ldStr v.b (v.o + (1 : Int).toNat * 1) = some x := ws_ld hv (i := 1) (by simp)
  unfold r11_j7
  refine Lt.Ok.ck (by omega) (Lt.Ok.ld z0 (Lt.Ok.neg (by decide +kernel) ?_))
  unfold r11_j6
  refine Lt.Ok.neg (by simp) (Lt.Ok.ck (by omega) (Lt.Ok.ld z0 (Lt.Ok.neg (by decide +kernel) ?_)))
  unfold r11_j5
  refine Lt.Ok.neg (by simp) (Lt.Ok.ck (by omega) (Lt.Ok.ld z0 (Lt.Ok.neg (by decide +kernel) ?_)))
  unfold r11_j4
  refine Lt.Ok.neg (by simp) (Lt.Ok.ck (by omega) (Lt.Ok.ld z0 (Lt.Ok.neg (by decide +kernel) ?_)))
  unfold r11_j3
  refine Lt.Ok.neg (by simp) (Lt.Ok.ck (by omega) (Lt.Ok.ld z0 (Lt.Ok.pos (by decide +kernel) ?_)))
  unfold r11_j2
  refine Lt.Ok.pos (decide_eq_true (by omega)) (Lt.Ok.ck (by omega) (Lt.Ok.ld z1 ?_))
  rw [app53]
  obtain ⟨e, he⟩ := atoi_num (hsz x (by simp)) hx A
  rw [he]
  simp only [Option.bind_some, AV.asT, List.length_cons, List.length_nil]
  refine Lt.Ok.ck (by simp) ?_
  simp only [List.getElem?_cons_zero, List.getElem?_cons_succ, Option.bind_some, AV.asI, if_true]
  refine Lt.Ok.bind (I.cx.app1 (l := s.offers) I.af (p, m) rfl rfl (by omega)) fun vf' D ⟨c1, a1⟩ => ?_
  refine K _ _ _ _ _ ?_
  have f1 : nmsS t = nmsS s := by rw [ht]; rfl
  have f2 : stksS t = stksS s := by rw [ht]; rfl
  have f3 : t.orders = s.orders := by rw [ht]
  have f4 : t.offers = s.offers ++ [(p, m)] := by rw [ht]
  have f5 : tsC t = tsC s := by rw [ht]; rfl
  exact ⟨by rw [f1, f2, f3, f4, f5]; exact c1, I.ap, by rw [f1]; exact I.an, by rw [f2]; exact I.as', by rw [f3]; exact I.ao, by rw [f4]; exact a1⟩
end
def LrQ (n0 : Nat) (s : St) (r : Sl × Sl × Sl × Int × Int × Int × Int × Sl) (A : Hp) : Prop :=
 SLn n0 A r.1 (nmsS s) ∧ SLn n0 A r.2.1 (stksS s) ∧ SLn n0 A r.2.2.1 s.orders ∧ r.2.2.2 = (s.t0, s.t1, s.t2, s.t3, r.2.2.2.2.2.2.2) ∧ SLn n0 A r.2.2.2.2.2.2.2 s.offers
theorem LrQ.gr {n0 : Nat} {s : St} {r : Sl × Sl × Sl × Int × Int × Int × Int × Sl} {A B : Hp} (h : LrQ n0 s r A) (g : Gr A B) : LrQ n0 s r B := ⟨h.1.gr g, h.2.1.gr g, h.2.2.1.gr g, h.2.2.2.1, h.2.2.2.2.gr g⟩
theorem lread_ok {k : Nat} {H : Hp} {c : Nat} {pv : Sl} {C : Chs} {t : Nat} (h : ChAt H c pv C t) (hC : C.Ok) : Lt.Ok (r11 (appA (k + 1)) c 0 H) fun r A => Gr H A ∧ LrQ H.n (C.now C.at') r A := by
 have hcur := hC.cur
 have hnow := now_fold hC C.at' C.at' (Nat.le_refl _) hcur
 have hdid := path_did hC C.at' C.at' (Nat.le_refl _) hcur
 have hpl : (C.path C.at').length ≤ 200 := by
  have := Chs.way_len_le hC hcur
  have := hC.most
  unfold Chs.path; rw [List.length_map]; omega
 have hpsz : ∀ x ∈ C.path C.at', x.size ≤ 4194304 := fun x hx => by
  unfold Chs.path at hx
  obtain ⟨p, _, rfl⟩ := List.mem_map.1 hx
  exact chg_size hC p
 unfold r11
 refine Lt.Ok.box (.nil H) fun A1 g1 c1 => ?_
 refine Lt.Ok.box c1 fun A2 g2 c2 => ?_
 have h2 := (h.gr g1).gr g2
 refine Lt.Ok.bind (path_ok h2 hC) fun vp B ⟨gB, hp⟩ => ?_
 dsimp only
 obtain ⟨c3, a3⟩ := c2.add gB hp.1
 generalize C.path C.at' = path at *
 have I0 : LrI H B H.n A1.n St.new vp ⟨true, 0, 0, 0, 0, 0⟩ ⟨true, 0, 0, 0, 0, 0⟩ ⟨true, 0, 0, 0, 0, 0⟩ ⟨true, 0, 0, 0, 0, 0⟩ path := ⟨c3, a3, AS.nil, AS.nil, AS.nil, AS.nil⟩
 refine Lt.Ok.loop (L := fun K (s : Sl × Sl × Sl × Sl × Int) D => r11_l0 (appA (k + 1)) K H.n s.1 s.2.1 s.2.2.1 A1.n s.2.2.2.1 vp (vp.len : Int) s.2.2.2.2 D) (fun m s D => ∃ i : Nat, s.2.2.2.2 = (i : Int) ∧ i + m = path.length ∧ LrI H D H.n A1.n ((path.take i).foldl stepS St.new) vp s.1 s.2.1 s.2.2.1 s.2.2.2.1 path) ?_ FUEL path.length (_, _, _, _, _) B (by unfold FUEL; omega) ⟨0, rfl, by omega, I0⟩
 rintro K m ⟨vn, vs, vo, vf, i'⟩ D ⟨i, hi', him, I⟩ ih
 dsimp only at hi' I ⊢
 subst hi'
 have hvl := I.slp.len
 rw [r11_l0]
 refine Lt.Ok.ite (fun hlt => ?_) fun hlt => ?_
 ·have hil : i < path.length := by omega
  obtain ⟨w, hw⟩ := hdid i hil
  have hsz := hpsz _ (List.getElem_mem hil)
  refine Lt.Ok.ck (by omega) (Lt.Ok.ld (ws_ld I.slp hil) ?_)
  refine Lt.Ok.bind (r52_ok hsz) fun v A ⟨hv, _, _, gA⟩ => ?_
  dsimp only
  refine r11_step (k := k) (I.gr gA) (fold_ok _ St.new_ok) (did_of hw) hv (fun x hx => Nat.le_trans (wordsN_size _ _ x hx) hsz) fun D' vn' vs' vo' vf' I' => ?_
  rw [w64_succ (by omega)]
  exact ih (m - 1) (vn', vs', vo', vf', _) D' (by omega) ⟨i + 1, rfl, by omega, I'⟩
 ·have hie : i = path.length := by omega
  subst hie
  rw [List.take_length, hnow] at I
  generalize C.now C.at' = s at *
  have c := I.cx
  have m5 : (A1.n, tsC s) ∈ sub vf (encs s.offers) ++ (sub vo (encs s.orders) ++ (sub vs (encs (stksS s)) ++ (sub vn (encs (nmsS s)) ++ (sub vp (encs path) ++ [(A1.n, tsC s), (H.n, z4)])))) := by simp
  refine Lt.Ok.cld c m5 (n := s.t0) rfl (Lt.Ok.cld c m5 (n := s.t1) rfl (Lt.Ok.cld c m5 (n := s.t2) rfl (Lt.Ok.cld c m5 (n := s.t3) rfl ?_)))
  have cp : Cx H D ((H.n, z4) :: (sub vf (encs s.offers) ++ (sub vo (encs s.orders) ++ (sub vs (encs (stksS s)) ++ (sub vn (encs (nmsS s)) ++ (sub vp (encs path) ++ [(A1.n, tsC s)])))))) := by
   refine c.perm ?_
   refine List.Perm.trans ?_ (permT _ _ _ _ _ _ _)
   exact ((((List.Perm.swap _ _ _).append_left _).append_left _).append_left _ |>.append_left _).append_left _
  refine Lt.Ok.cst cp 0 rfl rfl fun E _ _ c' => ?_
  have m1 : (H.n, tsC s) ∈ (((H.n, z4) :: (sub vf (encs s.offers) ++ (sub vo (encs s.orders) ++ (sub vs (encs (stksS s)) ++ (sub vn (encs (nmsS s)) ++ (sub vp (encs path) ++ [(A1.n, tsC s)])))))).set 0 (H.n, tsC s)) := .head _
  refine Lt.Ok.cld c' m1 (n := s.t0) rfl (Lt.Ok.cld c' m1 (n := s.t1) rfl (Lt.Ok.cld c' m1 (n := s.t2) rfl (Lt.Ok.cld c' m1 (n := s.t3) rfl (Lt.Ok.ret ⟨c'.g, ?_, ?_, ?_, rfl, ?_⟩))))
  ·exact c'.sln I.an fun p hp => by simp [hp]
  ·exact c'.sln I.as' fun p hp => by simp [hp]
  ·exact c'.sln I.ao fun p hp => by simp [hp]
  ·exact c'.sln I.af fun p hp => by simp [hp]
/-! ### strings.Split by a byte -/
def Bs (l : List UInt8) : ByteArray := ⟨l.toArray⟩
def Lb (b : ByteArray) : List UInt8 := b.data.toList
theorem Bs_Lb (b : ByteArray) : Bs (Lb b) = b := by
 unfold Bs Lb
 rw [Array.toArray_toList]
theorem Lb_app (a b : ByteArray) : Lb (a ++ b) = Lb a ++ Lb b := by simp [Lb]
theorem Lb_inj {a b : ByteArray} (h : Lb a = Lb b) : a = b := by rw [← Bs_Lb a, ← Bs_Lb b, h]
end Go.Lt.P10
