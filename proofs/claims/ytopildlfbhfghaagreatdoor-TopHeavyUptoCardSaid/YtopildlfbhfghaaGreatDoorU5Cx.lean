/- PLAIN LAWS OF WHAT IS COMPUTED, for the statement 'TopHeavy'. Nothing is asked of the input. -/
import Derived.Test.YtopildlfbhfghaaGreatDoorU5CTx
import Derived.Test.YtopildlfbhfghaaGreatDoorLB
set_option linter.unusedVariables false
set_option linter.unusedSimpArgs false
set_option maxHeartbeats 4000000
namespace Go.Lt.P10
open Go Go.Lt Go.Proofs
/-! ### questions -/
abbrev Rep := List ByteArray × Int
def askV (form text w : ByteArray) (f : List ByteArray × List Int → Rep) : ByteArray × Int :=
 match readS form text with
 | none => (ByteArray.mk #[], 3)
 | some p => if (f p).2 = 0 then (joinA (w :: (f p).1) (ByteArray.mk #[32]), 0) else (ByteArray.mk #[], (f p).2)
def RepQ (H : Hp) (rep : Rep) (r : AV) (A : Hp) : Prop := Gr H A ∧ ∃ v, r = .tup [.sl v, .int .i64 rep.2] ∧ (rep.2 = 0 → SL A v rep.1 ∧ rep.1.length ≤ 1000 ∧ szs rep.1 ≤ 1000000)
theorem word_app {H : Hp} {v : Sl} {l : List ByteArray} (hv : SL H v l) (w : ByteArray) (hl : l.length ≤ 1000) {α : Type} {Q : α → Hp → Prop} {f : Sl × Hp → Option (α × Hp)} (k : ∀ r B, Gr H B → SL B r (w :: l) → Lt.Ok (f (r, B)) Q) :
  Lt.Ok (((H.push (.cells [.str w] false)).lds v.b v.o (v.len * 1)).bind fun x => ck (x.all AV.one = true) (((H.push (.cells [.str w] false)).app 1 ⟨false, H.n, 0, 1, 1, 0⟩ x v.len).bind f)) Q := by
 have g0 := Gr.push H (.cells [.str w] false)
 have hg := Hp.get_push_new H (.cells [.str w] false)
 generalize H.push (.cells [.str w] false) = A at *
 have hvA := hv.gr g0
 have hlen := hvA.len
 have hlds := hvA.lds
 have e1 : v.len * El.sz ByteArray = v.len * 1 := rfl
 rw [e1] at hlds
 refine Lt.Ok.ld hlds (Lt.Ok.ck ?_ ?_)
 ·rw [enc_str, List.all_map, List.all_eq_true]; intro x _; rfl
 have key : Lt.Ok (A.app 1 ⟨false, H.n, 0, 1, 1, 0⟩ (encs l) v.len) fun r B => Gr A B ∧ SL B r (w :: l) := by
  unfold Hp.app
  rw [if_pos (by dsimp only; omega)]
  by_cases h0 : v.len = 0
  ·have : l = [] := List.length_eq_zero_iff.1 (by omega)
   subst this
   rw [if_pos (by dsimp only; omega), if_neg (by simp)]
   simp only [encs, List.flatMap_nil, Hp.sts, Option.map_some]
   exact Lt.Ok.ret ⟨.refl _, .of_get (ro := false) hg rfl (by simp [h0]) (by simp [h0]) (.inl rfl) rfl⟩
  ·rw [if_neg (by dsimp only; omega)]
   have hld : A.lds H.n (0 + 0) 1 = some [.str w] := by
    have := lds_cells (H := A) (b := H.n) (ro := false) [.str w] [] hg
    exact this
   have : A.lds (⟨false, H.n, 0, 1, 1, 0⟩ : Sl).b (⟨false, H.n, 0, 1, 1, 0⟩ : Sl).o ((⟨false, H.n, 0, 1, 1, 0⟩ : Sl).len * 1) = some [.str w] := hld
   rw [this]
   simp only [Option.bind_some, if_true]
   refine Lt.Ok.ret ⟨Gr.push _ _, .of_get (ro := false) (Hp.get_push_new _ _) rfl (by simp [hlen]; omega) (Nat.le_refl _) (.inr rfl) rfl⟩
 exact Lt.Ok.bind key fun r B ⟨gB, hr⟩ => k r B (g0.trans gB) hr
theorem r62_j0_ok {k : Nat} {H A : Hp} {text w form : ByteArray} {v4 : AV} {f : List ByteArray × List Int → Rep} (gA : Gr H A) (hs : text.size ≤ 4194304) (hw : w.size ≤ 4194304) (hf : form.size ≤ 8)
  (hact : ∀ p, readS form text = some p → ∀ B wn wu, Gr A B → SL B wn p.1 → SL B wu p.2 → Lt.Ok (callv (appA (k + 2)) v4 [.agg [.sl wn, .sl wu]] B) (RepQ B (f p))) :
  Lt.Ok (r62_j0 (appA (k + 2)) text w form v4 A) fun r D => Gr H D ∧ r = askV form text w f := by
 unfold r62_j0 askV
 refine Lt.Ok.bind (r108_ok (k := k + 1) hf hs) fun r B ⟨g, hr⟩ => ?_
 dsimp only
 obtain ⟨C, h1, h2, h3, h4⟩ := sts_blk [.sl r.1, .sl r.2.1] 0 (B.push (.cells [.sl ⟨true, 0, 0, 0, 0, 0⟩, .sl ⟨true, 0, 0, 0, 0, 0⟩] false)) _ (Hp.get_push_new _ _) (by simp)
 have h2' : C.get B.n = some (.cells [.sl r.1, .sl r.2.1] false) := by rw [h2]; simp
 have gC : Gr B C := ⟨by rw [h3]; simp, fun c hc => by rw [h4 c (by omega), Hp.get_push_old _ _ hc]⟩
 refine Lt.Ok.ld h1 ?_
 have gAC : Gr A C := g.trans gC
 cases hrd : readS form text with
 | none =>
  rw [hrd] at hr
  exact Lt.Ok.neg (by rw [hr]; simp) (Lt.Ok.ret ⟨gA.trans gAC, rfl⟩)
 | some p =>
  rw [hrd] at hr
  obtain ⟨hr1, hr2, hr3⟩ := hr
  refine Lt.Ok.pos hr1 (Lt.Ok.ld (ldSl_get h2' rfl) (Lt.Ok.ld (ldSl_get h2' rfl) ?_))
  refine Lt.Ok.bind (hact p hrd C r.1 r.2.1 gAC (hr2.gr gC) (hr3.gr gC)) fun q D ⟨gD, v, hq, hv⟩ => ?_
  subst hq
  simp only [Option.bind_some, AV.asT, List.length_cons, List.length_nil]
  refine Lt.Ok.ck (by simp) ?_
  simp only [List.getElem?_cons_zero, List.getElem?_cons_succ, Option.bind_some, AV.asI, AV.asSl, if_true]
  have gHD := gA.trans (gAC.trans gD)
  by_cases he : (f p).2 = 0
  ·obtain ⟨hv1, hv2, hv3⟩ := hv he
   rw [if_pos he]
   refine Lt.Ok.neg (by simp [he]) (word_app hv1 w hv2 fun r2 E gE hr2 => ?_)
   dsimp only
   rw [app109, join_ok hr2 _ (by simp; omega) (by
    have : (ByteArray.mk #[32]).size = 1 := rfl
    rw [this]
    simp only [szs, List.map_cons, List.sum_cons, List.length_cons]
    unfold szs at hv3
    omega)]
   exact Lt.Ok.ret ⟨gHD.trans gE, rfl⟩
  ·rw [if_neg he]
   exact Lt.Ok.pos he (Lt.Ok.ret ⟨gHD, rfl⟩)
def wHeavy : ByteArray := ByteArray.mk #[104, 101, 97, 118, 121]
def wOften : ByteArray := ByteArray.mk #[111, 102, 116, 101, 110]
def fD : ByteArray := ByteArray.mk #[100]
def f0 : ByteArray := ByteArray.mk #[]
theorem ask_ok {k : Nat} {H : Hp} {c : Nat} {pv : Sl} {C : Chs} {t : Nat} {text : ByteArray} {v : ByteArray × Int} (h : ChAt H c pv C t) (hC : C.Ok)
  (hr : ∀ b P, StAt H P b (C.now C.at') → Lt.Ok (r62 (appA k) b 0 text H) fun r A => Gr H A ∧ r = v) : Lt.Ok (r14 (appA k) c 0 text H) fun r A => Gr H A ∧ r = v := by
 unfold r14
 refine is (none_ok h hC) (Lt.Ok.neg (by simp) ?_)
 obtain ⟨b, e, hst⟩ := now_ok h hC
 refine is e ?_
 exact Lt.Ok.bind (hr b _ hst) fun r A ⟨g, hr⟩ => Lt.Ok.ret ⟨g, by rw [hr]⟩
end Go.Lt.P10

namespace Go.Lt.P10
/-! ### sums of numbers, hinges, and what is less uneven -/
theorem one_cell {H : Hp} (x : Int) : SL (H.push (.cells [.int .i64 x] false)) ⟨false, H.n, 0, 1, 1, 0⟩ [x] := .of_get (ro := false) (Hp.get_push_new _ _) rfl rfl (Nat.le_refl _) (.inl rfl) rfl
end Go.Lt.P10

namespace Go.Lt
/-! ### what stands in a buffer changes -/
section
variable {T : Type} [El T] {α : Type} {Q : α → Hp → Prop}
theorem Buf.put {n0 : Nat} {H : Hp} {v : Sl} {q : List T} (h : Buf n0 H v q) {j o : Nat} {xs : List AV} {f : Hp → Option (α × Hp)} (hj : j < q.length) (x : T) (ho : o = v.o + j * El.sz T) (hx : xs = El.enc x)
  (k : ∀ H', Buf n0 H' v (q.set j x) → But v H H' → H'.n = H.n → Ok (f H') Q) : Ok ((H.sts v.b o xs).bind f) Q := by
 subst ho; subst hx
 rcases h with ⟨rfl, rfl⟩ | ⟨h1, h2, h3, h4, h5, h6, cs, h7, h8⟩
 ·simp at hj
 have hl : j * El.sz T + El.sz T ≤ (encs q).length := by
  rw [encs_len, ← Nat.succ_mul]
  exact Nat.mul_le_mul_right _ hj
 rw [h2, Nat.zero_add]
 obtain ⟨H', e1, e2, e3, e4⟩ := sts_blk (El.enc x) (j * El.sz T) H (encs q ++ cs) h7 (by rw [El.len, List.length_append]; omega)
 have e5 : (encs q ++ cs).take (j * El.sz T) ++ El.enc x ++ (encs q ++ cs).drop (j * El.sz T + (El.enc x).length) = encs (q.set j x) ++ cs := by
  rw [← encs_set q j x hj, List.take_append_of_le_length (by omega), List.drop_append_of_le_length (by rw [El.len]; omega)]
  simp
 rw [e5] at e2
 refine Ok.ld e1 (k H' (.inr ⟨h1, h2, h3, h4, by rw [List.length_set]; exact h5, h6, cs, e2, ?_⟩) ⟨by omega, fun c _ hc => e4 c (hc h1)⟩ e3)
 rw [List.length_append, encs_len, List.length_set, ← encs_len, ← List.length_append]; exact h8
theorem encs_cell : ∀ (q : List T) (i j : Nat) (y : AV) (x : T) (hi : i < q.length), j < El.sz T → El.enc x = (El.enc q[i]).set j y → (encs q).set (i * El.sz T + j) y = encs (q.set i x)
 | [], i, j, y, x, hi, _, _ => by simp at hi
 | a :: q, 0, j, y, x, _, hj, hx => by
  rw [encs_cons, List.set_cons_zero, encs_cons, hx, Nat.zero_mul, Nat.zero_add, List.set_append_left _ _ (by rw [El.len]; exact hj)]; rfl
 | a :: q, i + 1, j, y, x, hi, hj, hx => by
  have e : (i + 1) * El.sz T + j = (El.enc a).length + (i * El.sz T + j) := by rw [El.len, Nat.add_mul]; omega
  rw [encs_cons, List.set_cons_succ, encs_cons, ← encs_cell q i j y x (by simpa using hi) hj hx, e, List.set_append_right _ _ (by omega)]
  congr 2
  omega
theorem Buf.st {n0 : Nat} {H : Hp} {v : Sl} {q : List T} (h : Buf n0 H v q) {i j : Nat} {y : AV} {f : Hp → Option (α × Hp)} (hi : i < q.length) (hj : j < El.sz T) (x : T) (hx : El.enc x = (El.enc q[i]).set j y)
  (k : ∀ H', Buf n0 H' v (q.set i x) → But v H H' → H'.n = H.n → Ok (f H') Q) : Ok ((H.st v.b (v.o + i * El.sz T + j) y).bind f) Q := by
 rcases h with ⟨rfl, rfl⟩ | ⟨h1, h2, h3, h4, h5, h6, cs, h7, h8⟩
 ·simp at hi
 have hl : i * El.sz T + El.sz T ≤ (encs q).length := by
  rw [encs_len, ← Nat.succ_mul]
  exact Nat.mul_le_mul_right _ hi
 rw [h2, Nat.zero_add]
 refine Ok.st h7 (by rw [List.length_append]; omega) fun H' e hg => k H' (.inr ⟨h1, h2, h3, h4, by rw [List.length_set]; exact h5, h6, cs, ?_, ?_⟩) ⟨by rw [e]; simp, fun c _ hc => by rw [e, Hp.get_set_other _ _ (hc h1)]⟩ (by rw [e]; simp)
 ·rw [hg, List.set_append_left _ _ (by omega), encs_cell q i j y x hi hj hx]
 ·rw [List.length_append, encs_len, List.length_set, ← encs_len, ← List.length_append]; exact h8
theorem Buf.chop {n0 : Nat} {H : Hp} {v : Sl} {q : List T} (h : Buf n0 H v q) {i : Nat} (hi : i ≤ q.length) (hne : q ≠ []) {zs : List AV} {f : Hp → Option (α × Hp)} {es : Nat} (hes : es = El.sz T)
  (k : ∀ H', Buf n0 H' (v.cut es 0 i) (q.take i) → But v H H' → H'.n = H.n → (v.cut es 0 i).nil = false ∧ (v.cut es 0 i).b = v.b ∧ v.nil = false → Ok (f H') Q) : Ok ((H.sts (v.cut es i v.len).b (v.cut es i v.len).o (zerosA zs ((v.cut es i v.len).len * es))).bind f) Q := by
 subst hes
 rcases h with ⟨rfl, rfl⟩ | ⟨h1, h2, h3, h4, h5, h6, cs, h7, h8⟩
 ·exact absurd rfl hne
 have c1 : v.cut (El.sz T) i v.len = ⟨false, v.b, i * El.sz T, v.len - i, v.cap - i, v.opn⟩ := by simp [Sl.cut, h1, h2]
 have c2 : v.cut (El.sz T) 0 i = ⟨false, v.b, 0, i, v.cap, v.opn⟩ := by simp [Sl.cut, h1, h2]
 rw [c1]
 rw [c2] at k
 have hl : i * El.sz T + (v.len - i) * El.sz T = (encs q).length := by
  rw [encs_len, ← Nat.add_mul, h5]; congr 1; omega
 obtain ⟨H', e1, e2, e3, e4⟩ := sts_blk (zerosA zs ((v.len - i) * El.sz T)) (i * El.sz T) H (encs q ++ cs) h7 (by rw [zerosA_len, List.length_append]; omega)
 refine Ok.ld e1 (k H' (.inr ⟨rfl, rfl, h3, h4, by dsimp only; rw [List.length_take]; omega, by dsimp only; omega, zerosA zs ((v.len - i) * El.sz T) ++ cs, ?_, ?_⟩) ⟨by omega, fun c _ hc => e4 c (hc h1)⟩ e3 ⟨rfl, rfl, h1⟩)
 ·dsimp only
  rw [e2, List.take_append_of_le_length (by omega), encs_take, zerosA_len, hl, List.drop_append_of_le_length (Nat.le_refl _), List.drop_length]
  simp
 ·dsimp only
  rw [← h8, List.length_append, List.length_append, List.length_append, zerosA_len, ← hl, encs_len, List.length_take, Nat.min_eq_left hi]
  omega
end
end Go.Lt

namespace Go.Lt
/-! ### insertion, plain -/
structure Ord (T : Type) where
 lt : T → T → Bool
 asym : ∀ {p q}, lt p q = true → lt q p = false
 ntr : ∀ {p q r}, lt q p = false → lt r q = false → lt r p = false
section
variable {T : Type} [Inhabited T] (O : Ord T)
def atD (q : List T) (t : Nat) : T := q.getD t default
theorem atD_set {q : List T} {j : Nat} (h : j < q.length) (x : T) (t : Nat) : atD (q.set j x) t = if t = j then x else atD q t := by
 unfold atD
 rw [List.getD_eq_getElem?_getD, List.getD_eq_getElem?_getD, List.getElem?_set]
 by_cases e : j = t
 ·subst e; simp [h]
 ·rw [if_neg e, if_neg (fun c => e c.symm)]
def Ord.sb (q : List T) (i j : Nat) : Prop := ∀ t t', t < t' → t' ≤ i → t' ≠ j → O.lt (atD q t') (atD q t) = false
theorem Ord.swap {q : List T} {i j : Nat} (hi : i < q.length) (hj : j + 1 ≤ i) (h : O.sb q i (j + 1)) (hl : O.lt (atD q (j + 1)) (atD q j) = true) : O.sb ((q.set (j + 1) (atD q j)).set j (atD q (j + 1))) i j := by
 have e : ∀ t, atD ((q.set (j + 1) (atD q j)).set j (atD q (j + 1))) t = if t = j then atD q (j + 1) else if t = j + 1 then atD q j else atD q t := fun t => by
  rw [atD_set (by simp; omega), atD_set (by omega)]
 intro t t' h1 h2 h3
 rw [e, e, if_neg h3]
 by_cases c1 : t' = j + 1
 ·subst c1
  rw [if_pos rfl]
  by_cases c2 : t = j
  ·subst c2; rw [if_pos rfl]; exact O.asym hl
  ·rw [if_neg c2, if_neg (by omega)]
   exact h t j (by omega) (by omega) (by omega)
 ·rw [if_neg c1]
  by_cases c2 : t = j
  ·subst c2; rw [if_pos rfl]; exact h (t + 1) t' (by omega) h2 c1
  ·rw [if_neg c2]
   by_cases c3 : t = j + 1
   ·subst c3; rw [if_pos rfl]; exact h j t' (by omega) h2 c1
   ·rw [if_neg c3]; exact h t t' h1 h2 c1
theorem Ord.stop {q : List T} {i j : Nat} (hj : j ≤ i) (h : O.sb q i j) (hs : 0 < j → O.lt (atD q j) (atD q (j - 1)) = false) : ∀ t t', t < t' → t' ≤ i → O.lt (atD q t') (atD q t) = false := by
 intro t t' h1 h2
 by_cases e : t' = j
 ·subst e
  have := hs (by omega)
  by_cases e2 : t = t' - 1
  ·subst e2; exact this
  ·exact O.ntr (h t (t' - 1) (by omega) (by omega) (by omega)) this
 ·exact h t t' h1 h2 e
end
end Go.Lt

namespace Go.Lt.P10
open Go Go.Lt Go.Proofs
abbrev ActT := Int × Int × Int × ByteArray
def Chs.act (C : Chs) (a : ActT) : Chs :=
 if a.1 = 0 then (C.do a.2.2.2).1 else if a.1 = 2 then (C.go a.2.1).1 else if a.1 = 3 then (C.back a.2.1).1 else if a.1 = 5 then (C.move a.2.1).1 else C
theorem Chs.act_ok {C : Chs} (h : C.Ok) (a : ActT) : (C.act a).Ok := by
 unfold Chs.act
 split
 ·exact Chs.do_ok h _
 split
 ·exact Chs.go_ok h _
 split
 ·exact Chs.back_ok h _
 split
 ·exact Chs.move_ok h _
 ·exact h
theorem Sp.ok {c p p' : Nat} {H H' : Hp} {b : Nat} (h : Sp c p p' H H') (hb : b < H.n) (h1 : b ≠ c) (h2 : b ≠ p) : b < H'.n ∧ b ≠ p' ∧ H'.get b = H.get b := by
 refine ⟨Nat.lt_of_lt_of_le hb h.n, ?_, h.e b hb h1 h2⟩
 rcases h.q with e | e <;> omega
theorem Chs.ups_step {C : Chs} (hC : C.Ok) {p : Nat} (h0 : p ≠ 0) : C.ups p p = p :: C.ups (C.par p) (C.par p) := by
 obtain ⟨q, rfl⟩ : ∃ q, p = q + 1 := ⟨p - 1, by omega⟩
 have hp : C.par (q + 1) ≤ q := by
  by_cases hl : q + 1 < C.pages.length
  ·have := hC.up (q + 1) (by omega) hl; omega
  ·unfold Chs.par; rw [List.getElem?_eq_none (by omega)]; simp
 conv => lhs; unfold Chs.ups
 rw [if_neg h0, Chs.ups_fuel hC q _ hp]
theorem Chs.way_eq {C : Chs} (hC : C.Ok) {p : Nat} (hp : p < C.pages.length) : C.way p = (C.ups p p).reverse := by
 unfold Chs.way; rw [Chs.ups_fuel hC _ _ (by omega)]
theorem Chs.way_zero {C : Chs} (hC : C.Ok) : C.way 0 = [] := by
 rw [Chs.way_eq hC (by have := hC.one; omega)]; rfl
theorem Chs.way_step {C : Chs} (hC : C.Ok) {p : Nat} (h0 : p ≠ 0) (hp : p < C.pages.length) : C.way p = C.way (C.par p) ++ [p] := by
 have := hC.up p (by omega) hp
 rw [Chs.way_eq hC hp, Chs.way_eq hC (by omega), Chs.ups_step hC h0, List.reverse_cons]
theorem wrapU {n : Int} : 0 ≤ IntKind.wrap .u64 n := by
 unfold IntKind.wrap
 simp [IntKind.signed, IntKind.bits]
 omega
theorem wrapU_id {n : Int} (h0 : 0 ≤ n) (h : n < 9223372036854775808) : IntKind.wrap .u64 n = n := by
 unfold IntKind.wrap
 simp [IntKind.signed, IntKind.bits]
 omega
theorem umod (a : Int) {n : Nat} (h0 : 1 ≤ n) (h1 : n ≤ 1000000) : IntKind.wrap .u64 (n : Int) ≠ 0 ∧ ∃ q : Nat, q < n ∧ w64 (Int.tmod (IntKind.wrap .u64 a) (IntKind.wrap .u64 (n : Int))) = (q : Int) := by
 rw [wrapU_id (n := (n : Int)) (by omega) (by omega)]
 have hm0 : 0 ≤ Int.tmod (IntKind.wrap .u64 a) (n : Int) := Int.tmod_nonneg _ wrapU
 have hm1 : Int.tmod (IntKind.wrap .u64 a) (n : Int) < n := Int.tmod_lt_of_pos _ (by omega)
 rw [w64_id (by omega) (by omega)]
 exact ⟨by omega, (Int.tmod (IntKind.wrap .u64 a) (n : Int)).toNat, by omega, by omega⟩
theorem Own.putI {α : Type} {Q : α → Hp → Prop} {H : Hp} {v : Sl} {q : List Int} (h : Own H v q) {j : Nat} {f : Hp → Option (α × Hp)} (hj : j < q.length) (n : Int)
  (k : ∀ H', Own H' v (q.set j n) → Only v.b H H' → H'.n = H.n → Lt.Ok (f H') Q) : Lt.Ok ((H.st v.b (v.o + j * 1) (.int .i64 n)).bind f) Q := by
 rw [h.o, Nat.zero_add, Nat.mul_one]
 have hel : (encs q).length = q.length * 1 := encs_len q
 refine Lt.Ok.st h.get (by omega) fun A e hg => ?_
 have oth : ∀ b, b ≠ v.b → A.get b = H.get b := fun b hb => by rw [e]; exact Hp.get_set_other _ _ hb
 exact k A ⟨h.nn, h.o, by rw [List.length_set]; exact h.len, h.cap, h.opn, by rw [hg, encs_ints]⟩ ⟨by rw [e]; simp, fun c _ hc => oth c hc⟩ (by rw [e]; simp)
section
variable {a : App} {fv : AV} {v : Sl} {Q : Unit → Hp → Prop}
end
theorem r296_at {n : Nat} (hn : n ∈ [0, 1, 2, 3, 4, 5, 6, 7, 8, 9, 10, 11, 12]) (H : Hp) : r296 (n : Int) H = some (([0, 1, 2, 2, 3, 3, 3, 3, 4, 4, 4, 4, 4] : List Int).getD n 0, H) := by
 simp only [List.mem_cons, List.not_mem_nil, or_false] at hn
 rcases hn with rfl | rfl | rfl | rfl | rfl | rfl | rfl | rfl | rfl | rfl | rfl | rfl | rfl <;> kernel_rfl
theorem r296_small {n : Nat} (hn : n ≤ 12) (H : Hp) : ∃ x, r296 (IntKind.wrap .u64 (n : Int)) H = some (x, H) := by
 rw [wrapU_id (n := (n : Int)) (by omega) (by omega)]
 exact ⟨_, r296_at (by simp; omega) H⟩
structure Col {T : Type} [El T] (T0 B : Nat) (H0 H : Hp) (w : Sl) (l : List T) (i : Nat) : Prop where
 n : B + 3 ≤ H.n
 old : ∀ b, b < B → H.get b = H0.get b
 o : H.get B = some (.cells [.sl w] false)
 d : H.get (B + 1) = some .dfr
 p : H.get (B + 2) = some (.loop .ready none T0 13 [(2, .ptr B 0)])
 a : AccL (B + 3) H w (l.take i)
theorem lowA {T : Type} [El T] {n0 : Nat} {H : Hp} {w : Sl} {l : List T} (h : AccL n0 H w l) (hn : w.nil = false) : n0 ≤ w.b ∧ w.b < H.n := by
 rcases h with ⟨rfl, _⟩ | ⟨_, _, _, _, h5, h6, _⟩
 ·simp [nilS] at hn
 ·exact ⟨h5, Hp.get_lt h6⟩
theorem round_col {T : Type} [El T] {T0 B : Nat} {H0 H : Hp} {w : Sl} {l : List T} {i : Nat} (h : Col T0 B H0 H w l i) (hi : i < l.length) (hb : l.length ≤ 1000) {H1 : Hp} (g : Gr H H1) {f : Hp → Option (Option Code × Hp)} {es : Nat} (hes : es = El.sz T)
  (hf : ∀ E : Hp, E = H1.set (B + 2) (.loop .busy none T0 13 [(2, .ptr B 0)]) → f H1 = (E.ldSl B 0).bind fun x3 => (E.apN es x3 (El.enc l[i]) 1).bind fun x7 => (x7.2.st B 0 (.sl x7.1)).bind fun H8 => some (none, H8)) :
  Lt.Ok (f H1) fun r H' => r = none ∧ ∃ w', B + 3 ≤ H'.n ∧ (∀ b, b < B → H'.get b = H0.get b) ∧ H'.get B = some (.cells [.sl w'] false) ∧ H'.get (B + 1) = some .dfr ∧ H'.get (B + 2) = some (.loop .busy none T0 13 [(2, .ptr B 0)]) ∧ AccL (B + 3) H' w' (l.take (i + 1)) := by
 subst hes
 have hn := h.n
 have pD : H1.get (B + 2) = some (.loop .ready none T0 13 [(2, .ptr B 0)]) := by rw [g.2 _ (by omega)]; exact h.p
 have hlt := Hp.get_lt pD
 rw [hf _ rfl]
 generalize hE : H1.set (B + 2) (.loop .busy none T0 13 [(2, .ptr B 0)]) = E
 have oE : ∀ x, x ≠ B + 2 → E.get x = H1.get x := fun x hx => by rw [← hE, Hp.get_set_other _ _ hx]
 have pE : E.get (B + 2) = some (.loop .busy none T0 13 [(2, .ptr B 0)]) := by rw [← hE, Hp.get_set_same _ _ hlt]
 have nE : E.n = H1.n := by rw [← hE]; simp
 clear hE
 have gn := g.1
 have sE : E.get B = some (.cells [.sl w] false) := by rw [oE _ (by omega), g.2 _ (by omega)]; exact h.o
 refine Lt.Ok.ld (ldSl_get sE rfl) ?_
 have aE : AccL (B + 3) E w (l.take i) := Acc.keep (AccL.gr h.a g) fun hw => by
  have := lowA h.a hw
  exact oE _ (by omega)
 have hlw := aE.len
 rw [List.length_take] at hlw
 obtain ⟨w', H', e1, a1, b1, c1, _, _, _⟩ := Acc.apN (k := 1) (xs := El.enc l[i]) aE (El.pos (T := T)) (by rw [El.len]; omega) (by omega) (by omega)
 refine Lt.Ok.ld e1 ?_
 have kp : ∀ x, x < B + 3 → H'.get x = E.get x := fun x hx => b1.2 x (by omega) fun hw => by have := lowA h.a hw; omega
 have sF : H'.get B = some (.cells [.sl w] false) := by rw [kp _ (by omega)]; exact sE
 refine Lt.Ok.st sF (by simp) fun G eG hG => Lt.Ok.ret ⟨rfl, w', ?_, fun b hb => ?_, hG, ?_, ?_, ?_⟩
 ·rw [eG]; have := b1.1; simp; omega
 ·rw [eG, Hp.get_set_other _ _ (by omega), kp _ (by omega), oE _ (by omega), g.2 _ (by omega)]; exact h.old b hb
 ·rw [eG, Hp.get_set_other _ _ (by omega), kp _ (by omega), oE _ (by omega), g.2 _ (by omega)]; exact h.d
 ·rw [eG, Hp.get_set_other _ _ (by omega), kp _ (by omega)]; exact pE
 ·rw [List.take_succ_eq_append_getElem hi]
  unfold AccL
  rw [encs_append, encs_one]
  refine Acc.keep a1 fun hw => ?_
  rw [eG, Hp.get_set_other]
  rcases a1 with ⟨rfl, _⟩ | ⟨_, _, _, _, h5, _⟩
  ·simp [nilS] at hw
  ·omega
theorem col_next {T : Type} [El T] {T0 B : Nat} {H0 H' : Hp} {w' : Sl} {l : List T} {i : Nat} (h1 : B + 3 ≤ H'.n) (h2 : ∀ b, b < B → H'.get b = H0.get b) (h3 : H'.get B = some (.cells [.sl w'] false)) (h4 : H'.get (B + 1) = some .dfr) (h5 : H'.get (B + 2) = some (.loop .busy none T0 13 [(2, .ptr B 0)])) (h6 : AccL (B + 3) H' w' (l.take i)) :
  ∃ A, H'.lnext (B + 2) T0 none = some A ∧ Col T0 B H0 A w' l i := by
 have hnx : H'.lnext (B + 2) T0 none = some (H'.set (B + 2) (.loop .ready none T0 13 [(2, .ptr B 0)])) := by
  unfold Hp.lnext; rw [h5]; simp
 have hlt := Hp.get_lt h5
 refine ⟨_, hnx, by simpa using h1, fun b hb => ?_, ?_, ?_, ?_, ?_⟩
 ·rw [Hp.get_set_other _ _ (by omega)]; exact h2 b hb
 ·rw [Hp.get_set_other _ _ (by omega)]; exact h3
 ·rw [Hp.get_set_other _ _ (by omega)]; exact h4
 ·rw [Hp.get_set_same _ _ hlt]
 ·refine Acc.keep h6 fun hw => ?_
  have := lowA h6 hw
  rw [Hp.get_set_other _ _ (by omega)]
theorem col_start {T : Type} [El T] (T0 : Nat) (H : Hp) (l : List T) : Col T0 H.n H (((H.push (.cells [.sl ⟨true, 0, 0, 0, 0, 0⟩] false)).push .dfr).push (.loop .ready none T0 13 [(2, .ptr H.n 0)])) ⟨true, 0, 0, 0, 0, 0⟩ l 0 := by
 have n1 : (H.push (.cells [.sl ⟨true, 0, 0, 0, 0, 0⟩] false)).n = H.n + 1 := by simp
 have gA : Gr H (((H.push (.cells [.sl ⟨true, 0, 0, 0, 0, 0⟩] false)).push .dfr).push (.loop .ready none T0 13 [(2, .ptr H.n 0)])) := (Gr.push _ _).trans ((Gr.push _ _).trans (.push _ _))
 refine ⟨by simp, fun b hb => gA.2 b hb, ?_, ?_, ?_, by simpa using AccL.nilS⟩
 ·rw [Hp.get_push_old _ _ (by simp; omega), Hp.get_push_old _ _ (by simp)]; simp
 ·rw [Hp.get_push_old _ _ (by simp), ← n1, Hp.get_push_new]
 ·rw [show H.n + 2 = ((H.push (.cells [.sl ⟨true, 0, 0, 0, 0, 0⟩] false)).push .dfr).n by simp, Hp.get_push_new]
end Go.Lt.P10

namespace Go.Lt.P10
/-! ### the short list of a stream -/
theorem snocInd {α : Type} {P : List α → Prop} (h0 : P []) (h1 : ∀ l x, P l → P (l ++ [x])) (l : List α) : P l := by
 have : ∀ r : List α, P r.reverse := by
  intro r
  induction r with
  | nil => exact h0
  | cons x r ih => rw [List.reverse_cons]; exact h1 _ _ ih
 have h := this l.reverse
 rw [List.reverse_reverse] at h; exact h
abbrev Ct := Int × Int × Int
def cntI (h : Int) (l : List Int) : Nat := l.count h
def sumN : List Ct → Int
 | [] => 0
 | c :: l => c.2.1 + sumN l
theorem sumN_append (a b : List Ct) : sumN (a ++ b) = sumN a + sumN b := by
 induction a with
 | nil => simp [sumN]
 | cons x a ih => simp only [List.cons_append, sumN, ih]; omega
def atC (cs : List Ct) (key : Int) : Option Nat := cs.findIdx? fun c => decide (c.1 = key)
def mgStep (k : Nat) (cs : List Ct) (key : Int) : List Ct :=
 match atC cs key with
 | some i => cs.modify i fun c => (c.1, c.2.1 + 1, c.2.2)
 | none => if cs.length < k then cs ++ [(key, 1, 0)] else (cs.map fun c => (c.1, c.2.1 - 1, c.2.2)).filter fun c => !decide (c.2.1 = 0)
def mg (k : Nat) (l : List Int) : List Ct := l.foldl (mgStep k) []
theorem mg_snoc (k : Nat) (l : List Int) (x : Int) : mg k (l ++ [x]) = mgStep k (mg k l) x := by
 unfold mg; rw [List.foldl_append]; rfl
def nOf (h : Int) : List Ct → Int
 | [] => 0
 | c :: l => (if c.1 = h then c.2.1 else 0) + nOf h l
structure MgI (k : Nat) (l : List Int) (cs : List Ct) : Prop where
 len : cs.length ≤ k
 pos : ∀ c ∈ cs, 1 ≤ c.2.1
 key : ∀ c ∈ cs, c.1 ∈ l
 sum : ∃ D : Int, 0 ≤ D ∧ sumN cs + D * ((k : Int) + 1) = l.length ∧ ∀ h, ((cntI h l : Nat) : Int) ≤ nOf h cs + D
theorem nOf_append (h : Int) (a b : List Ct) : nOf h (a ++ b) = nOf h a + nOf h b := by
 induction a with
 | nil => simp [nOf]
 | cons x a ih => simp only [List.cons_append, nOf, ih]; omega
theorem sumN_modify {cs : List Ct} {i : Nat} (hi : i < cs.length) : sumN (cs.modify i fun c => (c.1, c.2.1 + 1, c.2.2)) = sumN cs + 1 := by
 induction cs generalizing i with
 | nil => simp at hi
 | cons c cs ih =>
  cases i with
  | zero => simp only [List.modify_zero_cons, sumN]; omega
  | succ i => simp only [List.modify_succ_cons, sumN, ih (i := i) (by simpa using hi)]; omega
theorem nOf_modify {cs : List Ct} {i : Nat} (hi : i < cs.length) (h : Int) : nOf h (cs.modify i fun c => (c.1, c.2.1 + 1, c.2.2)) = nOf h cs + if (cs[i]).1 = h then 1 else 0 := by
 induction cs generalizing i with
 | nil => simp at hi
 | cons c cs ih =>
  cases i with
  | zero => simp only [List.modify_zero_cons, nOf, List.getElem_cons_zero]; split <;> omega
  | succ i => simp only [List.modify_succ_cons, nOf, ih (i := i) (by simpa using hi), List.getElem_cons_succ]; omega
theorem less_sum (cs : List Ct) : sumN ((cs.map fun c => ((c.1, c.2.1 - 1, c.2.2) : Ct)).filter fun c => !decide (c.2.1 = 0)) = sumN cs - cs.length := by
 induction cs with
 | nil => rfl
 | cons c cs ih =>
  rw [List.map_cons, List.filter_cons]
  by_cases e : c.2.1 - 1 = 0
  ·rw [if_neg (by simp [e]), ih]; simp only [sumN, List.length_cons]; omega
  ·rw [if_pos (by simp [e])]; simp only [sumN, ih, List.length_cons]; omega
theorem less_n (h : Int) (cs : List Ct) : nOf h cs ≤ nOf h ((cs.map fun c => ((c.1, c.2.1 - 1, c.2.2) : Ct)).filter fun c => !decide (c.2.1 = 0)) + ((cs.map (·.1)).count h : Nat) := by
 induction cs with
 | nil => exact Int.le_refl _
 | cons c cs ih =>
  rw [List.map_cons, List.filter_cons, List.map_cons, List.count_cons]
  by_cases e : c.2.1 - 1 = 0
  ·rw [if_neg (by simp [e])]
   simp only [nOf, beq_iff_eq]
   split <;> omega
  ·rw [if_pos (by simp [e])]
   simp only [nOf, beq_iff_eq]
   split <;> omega
theorem count_nodup {l : List Int} (h : l.Nodup) (x : Int) : l.count x ≤ 1 := List.nodup_iff_count.1 h x
theorem mg_nodup (k : Nat) : ∀ (l : List Int), ((mg k l).map (·.1)).Nodup := by
 intro l
 induction l using snocInd with
 | h0 => exact List.nodup_nil
 | h1 l x ih =>
  rw [mg_snoc]
  unfold mgStep
  split
  ·rename_i i hi
   have : ((mg k l).modify i fun c => ((c.1, c.2.1 + 1, c.2.2) : Ct)).map (·.1) = (mg k l).map (·.1) := by
    apply List.ext_getElem
    ·simp
    ·intro j h1 h2
     simp only [List.getElem_map, List.getElem_modify]
     split <;> rfl
   rw [this]; exact ih
  ·rename_i hn
   split
   ·rw [List.map_append, List.nodup_append]
    refine ⟨ih, by simp, ?_⟩
    intro a ha b hb
    simp at hb
    subst hb
    intro e
    subst e
    obtain ⟨c, hc, e⟩ := List.mem_map.1 ha
    have := List.findIdx?_eq_none_iff.1 hn c hc
    simp at this
    exact this e
   ·refine ih.sublist ?_
    have : (((mg k l).map fun c => ((c.1, c.2.1 - 1, c.2.2) : Ct))).map (·.1) = (mg k l).map (·.1) := by rw [List.map_map]; rfl
    rw [← this]
    exact List.filter_sublist.map _
theorem mg_ok (k : Nat) (hk : 1 ≤ k) : ∀ (l : List Int), MgI k l (mg k l) := by
 intro l
 induction l using snocInd with
 | h0 => exact ⟨Nat.zero_le _, (fun c h => by cases h), (fun c h => by cases h), 0, Int.le_refl _, by simp [mg, sumN], fun h => by simp [cntI, mg, nOf]⟩
 | h1 l x ih =>
  obtain ⟨h1, h2, h3, D, hD, hs, hn⟩ := ih
  have hc : ∀ h, ((cntI h (l ++ [x]) : Nat) : Int) = (cntI h l : Nat) + if x = h then 1 else 0 := fun h => by
   unfold cntI
   rw [List.count_append, List.count_singleton]
   simp only [beq_iff_eq]
   split <;> simp
  rw [mg_snoc]
  unfold mgStep
  split
  ·rename_i i hi
   obtain ⟨hil, hix, _⟩ := List.findIdx?_eq_some_iff_getElem.1 hi
   rw [decide_eq_true_eq] at hix
   refine ⟨by simpa using h1, fun c hm => ?_, fun c hm => ?_, D, hD, ?_, fun h => ?_⟩
   ·obtain ⟨j, hj, rfl⟩ := List.mem_iff_getElem.1 hm
    rw [List.getElem_modify]
    have := h2 _ (List.getElem_mem (l := mg k l) (n := j) (by simpa using hj))
    split
    ·dsimp only; omega
    ·exact this
   ·obtain ⟨j, hj, rfl⟩ := List.mem_iff_getElem.1 hm
    rw [List.getElem_modify]
    have := h3 _ (List.getElem_mem (l := mg k l) (n := j) (by simpa using hj))
    split
    ·exact List.mem_append_left _ this
    ·exact List.mem_append_left _ this
   ·rw [sumN_modify hil, List.length_append]; simp only [List.length_singleton]; omega
   ·rw [nOf_modify hil, hc, hix]
    have := hn h
    split <;> omega
  ·rename_i hno
   split
   ·refine ⟨by simp; omega, fun c hm => ?_, fun c hm => ?_, D, hD, ?_, fun h => ?_⟩
    ·rcases List.mem_append.1 hm with hm | hm
     ·exact h2 c hm
     ·simp at hm; subst hm; exact Int.le_refl _
    ·rcases List.mem_append.1 hm with hm | hm
     ·exact List.mem_append_left _ (h3 c hm)
     ·simp at hm; subst hm; simp
    ·rw [sumN_append, List.length_append]; simp only [List.length_singleton, sumN]; omega
    ·rw [nOf_append, hc]
     have := hn h
     simp only [nOf]
     split <;> omega
   ·rename_i hfull
    have hlen : (mg k l).length = k := by omega
    refine ⟨Nat.le_trans (List.length_filter_le _ _) (by simp; omega), fun c hm => ?_, fun c hm => ?_, D + 1, by omega, ?_, fun h => ?_⟩
    ·obtain ⟨hm, hz⟩ := List.mem_filter.1 hm
     obtain ⟨d, hd, rfl⟩ := List.mem_map.1 hm
     have := h2 d hd
     simp at hz
     dsimp only at hz ⊢
     omega
    ·obtain ⟨hm, hz⟩ := List.mem_filter.1 hm
     obtain ⟨d, hd, rfl⟩ := List.mem_map.1 hm
     exact List.mem_append_left _ (h3 d hd)
    ·rw [less_sum, List.length_append, hlen, Int.add_mul]
     simp only [List.length_singleton]
     omega
    ·have a1 := less_n h (mg k l)
     have a2 := count_nodup (mg_nodup k l) h
     have a3 := hn h
     rw [hc]
     split
     ·rename_i e
      subst e
      have : ((mg k l).map (·.1)).count x = 0 := by
       rw [List.count_eq_zero]
       intro hm
       obtain ⟨c, hc', e⟩ := List.mem_map.1 hm
       have := List.findIdx?_eq_none_iff.1 hno c hc'
       simp at this
       exact this e
      rw [this] at a1
      omega
     ·omega
theorem nOf_zero {h : Int} {cs : List Ct} (hn : ∀ c ∈ cs, c.1 ≠ h) : nOf h cs = 0 := by
 induction cs with
 | nil => rfl
 | cons c cs ih =>
  simp only [nOf]
  rw [if_neg (hn c (by simp)), ih fun c hc => hn c (by simp [hc])]; rfl
theorem sumN_nn {cs : List Ct} (h : ∀ c ∈ cs, 1 ≤ c.2.1) : 0 ≤ sumN cs := by
 induction cs with
 | nil => exact Int.le_refl _
 | cons c cs ih =>
  have := h c (by simp)
  have := ih fun c hc => h c (by simp [hc])
  simp only [sumN]; omega
theorem heavy_short {k : Nat} (hk : 1 ≤ k) {l : List Int} {h : Int} (hh : (l.length : Int) < ((cntI h l : Nat) : Int) * ((k : Int) + 1)) : ∃ c ∈ mg k l, c.1 = h := by
 obtain ⟨_, h2, _, D, hD, hs, hn⟩ := mg_ok k hk l
 by_cases e : ∃ c ∈ mg k l, c.1 = h
 ·exact e
 ·exfalso
  have h0 := nOf_zero (h := h) (cs := mg k l) fun c hc q => e ⟨c, hc, q⟩
  have h3 := hn h
  rw [h0] at h3
  have h4 := sumN_nn h2
  have : ((cntI h l : Nat) : Int) * ((k : Int) + 1) ≤ D * ((k : Int) + 1) := Int.mul_le_mul_of_nonneg_right (by omega) (by omega)
  omega
end Go.Lt.P10

namespace Go.Lt
open Go.RowKit
/-! ### blocks of a function's own -/
structure Cx (H0 H : Hp) (E : List (Nat × List AV)) : Prop where
 g : Gr H0 H
 e : ∀ p ∈ E, H.get p.1 = some (.cells p.2 false)
 nd : E.Pairwise fun p q => p.1 ≠ q.1
 lo : ∀ p ∈ E, H0.n ≤ p.1
section
variable {H0 H H' : Hp} {E : List (Nat × List AV)}
theorem Cx.nil (H : Hp) : Cx H H [] := ⟨.refl _, fun _ h => (by cases h), .nil, fun _ h => (by cases h)⟩
theorem Cx.lt (c : Cx H0 H E) {p : Nat × List AV} (h : p ∈ E) : p.1 < H.n := Hp.get_lt (c.e p h)
theorem Cx.gr (c : Cx H0 H E) (g : Gr H H') : Cx H0 H' E := ⟨c.g.trans g, fun p h => by rw [g.2 _ (c.lt h)]; exact c.e p h, c.nd, c.lo⟩
theorem Cx.weak (c : Cx H0 H E) {E' : List (Nat × List AV)} (h : E'.Sublist E) : Cx H0 H E' := ⟨c.g, fun p hp => c.e p (h.subset hp), c.nd.sublist h, fun p hp => c.lo p (h.subset hp)⟩
theorem Cx.push (c : Cx H0 H E) (cs : List AV) : Cx H0 (H.push (.cells cs false)) ((H.n, cs) :: E) where
 g := c.g.trans (.push _ _)
 e := fun p h => by
  rcases List.mem_cons.1 h with rfl | h
  ·exact Hp.get_push_new _ _
  ·rw [Hp.get_push_old _ _ (c.lt h)]; exact c.e p h
 nd := List.pairwise_cons.2 ⟨fun p h => by have := c.lt h; show H.n ≠ p.1; omega, c.nd⟩
 lo := fun p h => by
  rcases List.mem_cons.1 h with rfl | h
  ·exact c.g.1
  ·exact c.lo p h
theorem Cx.set (c : Cx H0 H E) {i b : Nat} {zs : List AV} (hi : E[i]? = some (b, zs)) (vs : List AV) (hg : H'.get b = some (.cells vs false)) (hn : H'.n = H.n) (ho : ∀ x, x ≠ b → H'.get x = H.get x) : Cx H0 H' (E.set i (b, vs)) := by
 obtain ⟨hil, hie⟩ := List.getElem?_eq_some_iff.1 hi
 have hm : (b, zs) ∈ E := hie ▸ List.getElem_mem hil
 have hb := c.lo _ hm
 have ne : ∀ j (hj : j < E.length), j ≠ i → E[j].1 ≠ b := fun j hj hji => by
  rcases Nat.lt_or_ge j i with h | h
  ·have := List.pairwise_iff_getElem.1 c.nd j i hj hil h
   rw [hie] at this; exact this
  ·have := List.pairwise_iff_getElem.1 c.nd i j hil hj (by omega)
   rw [hie] at this; exact fun q => this q.symm
 refine ⟨⟨by rw [hn]; exact c.g.1, fun x hx => by rw [ho x (by dsimp only at hb; omega)]; exact c.g.2 x hx⟩, fun p h => ?_, ?_, fun p h => ?_⟩
 ·obtain ⟨j, hj, rfl⟩ := List.mem_iff_getElem.1 h
  by_cases e : j = i
  ·subst e; rw [List.getElem_set_self]; exact hg
  ·have hj' : j < E.length := by simpa using hj
   rw [List.getElem_set_ne (fun q => e q.symm), ho _ (ne j hj' e)]
   exact c.e _ (List.getElem_mem hj')
 ·rw [List.pairwise_iff_getElem]
  intro x y hx hy hxy
  have hx' : x < E.length := by simpa using hx
  have hy' : y < E.length := by simpa using hy
  by_cases ex : x = i
  ·subst ex
   rw [List.getElem_set_self, List.getElem_set_ne (by omega)]
   exact fun q => ne y hy' (by omega) q.symm
  ·rw [List.getElem_set_ne (fun q => ex q.symm)]
   by_cases ey : y = i
   ·subst ey
    rw [List.getElem_set_self]
    exact ne x hx' ex
   ·rw [List.getElem_set_ne (fun q => ey q.symm)]
    exact List.pairwise_iff_getElem.1 c.nd x y hx' hy' hxy
 ·obtain ⟨j, hj, rfl⟩ := List.mem_iff_getElem.1 h
  by_cases e : j = i
  ·subst e; rw [List.getElem_set_self]; exact hb
  ·rw [List.getElem_set_ne (fun q => e q.symm)]; exact c.lo _ (List.getElem_mem _)
end
section
variable {α : Type} {Q : α → Hp → Prop} {H0 H : Hp} {E : List (Nat × List AV)}
theorem Ok.box (c : Cx H0 H E) {cs : List AV} {f : Hp → Option (α × Hp)} (k : ∀ A, Gr H A → Cx H0 A ((H.n, cs) :: E) → Ok (f A) Q) : Ok (Go.Lt.lt (H.push (.cells cs false)) f) Q :=
 Ok.lt (k _ (.push _ _) (c.push cs))
theorem Ok.box2 (c : Cx H0 H E) {c1 c2 : List AV} {f : Hp → Option (α × Hp)} (k : ∀ A, Gr H A → Cx H0 A (((H.push (.cells c1 false)).n, c2) :: (H.n, c1) :: E) → Ok (f A) Q) : Ok (Go.Lt.lt ((H.push (.cells c1 false)).push (.cells c2 false)) f) Q :=
 Ok.lt (k _ ((Gr.push _ _).trans (.push _ _)) ((c.push c1).push c2))
theorem Ok.alo (c : Cx H0 H E) {zs vs : List AV} {f : Hp → Option (α × Hp)} (k : ∀ A, Gr H A → Cx H0 A ((H.n, vs) :: E) → Ok (f A) Q) (hl : vs.length = zs.length := by rfl) : Ok (((H.push (.cells zs false)).sts H.n 0 vs).bind f) Q := by
 obtain ⟨D, h1, h2, h3, h4⟩ := sts_blk vs 0 (H.push (.cells zs false)) zs (Hp.get_push_new _ _) (by omega)
 have := (c.push zs).set (i := 0) rfl vs (by rw [h2]; simp [hl]) h3 h4
 exact Ok.ld h1 (k D ⟨by rw [h3]; simp, fun x hx => by rw [h4 x (by omega), Hp.get_push_old _ _ hx]⟩ this)
theorem Ok.cld (c : Cx H0 H E) {k : IntKind} {b o : Nat} {n : Int} {cs : List AV} {f : Int → Option (α × Hp)} (hm : (b, cs) ∈ E) (e : cs[o]? = some (.int k n)) (kk : Ok (f n) Q) : Ok ((H.ldI k b o).bind f) Q := by
 refine Ok.ld ?_ kk
 simp [Hp.ldI, ld_of_get (c.e _ hm), e, AV.asI]
theorem Ok.cst (c : Cx H0 H E) (i : Nat) {b : Nat} {zs vs : List AV} {f : Hp → Option (α × Hp)} (hi : E[i]? = some (b, zs)) (hl : vs.length = zs.length) (k : ∀ A, A.n = H.n → (∀ x, x ≠ b → A.get x = H.get x) → Cx H0 A (E.set i (b, vs)) → Ok (f A) Q) : Ok ((H.sts b 0 vs).bind f) Q := by
 obtain ⟨hil, hie⟩ := List.getElem?_eq_some_iff.1 hi
 have hm : (b, zs) ∈ E := hie ▸ List.getElem_mem hil
 obtain ⟨D, h1, h2, h3, h4⟩ := sts_blk vs 0 H zs (c.e _ hm) (by omega)
 exact Ok.ld h1 (k D h3 h4 (c.set hi vs (by rw [h2]; simp [hl]) h3 h4))
theorem Ok.cst1 (c : Cx H0 H E) (i : Nat) {b o : Nat} {zs : List AV} {v : AV} {f : Hp → Option (α × Hp)} (hi : E[i]? = some (b, zs)) (hl : o < zs.length) (k : ∀ A, A.n = H.n → (∀ x, x ≠ b → A.get x = H.get x) → Cx H0 A (E.set i (b, zs.set o v)) → Ok (f A) Q) : Ok ((H.st b o v).bind f) Q := by
 obtain ⟨hil, hie⟩ := List.getElem?_eq_some_iff.1 hi
 have hm : (b, zs) ∈ E := hie ▸ List.getElem_mem hil
 rw [st_eq (c.e _ hm) hl]
 exact k _ (by simp) (fun x hx => Hp.get_set_other _ _ hx) (c.set hi _ (Hp.get_set_same _ _ (c.lt hm)) (by simp) fun x hx => Hp.get_set_other _ _ hx)
theorem SL.congr {T : Type} [El T] {H H' : Hp} {v : Sl} {l : List T} (h : SL H v l) (e : H'.get v.b = H.get v.b) : SL H' v l := ⟨h.cs.congr e, h.cap, h.opn, h.nil⟩
theorem Ok.own {β : Type} {x : Option (β × Hp)} {b : β} {f : β × Hp → Option (α × Hp)} (h : Ok x fun r _ => r = b) (k : ∀ X, Ok (f (b, X)) Q) : Ok (x.bind f) Q :=
 Ok.bind h fun r X e => by subst e; exact k X
end
end Go.Lt
