/- PLAIN LAWS OF WHAT IS COMPUTED, for the statement 'ChestGives'. Nothing is asked of the input. -/
import Derived.Test.YtopildlfbhfghaaGreatDoorU6CGw
import Derived.Lib.ItoaNum
import Derived.Lib.ItoaMem
set_option linter.unusedVariables false
set_option linter.unusedSimpArgs false
namespace Go.Lt.P10
open Go Go.Lt Go.Proofs
theorem numS_nonneg {w : ByteArray} {n : Int} (h : numS w = some n) : 0 ≤ n := by
 unfold numS at h
 split at h
 ·split at h
  ·rename_i hc; injection h with h; subst h; exact hc.1
  ·cases h
 ·cases h
theorem readS_parse {form text : ByteArray} {p : List ByteArray × List Int} (h : readS form text = some p) : ∃ ws : List ByteArray, ws.length = form.size ∧ parseS form.data.toList ws = some p := by
 unfold readS at h
 split at h
 ·rename_i hc; exact ⟨_, hc.1, h⟩
 ·cases h
theorem two {α : Type} {l : List α} (h : l.length = 2) : ∃ a b, l = [a, b] := by
 match l, h with
 | [a, b], _ => exact ⟨a, b, rfl⟩
theorem parse_n {x : ByteArray} {fs : List UInt8} {xs : List ByteArray} {p : List ByteArray × List Int} (h : parseS (110 :: fs) (x :: xs) = some p) : isNameS x = true ∧ ∃ q, parseS fs xs = some q ∧ p = (x :: q.1, q.2) := by
 rw [parseS, if_pos rfl] at h
 split at h
 ·rename_i hx
  obtain ⟨q, hq, e⟩ := Option.map_eq_some_iff.1 h
  exact ⟨hx, q, hq, e.symm⟩
 ·cases h
theorem parse_d {x : ByteArray} {fs : List UInt8} {xs : List ByteArray} {p : List ByteArray × List Int} (h : parseS (100 :: fs) (x :: xs) = some p) : ∃ n, 0 ≤ n ∧ ∃ q, parseS fs xs = some q ∧ p = (q.1, n :: q.2) := by
 rw [parseS, if_neg (by decide)] at h
 obtain ⟨n, hn, h⟩ := Option.bind_eq_some_iff.1 h
 obtain ⟨q, hq, e⟩ := Option.map_eq_some_iff.1 h
 exact ⟨n, numS_nonneg hn, q, hq, e.symm⟩
theorem parse_nil {p : List ByteArray × List Int} (h : parseS [] [] = some p) : p = ([], []) := by
 injection h with h; exact h.symm
theorem read_ND {text : ByteArray} {p : List ByteArray × List Int} (h : readS fND text = some p) : ∃ a n, p = ([a], [n]) ∧ 0 ≤ n ∧ isNameS a = true := by
 obtain ⟨ws, hl, h⟩ := readS_parse h
 obtain ⟨x, y, rfl⟩ := two (show ws.length = 2 from hl)
 obtain ⟨hx, q1, h1, e1⟩ := parse_n (show parseS [110, 100] [x, y] = some p from h)
 obtain ⟨n, hn, q2, h2, e2⟩ := parse_d h1
 have := parse_nil h2
 subst this; subst e2; subst e1
 exact ⟨x, n, rfl, hn, hx⟩
theorem read_NND {text : ByteArray} {p : List ByteArray × List Int} (h : readS fNND text = some p) : ∃ a b n, p = ([a, b], [n]) ∧ 0 ≤ n := by
 obtain ⟨ws, hl, h⟩ := readS_parse h
 obtain ⟨x, y, z, rfl⟩ : ∃ x y z, ws = [x, y, z] := by
  match ws, (show ws.length = 3 from hl) with
  | [a, b, c], _ => exact ⟨a, b, c, rfl⟩
 obtain ⟨hx, q1, h1, e1⟩ := parse_n (show parseS [110, 110, 100] [x, y, z] = some p from h)
 obtain ⟨hx, q2, h2, e2⟩ := parse_n h1
 obtain ⟨n, hn, q3, h3, e3⟩ := parse_d h2
 have := parse_nil h3
 subst this; subst e3; subst e2; subst e1
 exact ⟨x, y, n, rfl, hn⟩
theorem read_N {text : ByteArray} {p : List ByteArray × List Int} (h : readS fN text = some p) : ∃ a, p = ([a], []) := by
 obtain ⟨ws, hl, h⟩ := readS_parse h
 obtain ⟨x, rfl⟩ := List.length_eq_one_iff.1 (show ws.length = 1 from hl)
 obtain ⟨hx, q1, h1, e1⟩ := parse_n (show parseS [110] [x] = some p from h)
 have := parse_nil h1
 subst this; subst e1
 exact ⟨x, rfl⟩
theorem read_DD {text : ByteArray} {p : List ByteArray × List Int} (h : readS fDD text = some p) : ∃ i j, p = ([], [i, j]) ∧ 0 ≤ i ∧ 0 ≤ j := by
 obtain ⟨ws, hl, h⟩ := readS_parse h
 obtain ⟨x, y, rfl⟩ := two (show ws.length = 2 from hl)
 obtain ⟨n, hn, q1, h1, e1⟩ := parse_d (show parseS [100, 100] [x, y] = some p from h)
 obtain ⟨m, hm, q2, h2, e2⟩ := parse_d h1
 have := parse_nil h2
 subst this; subst e2; subst e1
 exact ⟨n, m, rfl, hn, hm⟩
def DoQ (H : Hp) (a : Act × ByteArray) (r : Nat × Nat × ByteArray × Int) (H' : Hp) : Prop :=
 Gr H H' ∧ match a with
  | (.inl e, _) => r.2.2.2 = e ∧ e ≠ 0
  | (.inr s', w) => r.2.2.2 = 0 ∧ r.2.2.1 = w ∧ r.2.1 = 0 ∧ StAt H' (H.n ≤ ·) r.1 s'
theorem r64_j0_ok {k : Nat} {H A : Hp} {b b2 : Nat} {text w form : ByteArray} {v8 : AV} {s : St} {v1 v2 v3 : Sl} {f : St → List ByteArray × List Int → Act} (gA : Gr H A) (h : StO A H.n b2 s v1 v2 v3) (hs : text.size ≤ 4194304) (hf : form.size ≤ 8)
  (hact : ∀ p, readS form text = some p → ∀ B wn wu, Gr A B → SL B wn p.1 → SL B wu p.2 → ∃ e C, callv (appA (k + 2)) v8 [.agg [.sl wn, .sl wu]] B = some (.int .i64 e, C) ∧ ActQ H.n b2 B (f s p) e C) :
  Lt.Ok (r64_j0 (appA (k + 2)) b 0 text w b2 0 form v8 A) (DoQ H (actS s w text form f)) := by
 unfold r64_j0 actS
 refine Lt.Ok.bind (r108_ok (k := k + 1) hf hs) fun r B ⟨g, hr⟩ => ?_
 dsimp only
 obtain ⟨C, h1, h2, h3, h4⟩ := sts_blk [.sl r.1, .sl r.2.1] 0 (B.push (.cells [.sl ⟨true, 0, 0, 0, 0, 0⟩, .sl ⟨true, 0, 0, 0, 0, 0⟩] false)) _ (Hp.get_push_new _ _) (by simp)
 have h2' : C.get B.n = some (.cells [.sl r.1, .sl r.2.1] false) := by rw [h2]; simp
 have gC : Gr B C := ⟨by rw [h3]; simp, fun c hc => by rw [h4 c (by omega), Hp.get_push_old _ _ hc]⟩
 refine Lt.Ok.ld h1 ?_
 have gHC : Gr H C := gA.trans (g.trans gC)
 cases hrd : readS form text with
 | none =>
  rw [hrd] at hr
  dsimp only at hr
  rw [hr]
  exact Lt.Ok.neg (by simp) (Lt.Ok.ret ⟨gHC, rfl, by decide⟩)
 | some p =>
  rw [hrd] at hr
  obtain ⟨hr1, hr2, hr3⟩ := hr
  refine Lt.Ok.pos hr1 (Lt.Ok.ld (ldSl_get h2' rfl) (Lt.Ok.ld (ldSl_get h2' rfl) ?_))
  obtain ⟨e, D, hcall, old, hq⟩ := hact p hrd C r.1 r.2.1 (g.trans gC) (hr2.gr gC) (hr3.gr gC)
  refine is hcall (Lt.Ok.ld rfl ?_)
  have gHD : Gr H D := ⟨Nat.le_trans gHC.1 old.1, fun c hc => by rw [old.2 c hc, gHC.2 c hc]⟩
  dsimp only
  cases hfs : f s p with
  | inl x =>
   rw [hfs] at hq
   obtain ⟨rfl, hx⟩ := hq
   exact Lt.Ok.pos hx (Lt.Ok.ret ⟨gHD, rfl, hx⟩)
  | inr s' =>
   rw [hfs] at hq
   obtain ⟨rfl, w1, w2, w3, hst⟩ := hq
   exact Lt.Ok.neg (by simp) (Lt.Ok.ret ⟨gHD, rfl, rfl, rfl, hst.at⟩)
theorem call44 (k : Nat) (b : Nat) (wn wu : Sl) (H : Hp) : callv (appA (k + 1)) (.fn 112 [.ptr b 0] []) [.agg [.sl wn, .sl wu]] H = (r112 (appA k) b 0 wn wu H).map fun p => (.int .i64 p.1, p.2) := rfl
theorem call45 (k : Nat) (b : Nat) (wn wu : Sl) (H : Hp) : callv (appA (k + 1)) (.fn 113 [.ptr b 0] []) [.agg [.sl wn, .sl wu]] H = (r113 (appA k) b 0 wn wu H).map fun p => (.int .i64 p.1, p.2) := rfl
theorem call46 (k : Nat) (b : Nat) (wn wu : Sl) (H : Hp) : callv (appA (k + 1)) (.fn 114 [.ptr b 0] []) [.agg [.sl wn, .sl wu]] H = (r114 (appA k) b 0 wn wu H).map fun p => (.int .i64 p.1, p.2) := rfl
theorem call47 (k : Nat) (b : Nat) (wn wu : Sl) (H : Hp) : callv (appA (k + 1)) (.fn 115 [.ptr b 0] []) [.agg [.sl wn, .sl wu]] H = (r115 b 0 wn wu H).map fun p => (.int .i64 p.1, p.2) := rfl
theorem call48 (k : Nat) (b : Nat) (wn wu : Sl) (H : Hp) : callv (appA (k + 1)) (.fn 116 [.ptr b 0] []) [.agg [.sl wn, .sl wu]] H = (r116 b 0 wn wu H).map fun p => (.int .i64 p.1, p.2) := rfl
theorem of_ok {x : Option (Int × Hp)} {y : Option (AV × Hp)} {Q : Int → Hp → Prop} (e : y = x.map fun p => (.int .i64 p.1, p.2)) (h : Lt.Ok x Q) : ∃ e C, y = some (.int .i64 e, C) ∧ Q e C := by
 obtain ⟨a, C, rfl, hq⟩ := h
 exact ⟨a, C, e, hq⟩
theorem r64_ok {k : Nat} {H : Hp} {P : Nat → Prop} {b : Nat} {s : St} {text : ByteArray} (h : StAt H P b s) (hs : s.Ok) (ht : text.size ≤ 4194304) : Lt.Ok (r64 (appA (k + 2)) b 0 text H) (DoQ H (doS s text)) := by
 unfold r64
 obtain ⟨rest, hcut⟩ := r97_sp text H ht
 refine is hcut ?_
 dsimp only
 refine Lt.Ok.bind (clone_state h hs) fun r A ⟨gA, hr0, v1, v2, v3, hst⟩ => ?_
 obtain ⟨b2, o2⟩ := r
 dsimp only at hr0 hst ⊢
 subst hr0
 unfold doS
 refine Lt.Ok.ite (fun hc => ?_) fun hc => ?_
 ·rw [if_pos (show strEq (wordS text) wLeaf = true from hc)]
  refine r64_j0_ok gA hst ht (by decide +kernel) fun p hp B wn wu gB hn hu => of_ok (call44 _ _ _ _ _) ?_
  obtain ⟨a, n, rfl, _, _⟩ := read_ND hp
  exact leaf_ok (hst.gr gB) hs (by have := gA.1; have := gB.1; omega) hn hu
 rw [if_neg (show ¬ strEq (wordS text) wLeaf = true from hc)]
 refine Lt.Ok.ite (fun hc => ?_) fun hc => ?_
 ·rw [if_pos (show strEq (wordS text) wGive = true from hc)]
  refine r64_j0_ok gA hst ht (by decide +kernel) fun p hp B wn wu gB hn hu => of_ok (call45 _ _ _ _ _) ?_
  obtain ⟨a, c, n, rfl, _⟩ := read_NND hp
  exact give_ok (hst.gr gB) hs (by have := gA.1; have := gB.1; omega) hn hu
 rw [if_neg (show ¬ strEq (wordS text) wGive = true from hc)]
 refine Lt.Ok.ite (fun hc => ?_) fun hc => ?_
 ·rw [if_pos (show strEq (wordS text) wOrder = true from hc)]
  refine r64_j0_ok gA hst ht (by decide +kernel) fun p hp B wn wu gB hn hu => of_ok (call46 _ _ _ _ _) ?_
  obtain ⟨a, rfl⟩ := read_N hp
  exact order_ok (hst.gr gB) hs (by have := gA.1; have := gB.1; omega) hn
 rw [if_neg (show ¬ strEq (wordS text) wOrder = true from hc)]
 refine Lt.Ok.ite (fun hc => ?_) fun hc => ?_
 ·rw [if_pos (show strEq (wordS text) wTaste = true from hc)]
  refine r64_j0_ok gA hst ht (by decide +kernel) fun p hp B wn wu gB hn hu => of_ok (call47 _ _ _ _ _) ?_
  obtain ⟨i, j, rfl, hi, hj⟩ := read_DD hp
  exact taste_ok (hst.gr gB) hs (by have := gA.1; have := gB.1; omega) hu hi hj
 rw [if_neg (show ¬ strEq (wordS text) wTaste = true from hc)]
 refine Lt.Ok.ite (fun hc => ?_) fun hc => ?_
 ·rw [if_pos (show strEq (wordS text) wOffer = true from hc)]
  refine r64_j0_ok gA hst ht (by decide +kernel) fun p hp B wn wu gB hn hu => of_ok (call48 _ _ _ _ _) ?_
  obtain ⟨i, j, rfl, hi, hj⟩ := read_DD hp
  exact offer_ok (hst.gr gB) hs (by have := gA.1; have := gB.1; omega) hu
 rw [if_neg (show ¬ strEq (wordS text) wOffer = true from hc)]
 exact Lt.Ok.ret ⟨gA, rfl, by decide⟩
/-! ### names and numbers, as the reference reads them -/
def lowB (c : UInt8) : Bool := decide (97 ≤ c.toNat ∧ c.toNat ≤ 122)
def digB (c : UInt8) : Bool := decide (48 ≤ c.toNat ∧ c.toNat ≤ 57)
theorem bget (w : ByteArray) (p : Nat) (h : p < w.size) : w[p]'h = w.data.toList[p]'(by rw [Array.length_toList]; exact h) := by
 rw [Array.getElem_toList]; rfl
theorem nameF_eq (w : ByteArray) : ∀ (k p : Nat), p ≤ w.size → w.size < p + k → nameF w k p = ((w.data.toList.drop p).all lowB && !strEq w (ByteArray.mk #[]) && decide (w.size ≤ 8))
 | 0, p, h0, h => by omega
 | k + 1, p, h0, h => by
  unfold nameF
  by_cases hp : p < w.size
  ·rw [if_pos hp]
   have hl : p < w.data.toList.length := by rw [Array.length_toList]; exact hp
   rw [List.drop_eq_getElem_cons hl, List.all_cons]
   by_cases ha : (w[p]'hp).toNat < 128
   ·rw [decode_ascii w p hp ha]
    have e := bget w p hp
    have ih := nameF_eq w k (p + 1) (by omega) (by omega)
    dsimp only
    rw [← e]
    by_cases h1 : ((w[p]'hp).toNat : Int) < 97
    ·rw [if_pos h1]
     have : lowB (w[p]'hp) = false := by unfold lowB; rw [decide_eq_false]; omega
     rw [this]; simp
    ·rw [if_neg h1]
     by_cases h2 : 122 < ((w[p]'hp).toNat : Int)
     ·rw [if_pos h2]
      have : lowB (w[p]'hp) = false := by unfold lowB; rw [decide_eq_false]; omega
      rw [this]; simp
     ·rw [if_neg h2]
      have : lowB (w[p]'hp) = true := by unfold lowB; rw [decide_eq_true]; omega
      rw [this, ih]; simp
   ·have hd := (decode_high w p hp (by omega)).1
    have e := bget w p hp
    rw [← e]
    have : lowB (w[p]'hp) = false := by unfold lowB; rw [decide_eq_false]; omega
    rw [this]
    rw [if_neg (by omega), if_pos (by omega)]; simp
  ·rw [if_neg hp]
   have : w.data.toList.drop p = [] := List.drop_of_length_le (by rw [Array.length_toList]; show w.data.size ≤ p; have : w.data.size = w.size := rfl; omega)
   rw [this]
   cases hs : strEq w (ByteArray.mk #[]) with
   | true => simp
   | false =>
    simp only [Bool.false_eq_true, if_false, List.all_nil, Bool.not_false, Bool.true_and]
    rw [decide_eq_decide]; omega
theorem isNameS_eq (w : ByteArray) : isNameS w = (decide (1 ≤ w.size ∧ w.size ≤ 8) && w.data.toList.all lowB) := by
 unfold isNameS
 rw [nameF_eq w _ 0 (Nat.zero_le _) (by omega), List.drop_zero]
 have hs : strEq w (ByteArray.mk #[]) = decide (w.size = 0) := by
  cases hx : strEq w (ByteArray.mk #[]) with
  | true => rw [strEq_iff.1 hx]; rfl
  | false =>
   symm
   rw [decide_eq_false]
   intro h0
   have : w = ByteArray.mk #[] := by
    cases w with | mk a =>
    have h0 : a.size = 0 := h0
    rw [Array.eq_empty_of_size_eq_zero h0]
   rw [this] at hx
   exact absurd hx (by decide +kernel)
 rw [hs]
 cases w.data.toList.all lowB with
 | false => simp
 | true =>
  simp only [Bool.true_and, Bool.and_true]
  by_cases h0 : w.size = 0
  ·simp [h0]
  ·by_cases h8 : w.size ≤ 8
   ·rw [decide_eq_false h0, decide_eq_true h8, decide_eq_true ⟨by omega, h8⟩]; rfl
   ·rw [decide_eq_false h8, decide_eq_false (p := 1 ≤ w.size ∧ w.size ≤ 8) fun h => h8 h.2, Bool.and_false]
def digR (l : List UInt8) : Bool := decide (1 ≤ l.length ∧ l.length ≤ 3) && l.all digB && !(decide (1 < l.length) && l.head? == some 48)
theorem dig_back : ∀ v : Nat, v < 1000 → digR (Lib.decDigits v) = true ∧ Lib.atoiAll (Lib.decDigits v) = .ok (v : Int) := by
 have key : ∀ v : _root_.Fin 1000, (digR (Lib.decDigits v.val) && (match Lib.atoiAll (Lib.decDigits v.val) with | .ok u => u == (v.val : Int) | _ => false)) = true := by decide +kernel
 intro v hv
 have := key ⟨v, hv⟩
 rw [Bool.and_eq_true] at this
 refine ⟨this.1, ?_⟩
 have h2 := this.2
 dsimp only at h2
 split at h2
 ·rename_i u hu
  rw [hu, beq_iff_eq.1 h2]
 ·cases h2
theorem St.new_ok : St.new.Ok := ⟨by decide, by simp [St.new], by simp [St.new], by simp [St.new], by decide, by simp [St.new], by decide, by decide, by simp [St.new]⟩
theorem setStock_leaves (s : St) (i : Nat) (n : Int) : (setStock s i n).leaves = s.leaves.modify i fun l => (l.1, n) := rfl
theorem mem_modify {l : List (ByteArray × Int)} {i : Nat} {n : Int} {x : ByteArray × Int} (h : x ∈ l.modify i fun l => (l.1, n)) : x ∈ l ∨ ∃ y ∈ l, x = (y.1, n) := by
 obtain ⟨j, hj, rfl⟩ := List.mem_iff_getElem.1 h
 rw [List.length_modify] at hj
 rw [List.getElem_modify]
 split
 ·exact .inr ⟨_, List.getElem_mem hj, rfl⟩
 ·exact .inl (List.getElem_mem hj)
theorem setStock_names (s : St) (i : Nat) (n : Int) : (setStock s i n).leaves.map (·.1) = s.leaves.map (·.1) := by
 rw [setStock_leaves]
 apply List.ext_getElem
 ·simp
 ·intro j h1 h2
  simp only [List.getElem_map, List.getElem_modify]
  split <;> rfl
theorem setStock_ok {s : St} (h : s.Ok) (i : Nat) {n : Int} (h0 : 0 ≤ n) (h1 : n ≤ 20) : (setStock s i n).Ok where
 l6 := by rw [setStock_leaves, List.length_modify]; exact h.l6
 st := fun x hx => by
  rw [setStock_leaves] at hx
  rcases mem_modify hx with hx | ⟨y, hy, rfl⟩
  ·exact h.st x hx
  ·exact ⟨h0, h1⟩
 na := fun x hx => by
  rw [setStock_leaves] at hx
  rcases mem_modify hx with hx | ⟨y, hy, rfl⟩
  ·exact h.na x hx
  ·exact h.na y hy
 un := by rw [setStock_names]; exact h.un
 o40 := h.o40
 ol := by rw [setStock_leaves, List.length_modify]; exact h.ol
 ts := h.ts
 f8 := h.f8
 fl := h.fl
theorem act_ok {s t : St} {w text form : ByteArray} {f : St → List ByteArray × List Int → Act} {r : ByteArray} (h : actS s w text form f = (.inr t, r)) : r = w ∧ ∃ p, readS form text = some p ∧ f s p = .inr t := by
 unfold actS at h
 split at h
 ·cases h
 ·rename_i p hp
  split at h
  ·cases h
  ·rename_i t' ht
   injection h with h1 h2
   injection h1 with h1
   subst h1
   exact ⟨h2.symm, p, hp, ht⟩
theorem doS_inr {s t : St} {text w : ByteArray} (h : doS s text = (.inr t, w)) : w = wordS text ∧ ∃ form f p, readS form text = some p ∧ f s p = .inr t ∧
  (form = fND ∧ f = fLeaf ∨ form = fNND ∧ f = fGive ∨ form = fN ∧ f = fOrder ∨ form = fDD ∧ f = fTaste ∨ form = fDD ∧ f = fOffer) := by
 unfold doS at h
 split at h
 ·obtain ⟨h1, p, h2, h3⟩ := act_ok h; exact ⟨h1, _, _, p, h2, h3, .inl ⟨rfl, rfl⟩⟩
 split at h
 ·obtain ⟨h1, p, h2, h3⟩ := act_ok h; exact ⟨h1, _, _, p, h2, h3, .inr (.inl ⟨rfl, rfl⟩)⟩
 split at h
 ·obtain ⟨h1, p, h2, h3⟩ := act_ok h; exact ⟨h1, _, _, p, h2, h3, .inr (.inr (.inl ⟨rfl, rfl⟩))⟩
 split at h
 ·obtain ⟨h1, p, h2, h3⟩ := act_ok h; exact ⟨h1, _, _, p, h2, h3, .inr (.inr (.inr (.inl ⟨rfl, rfl⟩)))⟩
 split at h
 ·obtain ⟨h1, p, h2, h3⟩ := act_ok h; exact ⟨h1, _, _, p, h2, h3, .inr (.inr (.inr (.inr ⟨rfl, rfl⟩)))⟩
 ·cases h
theorem doS_line {s t : St} {text w : ByteArray} (h : doS s text = (.inr t, w)) : isLineS text = true := by
 obtain ⟨_, form, f, p, hr, _⟩ := doS_inr h
 unfold readS at hr
 split at hr
 ·rename_i hc; exact hc.2
 ·cases hr
theorem isLineS_size {s : ByteArray} (h : isLineS s = true) : s.size ≤ 60 := by
 unfold isLineS at h
 simp only [Bool.and_eq_true, decide_eq_true_eq] at h
 exact h.1.1
theorem doS_size {s t : St} {text w : ByteArray} (h : doS s text = (.inr t, w)) : text.size ≤ 60 := isLineS_size (doS_line h)
theorem doS_ne {s t : St} {text w : ByteArray} (h : doS s text = (.inr t, w)) : strEq text (ByteArray.mk #[]) = false := by
 cases he : strEq text (ByteArray.mk #[]) with
 | false => rfl
 | true =>
  have : text = ByteArray.mk #[] := strEq_iff.1 he
  subst this
  have e : wordS (ByteArray.mk #[]) = ByteArray.mk #[] := by decide +kernel
  unfold doS at h
  rw [e, if_neg (by decide +kernel), if_neg (by decide +kernel), if_neg (by decide +kernel), if_neg (by decide +kernel), if_neg (by decide +kernel)] at h
  cases h
theorem doS_ok {s t : St} {text w : ByteArray} (hs : s.Ok) (h : doS s text = (.inr t, w)) : t.Ok := by
 obtain ⟨_, form, f, p, hr, hf, hform⟩ := doS_inr h
 rcases hform with ⟨rfl, rfl⟩ | ⟨rfl, rfl⟩ | ⟨rfl, rfl⟩ | ⟨rfl, rfl⟩ | ⟨rfl, rfl⟩
 ·obtain ⟨a, n, rfl, hn, ha⟩ := read_ND hr
  have hf : leafS s a n = .inr t := hf
  unfold leafS at hf
  split at hf
  ·cases hf
  rename_i hnew
  split at hf
  ·cases hf
  split at hf
  ·cases hf
  injection hf with hf
  subst hf
  have l6 := hs.l6
  refine ⟨by simp; omega, fun x hx => ?_, fun x hx => ?_, ?_, hs.o40, fun i hi => ?_, hs.ts, hs.f8, hs.fl⟩
  ·rcases List.mem_append.1 hx with hx | hx
   ·exact hs.st x hx
   ·simp at hx; subst hx; exact ⟨hn, by omega⟩
  ·rcases List.mem_append.1 hx with hx | hx
   ·exact hs.na x hx
   ·simp at hx; subst hx; exact ha
  ·rw [List.map_append, List.nodup_append]
   refine ⟨hs.un, by simp, fun x hx y hy e => hnew ?_⟩
   simp only [List.map_cons, List.map_nil, List.mem_singleton] at hy
   obtain ⟨z, hz, rfl⟩ := List.mem_map.1 hx
   unfold St.find
   rw [List.findIdx?_isSome, List.any_eq_true]
   exact ⟨z, hz, strEq_iff.2 (e.trans hy)⟩
  ·have := hs.ol i hi
   simp; omega
 ·obtain ⟨a, b, n, rfl, hn⟩ := read_NND hr
  have hf : giveS s a b n = .inr t := hf
  unfold giveS at hf
  split at hf
  ·rename_i i j hi hj
   split at hf
   ·rename_i hc
    injection hf with hf
    subst hf
    have ri := stock_rng hs (find_lt hi)
    have rj := stock_rng hs (find_lt hj)
    exact setStock_ok (setStock_ok hs i (by omega) (by omega)) j (by omega) (by omega)
   ·cases hf
  ·cases hf
 ·obtain ⟨a, rfl⟩ := read_N hr
  have hf : orderS s a = .inr t := hf
  unfold orderS at hf
  split at hf
  ·cases hf
  ·rename_i i hi
   split at hf
   ·cases hf
   split at hf
   ·cases hf
   injection hf with hf
   subst hf
   have ri := stock_rng hs (find_lt hi)
   have hk := setStock_ok hs i (n := stock s i - 1) (by omega) (by omega)
   have := hs.o40
   refine ⟨hk.l6, hk.st, hk.na, hk.un, by simp; omega, fun x hx => ?_, hk.ts, hk.f8, hk.fl⟩
   rcases List.mem_append.1 hx with hx | hx
   ·exact hk.ol x hx
   ·simp at hx; subst hx
    have := find_lt hi
    show (0 : Int) ≤ _ ∧ _ < ((setStock s i (stock s i - 1)).leaves.length : Int)
    rw [setStock_leaves, List.length_modify]; omega
 ·obtain ⟨i, j, rfl, hi, hj⟩ := read_DD hr
  have hf : tasteS s i j = .inr t := hf
  unfold tasteS at hf
  split at hf
  ·cases hf
  split at hf
  ·cases hf
  injection hf with hf
  obtain ⟨a0, a1, a2, a3, a4⟩ := hs.ts
  subst hf
  split <;> split <;> exact ⟨hs.l6, hs.st, hs.na, hs.un, hs.o40, hs.ol, ⟨by dsimp only; omega, by dsimp only; omega, by dsimp only; omega, by dsimp only; omega, by dsimp only; omega⟩, hs.f8, hs.fl⟩
 ·obtain ⟨i, j, rfl, hi, hj⟩ := read_DD hr
  have hf : offerS s i j = .inr t := hf
  unfold offerS at hf
  split at hf
  ·cases hf
  split at hf
  ·cases hf
  split at hf
  ·cases hf
  injection hf with hf
  subst hf
  have := hs.f8
  refine ⟨hs.l6, hs.st, hs.na, hs.un, hs.o40, hs.ol, hs.ts, by simp; omega, fun x hx => ?_⟩
  rcases List.mem_append.1 hx with hx | hx
  ·exact hs.fl x hx
  ·simp at hx; subst hx; dsimp only; omega
/-! ### the chest -/
structure Pg where
 change : ByteArray
 parent : Nat
 st : St
structure Chs where
 pages : List Pg
 at' : Nat
def Chs.new : Chs := ⟨[⟨ByteArray.mk #[], 0, St.new⟩], 0⟩
def Chs.par (C : Chs) (i : Nat) : Nat := (C.pages[i]?.map (·.parent)).getD 0
def Chs.chg (C : Chs) (i : Nat) : ByteArray := (C.pages[i]?.map (·.change)).getD (ByteArray.mk #[])
def Chs.now (C : Chs) (i : Nat) : St := (C.pages[i]?.map (·.st)).getD St.new
def Chs.child (C : Chs) (p : Nat) (ch : ByteArray) : Option Nat := C.pages.findIdx? fun q => strEq q.change ch && (decide (q.parent = p) && !strEq q.change (ByteArray.mk #[]))
structure Chs.Ok (C : Chs) : Prop where
 one : 1 ≤ C.pages.length
 most : C.pages.length ≤ 200
 cur : C.at' < C.pages.length
 root : C.par 0 = 0 ∧ C.now 0 = St.new
 up : ∀ i, 0 < i → i < C.pages.length → C.par i < i
 st : ∀ i, i < C.pages.length → (C.now i).Ok
 did : ∀ i, 0 < i → i < C.pages.length → ∃ w, doS (C.now (C.par i)) (C.chg i) = (.inr (C.now i), w)
 uq : ∀ i, 0 < i → i < C.pages.length → C.child (C.par i) (C.chg i) = some i
 rc : C.chg 0 = ByteArray.mk #[]
def Chs.do (C : Chs) (line : ByteArray) : Chs × ByteArray × Int :=
 match doS (C.now C.at') line with
 | (.inl e, _) => (C, ByteArray.mk #[], e)
 | (.inr s, w) => match C.child C.at' line with
  | some i => (⟨C.pages, i⟩, w, 0)
  | none => if C.pages.length = 200 then (C, ByteArray.mk #[], 7) else (⟨C.pages ++ [⟨line, C.at', s⟩], C.pages.length⟩, w, 0)
def Chs.go (C : Chs) (n : Int) : Chs × Int := if 0 ≤ n ∧ n < C.pages.length then (⟨C.pages, n.toNat⟩, 0) else (C, 2)
def Chs.ups (C : Chs) : Nat → Nat → List Nat
 | 0, _ => []
 | k + 1, p => if p = 0 then [] else p :: C.ups k (C.par p)
def Chs.way (C : Chs) (p : Nat) : List Nat := (C.ups C.pages.length p).reverse
def Chs.anc (C : Chs) : Nat → Nat → Nat
 | 0, p => p
 | k + 1, p => C.anc k (C.par p)
def Chs.back (C : Chs) (n : Int) : Chs × Int := if n < 0 then (C, 2) else if (C.way C.at').length < n then (C, 4) else (⟨C.pages, C.anc n.toNat C.at'⟩, 0)
theorem Chs.new_ok : Chs.new.Ok where
 one := by decide
 most := by decide
 cur := by decide
 root := ⟨rfl, rfl⟩
 up := fun i h1 h2 => by have : i < 1 := h2; omega
 st := fun i h => by
  have : i = 0 := by have : i < 1 := h; omega
  subst this; exact St.new_ok
 did := fun i h1 h2 => by have : i < 1 := h2; omega
 uq := fun i h1 h2 => by have : i < 1 := h2; omega
 rc := rfl
theorem Chs.child_lt {C : Chs} {p : Nat} {ch : ByteArray} {i : Nat} (h : C.child p ch = some i) : i < C.pages.length := (List.findIdx?_eq_some_iff_getElem.1 h).1
theorem Chs.child_is {C : Chs} {p : Nat} {ch : ByteArray} {i : Nat} (h : C.child p ch = some i) : C.par i = p ∧ C.chg i = ch := by
 obtain ⟨hi, hp, _⟩ := List.findIdx?_eq_some_iff_getElem.1 h
 simp only [Bool.and_eq_true, decide_eq_true_eq] at hp
 unfold Chs.par Chs.chg
 rw [List.getElem?_eq_getElem hi]
 exact ⟨hp.2.1, strEq_iff.1 hp.1⟩
theorem Chs.do_ok {C : Chs} (h : C.Ok) (line : ByteArray) : (C.do line).1.Ok := by
 unfold Chs.do
 split
 ·exact h
 ·rename_i s w hd
  split
  ·rename_i i hi
   exact ⟨h.one, h.most, C.child_lt hi, h.root, h.up, h.st, h.did, h.uq, h.rc⟩
  ·rename_i hc
   split
   ·exact h
   ·rename_i h200
    have h1 := h.one; have hm := h.most; have hcur := h.cur
    have old : ∀ i, i < C.pages.length → (C.pages ++ [(⟨line, C.at', s⟩ : Pg)])[i]? = C.pages[i]? := fun i hi => List.getElem?_append_left hi
    have new : (C.pages ++ [(⟨line, C.at', s⟩ : Pg)])[C.pages.length]? = some ⟨line, C.at', s⟩ := by simp
    generalize hD : (⟨C.pages ++ [(⟨line, C.at', s⟩ : Pg)], C.pages.length⟩ : Chs) = D
    have hDp : D.pages = C.pages ++ [(⟨line, C.at', s⟩ : Pg)] := by rw [← hD]
    have par_old : ∀ i, i < C.pages.length → D.par i = C.par i := fun i hi => by unfold Chs.par; rw [hDp, old i hi]
    have chg_old : ∀ i, i < C.pages.length → D.chg i = C.chg i := fun i hi => by unfold Chs.chg; rw [hDp, old i hi]
    have now_old : ∀ i, i < C.pages.length → D.now i = C.now i := fun i hi => by unfold Chs.now; rw [hDp, old i hi]
    have par_new : D.par C.pages.length = C.at' := by unfold Chs.par; rw [hDp, new]; rfl
    have chg_new : D.chg C.pages.length = line := by unfold Chs.chg; rw [hDp, new]; rfl
    have now_new : D.now C.pages.length = s := by unfold Chs.now; rw [hDp, new]; rfl
    have len : D.pages.length = C.pages.length + 1 := by rw [hDp]; simp
    have child_old : ∀ p ch i, C.child p ch = some i → D.child p ch = some i := fun p ch i hi => by
     unfold Chs.child at hi ⊢
     rw [hDp, List.findIdx?_append, hi]; rfl
    show D.Ok
    refine ⟨by omega, by omega, by rw [← hD]; simp, ⟨by rw [par_old 0 (by omega)]; exact h.root.1, by rw [now_old 0 (by omega)]; exact h.root.2⟩, fun i hi hl => ?_, fun i hl => ?_, fun i hi hl => ?_, fun i hi hl => ?_, by rw [chg_old 0 (by omega)]; exact h.rc⟩
    ·by_cases e : i = C.pages.length
     ·subst e; rw [par_new]; exact hcur
     ·rw [par_old i (by omega)]; exact h.up i hi (by omega)
    ·by_cases e : i = C.pages.length
     ·subst e; rw [now_new]; exact doS_ok (h.st _ hcur) hd
     ·rw [now_old i (by omega)]; exact h.st i (by omega)
    ·by_cases e : i = C.pages.length
     ·subst e; rw [par_new, chg_new, now_new, now_old _ hcur]; exact ⟨w, hd⟩
     ·have := h.up i hi (by omega)
      rw [par_old i (by omega), chg_old i (by omega), now_old i (by omega), now_old _ (by omega)]; exact h.did i hi (by omega)
    ·by_cases e : i = C.pages.length
     ·subst e
      rw [par_new, chg_new]
      unfold Chs.child at hc ⊢
      rw [hDp, List.findIdx?_append, hc]
      have hne := doS_ne hd
      have hself : strEq line line = true := strEq_iff.2 rfl
      simp [List.findIdx?_cons, hne, hself]
     ·rw [par_old i (by omega), chg_old i (by omega)]; exact child_old _ _ _ (h.uq i hi (by omega))
theorem Chs.go_ok {C : Chs} (h : C.Ok) (n : Int) : (C.go n).1.Ok := by
 unfold Chs.go
 split
 ·rename_i hc
  exact ⟨h.one, h.most, by dsimp only; omega, h.root, h.up, h.st, h.did, h.uq, h.rc⟩
 ·exact h
theorem Chs.par_le {C : Chs} (h : C.Ok) (p : Nat) : C.par p ≤ p := by
 by_cases h0 : p = 0
 ·subst h0; rw [h.root.1]; exact Nat.le_refl _
 ·by_cases hl : p < C.pages.length
  ·exact Nat.le_of_lt (h.up p (by omega) hl)
  ·unfold Chs.par; rw [List.getElem?_eq_none (by omega)]; simp
theorem Chs.anc_le {C : Chs} (h : C.Ok) : ∀ k p, C.anc k p ≤ p
 | 0, p => Nat.le_refl _
 | k + 1, p => Nat.le_trans (C.anc_le h k (C.par p)) (C.par_le h p)
theorem Chs.back_ok {C : Chs} (h : C.Ok) (n : Int) : (C.back n).1.Ok := by
 unfold Chs.back
 split
 ·exact h
 ·split
  ·exact h
  ·exact ⟨h.one, h.most, Nat.lt_of_le_of_lt (C.anc_le h _ _) h.cur, h.root, h.up, h.st, h.did, h.uq, h.rc⟩
/-! ### lines, as the reference reads them -/
theorem strCnt_cnt (s : ByteArray) : strCnt s 32 = (s.data.toList.count 32 : Nat) := by
 unfold strCnt
 rw [Lib.foldl_data, show ((0 : Nat) : Int) = 0 from rfl, Lib.count_foldl]
 unfold Lib.countByte
 simp
theorem strIdx_none {s : ByteArray} (h : strCnt s 32 = 0) : strIdx s 32 < 0 := by
 rw [strCnt_cnt] at h
 unfold strIdx
 split
 ·rename_i i hi
  exfalso
  have h1 := List.find?_some hi
  have h2 := List.mem_range.1 (List.mem_of_find?_eq_some hi)
  have h3 : s[i]'h2 = 32 := by
   have : s[i]! = s[i]'h2 := getElem!_pos s i h2
   rw [this] at h1
   have := beq_iff_eq.1 h1
   rw [this]; rfl
  have h4 : (32 : UInt8) ∈ s.data.toList := by
   rw [← h3, bget s i h2]
   exact List.getElem_mem _
  have := List.count_pos_iff.2 h4
  omega
 ·decide
theorem words_head (s : ByteArray) : ∃ r, words s = wordS s :: r := by
 obtain ⟨k, hk, _⟩ := strCnt_eq s 32
 unfold words wordS
 rw [hk]
 simp only [Int.toNat_natCast]
 cases k with
 | zero =>
  have := strIdx_none (s := s) (by rw [hk]; rfl)
  rw [if_neg (by omega)]
  exact ⟨[], rfl⟩
 | succ k =>
  unfold wordsN
  by_cases h : strIdx s 32 < 0
  ·rw [if_pos h, if_neg (by omega)]; exact ⟨[], rfl⟩
  ·rw [if_neg h, if_pos (by omega)]; exact ⟨_, rfl⟩
def b1 : ByteArray := ByteArray.mk #[49]
theorem parse_dS {x : ByteArray} {fs : List UInt8} {xs : List ByteArray} {p : List ByteArray × List Int} (h : parseS (100 :: fs) (x :: xs) = some p) : ∃ n, numS x = some n ∧ ∃ q, parseS fs xs = some q ∧ p = (q.1, n :: q.2) := by
 rw [parseS, if_neg (by decide)] at h
 obtain ⟨n, hn, h⟩ := Option.bind_eq_some_iff.1 h
 obtain ⟨q, hq, e⟩ := Option.map_eq_some_iff.1 h
 exact ⟨n, hn, q, hq, e.symm⟩
theorem readS_tail {form text : ByteArray} {p : List ByteArray × List Int} (h : readS form text = some p) : ∃ ws : List ByteArray, words text = wordS text :: ws ∧ ws.length = form.size ∧ parseS form.data.toList ws = some p := by
 obtain ⟨r, hr⟩ := words_head text
 unfold readS at h
 rw [hr] at h
 split at h
 ·rename_i hc; exact ⟨r, hr, hc.1, h⟩
 ·cases h
theorem three {α : Type} {l : List α} (h : l.length = 3) : ∃ a b c, l = [a, b, c] := by
 match l, h with
 | [a, b, c], _ => exact ⟨a, b, c, rfl⟩
inductive Did (s t : St) (text : ByteArray) : Prop
 | leaf (a x : ByteArray) (n : Int) (hw : words text = [wLeaf, a, x]) (hn : numS x = some n) (hs : (s.find a).isSome = false) (ht : t = { s with leaves := s.leaves ++ [(a, n)] })
 | give (a b x : ByteArray) (n : Int) (i j : Nat) (hw : words text = [wGive, a, b, x]) (hn : numS x = some n) (hi : s.find a = some i) (hj : s.find b = some j) (hij : i ≠ j) (h1 : 1 ≤ n) (h20 : n ≤ 20) (hd : 2 * n ≤ stock s i - stock s j) (ht : t = setStock (setStock s i (stock s i - n)) j (stock s j + n))
 | order (a : ByteArray) (i : Nat) (hw : words text = [wOrder, a]) (hi : s.find a = some i) (h0 : stock s i ≠ 0) (ho : s.orders.length ≠ 40) (ht : t = { setStock s i (stock s i - 1) with orders := s.orders ++ [(i : Int)] })
 | taste (x y : ByteArray) (i j : Int) (hw : words text = [wTaste, x, y]) (hi : numS x = some i) (hj : numS y = some j) (h1 : i ≤ 1) (h2 : j ≤ 1) (ht : t = if i = 0 then if j = 0 then { s with t0 := s.t0 + 1 } else { s with t1 := s.t1 + 1 } else if j = 0 then { s with t2 := s.t2 + 1 } else { s with t3 := s.t3 + 1 })
 | offer (x y : ByteArray) (i j : Int) (hw : words text = [wOffer, x, y]) (hi : numS x = some i) (hj : numS y = some j) (ht : t = { s with offers := s.offers ++ [(i, j)] })
theorem did_of {s t : St} {text w : ByteArray} (h : doS s text = (.inr t, w)) : Did s t text := by
 unfold doS at h
 split at h
 ·rename_i hw
  have hw := strEq_iff.1 hw
  obtain ⟨_, p, hr, hf⟩ := act_ok h
  obtain ⟨ws, h1, h2, h3⟩ := readS_tail hr
  obtain ⟨a, x, rfl⟩ := two (show ws.length = 2 from h2)
  obtain ⟨_, q1, g1, rfl⟩ := parse_n (show parseS [110, 100] [a, x] = some p from h3)
  obtain ⟨n, hn, q2, g2, rfl⟩ := parse_dS g1
  obtain rfl := parse_nil g2
  have hf : leafS s a n = .inr t := hf
  unfold leafS at hf
  split at hf
  ·cases hf
  rename_i hs
  split at hf
  ·cases hf
  split at hf
  ·cases hf
  injection hf with hf
  exact .leaf a x n (by rw [h1, hw]) hn (by simpa using hs) hf.symm
 split at h
 ·rename_i hw
  have hw := strEq_iff.1 hw
  obtain ⟨_, p, hr, hf⟩ := act_ok h
  obtain ⟨ws, h1, h2, h3⟩ := readS_tail hr
  obtain ⟨a, b, x, rfl⟩ := three (show ws.length = 3 from h2)
  obtain ⟨_, q1, g1, rfl⟩ := parse_n (show parseS [110, 110, 100] [a, b, x] = some p from h3)
  obtain ⟨_, q2, g2, rfl⟩ := parse_n g1
  obtain ⟨n, hn, q3, g3, rfl⟩ := parse_dS g2
  obtain rfl := parse_nil g3
  have hf : giveS s a b n = .inr t := hf
  unfold giveS at hf
  split at hf
  ·rename_i i j hi hj
   split at hf
   ·rename_i hc
    injection hf with hf
    exact .give a b x n i j (by rw [h1, hw]) hn hi hj hc.1 hc.2.1 hc.2.2.1 hc.2.2.2 hf.symm
   ·cases hf
  ·cases hf
 split at h
 ·rename_i hw
  have hw := strEq_iff.1 hw
  obtain ⟨_, p, hr, hf⟩ := act_ok h
  obtain ⟨ws, h1, h2, h3⟩ := readS_tail hr
  obtain ⟨a, rfl⟩ := List.length_eq_one_iff.1 (show ws.length = 1 from h2)
  obtain ⟨_, q1, g1, rfl⟩ := parse_n (show parseS [110] [a] = some p from h3)
  obtain rfl := parse_nil g1
  have hf : orderS s a = .inr t := hf
  unfold orderS at hf
  split at hf
  ·cases hf
  ·rename_i i hi
   split at hf
   ·cases hf
   rename_i h0
   split at hf
   ·cases hf
   rename_i h40
   injection hf with hf
   exact .order a i (by rw [h1, hw]) hi h0 h40 hf.symm
 split at h
 ·rename_i hw
  have hw := strEq_iff.1 hw
  obtain ⟨_, p, hr, hf⟩ := act_ok h
  obtain ⟨ws, h1, h2, h3⟩ := readS_tail hr
  obtain ⟨x, y, rfl⟩ := two (show ws.length = 2 from h2)
  obtain ⟨i, hi, q1, g1, rfl⟩ := parse_dS (show parseS [100, 100] [x, y] = some p from h3)
  obtain ⟨j, hj, q2, g2, rfl⟩ := parse_dS g1
  obtain rfl := parse_nil g2
  have hf : tasteS s i j = .inr t := hf
  unfold tasteS at hf
  split at hf
  ·cases hf
  rename_i hc
  split at hf
  ·cases hf
  injection hf with hf
  exact .taste x y i j (by rw [h1, hw]) hi hj (by omega) (by omega) hf.symm
 split at h
 ·rename_i hw
  have hw := strEq_iff.1 hw
  obtain ⟨_, p, hr, hf⟩ := act_ok h
  obtain ⟨ws, h1, h2, h3⟩ := readS_tail hr
  obtain ⟨x, y, rfl⟩ := two (show ws.length = 2 from h2)
  obtain ⟨i, hi, q1, g1, rfl⟩ := parse_dS (show parseS [100, 100] [x, y] = some p from h3)
  obtain ⟨j, hj, q2, g2, rfl⟩ := parse_dS g1
  obtain rfl := parse_nil g2
  have hf : offerS s i j = .inr t := hf
  unfold offerS at hf
  split at hf
  ·cases hf
  split at hf
  ·cases hf
  split at hf
  ·cases hf
  injection hf with hf
  exact .offer x y i j (by rw [h1, hw]) hi hj hf.symm
 ·cases h
structure PtrN where
 b : Nat
instance elPtr : El PtrN := ⟨1, fun x => [.ptr x.b 0], fun _ => rfl, fun _ => rfl, by decide⟩
abbrev PgC := ByteArray × Int × PtrN
def pgCells (ps : List Pg) (bs : List Nat) : List PgC := List.zipWith (fun p b => (p.change, (p.parent : Int), ⟨b⟩)) ps bs
structure ChAt (H : Hp) (c : Nat) (pv : Sl) (C : Chs) (t : Nat) : Prop where
 get : H.get c = some (.cells [.sl pv, .int .i64 (C.at' : Int)] false)
 nn : pv.nil = false
 o : pv.o = 0
 len : pv.len = C.pages.length
 cap : pv.cap = pv.len
 opn : pv.opn = 0 ∨ pv.opn = 3
 ne : c ≠ pv.b
 tc : c < t
 tp : pv.b < t
 tn : t ≤ H.n
 ex : ∃ bs : List Nat, bs.length = C.pages.length ∧ H.get pv.b = some (.cells (encs (pgCells C.pages bs)) false) ∧ ∀ i (h : i < bs.length) (h' : i < C.pages.length), StAt H (fun x => x ≠ c ∧ x ≠ pv.b ∧ x < t) bs[i] C.pages[i].st
theorem ChAt.gr {H H' : Hp} {c : Nat} {pv : Sl} {C : Chs} {t : Nat} (h : ChAt H c pv C t) (g : Gr H H') : ChAt H' c pv C t := by
 obtain ⟨bs, h1, h2, h3⟩ := h.ex
 exact ⟨by rw [g.2 _ (Hp.get_lt h.get)]; exact h.get, h.nn, h.o, h.len, h.cap, h.opn, h.ne, h.tc, h.tp, Nat.le_trans h.tn g.1, bs, h1, by rw [g.2 _ (Hp.get_lt h2)]; exact h2, fun i a b => (h3 i a b).gr g⟩
theorem ChAt.keep {H H' : Hp} {c : Nat} {pv : Sl} {C : Chs} {t : Nat} (h : ChAt H c pv C t) (hn : H.n ≤ H'.n) (e : ∀ b, b < t → H'.get b = H.get b) : ChAt H' c pv C t := by
 obtain ⟨bs, h1, h2, h3⟩ := h.ex
 exact ⟨by rw [e _ h.tc]; exact h.get, h.nn, h.o, h.len, h.cap, h.opn, h.ne, h.tc, h.tp, Nat.le_trans h.tn hn, bs, h1, by rw [e _ h.tp]; exact h2, fun i a b => (h3 i a b).mono (fun x hx _ => e x hx.2.2) fun _ _ hx => hx⟩
theorem ChAt.up {H : Hp} {c : Nat} {pv : Sl} {C : Chs} {t t' : Nat} (h : ChAt H c pv C t) (h1 : t ≤ t') (h2 : t' ≤ H.n) : ChAt H c pv C t' := by
 obtain ⟨bs, q1, q2, q3⟩ := h.ex
 exact ⟨h.get, h.nn, h.o, h.len, h.cap, h.opn, h.ne, Nat.lt_of_lt_of_le h.tc h1, Nat.lt_of_lt_of_le h.tp h1, h2, bs, q1, q2, fun i a b => (q3 i a b).mono (fun x hx _ => rfl) fun _ _ hx => ⟨hx.1, hx.2.1, Nat.lt_of_lt_of_le hx.2.2 h1⟩⟩
structure Sp (c p p' : Nat) (H H' : Hp) : Prop where
 n : H.n ≤ H'.n
 q : p' = p ∨ H.n ≤ p'
 e : ∀ b, b < H.n → b ≠ c → b ≠ p → H'.get b = H.get b
theorem Sp.of_gr {c p : Nat} {H H' : Hp} (g : Gr H H') : Sp c p p H H' := ⟨g.1, .inl rfl, fun b hb _ _ => g.2 b hb⟩
theorem Sp.trans {c p p' p'' : Nat} {A B C : Hp} (h : Sp c p p' A B) (k : Sp c p' p'' B C) : Sp c p p'' A C :=
 ⟨Nat.le_trans h.n k.n, by
  have := h.n
  rcases k.q with e | e
  ·rcases h.q with e2 | e2
   ·exact .inl (e.trans e2)
   ·exact .inr (by omega)
  ·exact .inr (by omega), fun b hb h1 h2 => by
  have := h.n
  rw [k.e b (by omega) h1 (by rcases h.q with e | e <;> omega), h.e b hb h1 h2]⟩
theorem Sp.gr {c p p' : Nat} {H0 H H' : Hp} (h : Sp c p p' H H') (g : Gr H0 H) (hc : H0.n ≤ c) (hp : H0.n ≤ p) : Gr H0 H' :=
 ⟨Nat.le_trans g.1 h.n, fun b hb => by
  have := g.1
  rw [h.e b (by omega) (by omega) (by omega), g.2 b hb]⟩
section
variable {H : Hp} {c : Nat} {pv : Sl} {C : Chs} {t : Nat}
theorem ChAt.sl (h : ChAt H c pv C t) : ∃ bs : List Nat, bs.length = C.pages.length ∧ SL H pv (pgCells C.pages bs) ∧ ∀ i (h : i < bs.length) (h' : i < C.pages.length), StAt H (fun x => x ≠ c ∧ x ≠ pv.b ∧ x < t) bs[i] C.pages[i].st := by
 obtain ⟨bs, h1, h2, h3⟩ := h.ex
 have hz : (pgCells C.pages bs).length = C.pages.length := by unfold pgCells; rw [List.length_zipWith]; omega
 exact ⟨bs, h1, .of_get h2 h.o (by rw [h.len, hz]) (by rw [h.cap]; exact Nat.le_refl _) h.opn h.nn, h3⟩
theorem pgCells_len {ps : List Pg} {bs : List Nat} (h : bs.length = ps.length) : (pgCells ps bs).length = ps.length := by unfold pgCells; rw [List.length_zipWith]; omega
theorem pgCells_get {ps : List Pg} {bs : List Nat} {i : Nat} (h : i < ps.length) (h' : i < bs.length) : (pgCells ps bs)[i]'(by unfold pgCells; rw [List.length_zipWith]; omega) = (ps[i].change, (ps[i].parent : Int), ⟨bs[i]⟩) := by
 unfold pgCells; rw [List.getElem_zipWith]
theorem ChAt.ldCh (h : ChAt H c pv C t) {i : Nat} (hi : i < C.pages.length) : H.ldStr pv.b (pv.o + i * 3 + 0) = some C.pages[i].change := by
 obtain ⟨bs, h1, h2, _⟩ := h.sl
 exact SL.ldStr h2 (i := i) (j := 0) (by rw [pgCells_len h1]; exact hi) (by rw [pgCells_get hi (by omega)]; rfl)
theorem ChAt.ldPar (h : ChAt H c pv C t) {i : Nat} (hi : i < C.pages.length) : H.ldI .i64 pv.b (pv.o + i * 3 + 1) = some (C.pages[i].parent : Int) := by
 obtain ⟨bs, h1, h2, _⟩ := h.sl
 exact h2.ldI (i := i) (j := 1) (by rw [pgCells_len h1]; exact hi) (by rw [pgCells_get hi (by omega)]; rfl)
theorem ChAt.ldSt (h : ChAt H c pv C t) {i : Nat} (hi : i < C.pages.length) : ∃ b, H.ldP pv.b (pv.o + i * 3 + 2) = some (b, 0) ∧ StAt H (fun x => x ≠ c ∧ x ≠ pv.b ∧ x < t) b C.pages[i].st := by
 obtain ⟨bs, h1, h2, h3⟩ := h.sl
 refine ⟨bs[i]'(by omega), ?_, h3 i (by omega) hi⟩
 have := h2.ld (i := i) (j := 2) (x := .ptr (bs[i]'(by omega)) 0) (by rw [pgCells_len h1]; exact hi) (by rw [pgCells_get hi (by omega)]; rfl)
 have e : pv.o + i * El.sz PgC + 2 = pv.o + i * 3 + 2 := rfl
 rw [e] at this
 simp [Hp.ldP, this, AV.asP]
theorem par_get {i : Nat} (hi : i < C.pages.length) : C.pages[i].parent = C.par i := by unfold Chs.par; rw [List.getElem?_eq_getElem hi]; rfl
theorem chg_get {i : Nat} (hi : i < C.pages.length) : C.pages[i].change = C.chg i := by unfold Chs.chg; rw [List.getElem?_eq_getElem hi]; rfl
theorem now_get {i : Nat} (hi : i < C.pages.length) : C.pages[i].st = C.now i := by unfold Chs.now; rw [List.getElem?_eq_getElem hi]; rfl
theorem ChAt.setAt {α : Type} {Q : α → Hp → Prop} {n : Nat} {f : Hp → Option (α × Hp)} (h : ChAt H c pv C t) (k : ∀ A, ChAt A c pv ⟨C.pages, n⟩ t → Sp c pv.b pv.b H A → Lt.Ok (f A) Q) : Lt.Ok ((H.st c (0 + 1) (.int .i64 (n : Int))).bind f) Q := by
 refine Lt.Ok.st h.get (by simp) fun A e hg => ?_
 subst e
 have oth : ∀ b, b ≠ c → (H.set c (.cells ([AV.sl pv, .int .i64 (C.at' : Int)].set (0 + 1) (.int .i64 (n : Int))) false)).get b = H.get b := fun b hb => Hp.get_set_other _ _ hb
 obtain ⟨bs, h1, h2, h3⟩ := h.ex
 exact k _ ⟨hg, h.nn, h.o, h.len, h.cap, h.opn, h.ne, h.tc, h.tp, by simp; exact h.tn, bs, h1, by rw [oth _ h.ne.symm]; exact h2, fun i a b => (h3 i a b).mono (fun x hx _ => oth x hx.1) fun _ _ hx => hx⟩ ⟨by simp, .inl rfl, fun b _ hb _ => oth b hb⟩
theorem none_ok (h : ChAt H c pv C t) (hC : C.Ok) : r60 c 0 H = some (false, H) := by
 unfold r60
 rw [ldSl_get (n := pv) h.get rfl]
 have := hC.one
 have := h.len
 simp only [Option.bind_some]
 rw [decide_eq_false (by omega)]
theorem now_ok (h : ChAt H c pv C t) (hC : C.Ok) : ∃ b, r61 c 0 H = some ((b, 0), H) ∧ StAt H (fun x => x ≠ c ∧ x ≠ pv.b ∧ x < t) b (C.now C.at') := by
 have hcur := hC.cur
 obtain ⟨b, h1, h2⟩ := h.ldSt hcur
 refine ⟨b, ?_, by rw [← now_get hcur]; exact h2⟩
 unfold r61
 have hl := h.len
 rw [ldSl_get (n := pv) h.get rfl, ldI_get (n := (C.at' : Int)) h.get rfl]
 simp only [Option.bind_some, Go.Lt.ck, Int.toNat_natCast]
 rw [if_pos (by omega), h1]
 rfl
end
theorem app118 (k : Nat) (s : ByteArray) (n : Int) (b o c0 c1 : Nat) (H : Hp) : callv (appA (k + 1)) (.fn 118 [] [.ptr c0 0, .ptr c1 0]) [.agg [.str s, .int .i64 n, .ptr b o]] H = (r118 s n b o c0 c1 H).map fun p => (.bool p.1, p.2) := rfl
theorem r118_ok {H : Hp} {c0 c1 : Nat} {ch : ByteArray} {p : Int} (h0 : H.get c0 = some (.cells [.str ch] false)) (h1 : H.get c1 = some (.cells [.int .i64 p] false)) (s : ByteArray) (n : Int) (b : Nat) :
  ∃ H', r118 s n b 0 c0 c1 H = some (strEq s ch && (decide (n = p) && !strEq s (ByteArray.mk #[])), H') ∧ Gr H H' := by
 have g := Gr.push H (.cells [.str s, .int .i64 n, .ptr b 0] false)
 have hn := Hp.get_push_new H (.cells [.str s, .int .i64 n, .ptr b 0] false)
 refine ⟨H.push (.cells [.str s, .int .i64 n, .ptr b 0] false), ?_, g⟩
 unfold r118 Go.Lt.lt
 dsimp only
 generalize H.push (.cells [.str s, .int .i64 n, .ptr b 0] false) = A at *
 have q1 : A.ldStr H.n (0 + 0) = some s := by simp [Hp.ldStr, ld_of_get hn, AV.asStr]
 have q2 : A.ldStr c0 0 = some ch := by simp [Hp.ldStr, ld_of_get ((g.2 _ (Hp.get_lt h0)).trans h0), AV.asStr]
 have q3 : A.ldI .i64 H.n (0 + 1) = some n := ldI_get hn rfl
 have q4 : A.ldI .i64 c1 0 = some p := ldI_get ((g.2 _ (Hp.get_lt h1)).trans h1) rfl
 rw [q1]
 simp only [Option.bind_some]
 rw [q2]
 simp only [Option.bind_some]
 rw [q3]
 simp only [Option.bind_some]
 rw [q4]
 simp only [Option.bind_some]
 cases hs : strEq s ch with
 | false => rfl
 | true =>
  by_cases hp : n = p
  ·rw [if_pos rfl, if_pos hp, decide_eq_true hp]; rfl
  ·rw [if_pos rfl, if_neg hp, decide_eq_false hp]; rfl
section
variable {H : Hp} {c : Nat} {pv : Sl} {C : Chs} {t : Nat}
theorem child_ok {k : Nat} (h : ChAt H c pv C t) (hC : C.Ok) (p : Nat) (ch : ByteArray) : Lt.Ok (r65 (appA (k + 1)) c 0 (p : Int) ch H) fun r H' => Gr H H' ∧ r = idxI (C.child p ch) := by
 unfold r65
 refine Lt.Ok.lt ?_
 have g0 := (Gr.push H (.cells [.int .i64 (p : Int)] false)).trans (Gr.push _ (.cells [.str ch] false))
 have h1 : ((H.push (.cells [.int .i64 (p : Int)] false)).push (.cells [.str ch] false)).get (H.push (.cells [.int .i64 (p : Int)] false)).n = some (.cells [.str ch] false) := Hp.get_push_new _ _
 have h2 : ((H.push (.cells [.int .i64 (p : Int)] false)).push (.cells [.str ch] false)).get H.n = some (.cells [.int .i64 (p : Int)] false) := by
  rw [Hp.get_push_old _ _ (by simp)]; exact Hp.get_push_new _ _
 generalize hA : (H.push (.cells [.int .i64 (p : Int)] false)).push (.cells [.str ch] false) = A at *
 have hB := h.gr g0
 have hl := h.len
 have hm := hC.most
 refine Lt.Ok.ld (ldSl_get hB.get rfl) ?_
 unfold r117
 refine Lt.Ok.bind (P := fun r A' => Gr A A' ∧ r = idxI (C.child p ch)) ?_ fun r B ⟨g, e⟩ => Lt.Ok.ret ⟨g0.trans g, e⟩
 refine idx_ok (L := fun K i A' => r117_l0 (appA (k + 1)) K pv (.fn 118 [] [.ptr (H.push (.cells [.int .i64 (p : Int)] false)).n 0, .ptr H.n 0]) (pv.len : Int) i A') (l := C.pages) (fun q => strEq q.change ch && (decide (q.parent = p) && !strEq q.change (ByteArray.mk #[]))) (by omega) (fun K i A' Q hi g k1 k2 => ?_) fun K A' Q g k => ?_
 ·rw [r117_l0]
  have hA' := hB.gr g
  obtain ⟨b, hb, _⟩ := hA'.ldSt hi
  refine Lt.Ok.pos (by omega) (Lt.Ok.ck (by omega) (Lt.Ok.ld (hA'.ldCh hi) (Lt.Ok.ld (hA'.ldPar hi) (Lt.Ok.ld hb ?_))))
  rw [app118]
  obtain ⟨B, hr, gB⟩ := r118_ok ((g.2 _ (Hp.get_lt h1)).trans h1) ((g.2 _ (Hp.get_lt h2)).trans h2) C.pages[i].change (C.pages[i].parent : Int) b
  rw [hr]
  simp only [Option.map_some, Option.bind_some, AV.asB, Int.natCast_inj]
  rw [w64_succ (by omega)]
  exact Lt.Ok.ite (fun h => Lt.Ok.ret (k1 B gB h)) fun h => k2 B gB (Bool.not_eq_true _ ▸ h)
 ·rw [r117_l0]
  exact Lt.Ok.neg (by omega) (Lt.Ok.ret k)
end
/-! ### a chest whose blocks keep out of some others' way -/
structure ChQ (H : Hp) (c : Nat) (pv : Sl) (C : Chs) (Q : Nat → Prop) : Prop where
 get : H.get c = some (.cells [.sl pv, .int .i64 (C.at' : Int)] false)
 nn : pv.nil = false
 o : pv.o = 0
 len : pv.len = C.pages.length
 cap : pv.cap = pv.len
 opn : pv.opn = 0 ∨ pv.opn = 3
 ne : c ≠ pv.b
 ex : ∃ bs : List Nat, bs.length = C.pages.length ∧ H.get pv.b = some (.cells (encs (pgCells C.pages bs)) false) ∧ ∀ i (h : i < bs.length) (h' : i < C.pages.length), StAt H (fun x => x ≠ c ∧ x ≠ pv.b ∧ Q x) bs[i] C.pages[i].st
section
variable {H : Hp} {c : Nat} {pv : Sl} {C : Chs} {Q : Nat → Prop}
theorem ChQ.at (h : ChQ H c pv C Q) : ChAt H c pv C H.n := by
 obtain ⟨bs, h1, h2, h3⟩ := h.ex
 exact ⟨h.get, h.nn, h.o, h.len, h.cap, h.opn, h.ne, Hp.get_lt h.get, Hp.get_lt h2, Nat.le_refl _, bs, h1, h2, fun i a b => (h3 i a b).mono (fun _ _ _ => rfl) fun x hx q => ⟨q.1, q.2.1, hx⟩⟩
theorem ChQ.keep {H' : Hp} {Q' : Nat → Prop} (h : ChQ H c pv C Q) (e : ∀ b, b < H.n → (b = c ∨ b = pv.b ∨ Q b) → H'.get b = H.get b) (hq : ∀ b, b < H.n → Q b → Q' b) : ChQ H' c pv C Q' := by
 obtain ⟨bs, h1, h2, h3⟩ := h.ex
 exact ⟨by rw [e _ (Hp.get_lt h.get) (.inl rfl)]; exact h.get, h.nn, h.o, h.len, h.cap, h.opn, h.ne, bs, h1, by rw [e _ (Hp.get_lt h2) (.inr (.inl rfl))]; exact h2, fun i a b => (h3 i a b).mono (fun x hx hl => e x hl (.inr (.inr hx.2.2))) fun x hx q => ⟨q.1, q.2.1, hq x hx q.2.2⟩⟩
theorem ChQ.gr {H' : Hp} (h : ChQ H c pv C Q) (g : Gr H H') : ChQ H' c pv C Q := h.keep (fun b hb _ => g.2 b hb) fun _ _ q => q
theorem ChAt.q {H : Hp} {t : Nat} (h : ChAt H c pv C t) : ChQ H c pv C (· < t) := ⟨h.get, h.nn, h.o, h.len, h.cap, h.opn, h.ne, h.ex⟩
theorem ChQ.moved {H' : Hp} {C' : Chs} {Q' : Nat → Prop} (h : ChQ H c pv C Q) (hp : C'.pages = C.pages) (hg : H'.get c = some (.cells [.sl pv, .int .i64 (C'.at' : Int)] false)) (e : ∀ b, b < H.n → b ≠ c → H'.get b = H.get b) (hq : ∀ b, b < H.n → Q b → Q' b) : ChQ H' c pv C' Q' := by
 obtain ⟨bs, h1, h2, h3⟩ := h.ex
 obtain ⟨ps, a⟩ := C'
 dsimp only at hp hg
 subst hp
 exact ⟨hg, h.nn, h.o, h.len, h.cap, h.opn, h.ne, bs, h1, by rw [e _ (Hp.get_lt h2) h.ne.symm]; exact h2, fun i a b => (h3 i a b).mono (fun x hx hl => e x hl hx.1) fun x hx q => ⟨q.1, q.2.1, hq x hx q.2.2⟩⟩
theorem pages_pushQ (h : ChQ H c pv C Q) (hm : C.pages.length ≤ 200) {bs : List Nat} (h1 : bs.length = C.pages.length) (h2 : H.get pv.b = some (.cells (encs (pgCells C.pages bs)) false)) (ch : ByteArray) (p b : Nat) :
  Lt.Ok (H.apN 3 pv [.str ch, .int .i64 (p : Int), .ptr b 0] 1) fun pv' A => pv' = ⟨false, H.n + 1, 0, C.pages.length + 1, C.pages.length + 1, 3⟩ ∧ A.n = H.n + 2 ∧ (∀ x, x < H.n → x ≠ pv.b → A.get x = H.get x) ∧
   A.get (H.n + 1) = some (.cells (encs (pgCells C.pages bs ++ [(ch, (p : Int), ⟨b⟩)])) false) := by
 have hl := h.len; have hcap := h.cap; have ho := h.o
 have hlt := Hp.get_lt h2
 have hsl : SL H pv (pgCells C.pages bs) := .of_get h2 h.o (by rw [h.len, pgCells_len h1]) (by rw [h.cap]; exact Nat.le_refl _) h.opn h.nn
 have hnew : encs (pgCells C.pages bs) ++ [.str ch, .int .i64 (p : Int), .ptr b 0] = encs (pgCells C.pages bs ++ [(ch, (p : Int), ⟨b⟩)]) := by
  rw [encs_append, encs_one]; rfl
 unfold Hp.apN Hp.app
 rw [if_pos (by omega), if_neg (by omega)]
 have hlds := (hsl.gr (Gr.push H (.cells [.str ch, .int .i64 (p : Int), .ptr b 0] false))).lds
 have e3 : pv.len * El.sz PgC = pv.len * 3 := rfl
 rw [e3] at hlds
 rw [hlds]
 simp only [Option.bind_some]
 rcases h.opn with ho | ho
 ·rw [if_pos ho]
  refine Lt.Ok.ret ⟨by rw [hl]; rfl, by simp, fun x hx _ => ?_, ?_⟩
  ·rw [Hp.get_push_old _ _ (by simp; omega), Hp.get_push_old _ _ hx]
  ·rw [← hnew]; exact Hp.get_push_new _ _
 ·rw [if_neg (by omega), if_pos ho, Hp.get_push_old _ _ hlt, h2]
  refine Lt.Ok.ret ⟨?_, by simp, fun x hx hne => ?_, ?_⟩
  ·simp [hl]
  ·rw [Hp.get_push_old _ _ (by simp; omega), Hp.get_set_other _ _ hne, Hp.get_push_old _ _ hx]
  ·rw [← hnew]
   have := Hp.get_push_new ((H.push (.cells [.str ch, .int .i64 (p : Int), .ptr b 0] false)).set pv.b .dead) (.cells (encs (pgCells C.pages bs) ++ [.str ch, .int .i64 (p : Int), .ptr b 0]) false)
   simpa using this
theorem doQ_ok {k : Nat} (h : ChQ H c pv C Q) (hC : C.Ok) (hQ : ∀ x, H.n ≤ x → Q x) {line : ByteArray} (hs : line.size ≤ 4194304) : Lt.Ok (r20 (appA (k + 2)) c 0 line H) fun r A => r = (C.do line).2 ∧ ∃ pv', ChQ A c pv' (C.do line).1 Q ∧ Sp c pv.b pv'.b H A := by
 unfold r20 Chs.do
 refine is (none_ok h.at hC) (Lt.Ok.neg (by simp) ?_)
 dsimp only
 obtain ⟨b, hnow, hst⟩ := now_ok h.at hC
 refine is hnow ?_
 dsimp only
 refine Lt.Ok.bind (r64_ok (k := k) hst (hC.st _ hC.cur) hs) fun r A ⟨gA, hr⟩ => ?_
 dsimp only
 have hA := h.gr gA
 have sA : Sp c pv.b pv.b H A := .of_gr gA
 cases hd : doS (C.now C.at') line with
 | mk a w =>
 rw [hd] at hr
 cases a with
 | inl e =>
  obtain ⟨hr, he⟩ := hr
  dsimp only
  refine Lt.Ok.pos (by rw [hr]; exact he) (Lt.Ok.ret ⟨by rw [hr], pv, hA, sA⟩)
 | inr s =>
  obtain ⟨hr1, hr2, hr3, hr4⟩ := hr
  dsimp only
  refine Lt.Ok.neg (by rw [hr1]; simp) (Lt.Ok.ld (ldI_get hA.get rfl) ?_)
  refine Lt.Ok.bind (child_ok (k := k + 1) hA.at hC C.at' line) fun i B ⟨gB, hi⟩ => ?_
  dsimp only at hi ⊢
  have hB := hA.gr gB
  have sB := sA.trans (.of_gr (c := c) (p := pv.b) gB)
  cases hch : C.child C.at' line with
  | some j =>
   rw [hch] at hi
   subst hi
   refine Lt.Ok.pos (by simp [idxI]) ?_
   unfold r20_j0
   simp only [idxI]
   refine Lt.Ok.st hB.get (by simp) fun F e hF => Lt.Ok.ret ⟨by rw [hr2], pv, ?_, sB.trans ?_⟩
   ·exact hB.moved rfl (by simpa using hF) (fun b _ hb => by rw [e]; exact Hp.get_set_other _ _ hb) fun _ _ q => q
   ·exact ⟨by rw [e]; simp, .inl rfl, fun b _ hb _ => by rw [e]; exact Hp.get_set_other _ _ hb⟩
  | none =>
   rw [hch] at hi
   subst hi
   refine Lt.Ok.neg (by decide) (Lt.Ok.ld (ldSl_get hB.get rfl) ?_)
   have hl := h.len
   refine Lt.Ok.ite (fun hc => Lt.Ok.ret ?_) fun hc => ?_
   ·dsimp only
    rw [if_pos (by omega)]
    exact ⟨rfl, pv, hB, sB⟩
   dsimp only
   rw [if_neg (by omega)]
   refine Lt.Ok.ld (ldSl_get hB.get rfl) (Lt.Ok.ld (ldSl_get hB.get rfl) (Lt.Ok.ld (ldI_get hB.get rfl) ?_))
   obtain ⟨nb, no, nw, ne⟩ := r
   dsimp only at hr1 hr2 hr3 hr4 ⊢
   subst hr3
   obtain ⟨bs, hbs, hpg, hst3⟩ := hB.ex
   refine Lt.Ok.bind (pages_pushQ hB hC.most hbs hpg line C.at' nb) fun pv' D ⟨hpv, hDn, hDo, hDg⟩ => ?_
   have hcB := Hp.get_lt hB.get
   have hcne := hB.ne
   have hDc : D.get c = some (.cells [.sl pv, .int .i64 (C.at' : Int)] false) := (hDo c hcB hcne).trans hB.get
   dsimp only
   refine Lt.Ok.st hDc (by simp) fun E e hE => ?_
   subst e
   refine Lt.Ok.ck ?_ ?_
   ·exact ldSl_get ((Hp.get_push_old _ _ hcB).trans hB.get) rfl
   have oth : ∀ x, x ≠ c → (D.set c (.cells ([AV.sl pv, .int .i64 (C.at' : Int)].set (0 + 0) (.sl pv')) false)).get x = D.get x := fun x hx => Hp.get_set_other _ _ hx
   have hEn : (D.set c (.cells ([AV.sl pv, .int .i64 (C.at' : Int)].set (0 + 0) (.sl pv')) false)).n = D.n := by simp
   generalize D.set c (.cells ([AV.sl pv, .int .i64 (C.at' : Int)].set (0 + 0) (.sl pv')) false) = E at *
   have hpb : pv'.b = B.n + 1 := by rw [hpv]
   have hpvlt : pv.b < B.n := Hp.get_lt hpg
   have hnB : H.n ≤ B.n := sB.n
   have sE : Sp c pv.b pv'.b B E := ⟨by omega, .inr (by omega), fun x h1 h2 h3 => by rw [oth x h2, hDo x h1 h3]⟩
   have old2 : ∀ x, x ≠ c ∧ x ≠ pv.b → x < B.n → E.get x = B.get x := fun x h1 h2 => by rw [oth x h1.1, hDo x h2 h1.2]
   have hCE : ChQ E c pv' ⟨C.pages ++ [⟨line, C.at', s⟩], C.at'⟩ Q := by
    refine ⟨hE, by rw [hpv], by rw [hpv], by rw [hpv]; simp, by rw [hpv], by rw [hpv]; exact .inr rfl, by rw [hpb]; omega, bs ++ [nb], by simp [hbs], ?_, fun i h1 h2 => ?_⟩
    ·rw [hpb, oth _ (by omega), hDg]
     unfold pgCells
     rw [List.zipWith_append hbs.symm]
     rfl
    ·by_cases e : i < C.pages.length
     ·rw [List.getElem_append_left (by omega), List.getElem_append_left e]
      exact (hst3 i (by omega) e).mono (fun x hx hl => old2 x ⟨hx.1, hx.2.1⟩ hl) fun x hx h => ⟨h.1, by rw [hpb]; omega, h.2.2⟩
     ·have : i = C.pages.length := by simp at h2; omega
      subst this
      rw [List.getElem_append_right (by omega), List.getElem_append_right (Nat.le_refl _)]
      simp only [hbs, Nat.sub_self, List.getElem_cons_zero]
      have hnlt : ∀ x, H.n ≤ x → x ≠ c ∧ x ≠ pv.b := fun x hx => by
       have h1 := Hp.get_lt h.get
       have h2 : pv.b < H.n := by obtain ⟨_, _, q, _⟩ := h.ex; exact Hp.get_lt q
       omega
      exact (hr4.gr gB).mono (fun x hx h => old2 x (hnlt x hx) h) fun x hx h => ⟨(hnlt x h).1, by rw [hpb]; omega, hQ x h⟩
   unfold r20_j0
   rw [hl]
   refine Lt.Ok.st hCE.get (by simp) fun F e hF => Lt.Ok.ret ⟨by rw [hr2], pv', ?_, (sB.trans sE).trans ?_⟩
   ·exact hCE.moved rfl (by simpa using hF) (fun b _ hb => by rw [e]; exact Hp.get_set_other _ _ hb) fun _ _ q => q
   ·exact ⟨by rw [e]; simp, .inl rfl, fun b _ hb _ => by rw [e]; exact Hp.get_set_other _ _ hb⟩
theorem do_ok {k : Nat} {t : Nat} (h : ChAt H c pv C t) (hC : C.Ok) {line : ByteArray} (hs : line.size ≤ 4194304) : Lt.Ok (r20 (appA (k + 2)) c 0 line H) fun r A => r = (C.do line).2 ∧ ∃ pv' t', ChAt A c pv' (C.do line).1 t' ∧ Sp c pv.b pv'.b H A :=
 (doQ_ok (k := k) (Q := fun x => x < t ∨ H.n ≤ x) (h.q.keep (fun _ _ _ => rfl) fun _ _ q => .inl q) hC (fun x hx => .inr hx) hs).mono fun r A ⟨e, pv', q, s⟩ => ⟨e, pv', A.n, q.at, s⟩
end
def Lit (n0 : Nat) (H : Hp) (v : Sl) (l : List Int) : Prop := (v = nilS ∧ l = []) ∨ (v.nil = false ∧ v.o = 0 ∧ (v.opn = 0 ∨ v.opn = 1) ∧ v.cap = v.len ∧ n0 ≤ v.b ∧ H.get v.b = some (.cells (encs l) false) ∧ v.len = l.length)
theorem Lit.sl {n0 : Nat} {H : Hp} {v : Sl} {l : List Int} (h : Lit n0 H v l) : SL H v l := by
 rcases h with ⟨rfl, rfl⟩ | ⟨h1, h2, h3, h4, h5, h6, h7⟩
 ·exact SL.nilS
 ·exact .of_get h6 h2 h7 (by omega) h3 h1
theorem Lit.len {n0 : Nat} {H : Hp} {v : Sl} {l : List Int} (h : Lit n0 H v l) : v.len = l.length := h.sl.len
theorem Lit.ge {n0 : Nat} {H : Hp} {v : Sl} {l : List Int} (h : Lit n0 H v l) (hn : v.nil = false) : n0 ≤ v.b := by
 rcases h with ⟨rfl, _⟩ | h
 ·cases hn
 ·exact h.2.2.2.2.1
theorem Lit.lt {n0 : Nat} {H : Hp} {v : Sl} {l : List Int} (h : Lit n0 H v l) (hn : v.nil = false) : v.b < H.n := by
 rcases h with ⟨rfl, _⟩ | h
 ·cases hn
 ·exact Hp.get_lt h.2.2.2.2.2.1
theorem Lit.keep {n0 : Nat} {H H' : Hp} {v : Sl} {l : List Int} (h : Lit n0 H v l) (e : v.nil = false → H'.get v.b = H.get v.b) : Lit n0 H' v l := by
 rcases h with h | ⟨h1, h2, h3, h4, h5, h6, h7⟩
 ·exact .inl h
 ·exact .inr ⟨h1, h2, h3, h4, h5, by rw [e h1]; exact h6, h7⟩
theorem AccN.lit {n0 : Nat} {H : Hp} {v : Sl} {l : List Int} (h : AccN n0 H v l) : Lit n0 H v l := by
 have hl := h.1.len
 rcases h.1 with ⟨e, e2⟩ | ⟨h1, h2, h3, h4, h5, h6, h7⟩
 ·subst e
  refine .inl ⟨rfl, ?_⟩
  have : l.length = 0 := hl.symm
  exact List.length_eq_zero_iff.1 this
 ·exact .inr ⟨h1, h2, .inr h3, h4, h5, h6, hl⟩
theorem Lit.put {α : Type} {Q : α → Hp → Prop} {A : Hp} {n0 : Nat} {w : Sl} {l : List Int} (h : Lit n0 A w l) {i : Nat} (n : Int) (hi : i < l.length) {f : Hp → Option (α × Hp)}
  (k : ∀ A', Lit n0 A' w (l.set i n) → (∀ c, c ≠ w.b → A'.get c = A.get c) → A'.n = A.n → n0 ≤ w.b → Lt.Ok (f A') Q) : Lt.Ok ((A.st w.b (w.o + i * 1) (.int .i64 n)).bind f) Q := by
 rcases h with ⟨_, rfl⟩ | ⟨q1, q2, q3, q4, q5, q6, q7⟩
 ·simp at hi
 rw [q2, Nat.zero_add, Nat.mul_one]
 have hel : (encs l).length = l.length * 1 := encs_len l
 refine Lt.Ok.st q6 (by omega) fun A' e hg' => ?_
 subst e
 have oth : ∀ c, c ≠ w.b → (A.set w.b (.cells ((encs l).set i (.int .i64 n)) false)).get c = A.get c := fun c hc => Hp.get_set_other _ _ hc
 exact k _ (.inr ⟨q1, q2, q3, q4, q5, by rw [hg', encs_ints], by simp [q7]⟩) oth (by simp) q5
theorem Lit.push {A : Hp} {n0 : Nat} {v : Sl} {l : List Int} (h : Lit n0 A v l) (hn : n0 ≤ A.n) (x : Int) (hb : l.length < 4294967296) :
  Lt.Ok (A.apN 1 v [.int .i64 x] 1) fun v' A' => Lit n0 A' v' (l ++ [x]) ∧ A.n ≤ A'.n ∧ A.n ≤ v'.b ∧ ∀ c, c < A.n → (v.nil = false → c ≠ v.b) → A'.get c = A.get c := by
 have hl := h.len
 have hlds := (h.sl.gr (Gr.push A (.cells [.int .i64 x] false))).lds
 have e1 : v.len * El.sz Int = v.len * 1 := rfl
 rw [e1] at hlds
 have hnew : encs l ++ [.int .i64 x] = encs (l ++ [x]) := by rw [encs_append, encs_one]; rfl
 unfold Hp.apN Hp.app
 rw [if_pos (by omega)]
 rcases h with ⟨rfl, rfl⟩ | ⟨q1, q2, q3, q4, q5, q6, q7⟩
 ·rw [if_neg (by decide)]
  simp only [nilS, Nat.zero_mul, Hp.lds, Option.bind_some, if_true, List.nil_append]
  refine Lt.Ok.ret ⟨.inr ⟨rfl, rfl, .inr rfl, rfl, by simp; omega, Hp.get_push_new _ _, rfl⟩, by simp; omega, by simp, fun c hc _ => ?_⟩
  rw [Hp.get_push_old _ _ (by simp; omega), Hp.get_push_old _ _ hc]
 ·rw [if_neg (by omega), hlds]
  simp only [Option.bind_some]
  have hlt := Hp.get_lt q6
  rcases q3 with ho | ho
  ·rw [if_pos ho, hnew]
   refine Lt.Ok.ret ⟨.inr ⟨rfl, rfl, .inr rfl, rfl, by simp; omega, Hp.get_push_new _ _, by simp [q7]⟩, by simp; omega, by simp, fun c hc _ => ?_⟩
   rw [Hp.get_push_old _ _ (by simp; omega), Hp.get_push_old _ _ hc]
  ·rw [if_neg (by omega), if_pos ho, Hp.get_push_old _ _ hlt, q6, hnew]
   have hgn := Hp.get_push_new ((A.push (.cells [.int .i64 x] false)).set v.b .dead) (.cells (encs (l ++ [x])) false)
   rw [Hp.n_set] at hgn
   refine Lt.Ok.ret ⟨.inr ⟨rfl, rfl, .inr rfl, rfl, by simp; omega, hgn, by simp [q7]⟩, by simp; omega, by simp, fun c hc hne => ?_⟩
   rw [Hp.get_push_old _ _ (by simp; omega), Hp.get_set_other _ _ (hne q1), Hp.get_push_old _ _ hc]
theorem r137_ok {H : Hp} {n0 : Nat} {v : Sl} {l : List Int} (hv : Lit n0 H v l) (hb : l.length ≤ 10000000) : Lt.Ok (r137 v H) fun _ H' => Lit n0 H' v l.reverse ∧ H'.n = H.n ∧ ∀ c, (v.nil = false → c ≠ v.b) → H'.get c = H.get c := by
 unfold r137
 have hlen := hv.len
 have fin : ∀ {q : List Int} {i : Nat}, q.length = l.length → (∀ k, q[k]? = if k < i ∨ l.length - i ≤ k then l.reverse[k]? else l[k]?) → l.length ≤ 2 * i + 1 → q = l.reverse := fun {q i} h1 h2 h3 => by
  refine List.ext_getElem? fun k => ?_
  rw [h2]
  split
  ·rfl
  ·by_cases hk : k < l.length
   ·rw [List.getElem?_reverse hk]
    congr 1; omega
   ·omega
 refine Lt.Ok.loop (L := fun K (s : Int × Int) H2 => r137_l0 K v s.1 s.2 H2) (fun m s H' => ∃ (i : Nat) (q : List Int), s.1 = i ∧ s.2 = (l.length : Int) - 1 - i ∧ m = l.length - i ∧ i ≤ l.length ∧ q.length = l.length ∧ Lit n0 H' v q ∧ H'.n = H.n ∧ (∀ c, (v.nil = false → c ≠ v.b) → H'.get c = H.get c) ∧ ∀ k, q[k]? = if k < i ∨ l.length - i ≤ k then l.reverse[k]? else l[k]?) ?_ FUEL l.length (0, w64 ((v.len : Int) - 1)) H (by unfold FUEL; omega) ⟨0, l, rfl, by rw [w64_id (by omega) (by omega)]; omega, by omega, by omega, rfl, hv, rfl, fun _ _ => rfl, fun k => by
  split
  ·rename_i hk
   have hk : l.length ≤ k := by omega
   rw [List.getElem?_eq_none hk, List.getElem?_eq_none (by simpa using hk)]
  ·rfl⟩
 rintro K m ⟨a, b⟩ H1 ⟨i, q, rfl, rfl, rfl, hi, hql, ho, hn, hoth, hq⟩ ih
 try dsimp only at *
 rw [r137_l0]
 have hol := ho.len
 by_cases h : (i : Int) < (l.length : Int) - 1 - i
 ·have hj : ((l.length : Int) - 1 - i).toNat = l.length - 1 - i := by omega
  have hjq : l.length - 1 - i < q.length := by omega
  have hiq : i < q.length := by omega
  rw [hj]
  have hnil : v.nil = false := ho.sl.nonnil fun e => by rw [e] at hiq; simp at hiq
  refine Lt.Ok.pos h (Lt.Ok.ck (by omega) (Lt.Ok.ld (ho.sl.ldI (i := l.length - 1 - i) (j := 0) (n := q[l.length - 1 - i]) hjq rfl) (Lt.Ok.ck (by omega) (Lt.Ok.ld (ho.sl.ldI (i := i) (j := 0) (n := q[i]) hiq rfl) (Lt.Ok.ck (by omega) ?_)))))
  refine ho.put (i := i) q[l.length - 1 - i] hiq fun A oA onA nA _ => Lt.Ok.ck (by omega) (oA.put (i := l.length - 1 - i) q[i] (by rw [List.length_set]; exact hjq) fun B oB onB nB _ => ?_)
  rw [w64_id (n := (i : Int) + 1) (by omega) (by omega), w64_id (n := (l.length : Int) - 1 - i - 1) (by omega) (by omega)]
  refine ih (l.length - (i + 1)) (_, _) B (by omega) ⟨i + 1, _, by simp, by dsimp only; omega, rfl, by omega, by rw [List.length_set, List.length_set]; exact hql, oB, by omega, fun c hc => by rw [onB c (hc hnil), onA c (hc hnil), hoth c hc], fun k => ?_⟩
  have e1 : q[l.length - 1 - i]? = l[l.length - 1 - i]? := by rw [hq, if_neg (by omega)]
  have e2 : q[i]? = l[i]? := by rw [hq, if_neg (by omega)]
  rw [List.getElem?_set, List.getElem?_set]
  by_cases k1 : l.length - 1 - i = k
  ·subst k1
   rw [if_pos rfl, if_pos (by rw [List.length_set]; exact hjq), if_pos (by omega), List.getElem?_reverse (by omega), ← List.getElem?_eq_getElem hiq, e2]
   congr 1; omega
  ·rw [if_neg k1]
   by_cases k2 : i = k
   ·subst k2
    rw [if_pos rfl, if_pos hiq, if_pos (by omega), List.getElem?_reverse (by omega), ← List.getElem?_eq_getElem hjq, e1]
   ·rw [if_neg k2, hq]
    by_cases k3 : k < i ∨ l.length - i ≤ k
    ·rw [if_pos k3, if_pos (by omega)]
    ·rw [if_neg k3, if_neg (by omega)]
 ·refine Lt.Ok.neg h (Lt.Ok.ret ⟨?_, hn, hoth⟩)
  rw [← fin hql hq (by omega)]
  exact ho
def ints (l : List Nat) : List Int := l.map fun (x : Nat) => (x : Int)
theorem ints_len (l : List Nat) : (ints l).length = l.length := by simp [ints]
theorem ints_rev (l : List Nat) : (ints l).reverse = ints l.reverse := by simp [ints]
section
variable {H : Hp} {c : Nat} {pv : Sl} {C : Chs} {t : Nat}
theorem Chs.ups_fuel (hC : C.Ok) : ∀ k p, p ≤ k → C.ups k p = C.ups p p
 | 0, p, h => by have : p = 0 := by omega
                 subst this; rfl
 | k + 1, p, h => by
  by_cases h0 : p = 0
  ·subst h0; rfl
  ·obtain ⟨q, rfl⟩ : ∃ q, p = q + 1 := ⟨p - 1, by omega⟩
   unfold Chs.ups
   rw [if_neg h0]
   have hp : C.par (q + 1) ≤ q := by
    by_cases hl : q + 1 < C.pages.length
    ·have := hC.up (q + 1) (by omega) hl; omega
    ·unfold Chs.par; rw [List.getElem?_eq_none (by omega)]; simp
   rw [if_neg h0, Chs.ups_fuel hC k _ (by omega), Chs.ups_fuel hC q _ hp]
theorem Chs.ups_len (hC : C.Ok) : ∀ k p, (C.ups k p).length ≤ k
 | 0, p => Nat.le_refl _
 | k + 1, p => by
  unfold Chs.ups
  split
  ·simp
  ·simp; exact Chs.ups_len hC k _
theorem Chs.ups_mem (hC : C.Ok) : ∀ k p x, x ∈ C.ups k p → 0 < x ∧ x ≤ p
 | 0, p, x, h => by simp [Chs.ups] at h
 | k + 1, p, x, h => by
  unfold Chs.ups at h
  split at h
  ·simp at h
  ·rcases List.mem_cons.1 h with rfl | h
   ·omega
   ·have := Chs.ups_mem hC k _ x h
    have := C.par_le hC p
    omega
theorem way_ok (h : ChAt H c pv C t) (hC : C.Ok) {p : Nat} (hp : p < C.pages.length) : Lt.Ok (r81 c 0 (p : Int) H) fun r H' => Gr H H' ∧ Lit H.n H' r (ints (C.way p)) := by
 unfold r81
 have hm := hC.most
 have hl := h.len
 refine Lt.Ok.loop (L := fun K (s : Sl × Int) A => r81_l0 K c 0 s.1 s.2 A) (fun m s A => ∃ (q : Nat) (done : List Nat), s.2 = (q : Int) ∧ q = m ∧ q ≤ p ∧ Gr H A ∧ AccN H.n A s.1 (ints done) ∧ done.length + q ≤ p ∧ C.ups C.pages.length p = done ++ C.ups q q) ?_ FUEL p (⟨true, 0, 0, 0, 0, 0⟩, (p : Int)) H (by unfold FUEL; omega) ⟨p, [], rfl, rfl, Nat.le_refl _, .refl _, ⟨AccL.nilS, fun _ => rfl⟩, by simp, by rw [Chs.ups_fuel hC _ _ (by omega)]; rfl⟩
 rintro K m ⟨v, q'⟩ A ⟨q, done, hq, rfl, hqp, g, ha, hd, hu⟩ ih
 dsimp only at *
 subst hq
 rw [r81_l0]
 have hA := h.gr g
 refine Lt.Ok.ite (fun hne => ?_) fun hne => ?_
 ·have hq0 : q ≠ 0 := by omega
  have hql : q < C.pages.length := by omega
  refine Lt.Ok.bind (AccN.push ha g.1 (q : Int) rfl rfl (by rw [ints_len]; omega)) fun v' B ⟨k1, k2, k3, k4⟩ => ?_
  have gB : Gr H B := But.gr k2 ha.1 g
  have hB := h.gr gB
  dsimp only
  refine Lt.Ok.ld (ldSl_get hB.get rfl) (Lt.Ok.ck (by omega) (Lt.Ok.ld (hB.ldPar hql) ?_))
  rw [par_get hql]
  have hup := hC.up q (by omega) hql
  refine ih (C.par q) (v', _) B hup ⟨C.par q, done ++ [q], rfl, rfl, by omega, gB, by unfold ints at k1 ⊢; rw [List.map_append]; exact k1, by simp; omega, ?_⟩
  rw [hu]
  obtain ⟨r, rfl⟩ : ∃ r, q = r + 1 := ⟨q - 1, by omega⟩
  have e : C.ups (r + 1) (r + 1) = (r + 1) :: C.ups r (C.par (r + 1)) := by
   conv => lhs; unfold Chs.ups
   rw [if_neg (by omega)]
  rw [e, Chs.ups_fuel hC r _ (by omega)]
  simp
 ·have hq0 : q = 0 := by omega
  subst hq0
  refine Lt.Ok.bind (r137_ok ha.lit (by rw [ints_len]; omega)) fun _ B ⟨k1, k2, k3⟩ => Lt.Ok.ret ⟨⟨by have := g.1; dsimp only; omega, fun b hb => ?_⟩, ?_⟩
  ·rw [k3 b fun hn => by have := Acc.ge ha.1 hn; omega, g.2 b hb]
  ·dsimp only
   have : C.way p = done.reverse := by
    unfold Chs.way
    rw [hu]
    have : C.ups 0 0 = [] := rfl
    rw [this, List.append_nil]
   rw [this, ← ints_rev]
   exact k1
theorem app130 (k : Nat) (x : Int) (b : Nat) (H : Hp) : callv (appA (k + 1)) (.fn 130 [] [.ptr b 0]) [.int .i64 x] H = (r130 x b H).map fun p => (.bool p.1, p.2) := rfl
theorem has_ok {k : Nat} (h : ChAt H c pv C t) (hC : C.Ok) {v : Sl} {l : List Int} (hv : SL H v l) (hb : l.length ≤ 4194305) : Lt.Ok (r79 (appA (k + 1)) c 0 v H) fun r H' => Gr H H' ∧ r = l.all fun p => decide (0 ≤ p ∧ p < C.pages.length) := by
 unfold r79
 refine Lt.Ok.lt ?_
 have g0 := Gr.push H (.cells [.ptr c 0] false)
 have hn := Hp.get_push_new H (.cells [.ptr c 0] false)
 generalize H.push (.cells [.ptr c 0] false) = A at *
 have hvA := hv.gr g0
 have hl := hvA.len
 have hll := h.len
 unfold r121 r174
 refine Lt.Ok.bind (P := fun r A' => Gr A A' ∧ r = l.any fun p => decide (p < 0 ∨ (C.pages.length : Int) ≤ p)) ?_ fun r B ⟨g, e⟩ => Lt.Ok.ret ⟨g0.trans g, ?_⟩
 ·refine Lt.Ok.bind (P := fun r A' => Gr A A' ∧ r = idxI (l.findIdx? fun (p : Int) => decide (p < 0 ∨ (C.pages.length : Int) ≤ p))) ?_ fun r B ⟨g, e⟩ => Lt.Ok.ret ⟨g, ?_⟩
  ·refine idx_ok (L := fun K i A' => r174_l0 (appA (k + 1)) K v (.fn 130 [] [.ptr H.n 0]) (v.len : Int) i A') (l := l) (fun (p : Int) => decide (p < 0 ∨ (C.pages.length : Int) ≤ p)) (by omega) (fun K i A' Q hi g k1 k2 => ?_) fun K A' Q g k => ?_
   ·rw [r174_l0]
    refine Lt.Ok.pos (by omega) (Lt.Ok.ck (by omega) (Lt.Ok.ld ((hvA.gr g).ldI (i := i) (j := 0) (n := l[i]) hi rfl) ?_))
    rw [app130]
    have hA' := h.gr (g0.trans g)
    have hr : r130 l[i] H.n A' = some (decide (l[i] < 0 ∨ (C.pages.length : Int) ≤ l[i]), A') := by
     unfold r130
     by_cases hneg : l[i] < 0
     ·rw [if_pos hneg, decide_eq_true (.inl hneg)]
     ·rw [if_neg hneg]
      have q1 : A'.ldP H.n 0 = some (c, 0) := by simp [Hp.ldP, ld_of_get ((g.2 _ (Hp.get_lt hn)).trans hn), AV.asP]
      rw [q1]
      simp only [Option.bind_some]
      rw [ldSl_get (n := pv) hA'.get rfl]
      simp only [Option.bind_some]
      congr 3
      rw [hll]
      exact propext ⟨fun h => .inr h, fun h => by omega⟩
    rw [hr]
    simp only [Option.map_some, Option.bind_some, AV.asB]
    rw [w64_succ (by omega)]
    exact Lt.Ok.ite (fun h => Lt.Ok.ret (k1 A' (.refl _) h)) fun h => k2 A' (.refl _) (Bool.not_eq_true _ ▸ h)
   ·rw [r174_l0]
    exact Lt.Ok.neg (by omega) (Lt.Ok.ret k)
  ·subst e
   rw [← findIdx_any]
   simp only [idxI_nonneg]
   cases (l.findIdx? _).isSome <;> simp
 ·dsimp only at e ⊢
  subst e
  rw [List.not_any_eq_all_not]
  congr 1
  funext x
  rw [← decide_not, decide_eq_decide]; omega
theorem sl_box1 (H : Hp) (x : Int) : SL (H.push (.cells [.int .i64 x] false)) ⟨false, H.n, 0, 1, 1, 0⟩ [x] := .of_get (ro := false) (Hp.get_push_new _ _) rfl rfl (Nat.le_refl _) (.inl rfl) rfl
theorem go_ok {k : Nat} (h : ChAt H c pv C t) (hC : C.Ok) (n : Int) : Lt.Ok (r40 (appA (k + 1)) c 0 n H) fun r A => r = (C.go n).2 ∧ ChAt A c pv (C.go n).1 t ∧ Sp c pv.b pv.b H A := by
 unfold r40 Chs.go
 refine is (none_ok h hC) (Lt.Ok.neg (by simp) ?_)
 dsimp only
 have g0 := Gr.push H (.cells [.int .i64 n] false)
 refine Lt.Ok.bind (has_ok (k := k) (h.gr g0) hC (sl_box1 H n) (by simp)) fun r A ⟨g, e⟩ => ?_
 have hA := h.gr (g0.trans g)
 have sA : Sp c pv.b pv.b H A := .of_gr (g0.trans g)
 dsimp only at e ⊢
 subst e
 simp only [List.all_cons, List.all_nil, Bool.and_true, decide_eq_true_eq]
 by_cases hc : 0 ≤ n ∧ n < (C.pages.length : Int)
 ·rw [if_pos hc, if_pos hc]
  obtain ⟨m, rfl⟩ := Int.eq_ofNat_of_zero_le hc.1
  exact hA.setAt fun B hB sB => Lt.Ok.ret ⟨rfl, by simpa using hB, sA.trans sB⟩
 ·rw [if_neg hc, if_neg hc]
  exact Lt.Ok.ret ⟨rfl, hA, sA⟩
theorem Chs.way_len (hC : C.Ok) (p : Nat) : (C.way p).length ≤ C.pages.length := by
 unfold Chs.way; rw [List.length_reverse]; exact Chs.ups_len hC _ _
theorem new_ok : Lt.Ok (r47 H) fun r A => r.2 = 0 ∧ Gr H A ∧ H.n ≤ r.1 ∧ ∃ pv t, ChAt A r.1 pv Chs.new t ∧ H.n ≤ pv.b := by
 unfold r47
 refine Lt.Ok.lt ?_
 have g1 := Gr.push H (.cells [.sl ⟨true, 0, 0, 0, 0, 0⟩, .sl ⟨true, 0, 0, 0, 0, 0⟩, .int .i64 0, .int .i64 0, .int .i64 0, .int .i64 0, .sl ⟨true, 0, 0, 0, 0, 0⟩] false)
 have h1 := Hp.get_push_new H (.cells [.sl ⟨true, 0, 0, 0, 0, 0⟩, .sl ⟨true, 0, 0, 0, 0, 0⟩, .int .i64 0, .int .i64 0, .int .i64 0, .int .i64 0, .sl ⟨true, 0, 0, 0, 0, 0⟩] false)
 have n1 := Hp.n_push H (.cells [.sl ⟨true, 0, 0, 0, 0, 0⟩, .sl ⟨true, 0, 0, 0, 0, 0⟩, .int .i64 0, .int .i64 0, .int .i64 0, .int .i64 0, .sl ⟨true, 0, 0, 0, 0, 0⟩] false)
 generalize H.push (.cells [.sl ⟨true, 0, 0, 0, 0, 0⟩, .sl ⟨true, 0, 0, 0, 0, 0⟩, .int .i64 0, .int .i64 0, .int .i64 0, .int .i64 0, .sl ⟨true, 0, 0, 0, 0, 0⟩] false) = A at *
 have g2 := Gr.push A (.cells [.str (ByteArray.mk #[]), .int .i64 0, .ptr H.n 0] false)
 have h2 := Hp.get_push_new A (.cells [.str (ByteArray.mk #[]), .int .i64 0, .ptr H.n 0] false)
 have n2 := Hp.n_push A (.cells [.str (ByteArray.mk #[]), .int .i64 0, .ptr H.n 0] false)
 generalize A.push (.cells [.str (ByteArray.mk #[]), .int .i64 0, .ptr H.n 0] false) = B at *
 have g3 := Gr.push B (.cells [.sl ⟨false, A.n, 0, 1, 1, 0⟩, .int .i64 0] false)
 have h3 := Hp.get_push_new B (.cells [.sl ⟨false, A.n, 0, 1, 1, 0⟩, .int .i64 0] false)
 have n3 := Hp.n_push B (.cells [.sl ⟨false, A.n, 0, 1, 1, 0⟩, .int .i64 0] false)
 generalize B.push (.cells [.sl ⟨false, A.n, 0, 1, 1, 0⟩, .int .i64 0] false) = D at *
 refine Lt.Ok.ret ⟨rfl, (g1.trans g2).trans g3, by dsimp only; omega, ⟨false, A.n, 0, 1, 1, 0⟩, D.n, ⟨h3, rfl, rfl, rfl, rfl, .inl rfl, by show B.n ≠ A.n; omega, Hp.get_lt h3, by show A.n < D.n; omega, Nat.le_refl _, [H.n], rfl, ?_, fun i a b => ?_⟩, by show H.n ≤ A.n; omega⟩
 ·rw [g3.2 _ (Hp.get_lt h2)]; exact h2
 ·have : i = 0 := by have : i < 1 := a; omega
  subst this
  show StAt D (fun x => x ≠ B.n ∧ x ≠ A.n ∧ x < D.n) H.n St.new
  refine ⟨⟨by show H.n ≠ B.n; omega, by show H.n ≠ A.n; omega, by show H.n < D.n; omega⟩, _, _, _, (g3.2 _ (by omega)).trans ((g2.2 _ (by omega)).trans h1), ⟨SL.nilS, fun _ => rfl, (fun h => by cases h), rfl⟩, ⟨SL.nilS, fun _ => rfl, (fun h => by cases h), rfl⟩, ⟨SL.nilS, fun _ => rfl, (fun h => by cases h), rfl⟩⟩
end
theorem enc_str (l : List ByteArray) : encs l = l.map .str := by
 induction l with
 | nil => rfl
 | cons x l ih => rw [encs_cons, ih]; rfl
theorem SL.sp {T : Type} [El T] {H H' : Hp} {v : Sl} {l : List T} (h : SL H v l) (e : l ≠ [] → H'.get v.b = H.get v.b) : SL H' v l := by
 by_cases hl : l = []
 ·subst hl
  have h0 := h.len
  refine ⟨⟨by rw [h0]; simp, rfl⟩, h.cap, h.opn, h.nil⟩
 ·exact slcg h (e hl)
theorem SL.lt {T : Type} [El T] {H : Hp} {v : Sl} {l : List T} (h : SL H v l) (hl : l ≠ []) : v.b < H.n := by
 obtain ⟨x, r, rfl⟩ := List.exists_cons_of_ne_nil hl
 have h0 : 0 < (El.enc x).length := by rw [El.len]; exact El.pos
 exact ld_lt (h.ld (i := 0) (j := 0) (x := (El.enc x)[0]) (by simp) (by simp))
def forkL : List Nat → List Nat → Nat → Nat × List Nat
 | x :: xs, y :: ys, a => if x = y then forkL xs ys x else (a, y :: ys)
 | _, ys, a => (a, ys)
theorem forkL_nil (ys : List Nat) (a : Nat) : forkL [] ys a = (a, ys) := by unfold forkL; rfl
theorem forkL_nil2 (xs : List Nat) (a : Nat) : forkL xs [] a = (a, []) := by cases xs <;> (unfold forkL; rfl)
theorem forkL_cons (x y : Nat) (xs ys : List Nat) (a : Nat) : forkL (x :: xs) (y :: ys) a = if x = y then forkL xs ys x else (a, y :: ys) := by conv => lhs; unfold forkL
def Chs.fork (C : Chs) (a b : Nat) : Nat × List Nat := forkL (C.way a) (C.way b) 0
def Chs.run (C : Chs) : List Nat → Int → Chs × Int
 | [], k => (C, k)
 | p :: l, k => (C.do (C.chg p)).1.run l (if (C.do (C.chg p)).2.2 = 0 then k + 1 else k)
def Chs.move (C : Chs) (to : Int) : Chs × Int × Int := if 0 ≤ to ∧ to < C.pages.length then ((C.run (C.fork C.at' to.toNat).2 0).1, (C.run (C.fork C.at' to.toNat).2 0).2, 0) else (C, 0, 2)
theorem Chs.do_grow (C : Chs) (line : ByteArray) : C.pages.length ≤ (C.do line).1.pages.length := by
 unfold Chs.do
 split
 ·exact Nat.le_refl _
 ·split
  ·exact Nat.le_refl _
  ·split
   ·exact Nat.le_refl _
   ·simp
theorem Chs.run_ok : ∀ (l : List Nat) (k : Int) (C : Chs), C.Ok → (C.run l k).1.Ok
 | [], _, _, h => h
 | p :: l, k, C, h => Chs.run_ok l _ _ (Chs.do_ok h _)
theorem Chs.move_ok {C : Chs} (h : C.Ok) (to : Int) : (C.move to).1.Ok := by
 unfold Chs.move
 split
 ·exact Chs.run_ok _ _ _ h
 ·exact h
theorem forkL_mem : ∀ (xs ys : List Nat) (a x : Nat), x ∈ (forkL xs ys a).2 → x ∈ ys
 | [], ys, a, x, h => by rw [forkL_nil] at h; exact h
 | x' :: xs, [], a, x, h => by rw [forkL_nil2] at h; exact h
 | x' :: xs, y :: ys, a, x, h => by
  unfold forkL at h
  split at h
  ·exact List.mem_cons_of_mem _ (forkL_mem xs ys _ x h)
  ·exact h
theorem Chs.way_mem {C : Chs} (hC : C.Ok) {p x : Nat} (h : x ∈ C.way p) : 0 < x ∧ x ≤ p := by
 unfold Chs.way at h
 rw [List.mem_reverse] at h
 exact Chs.ups_mem hC _ _ _ h
theorem forkL_len : ∀ (xs ys : List Nat) (a : Nat), (forkL xs ys a).2.length ≤ ys.length
 | [], ys, a => by rw [forkL_nil]; exact Nat.le_refl _
 | x' :: xs, [], a => by rw [forkL_nil2]; exact Nat.le_refl _
 | x' :: xs, y :: ys, a => by
  unfold forkL
  split
  ·have := forkL_len xs ys x'; simp; omega
  ·exact Nat.le_refl _
theorem chg_size {C : Chs} (hC : C.Ok) (p : Nat) : (C.chg p).size ≤ 4194304 := by
 by_cases h0 : p = 0 ∨ C.pages.length ≤ p
 ·by_cases hl : C.pages.length ≤ p
  ·unfold Chs.chg; rw [List.getElem?_eq_none hl]; decide
  ·have hp : p = 0 := by omega
   subst hp
   rw [hC.rc]; decide
 ·obtain ⟨w, hd⟩ := hC.did p (by omega) (by omega)
  have := doS_size hd
  omega
end Go.Lt.P10
