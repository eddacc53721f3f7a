/- PLAIN LAWS OF WHAT IS COMPUTED, for the statement 'TopTail'. Nothing is asked of the input. -/
import Derived.Test.YtopildlfbhfghaaGreatDoorU3CGw
import Derived.Test.YtopildlfbhfghaaGreatDoorU3CFl
import Derived.Test.YtopildlfbhfghaaGreatDoorU3CTh
import Derived.Test.YtopildlfbhfghaaGreatDoorU3CSl
set_option linter.unusedVariables false
set_option linter.unusedSimpArgs false
set_option maxHeartbeats 4000000
namespace Go.Lt.P10
open Go Go.Lt Go.Proofs
/-! ### the state as a string -/
theorem asStrs_map : ∀ l : List ByteArray, asStrs (l.map .str) = some l
 | [] => rfl
 | x :: l => by simp only [List.map_cons, asStrs, asStrs_map l, Option.map_some]
def szs (l : List ByteArray) : Nat := (l.map (·.size)).sum
theorem join_size (xs : List ByteArray) (sep : ByteArray) : (joinA xs sep).size ≤ szs xs + xs.length * sep.size := by
 have hj : (joinA xs sep).size = (Lib.join (xs.map (·.data.toList)) sep.data.toList).length := by simp [joinA, ByteArray.size]
 rw [hj]
 cases xs with
 | nil => simp [Lib.join_nil]
 | cons x r =>
  rw [List.map_cons, Lib.join_cons, List.length_append]
  have ht : ∀ l : List ByteArray, (Lib.joinTail sep.data.toList (l.map (·.data.toList))).length = szs l + l.length * sep.size := by
   intro l
   induction l with
   | nil => simp [Lib.joinTail, szs]
   | cons y l ih =>
    have e : (Lib.joinTail sep.data.toList ((y :: l).map (·.data.toList))).length = (sep.data.toList.length + y.data.toList.length) + (Lib.joinTail sep.data.toList (l.map (·.data.toList))).length := by
     simp [Lib.joinTail]; omega
    have e1 : sep.data.toList.length = sep.size := by rw [Array.length_toList]; rfl
    have e2 : y.data.toList.length = y.size := by rw [Array.length_toList]; rfl
    rw [e, ih, e1, e2]
    simp only [szs, List.map_cons, List.sum_cons, List.length_cons, Nat.add_mul, Nat.one_mul]
    omega
  have e2 : x.data.toList.length = x.size := by rw [Array.length_toList]; rfl
  rw [ht, e2]
  simp only [szs, List.map_cons, List.sum_cons, List.length_cons, Nat.add_mul, Nat.one_mul]
  omega
theorem app109 (k : Nat) (v : Sl) (sep : ByteArray) (H : Hp) : appA (k + 1) 109 [.sl v, .str sep] H = joinP v sep H := rfl
theorem join_ok {H : Hp} {v : Sl} {l : List ByteArray} (h : SL H v l) (sep : ByteArray) (hl : l.length ≤ 4194305) (hs : szs l + l.length * sep.size ≤ 140737488355328) : joinP v sep H = some (.str (joinA l sep), H) := by
 unfold joinP
 have e := h.lds
 have e1 : v.len * El.sz ByteArray = v.len := Nat.mul_one _
 rw [e1, enc_str] at e
 rw [e]
 simp only [Option.bind_some, asStrs_map]
 have := join_size l sep
 rw [if_pos ⟨by omega, by omega⟩]
def BldAt (n0 : Nat) (H : Hp) (b : Nat) (o : Option ByteArray) : Prop :=
 n0 ≤ b ∧ ((o = none ∧ H.get b = some (.bld none 0)) ∨ ∃ l q, o = some l ∧ n0 ≤ q ∧ b ≠ q ∧ H.get b = some (.bld (some q) l.size) ∧ H.get q = some (.buf l))
theorem BldAt.gr {n0 b : Nat} {H H' : Hp} {o : Option ByteArray} (h : BldAt n0 H b o) (g : Gr H H') : BldAt n0 H' b o := by
 obtain ⟨h0, h⟩ := h
 refine ⟨h0, ?_⟩
 rcases h with ⟨h1, h2⟩ | ⟨l, q, h1, h2, h3, h4, h5⟩
 ·exact .inl ⟨h1, by rw [g.2 _ (Hp.get_lt h2)]; exact h2⟩
 ·exact .inr ⟨l, q, h1, h2, h3, by rw [g.2 _ (Hp.get_lt h4)]; exact h4, by rw [g.2 _ (Hp.get_lt h5)]; exact h5⟩
structure Lo (n0 : Nat) (H H' : Hp) : Prop where
 n : H.n ≤ H'.n
 e : ∀ c, c < n0 → H'.get c = H.get c
theorem Lo.refl (n0 : Nat) (H : Hp) : Lo n0 H H := ⟨Nat.le_refl _, fun _ _ => rfl⟩
theorem Lo.trans {n0 : Nat} {A B C : Hp} (h : Lo n0 A B) (k : Lo n0 B C) : Lo n0 A C := ⟨Nat.le_trans h.n k.n, fun c hc => (k.e c hc).trans (h.e c hc)⟩
theorem Lo.of_gr {n0 : Nat} {A B : Hp} (g : Gr A B) (h : n0 ≤ A.n) : Lo n0 A B := ⟨g.1, fun c hc => g.2 c (by omega)⟩
abbrev Rep := List ByteArray × Int
def askV (form text w : ByteArray) (f : List ByteArray × List Int → Rep) : ByteArray × Int :=
 match readS form text with
 | none => (ByteArray.mk #[], 3)
 | some p => if (f p).2 = 0 then (joinA (w :: (f p).1) (ByteArray.mk #[32]), 0) else (ByteArray.mk #[], (f p).2)
def RepQ (H : Hp) (rep : Rep) (r : AV) (A : Hp) : Prop := Gr H A ∧ ∃ v, r = .tup [.sl v, .int .i64 rep.2] ∧ (rep.2 = 0 → SL A v rep.1 ∧ rep.1.length ≤ 1000 ∧ szs rep.1 ≤ 1000000)
theorem word_app {H : Hp} {v : Sl} {l : List ByteArray} (hv : SL H v l) (w : ByteArray) (hl : l.length ≤ 1000) {α : Type} {Q : α → Hp → Prop} {f : Sl × Hp → Option (α × Hp)} (k : ∀ r B, Gr H B → SL B r (w :: l) → Lt.Ok (f (r, B)) Q) :
  Lt.Ok (((H.push (.cells [.str w] false)).lds v.b v.o (v.len * 1)).bind fun x => ck (x.all AV.one = true) (((H.push (.cells [.str w] false)).app 1 ⟨false, H.n, 0, 1, 1, 0⟩ x v.len).bind f)) Q := by
 have g0 := Gr.push H (.cells [.str w] false)
 have hg := Hp.get_push_new H (.cells [.str w] false)
 generalize H.push (.cells [.str w] false) = A at *
 have hvA := hv.gr g0
 have hlen := hvA.len
 have hlds := hvA.lds
 have e1 : v.len * El.sz ByteArray = v.len * 1 := rfl
 rw [e1] at hlds
 refine Lt.Ok.ld hlds (Lt.Ok.ck ?_ ?_)
 ·rw [enc_str, List.all_map, List.all_eq_true]; intro x _; rfl
 have key : Lt.Ok (A.app 1 ⟨false, H.n, 0, 1, 1, 0⟩ (encs l) v.len) fun r B => Gr A B ∧ SL B r (w :: l) := by
  unfold Hp.app
  rw [if_pos (by dsimp only; omega)]
  by_cases h0 : v.len = 0
  ·have : l = [] := List.length_eq_zero_iff.1 (by omega)
   subst this
   rw [if_pos (by dsimp only; omega), if_neg (by simp)]
   simp only [encs, List.flatMap_nil, Hp.sts, Option.map_some]
   exact Lt.Ok.ret ⟨.refl _, .of_get (ro := false) hg rfl (by simp [h0]) (by simp [h0]) (.inl rfl) rfl⟩
  ·rw [if_neg (by dsimp only; omega)]
   have hld : A.lds H.n (0 + 0) 1 = some [.str w] := by
    have := lds_cells (H := A) (b := H.n) (ro := false) [.str w] [] hg
    exact this
   have : A.lds (⟨false, H.n, 0, 1, 1, 0⟩ : Sl).b (⟨false, H.n, 0, 1, 1, 0⟩ : Sl).o ((⟨false, H.n, 0, 1, 1, 0⟩ : Sl).len * 1) = some [.str w] := hld
   rw [this]
   simp only [Option.bind_some, if_true]
   refine Lt.Ok.ret ⟨Gr.push _ _, .of_get (ro := false) (Hp.get_push_new _ _) rfl (by simp [hlen]; omega) (Nat.le_refl _) (.inr rfl) rfl⟩
 exact Lt.Ok.bind key fun r B ⟨gB, hr⟩ => k r B (g0.trans gB) hr
theorem r62_j0_ok {k : Nat} {H A : Hp} {text w form : ByteArray} {v4 : AV} {f : List ByteArray × List Int → Rep} (gA : Gr H A) (hs : text.size ≤ 4194304) (hw : w.size ≤ 4194304) (hf : form.size ≤ 8)
  (hact : ∀ p, readS form text = some p → ∀ B wn wu, Gr A B → SL B wn p.1 → SL B wu p.2 → Lt.Ok (callv (appA (k + 2)) v4 [.agg [.sl wn, .sl wu]] B) (RepQ B (f p))) :
  Lt.Ok (r62_j0 (appA (k + 2)) text w form v4 A) fun r D => Gr H D ∧ r = askV form text w f := by
 unfold r62_j0 askV
 refine Lt.Ok.bind (r108_ok (k := k + 1) hf hs) fun r B ⟨g, hr⟩ => ?_
 dsimp only
 obtain ⟨C, h1, h2, h3, h4⟩ := sts_blk [.sl r.1, .sl r.2.1] 0 (B.push (.cells [.sl ⟨true, 0, 0, 0, 0, 0⟩, .sl ⟨true, 0, 0, 0, 0, 0⟩] false)) _ (Hp.get_push_new _ _) (by simp)
 have h2' : C.get B.n = some (.cells [.sl r.1, .sl r.2.1] false) := by rw [h2]; simp
 have gC : Gr B C := ⟨by rw [h3]; simp, fun c hc => by rw [h4 c (by omega), Hp.get_push_old _ _ hc]⟩
 refine Lt.Ok.ld h1 ?_
 have gAC : Gr A C := g.trans gC
 cases hrd : readS form text with
 | none =>
  rw [hrd] at hr
  exact Lt.Ok.neg (by rw [hr]; simp) (Lt.Ok.ret ⟨gA.trans gAC, rfl⟩)
 | some p =>
  rw [hrd] at hr
  obtain ⟨hr1, hr2, hr3⟩ := hr
  refine Lt.Ok.pos hr1 (Lt.Ok.ld (ldSl_get h2' rfl) (Lt.Ok.ld (ldSl_get h2' rfl) ?_))
  refine Lt.Ok.bind (hact p hrd C r.1 r.2.1 gAC (hr2.gr gC) (hr3.gr gC)) fun q D ⟨gD, v, hq, hv⟩ => ?_
  subst hq
  simp only [Option.bind_some, AV.asT, List.length_cons, List.length_nil]
  refine Lt.Ok.ck (by simp) ?_
  simp only [List.getElem?_cons_zero, List.getElem?_cons_succ, Option.bind_some, AV.asI, AV.asSl, if_true]
  have gHD := gA.trans (gAC.trans gD)
  by_cases he : (f p).2 = 0
  ·obtain ⟨hv1, hv2, hv3⟩ := hv he
   rw [if_pos he]
   refine Lt.Ok.neg (by simp [he]) (word_app hv1 w hv2 fun r2 E gE hr2 => ?_)
   dsimp only
   rw [app109, join_ok hr2 _ (by simp; omega) (by
    have : (ByteArray.mk #[32]).size = 1 := rfl
    rw [this]
    simp only [szs, List.map_cons, List.sum_cons, List.length_cons]
    unfold szs at hv3
    omega)]
   exact Lt.Ok.ret ⟨gHD.trans gE, rfl⟩
  ·rw [if_neg he]
   exact Lt.Ok.pos he (Lt.Ok.ret ⟨gHD, rfl⟩)
def wTail : ByteArray := ByteArray.mk #[116, 97, 105, 108]
def f0 : ByteArray := ByteArray.mk #[]
theorem ask_ok {k : Nat} {H : Hp} {c : Nat} {pv : Sl} {C : Chs} {t : Nat} {text : ByteArray} {v : ByteArray × Int} (h : ChAt H c pv C t) (hC : C.Ok)
  (hr : ∀ b P, StAt H P b (C.now C.at') → Lt.Ok (r62 (appA k) b 0 text H) fun r A => Gr H A ∧ r = v) : Lt.Ok (r14 (appA k) c 0 text H) fun r A => Gr H A ∧ r = v := by
 unfold r14
 refine is (none_ok h hC) (Lt.Ok.neg (by simp) ?_)
 obtain ⟨b, e, hst⟩ := now_ok h hC
 refine is e ?_
 exact Lt.Ok.bind (hr b _ hst) fun r A ⟨g, hr⟩ => Lt.Ok.ret ⟨g, by rw [hr]⟩
/-! ### tail, asked -/
theorem dec_len : ∀ (k u : Nat), u < 10 ^ (k + 1) → (Lib.decDigits u).length ≤ k + 1 := by
 intro k
 induction k with
 | zero => intro u h; rw [Lib.decDigits, dif_pos (by omega)]; simp
 | succ k ih =>
  intro u h
  rw [Lib.decDigits]
  split
  ·simp
  ·rw [List.length_append]
   have := ih (u / 10) (by rw [Nat.pow_succ] at h; omega)
   simp; omega
theorem itoa_21 {n : Int} (h : -9223372036854775808 ≤ n ∧ n ≤ 9223372036854775807) : (itoaA n).size ≤ 21 := by
 show (Lib.itoa n).length ≤ 21
 unfold Lib.itoa
 split
 ·have := dec_len 19 n.natAbs (by omega)
  rw [List.length_cons]; omega
 ·have := dec_len 19 n.toNat (by omega)
  omega
def qS (p : Int × Int) : ByteArray := (itoaA p.1 ++ ByteArray.mk #[47]) ++ itoaA p.2
def In64 (p : Int × Int) : Prop := (-9223372036854775808 ≤ p.1 ∧ p.1 ≤ 9223372036854775807) ∧ -9223372036854775808 ≤ p.2 ∧ p.2 ≤ 9223372036854775807
theorem tailS_64 (a b c d : Int) : In64 (tailS a b c d) := ⟨w64_in _, w64_in _⟩
theorem qS_size {p : Int × Int} (h : In64 p) : (qS p).size ≤ 43 := by
 have h1 := itoa_21 h.1
 have h2 := itoa_21 h.2
 have z : (ByteArray.mk #[47]).size = 1 := rfl
 unfold qS
 simp only [ByteArray.size_append]; omega
theorem one_pair {H : Hp} (p : Int × Int) : SL (H.push (.cells [.int .i64 p.1, .int .i64 p.2] false)) ⟨false, H.n, 0, 1, 1, 0⟩ [p] := .of_get (ro := false) (Hp.get_push_new _ _) rfl rfl (Nat.le_refl _) (.inl rfl) rfl
theorem itoaP_in {n : Int} (h : -9223372036854775808 ≤ n ∧ n ≤ 9223372036854775807) (H : Hp) : itoaP n H = some (.str (itoaA n), H) := by unfold itoaP; rw [if_pos h]
theorem FUEL2 : ∃ m, FUEL = (m + 1) + 1 := ⟨FUEL - 2, by unfold FUEL; omega⟩
theorem r155_ok {k : Nat} {H : Hp} {v : Sl} {p : Int × Int} (hv : SL H v [p]) (hp : In64 p) : Lt.Ok (r155 (appA (k + 1)) v H) fun r A => Gr H A ∧ SL A r [qS p] := by
 unfold r155
 have hl := hv.len
 simp only [List.length_cons, List.length_nil] at hl
 obtain ⟨m, hm⟩ := FUEL2
 rw [hm, r155_l0]
 have h1 := itoa_21 hp.1
 have h2 := itoa_21 hp.2
 have z : (ByteArray.mk #[47]).size = 1 := rfl
 refine Lt.Ok.pos (by omega) (Lt.Ok.ck (by omega) (Lt.Ok.ld (hv.ldI (i := 0) (j := 0) (n := p.1) (by simp) rfl) (Lt.Ok.ld (hv.ldI (i := 0) (j := 1) (n := p.2) (by simp) rfl) ?_)))
 refine Lt.Ok.alo (.nil H) fun D gD c => ?_
 have hD := c.e _ (.head _)
 dsimp only at hD
 refine Lt.Ok.ld (ldI_get hD rfl) ?_
 rw [app33, itoaP_in hp.1]
 refine Lt.Ok.ld rfl (Lt.Ok.ld rfl (Lt.Ok.ck (by omega) (Lt.Ok.ld (ldI_get hD rfl) ?_)))
 rw [app33, itoaP_in hp.2]
 refine Lt.Ok.ld rfl (Lt.Ok.ld rfl (Lt.Ok.ck (by simp only [ByteArray.size_append]; omega) ?_))
 refine Lt.Ok.bind (AccN.push (n0 := H.n) (l := ([] : List ByteArray)) ⟨AccL.nilS, fun _ => rfl⟩ gD.1 (qS p) rfl rfl (by simp)) fun w E ⟨a1, u1, _, _⟩ => ?_
 dsimp only
 refine Lt.Ok.ck (ldI_get hD rfl) ?_
 rw [show w64 (0 + 1) = 1 from by decide, r155_l0]
 exact Lt.Ok.neg (by omega) (Lt.Ok.ret ⟨⟨Nat.le_trans gD.1 u1.1, fun b hb => by rw [u1.2 b (by have := gD.1; omega) fun e => by simp at e]; exact gD.2 b hb⟩, a1.1.sl⟩)
theorem r15_ok {k : Nat} {H : Hp} {v : Sl} {p : Int × Int} (hv : SL H v [p]) (hp : In64 p) : Lt.Ok (r15 (appA (k + 1)) v H) fun r A => Gr H A ∧ r = sp1 ++ qS p := by
 unfold r15
 have hl := hv.len
 simp only [List.length_cons, List.length_nil] at hl
 obtain ⟨m, hm⟩ := FUEL2
 rw [hm, r15_l0]
 have h1 := itoa_21 hp.1
 have h2 := itoa_21 hp.2
 have z : (ByteArray.mk #[47]).size = 1 := rfl
 have z1 : (ByteArray.mk #[32]).size = 1 := rfl
 have z0 : (ByteArray.mk #[]).size = 0 := rfl
 refine Lt.Ok.pos (by omega) (Lt.Ok.ck (by omega) (Lt.Ok.ld (hv.ldI (i := 0) (j := 0) (n := p.1) (by simp) rfl) (Lt.Ok.ld (hv.ldI (i := 0) (j := 1) (n := p.2) (by simp) rfl) ?_)))
 refine Lt.Ok.alo (.nil H) fun D gD c => ?_
 have hD := c.e _ (.head _)
 dsimp only at hD
 refine Lt.Ok.ld (ldI_get hD rfl) ?_
 rw [app33, itoaP_in hp.1]
 refine Lt.Ok.ld rfl (Lt.Ok.ld rfl (Lt.Ok.ck (by omega) (Lt.Ok.ck (by simp only [ByteArray.size_append]; omega) (Lt.Ok.ld (ldI_get hD rfl) ?_))))
 rw [app33, itoaP_in hp.2]
 refine Lt.Ok.ld rfl (Lt.Ok.ld rfl (Lt.Ok.ck (by simp only [ByteArray.size_append]; omega) (Lt.Ok.ck (by simp only [ByteArray.size_append]; omega) (Lt.Ok.ck (ldI_get hD rfl) ?_))))
 rw [show w64 (0 + 1) = 1 from by decide, r15_l0]
 refine Lt.Ok.neg (by omega) (Lt.Ok.ret ⟨gD, ?_⟩)
 apply Lb_inj
 unfold qS sp1
 simp only [Lb_app, List.append_assoc]
 rfl
theorem sub2 {H : Hp} {b o : Nat} {cs : List AV} {x y : Int} (hg : H.get b = some (.cells cs false)) (h0 : cs[o]? = some (.int .i64 x)) (h1 : cs[o + 1]? = some (.int .i64 y)) : SL H ⟨false, b, o, 2, 2, 0⟩ [x, y] :=
 ⟨⟨rfl, by show H.lds b o 2 = _; simp [Hp.lds, ld_of_get hg, h0, h1, encs, El.enc]⟩, Nat.le_refl _, .inl rfl, fun e => by cases e⟩
def fTail (s : St) (_ : List ByteArray × List Int) : Rep := ([qS (tailS s.t0 s.t1 s.t2 s.t3)], 0)
theorem ts_in {s : St} (hs : s.Ok) : In16 s.t0 s.t1 s.t2 s.t3 := hs.ts
theorem app101 (k b : Nat) (x y : Sl) (H : Hp) : callv (appA (k + 1)) (.fn 101 [.ptr b 0] []) [.agg [.sl x, .sl y]] H = (r101 (appA k) b 0 x y H).map fun p => (.tup [.sl p.1.1, .int .i64 p.1.2], p.2) := rfl
theorem fTail_ok {k : Nat} {B : Hp} {P : Nat → Prop} {b : Nat} {s : St} {wn wu : Sl} (h : StAt B P b s) (hs : s.Ok) (p : List ByteArray × List Int) :
  Lt.Ok (callv (appA (k + 10)) (.fn 101 [.ptr b 0] []) [.agg [.sl wn, .sl wu]] B) (RepQ B (fTail s p)) := by
 rw [app101]
 obtain ⟨_, v1, v2, v3, hg, _, _, _⟩ := h
 have h64 := tailS_64 s.t0 s.t1 s.t2 s.t3
 have key : Lt.Ok (r101 (appA (k + 9)) b 0 wn wu B) fun r A => Gr B A ∧ r.2 = 0 ∧ SL A r.1 [qS (tailS s.t0 s.t1 s.t2 s.t3)] := by
  unfold r101
  refine Lt.Ok.lt ?_
  have g0 := Gr.push B (.cells [.sl wn, .sl wu] false)
  have hg0 := (g0.2 _ (Hp.get_lt hg)).trans hg
  generalize B.push (.cells [.sl wn, .sl wu] false) = A at *
  obtain ⟨D, hD, d1, d2, d3⟩ := push1 A (.cells [.sl ⟨false, b, ((0 + 2) + (0 : Int).toNat * 2) + (0 : Int).toNat * 1, (((2 : Nat) : Int) : Int).toNat - (0 : Int).toNat, 2 - (0 : Int).toNat, 0⟩, .sl ⟨false, b, ((0 + 2) + (1 : Int).toNat * 2) + (0 : Int).toNat * 1, (((2 : Nat) : Int) : Int).toNat - (0 : Int).toNat, 2 - (0 : Int).toNat, 0⟩] false)
  rw [hD]
  have hgD := (d3.2 _ (Hp.get_lt hg0)).trans hg0
  have hT : T2 D ⟨false, A.n, 0, 2, 2, 0⟩ ⟨false, b, 2, 2, 2, 0⟩ ⟨false, b, 4, 2, 2, 0⟩ s.t0 s.t1 s.t2 s.t3 := ⟨rfl, ldSl_get d1 rfl, ldSl_get d1 rfl, sub2 hgD rfl rfl, sub2 hgD rfl rfl⟩
  refine Lt.Ok.bind (r13_ok (k := k) hT (ts_in hs)) fun q E ⟨gE, hq⟩ => ?_
  subst hq
  dsimp only
  refine Lt.Ok.alo (.nil E) fun F gF c => ?_
  have hF := c.e _ (.head _)
  dsimp only at hF
  refine Lt.Ok.ld (ldI_get hF rfl) (Lt.Ok.ld (ldI_get hF rfl) ?_)
  refine Lt.Ok.bind (r155_ok (k := k + 8) (one_pair (tailS s.t0 s.t1 s.t2 s.t3)) h64) fun r G ⟨gG, hr⟩ => ?_
  exact Lt.Ok.ret ⟨g0.trans (d3.trans (gE.trans (gF.trans ((Gr.push _ _).trans gG)))), rfl, hr⟩
 obtain ⟨r, A, e, g, h2, h3⟩ := key
 rw [e]
 refine Lt.Ok.ret ⟨g, r.1, by rw [h2]; rfl, fun he => ⟨h3, by unfold fTail; simp, ?_⟩⟩
 have := qS_size h64
 unfold fTail
 simp [szs]; omega
theorem ask_tail {k : Nat} {H : Hp} {P : Nat → Prop} {b : Nat} {s : St} {text : ByteArray} (h : StAt H P b s) (hs : s.Ok) (ht : text.size ≤ 4194304) (hw : wordS text = wTail) :
  Lt.Ok (r62 (appA (k + 10)) b 0 text H) fun r A => Gr H A ∧ r = askV f0 text wTail (fTail s) := by
 unfold r62
 obtain ⟨r, hr⟩ := r97_sp text H ht
 refine is hr ?_
 dsimp only
 rw [hw]
 refine Lt.Ok.neg (by decide +kernel) (Lt.Ok.neg (by decide +kernel) (Lt.Ok.neg (by decide +kernel) (Lt.Ok.pos (by decide +kernel) ?_)))
 exact r62_j0_ok (k := k + 8) (.refl _) ht (by decide) (by decide) fun p _ B wn wu gB _ _ => fTail_ok (h.gr gB) hs p
theorem opened_ok {k : Nat} {H : Hp} {v : Sl} {l : List ByteArray} (hv : SL H v l) (hb : ∀ a ∈ l, a.size ≤ 4194304) :
  Lt.Ok (r10 (appA (k + 2)) v H) fun r A => r.2 = 0 ∧ Gr H A ∧ H.n ≤ r.1 ∧ ∃ pv C t, ChAt A r.1 pv C t ∧ C.Ok ∧ H.n ≤ pv.b := by
 unfold r10
 refine Lt.Ok.bind new_ok fun r A ⟨h0, g, hc, pv, t0, hA, hp⟩ => ?_
 obtain ⟨c, o⟩ := r
 dsimp only at h0 hc hA ⊢
 subst h0
 have hl := hv.len
 have hcap := hv.cap
 have hopn : v.opn = 0 ∨ v.opn = 1 := hv.opn
 generalize hN : (if 100 < (v.len : Int) then (100 : Int) else (v.len : Int)) = N
 obtain ⟨n, rfl⟩ : ∃ n : Nat, N = n := by
  split at hN
  ·exact ⟨100, by omega⟩
  ·exact ⟨v.len, by omega⟩
 have hn : n ≤ v.len ∧ n ≤ 100 := by split at hN <;> omega
 refine Lt.Ok.ck (by refine ⟨?_, hopn⟩; omega) ?_
 simp only [Int.toNat_zero, Int.toNat_natCast]
 have hcut : SL A (v.cut 1 0 n) (l.take n) := by
  have := (hv.gr g).cut (lo := 0) (hi := n) (by omega) (by omega)
  rw [List.drop_zero, Nat.sub_zero] at this
  exact this
 have hln : (l.take n).length = n := by rw [List.length_take]; omega
 have hcl := hcut.len
 generalize hw : v.cut 1 0 n = w at *
 have hwb : (l.take n) ≠ [] → w.b < H.n := fun hne => by
  have hvne : l ≠ [] := fun e => hne (by rw [e]; simp)
  have := SL.lt hv hvne
  have hnn := hv.nonnil hvne
  rw [← hw]
  simp [Sl.cut, hnn]
  exact this
 refine Lt.Ok.loop (L := fun K (i : Int) D => r10_l0 (appA (k + 2)) K c 0 w (w.len : Int) i D) (fun m i' D => ∃ (i : Nat) (pe : Sl) (E : Chs) (te : Nat), i' = (i : Int) ∧ i + m = n ∧ Gr H D ∧ ChAt D c pe E te ∧ E.Ok ∧ H.n ≤ pe.b ∧ SL D w (l.take n)) ?_ FUEL n 0 A (by unfold FUEL; omega) ⟨0, pv, Chs.new, t0, rfl, by omega, g, hA, Chs.new_ok, hp, hcut⟩
 rintro K m i' D ⟨i, pe, E, te, rfl, him, gD, hD, hE, hpe, hs⟩ ih
 rw [r10_l0]
 refine Lt.Ok.ite (fun hlt => ?_) fun hlt => ?_
 ·have hil : i < (l.take n).length := by omega
  have hsz := hb _ (List.mem_of_mem_take (List.getElem_mem hil))
  have e0 : D.ldStr w.b (w.o + ((i : Int)).toNat * 1) = some (l.take n)[i] := SL.ldStr hs (i := i) (j := 0) hil rfl
  refine Lt.Ok.ck (by omega) (Lt.Ok.ld e0 ?_)
  refine Lt.Ok.bind (do_ok (k := k) hD hE hsz) fun rd G ⟨hr, pe', te', hG, sG⟩ => ?_
  dsimp only
  have gn := gD.1
  have gG := sG.gr gD hc hpe
  have hsG : SL G w (l.take n) := SL.sp hs fun hne => sG.e _ (by have := hwb hne; omega) (by have := hwb hne; omega) (by have := hwb hne; omega)
  rw [w64_succ (by omega)]
  exact ih (m - 1) _ G (by omega) ⟨i + 1, pe', _, te', rfl, by omega, gG, hG, Chs.do_ok hE _, by rcases sG.q with e | e <;> omega, hsG⟩
 ·exact Lt.Ok.ret ⟨rfl, gD, hc, pe, E, te, hD, hE, hpe⟩
end Go.Lt.P10
