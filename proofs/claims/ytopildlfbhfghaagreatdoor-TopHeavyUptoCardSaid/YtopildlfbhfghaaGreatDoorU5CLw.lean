/- PLAIN LAWS OF WHAT IS COMPUTED, for the statement 'TopHeavy'. Nothing is asked of the input. -/
import Derived.Test.YtopildlfbhfghaaGreatDoorU5Cx
import Derived.Test.YtopildlfbhfghaaGreatDoorU5CTx
import Derived.Lib.ItoaNum
import Derived.Lib.ItoaMem
set_option linter.unusedVariables false
set_option linter.unusedSimpArgs false
set_option maxHeartbeats 4000000
namespace Go.Lt.P10
open Go Go.Lt Go.Proofs
/-! ### how often keys come -/
def cnts (l : List Int) : List Int := (List.range 16).map fun (i : Nat) => ((cntI (i : Int) l : Nat) : Int)
theorem cnts_len (l : List Int) : (cnts l).length = 16 := by simp [cnts]
theorem cnts_get {l : List Int} {i : Nat} (h : i < (cnts l).length) : (cnts l)[i] = ((cntI (i : Int) l : Nat) : Int) := by simp [cnts]
theorem cnts_snoc {l : List Int} {x : Int} (h0 : 0 ≤ x) (h1 : x < 16) : cnts (l ++ [x]) = (cnts l).set x.toNat (((cntI x l : Nat) : Int) + 1) := by
 apply List.ext_getElem
 ·simp [cnts]
 ·intro i h2 h3
  have hi : i < 16 := by rw [cnts_len] at h2; exact h2
  rw [cnts_get, List.getElem_set]
  unfold cntI
  rw [List.count_append, List.count_singleton]
  by_cases e : x.toNat = i
  ·have : x = (i : Int) := by omega
   subst this
   rw [if_pos e]; simp
  ·rw [if_neg e, cnts_get]
   have : ¬ x = (i : Int) := by omega
   simp [cntI, this]
theorem cntI_le (x : Int) (l : List Int) : cntI x l ≤ l.length := List.count_le_length
def cellsI (l : List Int) : List AV := l.map fun n => .int .i64 n
def Keys (l : List Int) : Prop := l.length ≤ 40 ∧ ∀ x ∈ l, 0 ≤ x ∧ x < 16
def tup16 (r : Int × Int × Int × Int × Int × Int × Int × Int × Int × Int × Int × Int × Int × Int × Int × Int) : List Int :=
 [r.1, r.2.1, r.2.2.1, r.2.2.2.1, r.2.2.2.2.1, r.2.2.2.2.2.1, r.2.2.2.2.2.2.1, r.2.2.2.2.2.2.2.1, r.2.2.2.2.2.2.2.2.1, r.2.2.2.2.2.2.2.2.2.1, r.2.2.2.2.2.2.2.2.2.2.1, r.2.2.2.2.2.2.2.2.2.2.2.1, r.2.2.2.2.2.2.2.2.2.2.2.2.1, r.2.2.2.2.2.2.2.2.2.2.2.2.2.1, r.2.2.2.2.2.2.2.2.2.2.2.2.2.2.1, r.2.2.2.2.2.2.2.2.2.2.2.2.2.2.2]
theorem app122 (k : Nat) (x : Int) (H : Hp) : callv (appA (k + 1)) (.fn 122 [] []) [.int .i64 x] H = (r122 x H).map fun p => (.bool p.1, p.2) := rfl
theorem r69_ok {k : Nat} {H : Hp} {v : Sl} {l : List Int} (hv : SL H v l) (hl : Keys l) : Lt.Ok (r69 (appA (k + 1)) v H) fun r A => Gr H A ∧ r = true := by
 unfold r69
 have hlen := hv.len
 have h40 := hl.1
 refine Lt.Ok.pos (by omega) ?_
 unfold r121 r174
 refine Lt.Ok.bind (P := fun r A => Gr H A ∧ r = false) ?_ fun r A ⟨g, e⟩ => Lt.Ok.ret ⟨g, by rw [e]; rfl⟩
 refine Lt.Ok.bind (P := fun r A => Gr H A ∧ r = idxI (l.findIdx? fun _ => false)) ?_ fun r A ⟨g, e⟩ => Lt.Ok.ret ⟨g, ?_⟩
 ·refine idx_ok (L := fun K i A => r174_l0 (appA (k + 1)) K v (.fn 122 [] []) (v.len : Int) i A) (l := l) (fun _ => false) (by omega) (fun K i A Q hi g k1 k2 => ?_) fun K A Q g k => ?_
  ·rw [r174_l0]
   obtain ⟨x0, x1⟩ := hl.2 _ (List.getElem_mem hi)
   refine Lt.Ok.pos (by omega) (Lt.Ok.ck (by omega) (Lt.Ok.ld ((hv.gr g).ldI (i := i) (j := 0) (n := l[i]) hi rfl) ?_))
   rw [app122]
   have e : r122 l[i] A = some (false, A) := by
    unfold r122 r74
    rw [if_pos x0, decide_eq_true x1]; rfl
   rw [e]
   simp only [Option.map_some, Option.bind_some, AV.asB]
   rw [w64_succ (by omega)]
   exact Lt.Ok.neg (by simp) (k2 A (.refl _) rfl)
  ·rw [r174_l0]
   exact Lt.Ok.neg (by omega) (Lt.Ok.ret k)
 ·dsimp only at e ⊢
  rw [e, show l.findIdx? (fun _ => false) = none from List.findIdx?_eq_none_iff.2 fun _ _ => rfl]
  rfl
theorem r70_ok {H : Hp} {v : Sl} {l : List Int} (hv : SL H v l) (hl : Keys l) : Lt.Ok (r70 v H) fun r A => Gr H A ∧ tup16 r = cnts l := by
 unfold r70
 have hlen := hv.len
 have h40 := hl.1
 refine Lt.Ok.box (.nil H) fun A gA cA => ?_
 refine Lt.Ok.box cA fun B gB cB => ?_
 have z16 : [AV.int .i64 0, .int .i64 0, .int .i64 0, .int .i64 0, .int .i64 0, .int .i64 0, .int .i64 0, .int .i64 0, .int .i64 0, .int .i64 0, .int .i64 0, .int .i64 0, .int .i64 0, .int .i64 0, .int .i64 0, .int .i64 0] = cellsI (cnts []) := by unfold cellsI cnts cntI; simp [List.range, List.range.loop]
 rw [z16] at cB
 refine Lt.Ok.loop (L := fun K (i : Int) D => r70_l0 K H.n A.n v (v.len : Int) i D) (fun m i' D => ∃ i : Nat, i' = (i : Int) ∧ i + m = l.length ∧ Cx H D [(A.n, cellsI (cnts (l.take i))), (H.n, cellsI (cnts []))]) ?_ FUEL l.length 0 B (by unfold FUEL; omega) ⟨0, rfl, by omega, cB⟩
 rintro K m i' D ⟨i, rfl, him, c⟩ ih
 rw [r70_l0]
 refine Lt.Ok.ite (fun hlt => ?_) fun hlt => ?_
 ·have hil : i < l.length := by omega
  obtain ⟨x0, x1⟩ := hl.2 _ (List.getElem_mem hil)
  have hc := cntI_le l[i] (l.take i)
  rw [List.length_take] at hc
  have hk : l[i].toNat < (cnts (l.take i)).length := by rw [cnts_len]; omega
  have eg : (cellsI (cnts (l.take i)))[0 + l[i].toNat * 1]? = some (.int .i64 ((cntI l[i] (l.take i) : Nat) : Int)) := by
   unfold cellsI
   rw [Nat.zero_add, Nat.mul_one, List.getElem?_map, List.getElem?_eq_getElem hk, cnts_get]
   simp only [Option.map_some]
   congr 3
   rw [Int.toNat_of_nonneg x0]
  refine Lt.Ok.ck (by omega) (Lt.Ok.ld ((hv.gr c.g).ldI (i := i) (j := 0) (n := l[i]) hil rfl) (Lt.Ok.ck (by omega) (Lt.Ok.cld c (.head _) eg (Lt.Ok.ck (by omega) ?_))))
  refine Lt.Ok.cst1 c 0 rfl (by unfold cellsI; rw [List.length_map, cnts_len]; omega) fun E _ _ c' => ?_
  rw [w64_id (n := (i : Int) + 1) (by omega) (by omega), w64_id (n := ((cntI l[i] (l.take i) : Nat) : Int) + 1) (by omega) (by omega)] at *
  refine ih (m - 1) _ E (by omega) ⟨i + 1, by omega, by omega, ?_⟩
  rw [List.take_succ_eq_append_getElem hil, cnts_snoc x0 x1]
  have e2 : cellsI ((cnts (l.take i)).set l[i].toNat (((cntI l[i] (l.take i) : Nat) : Int) + 1)) = (cellsI (cnts (l.take i))).set (0 + l[i].toNat * 1) (.int .i64 (((cntI l[i] (l.take i) : Nat) : Int) + 1)) := by
   unfold cellsI
   rw [List.map_set, Nat.zero_add, Nat.mul_one]
  rw [e2]
  exact c'
 ·have : i = l.length := by omega
  subst this
  rw [List.take_length] at c
  have hcl := cnts_len l
  generalize cnts l = q at *
  match q, hcl with
  | [a0, a1, a2, a3, a4, a5, a6, a7, a8, a9, a10, a11, a12, a13, a14, a15], _ =>
   refine Lt.Ok.cld c (.head _) rfl (Lt.Ok.cld c (.head _) rfl (Lt.Ok.cld c (.head _) rfl (Lt.Ok.cld c (.head _) rfl (Lt.Ok.cld c (.head _) rfl (Lt.Ok.cld c (.head _) rfl (Lt.Ok.cld c (.head _) rfl (Lt.Ok.cld c (.head _) rfl ?_)))))))
   refine Lt.Ok.cld c (.head _) rfl (Lt.Ok.cld c (.head _) rfl (Lt.Ok.cld c (.head _) rfl (Lt.Ok.cld c (.head _) rfl (Lt.Ok.cld c (.head _) rfl (Lt.Ok.cld c (.head _) rfl (Lt.Ok.cld c (.head _) rfl (Lt.Ok.cld c (.head _) rfl ?_)))))))
   refine Lt.Ok.cst c 1 rfl rfl fun E _ _ c' => ?_
   have m1 : (H.n, [AV.int .i64 a0, .int .i64 a1, .int .i64 a2, .int .i64 a3, .int .i64 a4, .int .i64 a5, .int .i64 a6, .int .i64 a7, .int .i64 a8, .int .i64 a9, .int .i64 a10, .int .i64 a11, .int .i64 a12, .int .i64 a13, .int .i64 a14, .int .i64 a15]) ∈ ([(A.n, cellsI [a0, a1, a2, a3, a4, a5, a6, a7, a8, a9, a10, a11, a12, a13, a14, a15]), (H.n, cellsI (cnts []))].set 1 (H.n, [AV.int .i64 a0, .int .i64 a1, .int .i64 a2, .int .i64 a3, .int .i64 a4, .int .i64 a5, .int .i64 a6, .int .i64 a7, .int .i64 a8, .int .i64 a9, .int .i64 a10, .int .i64 a11, .int .i64 a12, .int .i64 a13, .int .i64 a14, .int .i64 a15])) := .tail _ (.head _)
   refine Lt.Ok.cld c' m1 rfl (Lt.Ok.cld c' m1 rfl (Lt.Ok.cld c' m1 rfl (Lt.Ok.cld c' m1 rfl (Lt.Ok.cld c' m1 rfl (Lt.Ok.cld c' m1 rfl (Lt.Ok.cld c' m1 rfl (Lt.Ok.cld c' m1 rfl ?_)))))))
   refine Lt.Ok.cld c' m1 rfl (Lt.Ok.cld c' m1 rfl (Lt.Ok.cld c' m1 rfl (Lt.Ok.cld c' m1 rfl (Lt.Ok.cld c' m1 rfl (Lt.Ok.cld c' m1 rfl (Lt.Ok.cld c' m1 rfl (Lt.Ok.cld c' m1 rfl ?_)))))))
   exact Lt.Ok.ret ⟨c'.g, rfl⟩
theorem ap16 {l : List Int} {a0 a1 a2 a3 a4 a5 a6 a7 a8 a9 a10 a11 a12 a13 a14 a15 : Int} (hq : [a0, a1, a2, a3, a4, a5, a6, a7, a8, a9, a10, a11, a12, a13, a14, a15] = cnts l) {i : Nat} (hi : i < 16) : apart false 1 [AV.int .i64 a0, .int .i64 a1, .int .i64 a2, .int .i64 a3, .int .i64 a4, .int .i64 a5, .int .i64 a6, .int .i64 a7, .int .i64 a8, .int .i64 a9, .int .i64 a10, .int .i64 a11, .int .i64 a12, .int .i64 a13, .int .i64 a14, .int .i64 a15] (((i : Int)).toNat * 1) = some (.int .i64 ((cntI (i : Int) l : Nat) : Int)) := by
 show (cellsI [a0, a1, a2, a3, a4, a5, a6, a7, a8, a9, a10, a11, a12, a13, a14, a15])[((i : Int)).toNat * 1]? = _
 rw [hq]
 unfold cellsI
 have hk : i < (cnts l).length := by rw [cnts_len]; exact hi
 rw [Int.toNat_natCast, Nat.mul_one, List.getElem?_map, List.getElem?_eq_getElem hk, cnts_get]; rfl
theorem r29_ok {k : Nat} {H : Hp} {v : Sl} {l : List Int} (hv : SL H v l) (hl : Keys l) {i : Nat} (hi : i < 16) : Lt.Ok (r29 (appA (k + 1)) v (i : Int) H) fun r A => Gr H A ∧ r = (((cntI (i : Int) l : Nat) : Int), 0) := by
 unfold r29
 refine Lt.Ok.bind (r69_ok (k := k) hv hl) fun r A ⟨gA, hr⟩ => ?_
 refine Lt.Ok.pos hr ?_
 have e : r74 (i : Int) A = some (true, A) := by
  unfold r74
  rw [if_pos (by omega), decide_eq_true (by omega)]
 refine Lt.Ok.ld e ?_
 unfold r29_j0
 refine Lt.Ok.neg (by simp) (Lt.Ok.bind (r70_ok (hv.gr gA) hl) fun q B ⟨gB, hq⟩ => ?_)
 obtain ⟨a0, a1, a2, a3, a4, a5, a6, a7, a8, a9, a10, a11, a12, a13, a14, a15⟩ := q
 exact Lt.Ok.ck (by omega) (Lt.Ok.ld (ap16 hq hi) (Lt.Ok.ret ⟨gA.trans gB, rfl⟩))
def heavyL (k : Int) (l : List Int) : List Int := ((List.range 16).filter fun (i : Nat) => decide ((l.length : Int) < ((cntI (i : Int) l : Nat) : Int) * (k + 1))).map fun (i : Nat) => (i : Int)
theorem r25_ok {k : Nat} {H : Hp} {v : Sl} {l : List Int} (hv : SL H v l) (hl : Keys l) (n : Int) : Lt.Ok (r25 (appA (k + 1)) n v H) fun r A => Gr H A ∧ if 1 ≤ n ∧ n ≤ 8 then r.2 = 0 ∧ SL A r.1 (heavyL n l) else r = (nilS, 2) := by
 unfold r25
 have h40 := hl.1
 have hlen := hv.len
 have e68 : r68 n H = some (decide (1 ≤ n ∧ n ≤ 8), H) := by
  unfold r68
  by_cases h1 : 1 ≤ n
  ·rw [if_pos h1]; simp [h1]
  ·rw [if_neg h1]; simp [h1]
 refine is e68 ?_
 dsimp only
 by_cases hc8 : 1 ≤ n ∧ n ≤ 8
 ·simp only [if_pos hc8]
  obtain ⟨h1, h8⟩ := hc8
  refine Lt.Ok.pos (decide_eq_true ⟨h1, h8⟩) (Lt.Ok.bind (r69_ok (k := k) hv hl) fun r A ⟨gA, hr⟩ => ?_)
  unfold r25_j1
  dsimp only
  rw [hr]
  refine Lt.Ok.neg (by simp) (Lt.Ok.bind (r70_ok (hv.gr gA) hl) fun q B ⟨gB, hq⟩ => ?_)
  obtain ⟨a0, a1, a2, a3, a4, a5, a6, a7, a8, a9, a10, a11, a12, a13, a14, a15⟩ := q
  have gAB := gA.trans gB
  refine Lt.Ok.loop (L := fun K (t : Sl × Int) D => r25_l0 (appA (k + 1)) K n v t.1 a0 a1 a2 a3 a4 a5 a6 a7 a8 a9 a10 a11 a12 a13 a14 a15 t.2 D) (fun m t D => ∃ i : Nat, t.2 = (i : Int) ∧ i + m = 16 ∧ Gr H D ∧ AccN H.n D t.1 (((List.range i).filter fun (i : Nat) => decide ((l.length : Int) < ((cntI (i : Int) l : Nat) : Int) * (n + 1))).map fun (i : Nat) => (i : Int))) ?_ FUEL 16 (⟨true, 0, 0, 0, 0, 0⟩, 0) B (by unfold FUEL; omega) ⟨0, rfl, rfl, gAB, ⟨AccL.nilS, fun _ => rfl⟩⟩
  rintro K m ⟨w, i'⟩ D ⟨i, hi', him, g, ha⟩ ih
  dsimp only at *
  subst hi'
  rw [r25_l0]
  by_cases hlt : i < 16
  ·have hc := cntI_le (i : Int) l
   have e1 : w64 (((cntI (i : Int) l : Nat) : Int) * w64 (n + 1)) = ((cntI (i : Int) l : Nat) : Int) * (n + 1) := by
    rw [w64_id (n := n + 1) (by omega) (by omega)]
    have : 0 ≤ ((cntI (i : Int) l : Nat) : Int) * (n + 1) := Int.mul_nonneg (by omega) (by omega)
    have : ((cntI (i : Int) l : Nat) : Int) * (n + 1) ≤ 40 * (n + 1) := Int.mul_le_mul_of_nonneg_right (by omega) (by omega)
    rw [w64_id (by omega) (by omega)]
   refine Lt.Ok.pos (by omega) (Lt.Ok.ck (by omega) (Lt.Ok.ld (ap16 hq hlt) (Lt.Ok.ld rfl ?_)))
   rw [e1, hlen]
   have hfl : ((List.range i).filter fun (i : Nat) => decide ((l.length : Int) < ((cntI (i : Int) l : Nat) : Int) * (n + 1))).length ≤ i := by
    have := List.length_filter_le (fun (i : Nat) => decide ((l.length : Int) < ((cntI (i : Int) l : Nat) : Int) * (n + 1))) (List.range i)
    rw [List.length_range] at this; exact this
   refine Lt.Ok.ite (fun hc => ?_) fun hc => ?_
   ·refine Lt.Ok.bind (AccN.push ha g.1 (i : Int) rfl rfl (by rw [List.length_map]; omega)) fun w' E ⟨k1, k2, _, _⟩ => ?_
    dsimp only
    rw [w64_succ (by omega)]
    refine ih (m - 1) (w', _) E (by omega) ⟨i + 1, rfl, by omega, But.gr k2 ha.1 g, ?_⟩
    rw [List.range_succ, List.filter_append, List.map_append, List.filter_cons, if_pos (by simpa using hc)]
    exact k1
   ·rw [w64_succ (by omega)]
    refine ih (m - 1) (w, _) D (by omega) ⟨i + 1, rfl, by omega, g, ?_⟩
    rw [List.range_succ, List.filter_append, List.map_append, List.filter_cons, if_neg (by simpa using hc)]
    simpa using ha
  ·have : i = 16 := by omega
   subst this
   exact Lt.Ok.neg (by decide) (Lt.Ok.ret ⟨g, rfl, ha.1.sl⟩)
 ·simp only [if_neg hc8]
  refine Lt.Ok.neg (by simpa using hc8) ?_
  unfold r25_j1
  exact Lt.Ok.pos rfl (Lt.Ok.ret ⟨.refl _, rfl⟩)
/-! ### heavy and often, asked -/
theorem orders_keys {s : St} (hs : s.Ok) : Keys s.orders := ⟨hs.o40, fun x hx => by
 have h1 := hs.ol x hx
 have h2 := hs.l6
 omega⟩
theorem heavyL_rng {s : St} (hs : s.Ok) {n : Int} : ∀ i ∈ heavyL n s.orders, 0 ≤ i ∧ i < s.leaves.length := fun i hi => by
 unfold heavyL at hi
 obtain ⟨j, hj, rfl⟩ := List.mem_map.1 hi
 obtain ⟨_, hc⟩ := List.mem_filter.1 hj
 simp only [decide_eq_true_eq] at hc
 have h0 : cntI (j : Int) s.orders ≠ 0 := fun e => by rw [e] at hc; simp at hc; omega
 exact hs.ol _ (List.count_pos_iff.1 (by unfold cntI at h0; omega))
theorem heavyL_len (n : Int) (l : List Int) : (heavyL n l).length ≤ 16 := by
 unfold heavyL
 rw [List.length_map]
 have := List.length_filter_le (fun (i : Nat) => decide ((l.length : Int) < ((cntI (i : Int) l : Nat) : Int) * (n + 1))) (List.range 16)
 rw [List.length_range] at this; exact this
def fHeavy (s : St) : List ByteArray × List Int → Rep
 | (_, [n]) => if 1 ≤ n ∧ n ≤ 8 then ((heavyL n s.orders).map (nameOf s), 0) else ([], 2)
 | _ => ([], 2)
def fOften (s : St) : List ByteArray × List Int → Rep
 | ([a], _) => match s.find a with
  | none => ([], 4)
  | some i => ([itoaA ((cntI (i : Int) s.orders : Nat) : Int)], 0)
 | _ => ([], 4)
theorem app99 (k b : Nat) (x y : Sl) (H : Hp) : callv (appA (k + 1)) (.fn 99 [.ptr b 0] []) [.agg [.sl x, .sl y]] H = (r99 (appA k) b 0 x y H).map fun p => (.tup [.sl p.1.1, .int .i64 p.1.2], p.2) := rfl
theorem app100 (k b : Nat) (x y : Sl) (H : Hp) : callv (appA (k + 1)) (.fn 100 [.ptr b 0] []) [.agg [.sl x, .sl y]] H = (r100 (appA k) b 0 x y H).map fun p => (.tup [.sl p.1.1, .int .i64 p.1.2], p.2) := rfl
theorem nameOf_le {s : St} (hs : s.Ok) {i : Int} (h : 0 ≤ i ∧ i < s.leaves.length) : (nameOf s i).size ≤ 8 := by
 unfold nameOf
 have hlt : i.toNat < s.leaves.length := by omega
 rw [List.getD_eq_getElem?_getD, List.getElem?_eq_getElem hlt]
 exact hs.nm _ (List.getElem_mem hlt)
theorem fHeavy_ok {k : Nat} {B : Hp} {P : Nat → Prop} {b : Nat} {s : St} {wn wu : Sl} (h : StAt B P b s) (hs : s.Ok) {na : List ByteArray} {n : Int} (hu : SL B wu [n]) :
  Lt.Ok (callv (appA (k + 2)) (.fn 99 [.ptr b 0] []) [.agg [.sl wn, .sl wu]] B) (RepQ B (fHeavy s (na, [n]))) := by
 rw [app99]
 have hstB := h
 obtain ⟨_, v1, v2, v3, hg, h1, h2, _⟩ := h
 have l6 := hs.l6
 have key : Lt.Ok (r99 (appA (k + 1)) b 0 wn wu B) fun r A => Gr B A ∧ r.2 = (fHeavy s (na, [n])).2 ∧ (r.2 = 0 → SL A r.1 (fHeavy s (na, [n])).1) := by
  unfold r99
  refine Lt.Ok.lt ?_
  have g0 := Gr.push B (.cells [.sl wn, .sl wu] false)
  have hgn := Hp.get_push_new B (.cells [.sl wn, .sl wu] false)
  have hg0 := (g0.2 _ (Hp.get_lt hg)).trans hg
  generalize B.push (.cells [.sl wn, .sl wu] false) = A at *
  have huA := hu.gr g0
  have hul := huA.len
  simp only [List.length_cons, List.length_nil] at hul
  refine Lt.Ok.ld (ldSl_get hgn rfl) (Lt.Ok.ck (by omega) (Lt.Ok.ld (huA.ldI (i := 0) (j := 0) (n := n) (by simp) rfl) (Lt.Ok.ld (ldSl_get hg0 rfl) ?_)))
  refine Lt.Ok.bind (r25_ok (k := k) (h2.sl.gr g0) (orders_keys hs) n) fun q C ⟨gC, hq⟩ => ?_
  unfold fHeavy
  dsimp only
  have hst := hstB.gr (g0.trans gC)
  by_cases hc : 1 ≤ n ∧ n ≤ 8
  ·rw [if_pos hc] at hq ⊢
   refine Lt.Ok.bind (names_ok hst hq.2 (by have := heavyL_len n s.orders; omega) (heavyL_rng hs)) fun r D ⟨gD, hr⟩ => ?_
   exact Lt.Ok.ret ⟨(g0.trans gC).trans gD, hq.1, fun _ => hr⟩
  ·rw [if_neg hc] at hq ⊢
   subst hq
   refine Lt.Ok.bind (names_ok (l := []) hst SL.nilS (by simp) (fun i hi => by cases hi)) fun r D ⟨gD, hr⟩ => ?_
   exact Lt.Ok.ret ⟨(g0.trans gC).trans gD, rfl, fun e => by cases e⟩
 obtain ⟨r, A, e, g, h2, h3⟩ := key
 rw [e]
 refine Lt.Ok.ret ⟨g, r.1, by rw [h2], fun he => ⟨h3 (by rw [h2]; exact he), ?_⟩⟩
 unfold fHeavy
 dsimp only
 split
 ·refine ⟨by rw [List.length_map]; have := heavyL_len n s.orders; omega, ?_⟩
  have := szs_le (K := 8) (l := (heavyL n s.orders).map (nameOf s)) fun x hx => by
   obtain ⟨i, hi, rfl⟩ := List.mem_map.1 hx
   exact nameOf_le hs (heavyL_rng hs i hi)
  rw [List.length_map] at this
  have := heavyL_len n s.orders
  dsimp only; omega
 ·exact ⟨by simp, by simp [szs]⟩
theorem fOften_ok {k : Nat} {B : Hp} {P : Nat → Prop} {b : Nat} {s : St} {wn wu : Sl} (h : StAt B P b s) (hs : s.Ok) {a : ByteArray} {nu : List Int} (hn : SL B wn [a]) :
  Lt.Ok (callv (appA (k + 2)) (.fn 100 [.ptr b 0] []) [.agg [.sl wn, .sl wu]] B) (RepQ B (fOften s ([a], nu))) := by
 rw [app100]
 obtain ⟨_, v1, v2, v3, hg, h1, h2, _⟩ := h
 have l6 := hs.l6
 have key : Lt.Ok (r100 (appA (k + 1)) b 0 wn wu B) fun r A => Gr B A ∧ r.2 = (fOften s ([a], nu)).2 ∧ (r.2 = 0 → SL A r.1 (fOften s ([a], nu)).1) := by
  unfold r100
  refine Lt.Ok.lt ?_
  have g0 := Gr.push B (.cells [.sl wn, .sl wu] false)
  have hgn := Hp.get_push_new B (.cells [.sl wn, .sl wu] false)
  have hg0 := (g0.2 _ (Hp.get_lt hg)).trans hg
  generalize B.push (.cells [.sl wn, .sl wu] false) = A at *
  have hnA := hn.gr g0
  have hnl := hnA.len
  simp only [List.length_cons, List.length_nil] at hnl
  have e0 : A.ldStr wn.b (wn.o + (0 : Int).toNat * 1) = some a := SL.ldStr hnA (i := 0) (j := 0) (by simp) rfl
  refine Lt.Ok.ld (ldSl_get hgn rfl) (Lt.Ok.ck (by omega) (Lt.Ok.ld e0 ?_))
  refine Lt.Ok.bind (r154_ok (k := k) hg0 (h1.sl.gr g0) (by omega) a) fun i C ⟨gC, hi⟩ => ?_
  dsimp only
  subst hi
  unfold fOften
  dsimp only
  cases hf : s.find a with
  | none =>
   dsimp only [idxI]
   exact Lt.Ok.pos (by decide) (Lt.Ok.ret ⟨g0.trans gC, rfl, fun e => by cases e⟩)
  | some i =>
   have hi := find_lt hf
   dsimp only [idxI]
   refine Lt.Ok.neg (by omega) (Lt.Ok.ld (ldSl_get ((gC.2 _ (Hp.get_lt hg0)).trans hg0) rfl) ?_)
   refine Lt.Ok.bind (r29_ok (k := k) (h2.sl.gr (g0.trans gC)) (orders_keys hs) (i := i) (by omega)) fun q D ⟨gD, hq⟩ => ?_
   subst hq
   dsimp only
   have hc := cntI_le (i : Int) s.orders
   have o40 := hs.o40
   refine Lt.Ok.bind (numbers_ok (k := k) (show SL _ _ [((cntI (i : Int) s.orders : Nat) : Int)] from .of_get (ro := false) (Hp.get_push_new _ _) rfl rfl (Nat.le_refl _) (.inl rfl) rfl) (by simp) (fun j hj => by simp at hj; subst hj; omega)) fun r E ⟨gE, hr⟩ => ?_
   exact Lt.Ok.ret ⟨((g0.trans gC).trans gD).trans ((Gr.push _ _).trans gE), rfl, fun _ => hr⟩
 obtain ⟨r, A, e, g, h2, h3⟩ := key
 rw [e]
 refine Lt.Ok.ret ⟨g, r.1, by rw [h2], fun he => ⟨h3 (by rw [h2]; exact he), ?_⟩⟩
 unfold fOften
 dsimp only
 cases hf : s.find a with
 | none => exact ⟨by simp, by simp [szs]⟩
 | some i =>
  have hc := cntI_le (i : Int) s.orders
  have o40 := hs.o40
  have key : ∀ k : Nat, k < 41 → (itoaA (k : Int)).size ≤ 4 := by decide +kernel
  have := key (cntI (i : Int) s.orders) (by omega)
  exact ⟨by simp, by simp [szs]; omega⟩
theorem ask_heavy {k : Nat} {H : Hp} {P : Nat → Prop} {b : Nat} {s : St} {text : ByteArray} (h : StAt H P b s) (hs : s.Ok) (ht : text.size ≤ 4194304) (hw : wordS text = wHeavy) :
  Lt.Ok (r62 (appA (k + 2)) b 0 text H) fun r A => Gr H A ∧ r = askV fD text wHeavy (fHeavy s) := by
 unfold r62
 obtain ⟨r, hr⟩ := r97_sp text H ht
 refine is hr ?_
 dsimp only
 rw [hw]
 refine Lt.Ok.neg (by decide +kernel) (Lt.Ok.pos (by decide +kernel) ?_)
 refine r62_j0_ok (k := k) (.refl _) ht (by decide) (by decide) fun p hp B wn wu gB _ hu => ?_
 obtain ⟨ws, hl, hp⟩ := readS_parse hp
 obtain ⟨x, rfl⟩ := List.length_eq_one_iff.1 (show ws.length = 1 from hl)
 obtain ⟨n, hn, q, hq, e⟩ := parse_d (show parseS [100] [x] = some p from hp)
 have := parse_nil hq
 subst this; subst e
 exact fHeavy_ok (h.gr gB) hs hu
theorem ask_often {k : Nat} {H : Hp} {P : Nat → Prop} {b : Nat} {s : St} {text : ByteArray} (h : StAt H P b s) (hs : s.Ok) (ht : text.size ≤ 4194304) (hw : wordS text = wOften) :
  Lt.Ok (r62 (appA (k + 2)) b 0 text H) fun r A => Gr H A ∧ r = askV fN text wOften (fOften s) := by
 unfold r62
 obtain ⟨r, hr⟩ := r97_sp text H ht
 refine is hr ?_
 dsimp only
 rw [hw]
 refine Lt.Ok.neg (by decide +kernel) (Lt.Ok.neg (by decide +kernel) (Lt.Ok.pos (by decide +kernel) ?_))
 refine r62_j0_ok (k := k) (.refl _) ht (by decide) (by decide) fun p hp B wn wu gB hn _ => ?_
 obtain ⟨a, rfl⟩ := read_N hp
 exact fOften_ok (h.gr gB) hs hn
/-! ### the short list, walked -/
def argC (c : Ct) : AV := .agg [.int .i64 c.1, .int .i64 c.2.1, .int .i64 c.2.2]
def SaysB (a : App) (fv : AV) (p : Ct → Bool) (H0 : Hp) : Prop := ∀ A x, Gr H0 A → Lt.Ok (callv a fv [argC x] A) fun r B => Gr A B ∧ r = .bool (p x)
theorem r73_ok {a : App} {fv : AV} {p : Ct → Bool} {H : Hp} {v : Sl} {l : List Ct} (hc : SaysB a fv p H) (hv : SL H v l) (hb : l.length ≤ 1000) : Lt.Ok (r73 a v fv H) fun r A => Gr H A ∧ r = idxI (l.findIdx? p) := by
 unfold r73
 have hl := hv.len
 refine idx_ok (L := fun K i A => r73_l0 a K v fv (v.len : Int) i A) (l := l) p (by omega) (fun K i A Q hi g k1 k2 => ?_) fun K A Q g k => ?_
 ·rw [r73_l0]
  have hvA := hv.gr g
  have e0 : A.ldI .i64 v.b (v.o + ((i : Int)).toNat * 3) = some l[i].1 := hvA.ldI (i := i) (j := 0) (n := l[i].1) hi rfl
  have e1 : A.ldI .i64 v.b ((v.o + ((i : Int)).toNat * 3) + 1) = some l[i].2.1 := hvA.ldI (i := i) (j := 1) (n := l[i].2.1) hi rfl
  have e2 : A.ldI .i64 v.b ((v.o + ((i : Int)).toNat * 3) + 2) = some l[i].2.2 := hvA.ldI (i := i) (j := 2) (n := l[i].2.2) hi rfl
  refine Lt.Ok.pos (by omega) (Lt.Ok.ck (by omega) (Lt.Ok.ld e0 (Lt.Ok.ld e1 (Lt.Ok.ld e2 ?_))))
  refine Lt.Ok.bind (hc A l[i] g) fun r B ⟨gB, hr⟩ => ?_
  subst hr
  refine Lt.Ok.ld rfl ?_
  rw [w64_succ (by omega)]
  exact Lt.Ok.ite (fun h => Lt.Ok.ret (k1 B gB h)) fun h => k2 B gB (by simpa using h)
 ·rw [r73_l0]
  exact Lt.Ok.neg (by omega) (Lt.Ok.ret k)
theorem says124 (k : Nat) (H0 : Hp) : SaysB (appA (k + 1)) (.fn 124 [] []) (fun c => decide (c.2.1 = 0)) H0 := by
 intro A x _
 show Lt.Ok ((r124 x.1 x.2.1 x.2.2 A).map fun p => (AV.bool p.1, p.2)) _
 have e : r124 x.1 x.2.1 x.2.2 A = some (decide (x.2.1 = 0), A.push (.cells [.int .i64 x.1, .int .i64 x.2.1, .int .i64 x.2.2] false)) := by
  have hn := Hp.get_push_new A (.cells [.int .i64 x.1, .int .i64 x.2.1, .int .i64 x.2.2] false)
  unfold r124 Go.Lt.lt
  dsimp only
  rw [ldI_get (n := x.2.1) hn rfl]; rfl
 rw [e]
 exact Lt.Ok.ret ⟨Gr.push _ _, rfl⟩
theorem saysKey {f : Nat} {rf : Int → Int → Int → Nat → Hp → Option (Bool × Hp)} {a : App} {c0 : Nat} {key : Int} {H0 : Hp} (hg : H0.get c0 = some (.cells [.int .i64 key] false)) (hrf : ∀ x0 x1 x2 c H, rf x0 x1 x2 c H = lt (H.push (.cells [.int .i64 x0, .int .i64 x1, .int .i64 x2] false)) fun H1 => (H1.ldI .i64 H.n (0 + 0)).bind fun y => (H1.ldI .i64 c 0).bind fun z => some ((decide (y = z)), H1))
  (happ : ∀ x A, callv a (.fn f [] [.ptr c0 0]) [argC x] A = (rf x.1 x.2.1 x.2.2 c0 A).map fun p => (.bool p.1, p.2)) : SaysB a (.fn f [] [.ptr c0 0]) (fun c => decide (c.1 = key)) H0 := by
 intro A x g
 rw [happ]
 have e : rf x.1 x.2.1 x.2.2 c0 A = some (decide (x.1 = key), A.push (.cells [.int .i64 x.1, .int .i64 x.2.1, .int .i64 x.2.2] false)) := by
  have hn := Hp.get_push_new A (.cells [.int .i64 x.1, .int .i64 x.2.1, .int .i64 x.2.2] false)
  rw [hrf]
  unfold Go.Lt.lt
  dsimp only
  rw [ldI_get (n := x.1) hn rfl]
  simp only [Option.bind_some]
  rw [ldI_get (n := key) ((Hp.get_push_old _ _ (Nat.lt_of_lt_of_le (Hp.get_lt hg) g.1)).trans ((g.2 _ (Hp.get_lt hg)).trans hg)) rfl]; rfl
 rw [e]
 exact Lt.Ok.ret ⟨Gr.push _ _, rfl⟩
structure LI (n0 : Nat) (H : Hp) (b : Nat) (k : Int) (v : Sl) (cs : List Ct) : Prop where
 get : H.get b = some (.cells [.int .i64 k, .fn 71 [] [], .sl v] false)
 lo : n0 ≤ b
 buf : Buf (b + 1) H v cs
theorem LI.gr {n0 : Nat} {H A : Hp} {b : Nat} {k : Int} {v : Sl} {cs : List Ct} (h : LI n0 H b k v cs) (g : Gr H A) : LI n0 A b k v cs := ⟨by rw [g.2 _ (Hp.get_lt h.get)]; exact h.get, h.lo, h.buf.gr g⟩
def Below (n0 : Nat) (H A : Hp) : Prop := H.n ≤ A.n ∧ ∀ b, b < n0 → A.get b = H.get b
theorem Below.of_gr {n0 : Nat} {H A : Hp} (g : Gr H A) (h : n0 ≤ H.n) : Below n0 H A := ⟨g.1, fun b hb => g.2 b (by omega)⟩
theorem Below.trans {n0 : Nat} {A B C : Hp} (h : Below n0 A B) (k : Below n0 B C) : Below n0 A C := ⟨Nat.le_trans h.1 k.1, fun b hb => (k.2 b hb).trans (h.2 b hb)⟩
theorem LI.but {n0 : Nat} {H A : Hp} {b : Nat} {k : Int} {v : Sl} {cs cs' : List Ct} (h : LI n0 H b k v cs) (hB : Buf (b + 1) A v cs') (hb : But v H A) : LI n0 A b k v cs' ∧ Below n0 H A := by
 have h1 := Hp.get_lt h.get
 have hlo := h.lo
 refine ⟨⟨?_, h.lo, hB⟩, hb.1, fun c hc => ?_⟩
 ·rw [hb.2 _ h1 fun hn => by have := h.buf.lt hn; omega]; exact h.get
 ·exact hb.2 c (by omega) fun hn => by have := h.buf.lt hn; omega
theorem LI.into {n0 : Nat} {H A : Hp} {b : Nat} {k : Int} {v v' : Sl} {cs cs' : List Ct} (h : LI n0 H b k v cs) (hB : Buf (b + 1) A v' cs') (hb : But v H A) {α : Type} {Q : α → Hp → Prop} {f : Hp → Option (α × Hp)} (kk : ∀ D, LI n0 D b k v' cs' → Below n0 H D → Lt.Ok (f D) Q) : Lt.Ok ((A.st b (0 + 2) (.sl v')).bind f) Q := by
 have h1 := Hp.get_lt h.get
 have hlo := h.lo
 have hg : A.get b = some (.cells [.int .i64 k, .fn 71 [] [], .sl v] false) := by
  rw [hb.2 _ h1 fun hn => by have := h.buf.lt hn; omega]; exact h.get
 refine Lt.Ok.st hg (by simp) fun D e hgD => ?_
 have oth : ∀ c, c ≠ b → D.get c = A.get c := fun c hc => by rw [e]; exact Hp.get_set_other _ _ hc
 refine kk D ⟨hgD, h.lo, hB.keep fun hn => oth _ (by have := hB.lt hn; omega)⟩ ⟨by rw [e]; simp; exact hb.1, fun c hc => ?_⟩
 rw [oth c (by omega)]
 exact hb.2 c (by omega) fun hn => by have := h.buf.lt hn; omega
theorem r125_ok {k : Nat} {n0 : Nat} {H : Hp} {b : Nat} {kk : Int} {v : Sl} {cs : List Ct} (h : LI n0 H b kk v cs) (hb : cs.length ≤ 8) (key : Int) : Lt.Ok (r125 (appA (k + 1)) b 0 key H) fun r A => Gr H A ∧ r = idxI (atC cs key) := by
 unfold r125
 refine Lt.Ok.lt ?_
 have g0 := Gr.push H (.cells [.int .i64 key] false)
 have hg := Hp.get_push_new H (.cells [.int .i64 key] false)
 generalize H.push (.cells [.int .i64 key] false) = A at *
 have hA := h.gr g0
 refine Lt.Ok.ld (ldSl_get hA.get rfl) ?_
 have hs : SaysB (appA (k + 1)) (.fn 175 [] [.ptr H.n 0]) (fun c => decide (c.1 = key)) A := saysKey (rf := r175) hg (fun _ _ _ _ _ => rfl) fun x A => rfl
 refine Lt.Ok.bind (r73_ok hs hA.buf.sl (by omega)) fun r B ⟨gB, hr⟩ => Lt.Ok.ret ⟨g0.trans gB, hr⟩
def keepC (c : Ct) : Bool := !decide (c.2.1 = 0)
theorem r123_ok {k : Nat} {n0 : Nat} {H : Hp} {v : Sl} {l : List Ct} (h : Buf n0 H v l) (hb : l.length ≤ 8) :
  Lt.Ok (r123 (appA (k + 1)) v (.fn 124 [] []) H) fun w A => Buf n0 A w (l.filter keepC) ∧ BufTo H v A w := by
 unfold r123
 refine Lt.Ok.bind (r73_ok (says124 k H) h.sl (by omega)) fun r A ⟨gA, hr⟩ => ?_
 have hA := h.gr gA
 have hlen := hA.len
 have hcap := hA.sl.cap
 have hopn : v.opn = 0 ∨ v.opn = 3 := hA.sl.opn
 dsimp only
 subst hr
 cases hf : l.findIdx? fun c => decide (c.2.1 = 0) with
 | none =>
  refine Lt.Ok.pos rfl (Lt.Ok.ret ⟨?_, ⟨gA.1, fun b hb _ => gA.2 b hb⟩, fun hn => .inl ⟨hn, rfl⟩⟩)
  have : l.filter keepC = l := List.filter_eq_self.2 fun c hc => by
   have := List.findIdx?_eq_none_iff.1 hf c hc
   simp [keepC, this]
  rw [this]; exact hA
 | some i0 =>
  obtain ⟨hi0, hp0, hq0⟩ := List.findIdx?_eq_some_iff_getElem.1 hf
  have hne : l ≠ [] := fun e => by rw [e] at hi0; simp at hi0
  have hnn := hA.sl.nonnil hne
  refine Lt.Ok.neg (by simp [idxI]) ?_
  have ft : (l.take i0).filter keepC = l.take i0 := List.filter_eq_self.2 fun c hc => by
   obtain ⟨j, hj, rfl⟩ := List.mem_iff_getElem.1 hc
   rw [List.length_take] at hj
   rw [List.getElem_take]
   have := hq0 j (by omega)
   simp at this
   simp [keepC, this]
  have ft1 : (l.take (i0 + 1)).filter keepC = l.take i0 := by
   rw [List.take_succ_eq_append_getElem hi0, List.filter_append, ft, List.filter_cons]
   simp [keepC] at hp0 ⊢
   exact hp0
  dsimp only [idxI]
  rw [w64_succ (by omega)]
  refine Lt.Ok.loop (L := fun K (s : Int × Int) D => r123_l0 (appA (k + 1)) K v (.fn 124 [] []) s.1 s.2 D) (fun m s D => ∃ (i j : Nat) (q : List Ct), s.1 = (i : Int) ∧ s.2 = (j : Int) ∧ j + m = l.length ∧ i < j ∧ q.length = l.length ∧ Buf n0 D v q ∧ But v H D ∧ q.take i = (l.take j).filter keepC ∧ q.drop j = l.drop j) ?_ FUEL (l.length - (i0 + 1)) ((i0 : Int), ((i0 + 1 : Nat) : Int)) A (by unfold FUEL; omega) ⟨i0, i0 + 1, l, rfl, rfl, by omega, by omega, rfl, hA, ⟨gA.1, fun b hb _ => gA.2 b hb⟩, ft1.symm, rfl⟩
  rintro K m ⟨i', j'⟩ D ⟨i, j, q, hi', hj', hjm, hij, hql, hD, gD, htk, hdr⟩ ih
  dsimp only at hi' hj' ⊢
  subst hi'; subst hj'
  have hvb := hD.lt hnn
  rw [r123_l0]
  by_cases hlt : j < l.length
  ·have hjq : j < q.length := by omega
   have eq : q[j] = l[j] := by
    have := congrArg (fun z => z[0]?) hdr
    simp only [List.getElem?_drop, Nat.add_zero] at this
    rw [List.getElem?_eq_getElem hjq, List.getElem?_eq_getElem hlt] at this
    injection this
   have hsl := hD.sl
   have e0 : D.ldI .i64 v.b (v.o + ((j : Int)).toNat * 3) = some l[j].1 := hsl.ldI (i := j) (j := 0) (n := l[j].1) hjq (by rw [eq]; rfl)
   have e1 : D.ldI .i64 v.b ((v.o + ((j : Int)).toNat * 3) + 1) = some l[j].2.1 := hsl.ldI (i := j) (j := 1) (n := l[j].2.1) hjq (by rw [eq]; rfl)
   have e2 : D.ldI .i64 v.b ((v.o + ((j : Int)).toNat * 3) + 2) = some l[j].2.2 := hsl.ldI (i := j) (j := 2) (n := l[j].2.2) hjq (by rw [eq]; rfl)
   refine Lt.Ok.pos (by omega) (Lt.Ok.ck (by omega) (Lt.Ok.ld e0 (Lt.Ok.ld e1 (Lt.Ok.ld e2 ?_))))
   refine Lt.Ok.alo (.nil D) fun E gE c => ?_
   refine Lt.Ok.cld c (.head _) (n := l[j].1) rfl (Lt.Ok.cld c (.head _) (n := l[j].2.1) rfl (Lt.Ok.cld c (.head _) (n := l[j].2.2) rfl ?_))
   refine Lt.Ok.bind (says124 k E E l[j] (.refl _)) fun r F ⟨gF, hr⟩ => ?_
   subst hr
   refine Lt.Ok.ld rfl ?_
   have gDF := gE.trans gF
   have hF := hD.gr gDF
   have bF : But v H F := ⟨Nat.le_trans gD.1 gDF.1, fun b hb hn => by rw [gDF.2 b (Nat.lt_of_lt_of_le hb gD.1), gD.2 b hb hn]⟩
   have cF := c.gr gF
   have dj : l.drop j = l[j] :: l.drop (j + 1) := List.drop_eq_getElem_cons hlt
   refine Lt.Ok.ite (fun hz => ?_) fun hz => ?_
   ·rw [w64_succ (by omega)]
    refine ih (m - 1) (_, _) F (by omega) ⟨i, j + 1, q, rfl, rfl, by omega, by omega, hql, hF, bF, ?_, ?_⟩
    ·rw [htk, List.take_succ_eq_append_getElem hlt, List.filter_append, List.filter_cons]
     have : keepC l[j] = false := by simp [keepC] at hz ⊢; exact hz
     rw [if_neg (by simp [this])]; simp
    ·rw [← List.drop_drop, hdr, List.drop_drop]
   ·refine Lt.Ok.cld cF (.head _) (n := l[j].1) rfl (Lt.Ok.cld cF (.head _) (n := l[j].2.1) rfl (Lt.Ok.cld cF (.head _) (n := l[j].2.2) rfl (Lt.Ok.ck (by omega) ?_)))
    refine Buf.put hF (j := i) (by omega) l[j] rfl rfl fun G hG gG nG => ?_
    rw [w64_succ (show i < 9223372036854775807 by omega), w64_succ (show j < 9223372036854775807 by omega)]
    refine ih (m - 1) (_, _) G (by omega) ⟨i + 1, j + 1, q.set i l[j], rfl, rfl, by omega, by omega, by rw [List.length_set]; exact hql, hG, ⟨Nat.le_trans bF.1 gG.1, fun b hb hn => by rw [gG.2 b (Nat.lt_of_lt_of_le hb bF.1) hn, bF.2 b hb hn]⟩, ?_, ?_⟩
    ·have hk : keepC l[j] = true := by simp [keepC] at hz ⊢; exact hz
     rw [List.take_succ_eq_append_getElem hlt, List.filter_append, List.filter_cons, if_pos hk, ← htk, List.take_succ_eq_append_getElem (by rw [List.length_set]; omega), List.getElem_set_self, List.take_set_of_le (Nat.le_refl _)]
     rfl
    ·rw [List.drop_set_of_lt (by omega), ← List.drop_drop, hdr, List.drop_drop]
  ·have hj : j = l.length := by omega
   subst hj
   rw [List.take_length] at htk
   have hfl : (l.filter keepC).length = i := by rw [← htk, List.length_take]; omega
   refine Lt.Ok.neg (by omega) (Lt.Ok.ck (by refine ⟨?_, hopn⟩; omega) ?_)
   have qne : q ≠ [] := fun e => by rw [e] at hql; simp at hql; omega
   rw [Int.toNat_natCast, Int.toNat_natCast]
   refine Buf.chop hD (i := i) (by omega) qne rfl fun F hF gF nF ⟨w1, w2, w3⟩ => ?_
   rw [htk] at hF
   refine Lt.Ok.ck (by refine ⟨?_, hopn⟩; omega) (Lt.Ok.ret ⟨hF, ⟨Nat.le_trans gD.1 gF.1, fun b hb hn => by rw [gF.2 b (Nat.lt_of_lt_of_le hb gD.1) hn, gD.2 b hb hn]⟩, fun _ => .inl ⟨w3, w2⟩⟩)
def lessC (c : Ct) : Ct := (c.1, c.2.1 - 1, c.2.2)
theorem r71_ok {k : Nat} {n0 : Nat} {H : Hp} {b : Nat} {kk : Int} {v : Sl} {cs : List Ct} (h : LI n0 H b kk v cs) (hb : cs.length ≤ 8) (hN : ∀ c ∈ cs, 0 ≤ c.2.1 ∧ c.2.1 ≤ 100) (key : Int) :
  Lt.Ok (r71 (appA (k + 1)) b 0 key H) fun _ A => ∃ v', LI n0 A b kk v' ((cs.map lessC).filter keepC) ∧ Below n0 H A := by
 unfold r71
 refine Lt.Ok.ld (ldSl_get h.get rfl) ?_
 have hl := h.buf.len
 have hbn : n0 ≤ H.n := Nat.le_trans h.lo (Nat.le_of_lt (Hp.get_lt h.get))
 refine Lt.Ok.loop (L := fun K (i : Int) D => r71_l0 (appA (k + 1)) K b 0 (v.len : Int) i D) (fun m i' D => ∃ i : Nat, i' = (i : Int) ∧ i + m = cs.length ∧ LI n0 D b kk v ((cs.take i).map lessC ++ cs.drop i) ∧ Below n0 H D) ?_ FUEL cs.length 0 H (by unfold FUEL; omega) ⟨0, rfl, by omega, by simpa using h, Nat.le_refl _, fun _ _ => rfl⟩
 rintro K m i' D ⟨i, rfl, him, hD, gD⟩ ih
 rw [r71_l0]
 have hDl := hD.buf.len
 refine Lt.Ok.ite (fun hlt => ?_) fun hlt => ?_
 ·have hil : i < cs.length := by omega
  have hiq : i < ((cs.take i).map lessC ++ cs.drop i).length := by simp; omega
  have eq : ((cs.take i).map lessC ++ cs.drop i)[i] = cs[i] := by
   rw [List.getElem_append_right (by rw [List.length_map, List.length_take]; omega)]
   simp [Nat.min_eq_left (Nat.le_of_lt hil)]
  obtain ⟨n0', n1'⟩ := hN _ (List.getElem_mem hil)
  have e1 : D.ldI .i64 v.b ((v.o + ((i : Int)).toNat * 3) + 1) = some cs[i].2.1 := hD.buf.sl.ldI (i := i) (j := 1) (n := cs[i].2.1) hiq (by rw [eq]; rfl)
  refine Lt.Ok.ld (ldSl_get hD.get rfl) (Lt.Ok.ck (by omega) (Lt.Ok.ld e1 (Lt.Ok.ck (by omega) ?_)))
  rw [w64_id (n := cs[i].2.1 - 1) (by omega) (by omega)]
  refine Buf.st hD.buf (i := i) (j := 1) hiq (by decide) (lessC cs[i]) (by rw [eq]; rfl) fun E hE gE nE => ?_
  obtain ⟨h1, h2⟩ := hD.but hE gE
  rw [w64_succ (by omega)]
  refine ih (m - 1) _ E (by omega) ⟨i + 1, rfl, by omega, ?_, gD.trans h2⟩
  have e2 : ((cs.take i).map lessC ++ cs.drop i).set i (lessC cs[i]) = (cs.take (i + 1)).map lessC ++ cs.drop (i + 1) := by
   have hz : i - ((cs.take i).map lessC).length = 0 := by rw [List.length_map, List.length_take]; omega
   rw [List.set_append_right _ _ (by rw [List.length_map, List.length_take]; omega), hz, List.drop_eq_getElem_cons hil, List.set_cons_zero, List.take_succ_eq_append_getElem hil, List.map_append, List.append_assoc]
   rfl
  rw [e2] at h1
  exact h1
 ·have : i = cs.length := by omega
  subst this
  rw [List.take_length, List.drop_length, List.append_nil] at hD
  refine Lt.Ok.ld (ldSl_get hD.get rfl) (Lt.Ok.bind (r123_ok (k := k) hD.buf (by rw [List.length_map]; omega)) fun w E ⟨hE, gE, _⟩ => ?_)
  dsimp only
  exact hD.into hE gE fun F hF gF => Lt.Ok.ret ⟨w, hF, gD.trans gF⟩
/-! ### the list, told -/
def SaysC (a : App) (fv : AV) : Prop := ∀ A x y, Lt.Ok (callv a fv [argC x, argC y] A) fun r B => Gr A B ∧ ∃ c, r = .int .i64 c
theorem says178 (k : Nat) : SaysC (appA (k + 1)) (.fn 178 [] []) := by
 intro A x y
 show Lt.Ok ((r178 x.1 x.2.1 x.2.2 y.1 y.2.1 y.2.2 A).map fun p => (AV.int .i64 p.1, p.2)) _
 have key : Lt.Ok (r178 x.1 x.2.1 x.2.2 y.1 y.2.1 y.2.2 A) fun r B => Gr A B := by
  unfold r178
  refine Lt.Ok.box2 (.nil A) fun B gB c => ?_
  refine Lt.Ok.cld c (.tail _ (.head _)) (n := x.1) rfl (Lt.Ok.cld c (.head _) (n := y.1) rfl ?_)
  refine Lt.Ok.bind (P := fun _ D => D = B) ?_ fun r D e => Lt.Ok.ret (by dsimp only; rw [e]; exact gB)
  unfold r179 r237
  simp only [Option.bind_some]
  refine Lt.Ok.neg (by simp) (Lt.Ok.neg (by simp) (Lt.Ok.ite (fun _ => Lt.Ok.ret rfl) fun _ => Lt.Ok.ite (fun _ => Lt.Ok.ret rfl) fun _ => Lt.Ok.ret rfl))
 obtain ⟨r, B, e, g⟩ := key
 rw [e]
 exact Lt.Ok.ret ⟨g, _, rfl⟩
section
variable {a : App} {fv : AV} {v : Sl} {Q : Unit → Hp → Prop}
theorem ld3 {H : Hp} {v : Sl} {l : List Ct} (hv : SL H v l) {i : Nat} (hi : i < l.length) : H.ldI .i64 v.b (v.o + ((i : Int)).toNat * 3) = some l[i].1 ∧ H.ldI .i64 v.b ((v.o + ((i : Int)).toNat * 3) + 1) = some l[i].2.1 ∧ H.ldI .i64 v.b ((v.o + ((i : Int)).toNat * 3) + 2) = some l[i].2.2 :=
 ⟨hv.ldI (i := i) (j := 0) (n := l[i].1) hi rfl, hv.ldI (i := i) (j := 1) (n := l[i].2.1) hi rfl, hv.ldI (i := i) (j := 2) (n := l[i].2.2) hi rfl⟩
theorem r331_l1_ok (hc : SaysC a fv) {kt : Sl → Int → Int → AV → Int → Hp → Option (Unit × Hp)} {q : List Ct} (hb : q.length ≤ 1000000) {i : Nat} {n : Int} {H : Hp} (ho : Own H v q) (hi : i < q.length)
  (k : ∀ q' H', Own H' v q' → Only v.b H H' → q'.Perm q → Lt.Ok (kt v 0 n fv ((i + 1 : Nat) : Int) H') Q) :
  Lt.Ok (r331_l1 a kt FUEL v 0 n fv i i H) Q := by
 refine Lt.Ok.loop (L := fun K (s : Int) H' => r331_l1 a kt K v 0 n fv i s H') (fun m s H' => ∃ j : Nat, s = j ∧ j ≤ i ∧ m = j ∧ ∃ q', Own H' v q' ∧ Only v.b H H' ∧ q'.Perm q) ?_ FUEL i i H (by unfold FUEL; omega) ⟨i, rfl, Nat.le_refl _, rfl, q, ho, .refl _ _, .refl _⟩
 rintro K m s H1 ⟨j, rfl, hj, rfl, q', h1, g1, hp⟩ ih
 try dsimp only at *
 have hql := hp.length_eq
 have hvl := h1.len
 rw [r331_l1]
 have stop : ∀ kt1 H2, Own H2 v q' → Only v.b H H2 → Lt.Ok (r331_j2 a kt kt1 v 0 n fv i m false H2) Q := by
  intro kt1 H2 o2 g2
  unfold r331_j2
  refine Lt.Ok.neg (by simp) ?_
  rw [w64_succ (by omega)]
  exact k q' H2 o2 g2 hp
 by_cases h : 0 < m
 ·obtain ⟨j, rfl⟩ : ∃ j, m = j + 1 := ⟨m - 1, by omega⟩
  have ej : w64 (((j + 1 : Nat) : Int) - 1) = (j : Int) := by rw [w64_id (by omega) (by omega)]; omega
  rw [ej]
  obtain ⟨a0, a1, a2⟩ := ld3 h1.sl (i := j + 1) (by omega)
  obtain ⟨b0, b1, b2⟩ := ld3 h1.sl (i := j) (by omega)
  refine Lt.Ok.pos (by omega) (Lt.Ok.ck (by omega) (Lt.Ok.ld a0 (Lt.Ok.ld a1 (Lt.Ok.ld a2 (Lt.Ok.ck (by omega) (Lt.Ok.ld b0 (Lt.Ok.ld b1 (Lt.Ok.ld b2 ?_))))))))
  refine Lt.Ok.bind (hc H1 q'[j + 1] q'[j]) fun r H2 ⟨g2, c, hr⟩ => ?_
  subst hr
  refine Lt.Ok.ld rfl ?_
  have o2 := h1.gr g2
  have gg := g1.trans (Gr.only (b := v.b) g2)
  by_cases hl : c < 0
  ·rw [decide_eq_true hl]
   unfold r331_j2
   rw [ej]
   obtain ⟨a0, a1, a2⟩ := ld3 o2.sl (i := j + 1) (by omega)
   obtain ⟨b0, b1, b2⟩ := ld3 o2.sl (i := j) (by omega)
   refine Lt.Ok.pos rfl (Lt.Ok.ck (by omega) (Lt.Ok.ld b0 (Lt.Ok.ld b1 (Lt.Ok.ld b2 (Lt.Ok.ck (by omega) (Lt.Ok.ld a0 (Lt.Ok.ld a1 (Lt.Ok.ld a2 (Lt.Ok.ck (by omega) ?_)))))))))
   refine o2.put (j := j + 1) (by omega) q'[j] rfl rfl fun H3 o3 g3 n3 => Lt.Ok.ck (by omega) (o3.put (j := j) (by simp; omega) q'[j + 1] rfl rfl fun H4 o4 g4 n4 => ?_)
   try dsimp only
   exact ih j _ H4 (by omega) ⟨j, rfl, by omega, rfl, _, o4, gg.trans (g3.trans g4), (swap_perm (by omega)).trans hp⟩
  ·rw [decide_eq_false hl]
   exact stop _ H2 o2 gg
 ·exact Lt.Ok.neg (by omega) (stop _ H1 h1 g1)
theorem r331_ok (hc : SaysC a fv) {q : List Ct} (hb : q.length ≤ 1000000) {H : Hp} (ho : Own H v q) :
  Lt.Ok (r331 a v 0 q.length fv H) fun _ H' => ∃ q', Own H' v q' ∧ Only v.b H H' ∧ q'.Perm q := by
 unfold r331
 rw [show w64 (0 + 1) = ((1 : Nat) : Int) by decide]
 refine Lt.Ok.loop (L := fun K (s : Int) H' => r331_l0 a K v 0 q.length fv s H') (fun m s H' => ∃ i : Nat, s = i ∧ 1 ≤ i ∧ q.length ≤ i + m ∧ ∃ q', Own H' v q' ∧ Only v.b H H' ∧ q'.Perm q) ?_ FUEL q.length _ H (by unfold FUEL; omega) ⟨1, rfl, Nat.le_refl _, by omega, q, ho, .refl _ _, .refl _⟩
 rintro K m s H1 ⟨i, rfl, hi1, hm, q', h1, g1, hp⟩ ih
 try dsimp only at *
 have hql := hp.length_eq
 rw [r331_l0]
 by_cases h : i < q.length
 ·refine Lt.Ok.pos (by omega) (r331_l1_ok hc (by omega) h1 (by omega) fun q2 H2 o2 g2 p2 => ?_)
  exact ih (m - 1) _ H2 (by omega) ⟨i + 1, rfl, by omega, by omega, q2, o2, g1.trans g2, p2.trans hp⟩
 ·exact Lt.Ok.neg (by omega) (Lt.Ok.ret ⟨q', h1, g1, hp⟩)
end
theorem r235_ok {k : Nat} {fv : AV} (hc : SaysC (appA (k + 1)) fv) {v : Sl} {q : List Ct} (hb : q.length ≤ 12) {H : Hp} (ho : Own H v q) :
  Lt.Ok (r235 (appA (k + 1)) v fv H) fun _ H' => ∃ q', Own H' v q' ∧ Only v.b H H' ∧ q'.Perm q := by
 unfold r235
 have hl := ho.len
 rw [hl]
 obtain ⟨x, e⟩ := r296_small hb H
 refine Lt.Ok.ld e ?_
 unfold r298
 rw [show FUEL = 18446744073709551615 + 1 from rfl, r298_l0]
 refine Lt.Ok.bind (P := fun _ H' => ∃ q', Own H' v q' ∧ Only v.b H H' ∧ q'.Perm q) ?_ fun _ H' h => Lt.Ok.ret h
 rw [w64_id (by omega) (by omega)]
 exact Lt.Ok.pos (by omega) (Lt.Ok.bind (r331_ok hc (by omega) ho) fun _ H' h => Lt.Ok.ret h)
theorem r235_none {k : Nat} {fv : AV} {v : Sl} (hv : v.len = 0) {H : Hp} : Lt.Ok (r235 (appA (k + 1)) v fv H) fun _ A => A = H := by
 unfold r235
 rw [hv]
 obtain ⟨x, e⟩ := r296_small (n := 0) (by omega) H
 refine Lt.Ok.ld e ?_
 unfold r298
 rw [show FUEL = 18446744073709551615 + 1 from rfl, r298_l0]
 refine Lt.Ok.bind (P := fun _ A => A = H) ?_ fun _ A h => Lt.Ok.ret h
 rw [w64_id (by omega) (by omega)]
 refine Lt.Ok.pos (by omega) (Lt.Ok.bind (P := fun _ A => A = H) ?_ fun _ A h => Lt.Ok.ret h)
 unfold r331
 rw [show FUEL = 18446744073709551615 + 1 from rfl, r331_l0, show w64 (0 + 1) = 1 by decide]
 exact Lt.Ok.neg (by simp) (Lt.Ok.ret rfl)
theorem col_endA {T : Type} [El T] {T0 B : Nat} {H H' : Hp} {w : Sl} {l : List T} (C : Col T0 B H H' w l l.length) (hB : B = H.n) {Q : Sl → Hp → Prop} (k : ∀ A, Gr H A → AccL (B + 3) A w l → Q w A) :
  Lt.Ok ((H'.lend (B + 2)).bind fun q3 => if jmp q3.1 = some 0 then ((q3.2.ldSl B 0).bind fun x5 => ck (dfrB [B + 1] q3.2 = true) (some (x5, kill [B + 1] q3.2))) else none) Q := by
 subst hB
 have hn := C.n
 have hend : H'.lend (H.n + 2) = some (none, H'.set (H.n + 2) .dead) := by unfold Hp.lend; rw [C.p]
 refine Lt.Ok.ld hend (Lt.Ok.pos rfl ?_)
 generalize hG : H'.set (H.n + 2) .dead = G
 have oG : ∀ x, x ≠ H.n + 2 → G.get x = H'.get x := fun x hx => by rw [← hG, Hp.get_set_other _ _ hx]
 have nG : G.n = H'.n := by rw [← hG]; simp
 clear hG
 have sG : G.get H.n = some (.cells [.sl w] false) := by rw [oG _ (by omega)]; exact C.o
 have dG : G.get (H.n + 1) = some .dfr := by rw [oG _ (by omega)]; exact C.d
 have ha := C.a
 rw [List.take_of_length_le (Nat.le_refl _)] at ha
 refine Lt.Ok.ld (ldSl_get sG rfl) (Lt.Ok.ck (by simp [dfrB, Hp.isDfr, dG]) (Lt.Ok.ret (k _ ⟨by rw [kill_n]; dsimp only; omega, fun b hb => ?_⟩ (Acc.keep ha fun hw => ?_))))
 ·rw [kill_get (by simp; omega), oG _ (by omega)]; exact C.old b hb
 ·have := lowA ha hw
  rw [kill_get (by simp; omega), oG _ (by omega)]
theorem AccL.own {T : Type} [El T] {n0 : Nat} {H : Hp} {v : Sl} {l : List T} (h : AccL n0 H v l) (hne : l ≠ []) : Own H v l ∧ n0 ≤ v.b := by
 have hl := h.len
 rcases h with ⟨rfl, _⟩ | ⟨h1, h2, h3, h4, h5, h6, h7⟩
 ·exact absurd (List.length_eq_zero_iff.1 hl.symm) hne
 ·exact ⟨⟨h1, h2, hl, by omega, .inr h3, h6⟩, h5⟩
theorem modify_set {α : Type} (cs : List α) {j : Nat} {f : α → α} (hj : j < cs.length) : cs.modify j f = cs.set j (f cs[j]) := by
 apply List.ext_getElem (by simp)
 intro a h1 h2
 rw [List.getElem_modify, List.getElem_set]
 split
 ·next e => subst e; rfl
 ·rfl
theorem round_okC {k B : Nat} {H0 H : Hp} {w : Sl} {l : List Ct} {i : Nat} (h : Col 2 B H0 H w l i) (hi : i < l.length) (hb : l.length ≤ 1000) :
  Lt.Ok (callv (appA (k + 1)) (.yld (B + 2)) [argC l[i]] H) fun r H' => r = .bool true ∧ ∃ w', Col 2 B H0 H' w' l (i + 1) := by
 show Lt.Ok (ydisp (appA k) (B + 2) [argC l[i]] H) _
 unfold ydisp argC
 rw [h.p]
 simp only
 have hn := h.n
 refine Lt.Ok.bind (P := fun r H' => r = none ∧ ∃ w', B + 3 ≤ H'.n ∧ (∀ b, b < B → H'.get b = H0.get b) ∧ H'.get B = some (.cells [.sl w'] false) ∧ H'.get (B + 1) = some .dfr ∧ H'.get (B + 2) = some (.loop .busy none 2 13 [(2, .ptr B 0)]) ∧ AccL (B + 3) H' w' (l.take (i + 1))) ?_ ?_
 ·unfold r297q2
  refine Lt.Ok.alo (.nil H) fun D gD c => ?_
  have hDn := c.e _ (.head _)
  have nD := Hp.get_lt hDn
  refine round_col h hi hb gD (f := fun D => (D.lbegin (B + 2)).bind fun H2 => (H2.ldSl B 0).bind fun x3 => (H2.ldI .i64 H.n 0).bind fun x4 => (H2.ldI .i64 H.n (0 + 1)).bind fun x5 => (H2.ldI .i64 H.n (0 + 2)).bind fun x6 => (H2.apN 3 x3 [.int .i64 x4, .int .i64 x5, .int .i64 x6] 1).bind fun x7 => (x7.2.st B 0 (.sl x7.1)).bind fun H8 => some (none, H8)) rfl fun E e => ?_
  have pD : D.get (B + 2) = some (.loop .ready none 2 13 [(2, .ptr B 0)]) := by rw [gD.2 _ (by omega)]; exact h.p
  have hbeg : D.lbegin (B + 2) = some E := by unfold Hp.lbegin; rw [pD, e]
  have hEn : E.get H.n = some (.cells [.int .i64 l[i].1, .int .i64 l[i].2.1, .int .i64 l[i].2.2] false) := by rw [e, Hp.get_set_other _ _ (by omega)]; exact hDn
  try dsimp only
  rw [hbeg]
  simp only [Option.bind_some]
  congr 1
  funext x3
  rw [ldI_get (n := l[i].1) hEn rfl]
  simp only [Option.bind_some]
  rw [ldI_get (n := l[i].2.1) hEn rfl]
  simp only [Option.bind_some]
  rw [ldI_get (n := l[i].2.2) hEn rfl]
  rfl
 ·rintro r H' ⟨rfl, w', h1, h2, h3, h4, h5, h6⟩
  obtain ⟨A, e, C⟩ := col_next h1 h2 h3 h4 h5 h6
  dsimp only
  rw [e]
  exact Lt.Ok.ret ⟨rfl, w', C⟩
theorem r234_ok {k : Nat} {H : Hp} {c : Nat} {v : Sl} {l : List Ct} (hc : H.get c = some (.cells [.sl v] false)) (hv : SL H v l) (hb : l.length ≤ 1000) :
  Lt.Ok (r234 (appA (k + 2)) (.fn 236 [] [.ptr c 0]) H) fun w H' => Gr H H' ∧ AccL (H.n + 3) H' w l := by
 unfold r234
 refine Lt.Ok.bind (P := fun w H' => Gr H H' ∧ AccL (H.n + 3) H' w l) ?_ fun w H' h => Lt.Ok.ret h
 unfold r297
 refine Lt.Ok.lt ?_
 have n1 : (H.push (.cells [.sl ⟨true, 0, 0, 0, 0, 0⟩] false)).n = H.n + 1 := by simp
 rw [n1]
 have hlen := hv.len
 have C0 := col_start 2 H l
 have gA : Gr H (((H.push (.cells [.sl ⟨true, 0, 0, 0, 0, 0⟩] false)).push .dfr).push (.loop .ready none 2 13 [(2, .ptr H.n 0)])) := (Gr.push _ _).trans ((Gr.push _ _).trans (.push _ _))
 generalize ((H.push (.cells [.sl ⟨true, 0, 0, 0, 0, 0⟩] false)).push .dfr).push (.loop .ready none 2 13 [(2, .ptr H.n 0)]) = A at *
 have hcl := Hp.get_lt hc
 refine Lt.Ok.bind (P := fun _ H' => ∃ w, Col 2 H.n H H' w l l.length) ?_ ?_
 ·show Lt.Ok ((r236 (appA (k + 1)) (.yld (H.n + 2)) c A).map fun p => (AV.tup [], p.2)) _
  have h1 : Lt.Ok (r236 (appA (k + 1)) (.yld (H.n + 2)) c A) fun _ H' => ∃ w, Col 2 H.n H H' w l l.length := by
   unfold r236
   refine Lt.Ok.ld (ldSl_get (by rw [gA.2 _ hcl]; exact hc) rfl) ?_
   rw [hlen]
   refine Lt.Ok.loop (L := fun K (s : Int) H' => r236_l0 (appA (k + 1)) K (.yld (H.n + 2)) v l.length s H') (fun m s H' => ∃ i : Nat, s = i ∧ i + m = l.length ∧ ∃ w, Col 2 H.n H H' w l i) ?_ FUEL l.length 0 A (by unfold FUEL; omega) ⟨0, rfl, by omega, _, C0⟩
   rintro K m s H1 ⟨i, rfl, hm, w, C⟩ ih
   try dsimp only at *
   rw [r236_l0]
   by_cases h : i < l.length
   ·have gH : Gr H H1 := ⟨by have := C.n; omega, C.old⟩
    obtain ⟨a0, a1, a2⟩ := ld3 (hv.gr gH) h
    refine Lt.Ok.pos (by omega) (Lt.Ok.ck (by omega) (Lt.Ok.ld a0 (Lt.Ok.ld a1 (Lt.Ok.ld a2 ?_))))
    refine Lt.Ok.alo (.nil H1) fun E gE ce => ?_
    refine Lt.Ok.cld ce (.head _) (n := l[i].1) rfl (Lt.Ok.cld ce (.head _) (n := l[i].2.1) rfl (Lt.Ok.cld ce (.head _) (n := l[i].2.2) rfl ?_))
    have hn := C.n
    have gEn := gE.1
    have CE : Col 2 H.n H E w l i := ⟨by omega, fun b hb => by rw [gE.2 _ (by omega)]; exact C.old b hb, by rw [gE.2 _ (by omega)]; exact C.o, by rw [gE.2 _ (by omega)]; exact C.d, by rw [gE.2 _ (by omega)]; exact C.p, C.a.gr gE⟩
    refine Lt.Ok.bind (round_okC CE h hb) fun r H2 ⟨hr, w', C2⟩ => ?_
    subst hr
    refine Lt.Ok.ld rfl (Lt.Ok.pos rfl ?_)
    rw [w64_succ (by omega)]
    exact ih (m - 1) _ H2 (by omega) ⟨i + 1, rfl, by omega, w', C2⟩
   ·have hi : i = l.length := by omega
    subst hi
    exact Lt.Ok.neg (by omega) (Lt.Ok.ret ⟨w, C⟩)
  obtain ⟨u, H', e, h⟩ := h1
  rw [e]
  exact Lt.Ok.ret h
 ·rintro r H' ⟨w, C⟩
  exact col_endA C rfl fun A g h => ⟨g, h⟩
theorem r126_ok {k : Nat} {n0 : Nat} {H : Hp} {b : Nat} {kk : Int} {v : Sl} {cs : List Ct} (h : LI n0 H b kk v cs) (hb : cs.length ≤ 8) : Lt.Ok (r126 (appA (k + 2)) b 0 H) fun w A => Gr H A ∧ ∃ q, SL A w q ∧ q.Perm cs := by
 unfold r126
 refine Lt.Ok.ld (ldSl_get h.get rfl) ?_
 have g0 := Gr.push H (.cells [.sl v] false)
 have hg := Hp.get_push_new H (.cells [.sl v] false)
 have key : r177 v H = some (.fn 236 [] [.ptr H.n 0], H.push (.cells [.sl v] false)) := rfl
 refine Lt.Ok.ld key ?_
 generalize H.push (.cells [.sl v] false) = A at *
 unfold r176
 refine Lt.Ok.bind (P := fun w B => Gr H B ∧ ∃ q, SL B w q ∧ q.Perm cs) ?_ fun w B h => Lt.Ok.ret h
 refine Lt.Ok.bind (r234_ok (k := k) hg (h.buf.sl.gr g0) (by omega)) fun w B ⟨gB, ha⟩ => ?_
 have n0' := g0.1
 dsimp only at ha ⊢
 by_cases hne : cs = []
 ·subst hne
  have hl := ha.len
  refine Lt.Ok.bind (r235_none (k := k + 1) (v := w) hl) fun _ C e => ?_
  dsimp only
  rw [e]
  exact Lt.Ok.ret ⟨g0.trans gB, [], ha.sl, .refl _⟩
 ·obtain ⟨ho, hw⟩ := AccL.own ha hne
  refine Lt.Ok.bind (r235_ok (says178 _) (by omega) ho) fun _ C ⟨q, o, oo, hp⟩ => ?_
  refine Lt.Ok.ret ⟨⟨Nat.le_trans (g0.trans gB).1 oo.1, fun b hb => ?_⟩, q, o.sl, hp⟩
  rw [oo.2 b (Nat.lt_of_lt_of_le hb (g0.trans gB).1) (by omega)]
  exact (g0.trans gB).2 b hb
theorem le_sumN : ∀ (cs : List Ct), (∀ c ∈ cs, 1 ≤ c.2.1) → ∀ c ∈ cs, c.2.1 ≤ sumN cs
 | [], _, c, h => by cases h
 | d :: cs, h, c, hc => by
  have h1 := h d (by simp)
  have h2 := sumN_nn (cs := cs) fun c hc => h c (by simp [hc])
  simp only [sumN]
  rcases List.mem_cons.1 hc with rfl | hc
  ·omega
  ·have := le_sumN cs (fun c hc => h c (by simp [hc])) c hc
   omega
theorem mg_rng {k : Nat} (hk : 1 ≤ k) (l : List Int) : ∀ c ∈ mg k l, 1 ≤ c.2.1 ∧ c.2.1 ≤ l.length := fun c hc => by
 obtain ⟨_, h2, _, D, hD, hs, _⟩ := mg_ok k hk l
 have := le_sumN _ h2 c hc
 have : 0 ≤ D * ((k : Int) + 1) := Int.mul_nonneg hD (by omega)
 exact ⟨h2 c hc, by omega⟩
theorem app71 (k b : Nat) (x : Int) (H : Hp) : callv (appA (k + 1)) (.fn 71 [] []) [.ptr b 0, .int .i64 x] H = (r71 (appA k) b 0 x H).map fun p => (.tup [], p.2) := rfl
theorem r72_ok {k : Nat} {n0 : Nat} {H : Hp} {b : Nat} {kk : Nat} {v : Sl} {l : List Int} (hk : 1 ≤ kk ∧ kk ≤ 8) (hv : SL H v l) (hl : l.length ≤ 40) (h : LI n0 H b kk ⟨true, 0, 0, 0, 0, 0⟩ []) (hlow : l ≠ [] → v.b < n0) :
  Lt.Ok (r72 (appA (k + 2)) b 0 v H) fun w A => Below n0 H A ∧ ∃ q, SL A w q ∧ q.Perm (mg kk l) := by
 unfold r72
 have hlen := hv.len
 have hbn : n0 ≤ H.n := Nat.le_trans h.lo (Nat.le_of_lt (Hp.get_lt h.get))
 refine Lt.Ok.loop (L := fun K (i : Int) D => r72_l0 (appA (k + 2)) K b 0 v (v.len : Int) i D) (fun m i' D => ∃ (i : Nat) (w : Sl), i' = (i : Int) ∧ i + m = l.length ∧ LI n0 D b kk w (mg kk (l.take i)) ∧ Below n0 H D) ?_ FUEL l.length 0 H (by unfold FUEL; omega) ⟨0, _, rfl, by omega, h, Nat.le_refl _, fun _ _ => rfl⟩
 rintro K m i' D ⟨i, w, rfl, him, hD, gD⟩ ih
 have hvD : SL D v l := SL.sp hv fun hne => gD.2 _ (hlow hne)
 have hI := mg_ok kk hk.1 (l.take i)
 have hlk := hI.len
 have hrng := mg_rng hk.1 (l.take i)
 have hwl := hD.buf.len
 have hDn : n0 ≤ D.n := Nat.le_trans hbn gD.1
 rw [r72_l0]
 refine Lt.Ok.ite (fun hlt => ?_) fun hlt => ?_
 ·have hil : i < l.length := by omega
  have hstep : mg kk (l.take (i + 1)) = mgStep kk (mg kk (l.take i)) l[i] := by rw [List.take_succ_eq_append_getElem hil, mg_snoc]
  refine Lt.Ok.ck (by omega) (Lt.Ok.ld (hvD.ldI (i := i) (j := 0) (n := l[i]) hil rfl) ?_)
  refine Lt.Ok.bind (r125_ok (k := k + 1) hD (by omega) l[i]) fun r E ⟨gE, hr⟩ => ?_
  dsimp only
  subst hr
  have hE := hD.gr gE
  have gHE := gD.trans (Below.of_gr gE hDn)
  rw [List.length_take] at hrng
  unfold mgStep at hstep
  cases hat : atC (mg kk (l.take i)) l[i] with
  | some j =>
   rw [hat] at hstep
   dsimp only at hstep
   obtain ⟨hj, _, _⟩ := List.findIdx?_eq_some_iff_getElem.1 hat
   obtain ⟨c1, c2⟩ := hrng _ (List.getElem_mem hj)
   obtain ⟨_, e1, _⟩ := ld3 hE.buf.sl hj
   dsimp only [idxI]
   refine Lt.Ok.pos (by omega) (Lt.Ok.ld (ldSl_get hE.get rfl) (Lt.Ok.ck (by omega) (Lt.Ok.ld e1 (Lt.Ok.ck (by omega) ?_))))
   rw [w64_id (n := (mg kk (l.take i))[j].2.1 + 1) (by omega) (by omega)]
   refine Buf.st hE.buf (i := j) (j := 1) hj (by decide) ((mg kk (l.take i))[j].1, (mg kk (l.take i))[j].2.1 + 1, (mg kk (l.take i))[j].2.2) rfl fun F hF gF nF => ?_
   obtain ⟨h1, h2⟩ := hE.but hF gF
   rw [w64_succ (by omega)]
   refine ih (m - 1) _ F (by omega) ⟨i + 1, w, rfl, by omega, ?_, gHE.trans h2⟩
   rw [hstep, modify_set _ hj]
   exact h1
  | none =>
   rw [hat] at hstep
   dsimp only at hstep
   dsimp only [idxI]
   refine Lt.Ok.neg (by decide) (Lt.Ok.ld (ldSl_get hE.get rfl) (Lt.Ok.ld (ldI_get hE.get rfl) ?_))
   refine Lt.Ok.ite (fun hc => ?_) fun hc => ?_
   ·rw [if_pos (by omega)] at hstep
    refine Lt.Ok.ld (ldSl_get hE.get rfl) ?_
    refine Lt.Ok.bind (Buf.push hE.buf (by have := Hp.get_lt hE.get; omega) (l[i], 1, 0) rfl rfl (by omega)) fun w' F ⟨hF, gF, _⟩ => ?_
    dsimp only
    refine hE.into hF gF.1 fun G hG gG => ?_
    rw [w64_succ (by omega)]
    exact ih (m - 1) _ G (by omega) ⟨i + 1, w', rfl, by omega, by rw [hstep]; exact hG, gHE.trans gG⟩
   ·rw [if_neg (by omega)] at hstep
    have ev : E.ldV b (0 + 1) = some (.fn 71 [] []) := by simp [Hp.ldV, ld_of_get hE.get, AV.isU]
    refine Lt.Ok.ld ev ?_
    rw [app71]
    refine Lt.Ok.bind (P := fun _ F => ∃ w', LI n0 F b kk w' (((mg kk (l.take i)).map lessC).filter keepC) ∧ Below n0 E F) ?_ fun _ F ⟨w', hF, gF⟩ => ?_
    ·obtain ⟨u, F, e, hF⟩ := r71_ok (k := k) hE (by omega) (fun c hc => by have := hrng c hc; omega) l[i]
     rw [e]
     exact Lt.Ok.ret hF
    ·dsimp only
     rw [w64_succ (by omega)]
     exact ih (m - 1) _ F (by omega) ⟨i + 1, w', rfl, by omega, by rw [hstep]; exact hF, gHE.trans gF⟩
 ·have : i = l.length := by omega
  subst this
  rw [List.take_length] at hD hlk
  refine Lt.Ok.bind (r126_ok (k := k) hD (by omega)) fun r E ⟨gE, q, hq, hp⟩ => ?_
  exact Lt.Ok.ret ⟨gD.trans (Below.of_gr gE hDn), q, hq, hp⟩
theorem r26_ok {k : Nat} {H : Hp} {v : Sl} {l : List Int} (hv : SL H v l) (hl : Keys l) (n : Int) :
  Lt.Ok (r26 (appA (k + 2)) n v H) fun r A => Gr H A ∧ if 1 ≤ n ∧ n ≤ 8 then r.2 = 0 ∧ ∃ q, SL A r.1 q ∧ q.Perm (mg n.toNat l) else r = (nilS, 2) := by
 unfold r26
 have e68 : r68 n H = some (decide (1 ≤ n ∧ n ≤ 8), H) := by
  unfold r68
  by_cases h1 : 1 ≤ n
  ·rw [if_pos h1]; simp [h1]
  ·rw [if_neg h1]; simp [h1]
 refine is e68 ?_
 dsimp only
 by_cases hc8 : 1 ≤ n ∧ n ≤ 8
 ·simp only [if_pos hc8]
  refine Lt.Ok.pos (decide_eq_true hc8) (Lt.Ok.bind (r69_ok (k := k + 1) hv hl) fun r A ⟨gA, hr⟩ => ?_)
  unfold r26_j0
  dsimp only
  rw [hr]
  refine Lt.Ok.neg (by simp) ?_
  have g1 := Gr.push A (.cells [.int .i64 n, .fn 71 [] [], .sl ⟨true, 0, 0, 0, 0, 0⟩] false)
  have hg1 := Hp.get_push_new A (.cells [.int .i64 n, .fn 71 [] [], .sl ⟨true, 0, 0, 0, 0, 0⟩] false)
  generalize A.push (.cells [.int .i64 n, .fn 71 [] [], .sl ⟨true, 0, 0, 0, 0, 0⟩] false) = B at *
  obtain ⟨m, rfl⟩ := Int.eq_ofNat_of_zero_le (show 0 ≤ n by omega)
  refine Lt.Ok.bind (r72_ok (k := k) (kk := m) (n0 := A.n) (by omega) ((hv.gr gA).gr g1) hl.1 ⟨hg1, Nat.le_refl _, .inl ⟨rfl, rfl⟩⟩ fun hne => ?_) fun w D ⟨gD, q, hq, hp⟩ => ?_
  ·exact SL.lt (hv.gr gA) hne
  ·refine Lt.Ok.ret ⟨⟨Nat.le_trans (gA.trans g1).1 gD.1, fun b hb => ?_⟩, rfl, q, hq, hp⟩
   rw [gD.2 b (Nat.lt_of_lt_of_le hb gA.1), (gA.trans g1).2 b hb]
 ·simp only [if_neg hc8]
  refine Lt.Ok.neg (by simpa using hc8) ?_
  unfold r26_j0
  exact Lt.Ok.pos rfl (Lt.Ok.ret ⟨.refl _, rfl⟩)
theorem opened_ok {k : Nat} {H : Hp} {v : Sl} {l : List ByteArray} (hv : SL H v l) (hb : ∀ a ∈ l, a.size ≤ 4194304) :
  Lt.Ok (r10 (appA (k + 2)) v H) fun r A => r.2 = 0 ∧ Gr H A ∧ H.n ≤ r.1 ∧ ∃ pv C t, ChAt A r.1 pv C t ∧ C.Ok ∧ H.n ≤ pv.b := by
 unfold r10
 refine Lt.Ok.bind new_ok fun r A ⟨h0, g, hc, pv, t0, hA, hp⟩ => ?_
 obtain ⟨c, o⟩ := r
 dsimp only at h0 hc hA ⊢
 subst h0
 have hl := hv.len
 have hcap := hv.cap
 have hopn : v.opn = 0 ∨ v.opn = 1 := hv.opn
 generalize hN : (if 100 < (v.len : Int) then (100 : Int) else (v.len : Int)) = N
 obtain ⟨n, rfl⟩ : ∃ n : Nat, N = n := by
  split at hN
  ·exact ⟨100, by omega⟩
  ·exact ⟨v.len, by omega⟩
 have hn : n ≤ v.len ∧ n ≤ 100 := by split at hN <;> omega
 refine Lt.Ok.ck (by refine ⟨?_, hopn⟩; omega) ?_
 simp only [Int.toNat_zero, Int.toNat_natCast]
 have hcut : SL A (v.cut 1 0 n) (l.take n) := by
  have := (hv.gr g).cut (lo := 0) (hi := n) (by omega) (by omega)
  rw [List.drop_zero, Nat.sub_zero] at this
  exact this
 have hln : (l.take n).length = n := by rw [List.length_take]; omega
 have hcl := hcut.len
 generalize hw : v.cut 1 0 n = w at *
 have hwb : (l.take n) ≠ [] → w.b < H.n := fun hne => by
  have hvne : l ≠ [] := fun e => hne (by rw [e]; simp)
  have := SL.lt hv hvne
  have hnn := hv.nonnil hvne
  rw [← hw]
  simp [Sl.cut, hnn]
  exact this
 refine Lt.Ok.loop (L := fun K (i : Int) D => r10_l0 (appA (k + 2)) K c 0 w (w.len : Int) i D) (fun m i' D => ∃ (i : Nat) (pe : Sl) (E : Chs) (te : Nat), i' = (i : Int) ∧ i + m = n ∧ Gr H D ∧ ChAt D c pe E te ∧ E.Ok ∧ H.n ≤ pe.b ∧ SL D w (l.take n)) ?_ FUEL n 0 A (by unfold FUEL; omega) ⟨0, pv, Chs.new, t0, rfl, by omega, g, hA, Chs.new_ok, hp, hcut⟩
 rintro K m i' D ⟨i, pe, E, te, rfl, him, gD, hD, hE, hpe, hs⟩ ih
 rw [r10_l0]
 refine Lt.Ok.ite (fun hlt => ?_) fun hlt => ?_
 ·have hil : i < (l.take n).length := by omega
  have hsz := hb _ (List.mem_of_mem_take (List.getElem_mem hil))
  have e0 : D.ldStr w.b (w.o + ((i : Int)).toNat * 1) = some (l.take n)[i] := SL.ldStr hs (i := i) (j := 0) hil rfl
  refine Lt.Ok.ck (by omega) (Lt.Ok.ld e0 ?_)
  refine Lt.Ok.bind (do_ok (k := k) hD hE hsz) fun rd G ⟨hr, pe', te', hG, sG⟩ => ?_
  dsimp only
  have gn := gD.1
  have gG := sG.gr gD hc hpe
  have hsG : SL G w (l.take n) := SL.sp hs fun hne => sG.e _ (by have := hwb hne; omega) (by have := hwb hne; omega) (by have := hwb hne; omega)
  rw [w64_succ (by omega)]
  exact ih (m - 1) _ G (by omega) ⟨i + 1, pe', _, te', rfl, by omega, gG, hG, Chs.do_ok hE _, by rcases sG.q with e | e <;> omega, hsG⟩
 ·exact Lt.Ok.ret ⟨rfl, gD, hc, pe, E, te, hD, hE, hpe⟩
theorem words1_ok {k : Nat} {H : Hp} {v : Sl} {n : Int} (hv : SL H v [n]) (h0 : -9223372036854775808 ≤ n ∧ n ≤ 9223372036854775807) (hs : (itoaA n).size ≤ 1000) : Lt.Ok (r19 (appA (k + 1)) v H) fun r A => Gr H A ∧ r = ByteArray.mk #[32] ++ itoaA n := by
 unfold r19
 have hl := hv.len
 simp only [List.length_cons, List.length_nil] at hl
 obtain ⟨K, hK⟩ : ∃ K, FUEL = K + 2 := ⟨FUEL - 2, by unfold FUEL; omega⟩
 rw [hK, r19_l0]
 have z1 : (ByteArray.mk #[32]).size = 1 := rfl
 have z0 : (ByteArray.mk #[]).size = 0 := rfl
 refine Lt.Ok.pos (by omega) (Lt.Ok.ck (by omega) (Lt.Ok.ld (hv.ldI (i := 0) (j := 0) (n := n) (by simp) rfl) ?_))
 rw [app33]
 unfold itoaP
 rw [if_pos h0]
 simp only [Option.bind_some, AV.asStr]
 refine Lt.Ok.ck (by omega) (Lt.Ok.ck (by simp only [ByteArray.size_append]; omega) ?_)
 rw [show w64 ((0 : Int) + 1) = 1 by decide +kernel, r19_l0]
 refine Lt.Ok.neg (by omega) (Lt.Ok.ret ⟨.refl _, ?_⟩)
 rw [show (ByteArray.mk #[]) = ByteArray.empty from rfl, ByteArray.empty_append]
/-! ### names and numbers, as the reference reads them -/
def lowB (c : UInt8) : Bool := decide (97 ≤ c.toNat ∧ c.toNat ≤ 122)
theorem bget (w : ByteArray) (p : Nat) (h : p < w.size) : w[p]'h = w.data.toList[p]'(by rw [Array.length_toList]; exact h) := by
 rw [Array.getElem_toList]; rfl
theorem nameF_eq (w : ByteArray) : ∀ (k p : Nat), p ≤ w.size → w.size < p + k → nameF w k p = ((w.data.toList.drop p).all lowB && !strEq w (ByteArray.mk #[]) && decide (w.size ≤ 8))
 | 0, p, h0, h => by omega
 | k + 1, p, h0, h => by
  unfold nameF
  by_cases hp : p < w.size
  ·rw [if_pos hp]
   have hl : p < w.data.toList.length := by rw [Array.length_toList]; exact hp
   rw [List.drop_eq_getElem_cons hl, List.all_cons]
   by_cases ha : (w[p]'hp).toNat < 128
   ·rw [decode_ascii w p hp ha]
    have e := bget w p hp
    have ih := nameF_eq w k (p + 1) (by omega) (by omega)
    dsimp only
    rw [← e]
    by_cases h1 : ((w[p]'hp).toNat : Int) < 97
    ·rw [if_pos h1]
     have : lowB (w[p]'hp) = false := by unfold lowB; rw [decide_eq_false]; omega
     rw [this]; simp
    ·rw [if_neg h1]
     by_cases h2 : 122 < ((w[p]'hp).toNat : Int)
     ·rw [if_pos h2]
      have : lowB (w[p]'hp) = false := by unfold lowB; rw [decide_eq_false]; omega
      rw [this]; simp
     ·rw [if_neg h2]
      have : lowB (w[p]'hp) = true := by unfold lowB; rw [decide_eq_true]; omega
      rw [this, ih]; simp
   ·have hd := (decode_high w p hp (by omega)).1
    have e := bget w p hp
    rw [← e]
    have : lowB (w[p]'hp) = false := by unfold lowB; rw [decide_eq_false]; omega
    rw [this]
    rw [if_neg (by omega), if_pos (by omega)]; simp
  ·rw [if_neg hp]
   have : w.data.toList.drop p = [] := List.drop_of_length_le (by rw [Array.length_toList]; show w.data.size ≤ p; have : w.data.size = w.size := rfl; omega)
   rw [this]
   cases hs : strEq w (ByteArray.mk #[]) with
   | true => simp
   | false =>
    simp only [Bool.false_eq_true, if_false, List.all_nil, Bool.not_false, Bool.true_and]
    rw [decide_eq_decide]; omega
theorem isNameS_eq (w : ByteArray) : isNameS w = (decide (1 ≤ w.size ∧ w.size ≤ 8) && w.data.toList.all lowB) := by
 unfold isNameS
 rw [nameF_eq w _ 0 (Nat.zero_le _) (by omega), List.drop_zero]
 have hs : strEq w (ByteArray.mk #[]) = decide (w.size = 0) := by
  cases hx : strEq w (ByteArray.mk #[]) with
  | true => rw [strEq_iff.1 hx]; rfl
  | false =>
   symm
   rw [decide_eq_false]
   intro h0
   have : w = ByteArray.mk #[] := by
    cases w with | mk a =>
    have h0 : a.size = 0 := h0
    rw [Array.eq_empty_of_size_eq_zero h0]
   rw [this] at hx
   exact absurd hx (by decide +kernel)
 rw [hs]
 cases w.data.toList.all lowB with
 | false => simp
 | true =>
  simp only [Bool.true_and, Bool.and_true]
  by_cases h0 : w.size = 0
  ·simp [h0]
  ·by_cases h8 : w.size ≤ 8
   ·rw [decide_eq_false h0, decide_eq_true h8, decide_eq_true ⟨by omega, h8⟩]; rfl
   ·rw [decide_eq_false h8, decide_eq_false (p := 1 ≤ w.size ∧ w.size ≤ 8) fun h => h8 h.2, Bool.and_false]
theorem strCnt_cnt (s : ByteArray) : strCnt s 32 = (s.data.toList.count 32 : Nat) := by
 unfold strCnt
 rw [Lib.foldl_data, show ((0 : Nat) : Int) = 0 from rfl, Lib.count_foldl]
 unfold Lib.countByte
 simp
theorem strIdx_none {s : ByteArray} (h : strCnt s 32 = 0) : strIdx s 32 < 0 := by
 rw [strCnt_cnt] at h
 unfold strIdx
 split
 ·rename_i i hi
  exfalso
  have h1 := List.find?_some hi
  have h2 := List.mem_range.1 (List.mem_of_find?_eq_some hi)
  have h3 : s[i]'h2 = 32 := by
   have : s[i]! = s[i]'h2 := getElem!_pos s i h2
   rw [this] at h1
   have := beq_iff_eq.1 h1
   rw [this]; rfl
  have h4 : (32 : UInt8) ∈ s.data.toList := by
   rw [← h3, bget s i h2]
   exact List.getElem_mem _
  have := List.count_pos_iff.2 h4
  omega
 ·decide
theorem words_head (s : ByteArray) : ∃ r, words s = wordS s :: r := by
 obtain ⟨k, hk, _⟩ := strCnt_eq s 32
 unfold words wordS
 rw [hk]
 simp only [Int.toNat_natCast]
 cases k with
 | zero =>
  have := strIdx_none (s := s) (by rw [hk]; rfl)
  rw [if_neg (by omega)]
  exact ⟨[], rfl⟩
 | succ k =>
  unfold wordsN
  by_cases h : strIdx s 32 < 0
  ·rw [if_pos h, if_neg (by omega)]; exact ⟨[], rfl⟩
  ·rw [if_neg h, if_pos (by omega)]; exact ⟨_, rfl⟩
def b1 : ByteArray := ByteArray.mk #[49]
theorem parse_dS {x : ByteArray} {fs : List UInt8} {xs : List ByteArray} {p : List ByteArray × List Int} (h : parseS (100 :: fs) (x :: xs) = some p) : ∃ n, numS x = some n ∧ ∃ q, parseS fs xs = some q ∧ p = (q.1, n :: q.2) := by
 rw [parseS, if_neg (by decide)] at h
 obtain ⟨n, hn, h⟩ := Option.bind_eq_some_iff.1 h
 obtain ⟨q, hq, e⟩ := Option.map_eq_some_iff.1 h
 exact ⟨n, hn, q, hq, e.symm⟩
theorem readS_tail {form text : ByteArray} {p : List ByteArray × List Int} (h : readS form text = some p) : ∃ ws : List ByteArray, words text = wordS text :: ws ∧ ws.length = form.size ∧ parseS form.data.toList ws = some p := by
 obtain ⟨r, hr⟩ := words_head text
 unfold readS at h
 rw [hr] at h
 split at h
 ·rename_i hc; exact ⟨r, hr, hc.1, h⟩
 ·cases h
theorem three {α : Type} {l : List α} (h : l.length = 3) : ∃ a b c, l = [a, b, c] := by
 match l, h with
 | [a, b, c], _ => exact ⟨a, b, c, rfl⟩
inductive Did (s t : St) (text : ByteArray) : Prop
 | leaf (a x : ByteArray) (n : Int) (hw : words text = [wLeaf, a, x]) (hn : numS x = some n) (hs : (s.find a).isSome = false) (ht : t = { s with leaves := s.leaves ++ [(a, n)] })
 | give (a b x : ByteArray) (n : Int) (i j : Nat) (hw : words text = [wGive, a, b, x]) (hn : numS x = some n) (hi : s.find a = some i) (hj : s.find b = some j) (hij : i ≠ j) (h1 : 1 ≤ n) (h20 : n ≤ 20) (hd : 2 * n ≤ stock s i - stock s j) (ht : t = setStock (setStock s i (stock s i - n)) j (stock s j + n))
 | order (a : ByteArray) (i : Nat) (hw : words text = [wOrder, a]) (hi : s.find a = some i) (h0 : stock s i ≠ 0) (ho : s.orders.length ≠ 40) (ht : t = { setStock s i (stock s i - 1) with orders := s.orders ++ [(i : Int)] })
 | taste (x y : ByteArray) (i j : Int) (hw : words text = [wTaste, x, y]) (hi : numS x = some i) (hj : numS y = some j) (h1 : i ≤ 1) (h2 : j ≤ 1) (ht : t = if i = 0 then if j = 0 then { s with t0 := s.t0 + 1 } else { s with t1 := s.t1 + 1 } else if j = 0 then { s with t2 := s.t2 + 1 } else { s with t3 := s.t3 + 1 })
 | offer (x y : ByteArray) (i j : Int) (hw : words text = [wOffer, x, y]) (hi : numS x = some i) (hj : numS y = some j) (ht : t = { s with offers := s.offers ++ [(i, j)] })
theorem did_of {s t : St} {text w : ByteArray} (h : doS s text = (.inr t, w)) : Did s t text := by
 unfold doS at h
 split at h
 ·rename_i hw
  have hw := strEq_iff.1 hw
  obtain ⟨_, p, hr, hf⟩ := act_ok h
  obtain ⟨ws, h1, h2, h3⟩ := readS_tail hr
  obtain ⟨a, x, rfl⟩ := two (show ws.length = 2 from h2)
  obtain ⟨_, q1, g1, rfl⟩ := parse_n (show parseS [110, 100] [a, x] = some p from h3)
  obtain ⟨n, hn, q2, g2, rfl⟩ := parse_dS g1
  obtain rfl := parse_nil g2
  have hf : leafS s a n = .inr t := hf
  unfold leafS at hf
  split at hf
  ·cases hf
  rename_i hs
  split at hf
  ·cases hf
  split at hf
  ·cases hf
  injection hf with hf
  exact .leaf a x n (by rw [h1, hw]) hn (by simpa using hs) hf.symm
 split at h
 ·rename_i hw
  have hw := strEq_iff.1 hw
  obtain ⟨_, p, hr, hf⟩ := act_ok h
  obtain ⟨ws, h1, h2, h3⟩ := readS_tail hr
  obtain ⟨a, b, x, rfl⟩ := three (show ws.length = 3 from h2)
  obtain ⟨_, q1, g1, rfl⟩ := parse_n (show parseS [110, 110, 100] [a, b, x] = some p from h3)
  obtain ⟨_, q2, g2, rfl⟩ := parse_n g1
  obtain ⟨n, hn, q3, g3, rfl⟩ := parse_dS g2
  obtain rfl := parse_nil g3
  have hf : giveS s a b n = .inr t := hf
  unfold giveS at hf
  split at hf
  ·rename_i i j hi hj
   split at hf
   ·rename_i hc
    injection hf with hf
    exact .give a b x n i j (by rw [h1, hw]) hn hi hj hc.1 hc.2.1 hc.2.2.1 hc.2.2.2 hf.symm
   ·cases hf
  ·cases hf
 split at h
 ·rename_i hw
  have hw := strEq_iff.1 hw
  obtain ⟨_, p, hr, hf⟩ := act_ok h
  obtain ⟨ws, h1, h2, h3⟩ := readS_tail hr
  obtain ⟨a, rfl⟩ := List.length_eq_one_iff.1 (show ws.length = 1 from h2)
  obtain ⟨_, q1, g1, rfl⟩ := parse_n (show parseS [110] [a] = some p from h3)
  obtain rfl := parse_nil g1
  have hf : orderS s a = .inr t := hf
  unfold orderS at hf
  split at hf
  ·cases hf
  ·rename_i i hi
   split at hf
   ·cases hf
   rename_i h0
   split at hf
   ·cases hf
   rename_i h40
   injection hf with hf
   exact .order a i (by rw [h1, hw]) hi h0 h40 hf.symm
 split at h
 ·rename_i hw
  have hw := strEq_iff.1 hw
  obtain ⟨_, p, hr, hf⟩ := act_ok h
  obtain ⟨ws, h1, h2, h3⟩ := readS_tail hr
  obtain ⟨x, y, rfl⟩ := two (show ws.length = 2 from h2)
  obtain ⟨i, hi, q1, g1, rfl⟩ := parse_dS (show parseS [100, 100] [x, y] = some p from h3)
  obtain ⟨j, hj, q2, g2, rfl⟩ := parse_dS g1
  obtain rfl := parse_nil g2
  have hf : tasteS s i j = .inr t := hf
  unfold tasteS at hf
  split at hf
  ·cases hf
  rename_i hc
  split at hf
  ·cases hf
  injection hf with hf
  exact .taste x y i j (by rw [h1, hw]) hi hj (by omega) (by omega) hf.symm
 split at h
 ·rename_i hw
  have hw := strEq_iff.1 hw
  obtain ⟨_, p, hr, hf⟩ := act_ok h
  obtain ⟨ws, h1, h2, h3⟩ := readS_tail hr
  obtain ⟨x, y, rfl⟩ := two (show ws.length = 2 from h2)
  obtain ⟨i, hi, q1, g1, rfl⟩ := parse_dS (show parseS [100, 100] [x, y] = some p from h3)
  obtain ⟨j, hj, q2, g2, rfl⟩ := parse_dS g1
  obtain rfl := parse_nil g2
  have hf : offerS s i j = .inr t := hf
  unfold offerS at hf
  split at hf
  ·cases hf
  split at hf
  ·cases hf
  split at hf
  ·cases hf
  injection hf with hf
  exact .offer x y i j (by rw [h1, hw]) hi hj hf.symm
 ·cases h
theorem numS_atoi {x : ByteArray} {n : Int} (h : numS x = some n) : Lib.atoiAll x.data.toList = .ok n ∧ 0 ≤ n := by
 have h0 := numS_nonneg h
 unfold numS at h
 split at h
 ·rename_i v hv
  split at h
  ·injection h with h; subst h; exact ⟨hv, h0⟩
  ·cases h
 ·cases h
end Go.Lt.P10
