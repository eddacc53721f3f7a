/- PLAIN LAWS OF WHAT IS COMPUTED, for the statement 'ChestGives'. Nothing is asked of the input. -/
import Derived.Test.YtopildlfbhfghaaGreatDoorU6CFl
import Derived.Test.YtopildlfbhfghaaGreatDoorU6CWb
import Derived.Test.YtopildlfbhfghaaGreatDoorU6CSl
set_option linter.unusedVariables false
set_option linter.unusedSimpArgs false
namespace Go.Lt.P10
open Go Go.Lt Go.Proofs
section
variable {H : Hp} {c : Nat} {pv : Sl} {C : Chs} {t : Nat}
theorem fork_l0 {H : Hp} {v w : Sl} {xs ys : List Nat} {a : Nat} (hx : SL H v (ints xs)) (hy : SL H w (ints ys)) (hbx : xs.length ≤ 4194305) (hby : ys.length ≤ 4194305) :
  Lt.Ok (r127_l0 FUEL (a : Int) v w H) fun r A => A = H ∧ r.1 = ((forkL xs ys a).1 : Int) ∧ SL H r.2 (ints (forkL xs ys a).2) ∧ ((forkL xs ys a).2 ≠ [] → r.2.b = w.b) := by
 refine Lt.Ok.loop (L := fun K (s : Int × Sl × Sl) A => r127_l0 K s.1 s.2.1 s.2.2 A) (fun m s A => A = H ∧ ∃ (a' : Nat) (xs' ys' : List Nat), s.1 = (a' : Int) ∧ SL H s.2.1 (ints xs') ∧ SL H s.2.2 (ints ys') ∧ xs'.length = m ∧ ys'.length ≤ 4194305 ∧ xs'.length ≤ 4194305 ∧ (ys' ≠ [] → s.2.2.b = w.b) ∧ forkL xs' ys' a' = forkL xs ys a) ?_ FUEL xs.length ((a : Int), v, w) H (by unfold FUEL; omega) ⟨rfl, a, xs, ys, rfl, hx, hy, rfl, hby, hbx, fun _ => rfl, rfl⟩
 rintro K m ⟨s1, v, w'⟩ A ⟨rfl, a, xs', ys', rfl, hx, hy, hm, hby, hbx, hwb, hf⟩ ih
 dsimp only at *
 rw [r127_l0]
 unfold r127_j1
 have hlx := hx.len
 have hly := hy.len
 rw [ints_len] at hlx hly
 match xs', ys' with
 | [], ys' =>
  simp only [List.length_nil] at hlx
  rw [forkL_nil] at hf
  refine Lt.Ok.neg (by omega) (Lt.Ok.neg (by simp) (Lt.Ok.ret ⟨rfl, by rw [← hf], by rw [← hf]; exact hy, by rw [← hf]; exact hwb⟩))
 | x :: xs', [] =>
  simp only [List.length_nil, List.length_cons] at hlx hly
  rw [forkL_nil2] at hf
  refine Lt.Ok.pos (by omega) (Lt.Ok.neg (by omega) (Lt.Ok.neg (by simp) (Lt.Ok.ret ⟨rfl, by rw [← hf], by rw [← hf]; exact hy, by rw [← hf]; exact hwb⟩)))
 | x :: xs', y :: ys' =>
  simp only [List.length_cons] at hlx hly hm hby hbx
  refine Lt.Ok.pos (by omega) (Lt.Ok.pos (by omega) ?_)
  have q1 : A.ldI .i64 v.b (v.o + (0 : Int).toNat * 1) = some (x : Int) := hx.ldI (i := 0) (j := 0) (n := (x : Int)) (by simp [ints]) rfl
  have q2 : A.ldI .i64 w'.b (w'.o + (0 : Int).toNat * 1) = some (y : Int) := hy.ldI (i := 0) (j := 0) (n := (y : Int)) (by simp [ints]) rfl
  refine Lt.Ok.ck (by omega) (Lt.Ok.ld q1 (Lt.Ok.ck (by omega) (Lt.Ok.ld q2 ?_)))
  rw [forkL_cons] at hf
  by_cases e : x = y
  ·rw [if_pos e] at hf
   subst e
   have hcx := hx.cap; have hcy := hy.cap
   have hox : v.opn = 0 ∨ v.opn = 1 := hx.opn
   have hoy : w'.opn = 0 ∨ w'.opn = 1 := hy.opn
   refine Lt.Ok.pos (by simp) (Lt.Ok.ck (by omega) (Lt.Ok.ld q1 (Lt.Ok.ck (by refine ⟨?_, hox⟩; omega) (Lt.Ok.ck (by refine ⟨?_, hoy⟩; omega) ?_))))
   have e1 : v.cut 1 (1 : Int).toNat (v.len : Int).toNat = v.cut 1 1 v.len := rfl
   have e2 : w'.cut 1 (1 : Int).toNat (w'.len : Int).toNat = w'.cut 1 1 w'.len := rfl
   rw [e1, e2]
   have cx : SL A (v.cut 1 1 v.len) (ints xs') := by
    have := hx.cut (lo := 1) (hi := v.len) (by omega) (by rw [ints_len]; simp; omega)
    rw [List.take_of_length_le (by rw [List.length_drop, ints_len]; simp; omega), List.drop_one] at this
    exact this
   have cy : SL A (w'.cut 1 1 w'.len) (ints ys') := by
    have := hy.cut (lo := 1) (hi := w'.len) (by omega) (by rw [ints_len]; simp; omega)
    rw [List.take_of_length_le (by rw [List.length_drop, ints_len]; simp; omega), List.drop_one] at this
    exact this
   have hn : w'.nil = false := hy.nonnil (by simp [ints])
   refine ih (m - 1) (_, _, _) A (by omega) ⟨rfl, x, xs', ys', rfl, cx, cy, by omega, by omega, by omega, fun _ => ?_, hf⟩
   have hcb : (w'.cut 1 1 w'.len).b = w'.b := by simp [Sl.cut, hn]
   exact hcb.trans (hwb (by simp))
  ·rw [if_neg e] at hf
   rw [decide_eq_false (by omega)]
   exact Lt.Ok.neg (by simp) (Lt.Ok.ret ⟨rfl, by rw [← hf], by rw [← hf]; exact hy, by rw [← hf]; exact hwb⟩)
theorem fork_ok (h : ChAt H c pv C t) (hC : C.Ok) {a b : Nat} (ha : a < C.pages.length) (hb : b < C.pages.length) : Lt.Ok (r127 c 0 (a : Int) (b : Int) H) fun r A => Gr H A ∧ r.1 = ((C.fork a b).1 : Int) ∧ SL A r.2 (ints (C.fork a b).2) ∧ ((C.fork a b).2 ≠ [] → H.n ≤ r.2.b) := by
 unfold r127
 have hm := hC.most
 refine Lt.Ok.bind (way_ok h hC ha) fun v A ⟨g, hv⟩ => ?_
 have hA := h.gr g
 refine Lt.Ok.bind (way_ok hA hC hb) fun w B ⟨g2, hw⟩ => ?_
 have l1 := C.way_len hC a; have l2 := C.way_len hC b
 have hvB : SL B v (ints (C.way a)) := hv.sl.gr g2
 refine (fork_l0 (a := 0) hvB hw.sl (by omega) (by omega)).mono fun r D ⟨e, h1, h2, h3⟩ => ?_
 subst e
 refine ⟨g.trans g2, h1, h2, fun hne => ?_⟩
 rw [h3 hne]
 have : w.nil = false := by
  refine hw.sl.nonnil fun e => hne ?_
  have e' : C.way b = [] := by
   have := congrArg List.length e
   rw [ints_len] at this
   exact List.length_eq_zero_iff.1 this
  unfold Chs.fork
  rw [e', forkL_nil2]
 have := hw.ge this
 have := g.1
 omega
theorem move_ok {k : Nat} (h : ChAt H c pv C t) (hC : C.Ok) (to : Int) : Lt.Ok (r76 (appA (k + 2)) c 0 to H) fun r A => r = (C.move to).2 ∧ ∃ pv' t', ChAt A c pv' (C.move to).1 t' ∧ Sp c pv.b pv'.b H A := by
 unfold r76 Chs.move
 refine is (none_ok h hC) (Lt.Ok.neg (by simp) ?_)
 dsimp only
 have g0 := Gr.push H (.cells [.int .i64 to] false)
 refine Lt.Ok.bind (has_ok (k := k + 1) (h.gr g0) hC (sl_box1 H to) (by simp)) fun r A ⟨g, e⟩ => ?_
 have hA := h.gr (g0.trans g)
 have sA : Sp c pv.b pv.b H A := .of_gr (g0.trans g)
 dsimp only at e ⊢
 subst e
 simp only [List.all_cons, List.all_nil, Bool.and_true, decide_eq_true_eq]
 by_cases hc : 0 ≤ to ∧ to < (C.pages.length : Int)
 ·rw [if_pos hc, if_pos hc]
  obtain ⟨q0, rfl⟩ := Int.eq_ofNat_of_zero_le hc.1
  refine Lt.Ok.ld (ldI_get hA.get rfl) (Lt.Ok.bind (fork_ok hA hC hC.cur (b := q0) (by omega)) fun r B ⟨g2, h1, h2, h3⟩ => ?_)
  have hB := hA.gr g2
  have sB := sA.trans (.of_gr (c := c) (p := pv.b) g2)
  simp only [Int.toNat_natCast]
  generalize hl : (C.fork C.at' q0).2 = l at *
  have hll : l.length ≤ 200 := by
   have := forkL_len (C.way C.at') (C.way q0) 0
   have := C.way_len hC q0
   have := hC.most
   have : l.length = (forkL (C.way C.at') (C.way q0) 0).2.length := by rw [← hl]; rfl
   omega
  have hlm : ∀ x ∈ l, x < C.pages.length := fun x hx => by
   rw [← hl] at hx
   have := Chs.way_mem hC (forkL_mem _ _ _ _ hx)
   omega
  have hrl := h2.len
  rw [ints_len] at hrl
  have out : l ≠ [] → r.2.b ≠ c ∧ r.2.b ≠ pv.b := fun hne => by
   have h4 := h3 hne
   have h5 := Hp.get_lt hA.get
   have h6 : pv.b < A.n := by obtain ⟨_, _, q, _⟩ := hA.ex; exact Hp.get_lt q
   omega
  refine Lt.Ok.loop (L := fun K (s : Int × Int) D => r76_l0 (appA (k + 2)) K c 0 s.1 r.2 (r.2.len : Int) s.2 D) (fun m s D => ∃ (i : Nat) (E : Chs) (pe : Sl) (te : Nat), s.2 = (i : Int) ∧ i + m = l.length ∧ E.Ok ∧ C.pages.length ≤ E.pages.length ∧ ChAt D c pe E te ∧ Sp c pv.b pe.b H D ∧ SL D r.2 (ints l) ∧ (l ≠ [] → r.2.b ≠ c ∧ r.2.b ≠ pe.b) ∧ 0 ≤ s.1 ∧ s.1 ≤ i ∧ E.run (l.drop i) s.1 = C.run l 0) ?_ FUEL l.length (0, 0) B (by unfold FUEL; omega) ⟨0, C, pv, t, rfl, by omega, hC, Nat.le_refl _, hB, sB, h2, out, by omega, by omega, rfl⟩
  rintro K m ⟨done, i'⟩ D ⟨i, E, pe, te, hi, him, hE, hgrow, hD, sD, hr, ho, hd0, hd1, hrun⟩ ih
  dsimp only at *
  subst hi
  rw [r76_l0]
  refine Lt.Ok.ite (fun hlt => ?_) fun hlt => ?_
  ·have hil : i < l.length := by omega
   have hne : l ≠ [] := fun e => by rw [e] at hil; simp at hil
   have hx : l[i] < E.pages.length := by have := hlm _ (List.getElem_mem hil); omega
   have hel := hD.len
   refine Lt.Ok.ck (by omega) (Lt.Ok.ld (hr.ldI (i := i) (j := 0) (n := (l[i] : Int)) (by rw [ints_len]; exact hil) (by simp only [ints, List.getElem_map]; rfl)) (Lt.Ok.ld (ldSl_get hD.get rfl) (Lt.Ok.ck (by omega) (Lt.Ok.ld (hD.ldCh (i := l[i]) hx) ?_))))
   rw [chg_get hx]
   refine Lt.Ok.bind (do_ok (k := k) hD hE (chg_size hE _)) fun q F ⟨hq, pe', te', hF, sF⟩ => ?_
   dsimp only
   rw [List.drop_eq_getElem_cons hil, Chs.run] at hrun
   have hrF : SL F r.2 (ints l) := SL.sp hr fun _ => sF.e _ (SL.lt hr (by simp [ints, hne])) (ho hne).1 (ho hne).2
   have hoF : l ≠ [] → r.2.b ≠ c ∧ r.2.b ≠ pe'.b := fun _ => ⟨(ho hne).1, by
    have := SL.lt hr (by simp [ints, hne])
    have := (ho hne).2
    rcases sF.q with e | e <;> omega⟩
   rw [w64_succ (by omega)]
   refine Lt.Ok.ite (fun hz => ?_) fun hz => ?_
   ·rw [w64_id (by omega) (by omega)]
    rw [hq] at hz
    rw [if_pos hz] at hrun
    exact ih (m - 1) (_, _) F (by omega) ⟨i + 1, _, pe', te', rfl, by omega, Chs.do_ok hE _, Nat.le_trans hgrow (Chs.do_grow _ _), hF, sD.trans sF, hrF, hoF, by dsimp only; omega, by dsimp only; omega, hrun⟩
   ·rw [hq] at hz
    rw [if_neg hz] at hrun
    exact ih (m - 1) (_, _) F (by omega) ⟨i + 1, _, pe', te', rfl, by omega, Chs.do_ok hE _, Nat.le_trans hgrow (Chs.do_grow _ _), hF, sD.trans sF, hrF, hoF, hd0, by dsimp only; omega, hrun⟩
  ·have : i = l.length := by omega
   subst this
   rw [List.drop_length, Chs.run] at hrun
   rw [← hrun]
   exact Lt.Ok.ret ⟨rfl, pe, te, hD, sD⟩
 ·rw [if_neg hc, if_neg hc]
  exact Lt.Ok.ret ⟨rfl, pv, t, hA, sA⟩
end
theorem played_ok {k : Nat} {H : Hp} {v : Sl} {l : List ActT} (hv : SL H v l) (hb : ∀ a ∈ l, a.2.2.2.size ≤ 4194304) :
  Lt.Ok (r30 (appA (k + 2)) v H) fun r A => r.2 = 0 ∧ Gr H A ∧ H.n ≤ r.1 ∧ ∃ pv C t, ChAt A r.1 pv C t ∧ C.Ok ∧ H.n ≤ pv.b := by
 unfold r30
 refine Lt.Ok.bind new_ok fun r A ⟨h0, g, hc, pv, t0, hA, hp⟩ => ?_
 obtain ⟨c, o⟩ := r
 dsimp only at h0 hc hA ⊢
 subst h0
 have hl := hv.len
 have hcap := hv.cap
 have hopn : v.opn = 0 ∨ v.opn = 4 := hv.opn
 generalize hN : (if 60 < (v.len : Int) then (60 : Int) else (v.len : Int)) = N
 obtain ⟨n, rfl⟩ : ∃ n : Nat, N = n := by
  split at hN
  ·exact ⟨60, by omega⟩
  ·exact ⟨v.len, by omega⟩
 have hn : n ≤ v.len ∧ n ≤ 60 := by split at hN <;> omega
 refine Lt.Ok.ck (by refine ⟨?_, hopn⟩; omega) ?_
 simp only [Int.toNat_zero, Int.toNat_natCast]
 have hcut : SL A (v.cut 4 0 n) (l.take n) := by
  have := (hv.gr g).cut (lo := 0) (hi := n) (by omega) (by omega)
  rw [List.drop_zero, Nat.sub_zero] at this
  exact this
 have hln : (l.take n).length = n := by rw [List.length_take]; omega
 have hcl := hcut.len
 rw [hln] at hcl
 have hlt : l.take n ≠ [] → (v.cut 4 0 n).b < H.n := fun hne => by
  have hvn : v.nil = false := hv.nonnil fun e => hne (by rw [e]; simp)
  have : (v.cut 4 0 n).b = v.b := by simp [Sl.cut, hvn]
  rw [this]
  exact SL.lt hv fun e => hne (by rw [e]; simp)
 generalize v.cut 4 0 n = w at *
 generalize hm : l.take n = m at *
 have hbm : ∀ a ∈ m, a.2.2.2.size ≤ 4194304 := fun a ha => hb a (by rw [← hm] at ha; exact List.mem_of_mem_take ha)
 refine Lt.Ok.loop (L := fun K (i : Int) D => r30_l0 (appA (k + 2)) K c 0 w (w.len : Int) i D) (fun t i D => ∃ (q : Nat) (pe : Sl) (E : Chs) (te : Nat), i = (q : Int) ∧ q + t = m.length ∧ Gr H D ∧ ChAt D c pe E te ∧ E.Ok ∧ H.n ≤ pe.b) ?_ FUEL m.length 0 A (by unfold FUEL; omega) ⟨0, pv, _, t0, rfl, by omega, g, hA, Chs.new_ok, hp⟩
 rintro K t i D ⟨q, pe, E, te, rfl, hqt, gD, hD, hE, hpe⟩ ih
 rw [r30_l0]
 refine Lt.Ok.ite (fun hlt' => ?_) fun hlt' => ?_
 ·have hq : q < m.length := by omega
  have hw : SL D w m := by
   refine SL.sp hcut fun hne => ?_
   have := hlt hne
   rw [gD.2 _ this, g.2 _ this]
  have e0 : D.ldI .i64 w.b (w.o + ((q : Int)).toNat * 4) = some m[q].1 := hw.ldI (i := q) (j := 0) hq rfl
  have e1 : D.ldI .i64 w.b ((w.o + ((q : Int)).toNat * 4) + 1) = some m[q].2.1 := hw.ldI (i := q) (j := 1) hq rfl
  have e2 : D.ldI .i64 w.b ((w.o + ((q : Int)).toNat * 4) + 2) = some m[q].2.2.1 := hw.ldI (i := q) (j := 2) hq rfl
  have e3 : D.ldStr w.b ((w.o + ((q : Int)).toNat * 4) + 3) = some m[q].2.2.2 := SL.ldStr hw (i := q) (j := 3) hq rfl
  refine Lt.Ok.ck (by omega) (Lt.Ok.ld e0 (Lt.Ok.ld e1 (Lt.Ok.ld e2 (Lt.Ok.ld e3 ?_))))
  obtain ⟨F, h1, h2, h3, h4⟩ := sts_blk [.int .i64 m[q].1, .int .i64 m[q].2.1, .int .i64 m[q].2.2.1, .str m[q].2.2.2] 0 (D.push (.cells [.int .i64 0, .int .i64 0, .int .i64 0, .str (ByteArray.mk #[])] false)) _ (Hp.get_push_new _ _) (by simp)
  have h2' : F.get D.n = some (.cells [.int .i64 m[q].1, .int .i64 m[q].2.1, .int .i64 m[q].2.2.1, .str m[q].2.2.2] false) := by rw [h2]; simp
  have gF : Gr D F := ⟨by rw [h3]; simp, fun c hc => by rw [h4 c (by omega), Hp.get_push_old _ _ hc]⟩
  have hF := hD.gr gF
  have gHF := gD.trans gF
  have q3 : F.ldStr D.n (0 + 3) = some m[q].2.2.2 := by simp [Hp.ldStr, ld_of_get h2', AV.asStr]
  refine Lt.Ok.ld h1 (Lt.Ok.ld (ldI_get h2' rfl) ?_)
  rw [w64_succ (by omega)]
  refine Lt.Ok.ite (fun hk => ?_) fun hk => ?_
  ·refine Lt.Ok.ld q3 (Lt.Ok.bind (do_ok (k := k) hF hE (hbm _ (List.getElem_mem hq))) fun r G ⟨_, pg, tg, hG, sG⟩ => ?_)
   exact ih (t - 1) _ G (by omega) ⟨q + 1, pg, _, tg, rfl, by omega, sG.gr gHF hc hpe, hG, Chs.do_ok hE _, by have := gHF.1; rcases sG.q with e | e <;> omega⟩
  refine Lt.Ok.ite (fun hk => ?_) fun hk => ?_
  ·refine Lt.Ok.ld (ldI_get h2' rfl) (Lt.Ok.bind (go_ok (k := k + 1) hF hE m[q].2.1) fun r G ⟨_, hG, sG⟩ => ?_)
   exact ih (t - 1) _ G (by omega) ⟨q + 1, pe, _, te, rfl, by omega, sG.gr gHF hc hpe, hG, Chs.go_ok hE _, hpe⟩
  refine Lt.Ok.ite (fun hk => ?_) fun hk => ?_
  ·refine Lt.Ok.ld (ldI_get h2' rfl) (Lt.Ok.bind (back_ok hF hE m[q].2.1) fun r G ⟨_, hG, sG⟩ => ?_)
   exact ih (t - 1) _ G (by omega) ⟨q + 1, pe, _, te, rfl, by omega, sG.gr gHF hc hpe, hG, Chs.back_ok hE _, hpe⟩
  refine Lt.Ok.ite (fun hk => ?_) fun hk => ?_
  ·refine Lt.Ok.ld (ldI_get h2' rfl) (Lt.Ok.bind (move_ok (k := k) hF hE m[q].2.1) fun r G ⟨_, pg, tg, hG, sG⟩ => ?_)
   exact ih (t - 1) _ G (by omega) ⟨q + 1, pg, _, tg, rfl, by omega, sG.gr gHF hc hpe, hG, Chs.move_ok hE _, by have := gHF.1; rcases sG.q with e | e <;> omega⟩
  ·exact ih (t - 1) _ F (by omega) ⟨q + 1, pe, E, te, rfl, by omega, gHF, hF, hE, hpe⟩
 ·exact Lt.Ok.ret ⟨rfl, gD, hc, pe, E, te, hD, hE, hpe⟩
/-! ### numbers by a length -/
theorem wrapU {n : Int} : 0 ≤ IntKind.wrap .u64 n := by
 unfold IntKind.wrap
 simp [IntKind.signed, IntKind.bits]
 omega
theorem wrapU_id {n : Int} (h0 : 0 ≤ n) (h : n < 9223372036854775808) : IntKind.wrap .u64 n = n := by
 unfold IntKind.wrap
 simp [IntKind.signed, IntKind.bits]
 omega
theorem umod (a : Int) {n : Nat} (h0 : 1 ≤ n) (h1 : n ≤ 1000000) : IntKind.wrap .u64 (n : Int) ≠ 0 ∧ ∃ q : Nat, q < n ∧ w64 (Int.tmod (IntKind.wrap .u64 a) (IntKind.wrap .u64 (n : Int))) = (q : Int) := by
 rw [wrapU_id (n := (n : Int)) (by omega) (by omega)]
 have hm0 : 0 ≤ Int.tmod (IntKind.wrap .u64 a) (n : Int) := Int.tmod_nonneg _ wrapU
 have hm1 : Int.tmod (IntKind.wrap .u64 a) (n : Int) < n := Int.tmod_lt_of_pos _ (by omega)
 rw [w64_id (by omega) (by omega)]
 exact ⟨by omega, (Int.tmod (IntKind.wrap .u64 a) (n : Int)).toNat, by omega, by omega⟩
end Go.Lt.P10
