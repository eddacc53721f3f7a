/- PLAIN LAWS OF WHAT IS COMPUTED, for the statement 'TopHeavy'. Nothing is asked of the input. -/
import Derived.Test.YtopildlfbhfghaaGreatDoorU5CQn
import Derived.Test.YtopildlfbhfghaaGreatDoorLB
set_option linter.unusedVariables false
set_option linter.unusedSimpArgs false
set_option maxHeartbeats 4000000
namespace Go.Lt.P10
open Go Go.Lt Go.Proofs
theorem alo1 {H : Hp} {x y : AV} {α : Type} {Q : α → Hp → Prop} {f : Hp → Option (α × Hp)} (k : ∀ D, Gr H D → D.get H.n = some (.cells [y] false) → Lt.Ok (f D) Q) : Lt.Ok (((H.push (.cells [x] false)).st H.n 0 y).bind f) Q := by
 have h := Lt.Ok.alo (H0 := H) (H := H) (E := []) (zs := [x]) (vs := [y]) (f := f) (Q := Q) (.nil H) fun D g c => k D g (c.e _ (.head _))
 unfold Hp.sts at h
 rw [Option.bind_assoc] at h
 exact h
theorem nms_at {s : St} {i : Nat} (h : i < s.leaves.length) : (nmsS s)[i]'(by rw [nms_len]; exact h) = (s.leaves[i]).1 := by simp [nmsS]
theorem nameOf_at {s : St} {i : Nat} (h : i < s.leaves.length) : nameOf s (i : Int) = (s.leaves[i]).1 := by
 unfold nameOf
 rw [Int.toNat_natCast, List.getD_eq_getElem?_getD, List.getElem?_eq_getElem h]; rfl
theorem r5_l3_ok {k : Nat} {H : Hp} {c : Nat} {pv : Sl} {C : Chs} {t : Nat} {vo vn : Sl} (h : ChAt H c pv C t) (hC : C.Ok) (hn : SL H vn (nmsS (C.now C.at'))) (ho : SL H vo (C.now C.at').orders) :
  Lt.Ok (r5_l3 (appA (k + 2)) FUEL c 0 vo vn (vn.len : Int) 0 H) fun r _ => r = true := by
 have hst := hC.st _ hC.cur
 have l6 := hst.l6
 have o40 := hst.o40
 have hlen := hn.len
 rw [nms_len] at hlen
 rw [hlen]
 refine Lt.Ok.loop (L := fun K (j : Int) D => r5_l3 (appA (k + 2)) K c 0 vo vn ((C.now C.at').leaves.length : Int) j D) (fun m j D => ∃ i : Nat, j = (i : Int) ∧ i + m = (C.now C.at').leaves.length ∧ Gr H D) ?_ FUEL (C.now C.at').leaves.length 0 H (by unfold FUEL; omega) ⟨0, rfl, by omega, .refl _⟩
 rintro K m j D ⟨i, rfl, him, g⟩ ih
 rw [r5_l3]
 by_cases hlt : i < (C.now C.at').leaves.length
 ·have e1 : D.ldStr vn.b (vn.o + ((i : Int)).toNat * 1) = some ((C.now C.at').leaves[i]).1 := by
   have := SL.ldStr (hn.gr g) (i := i) (j := 0) (by rw [nms_len]; exact hlt) rfl
   rw [← nms_at hlt]; exact this
  refine Lt.Ok.pos (by omega) (Lt.Ok.ck (by omega) (Lt.Ok.ld e1 ?_))
  have e18 : ∀ v H, r18 v H = cloneR 1 v H := fun _ _ => rfl
  rw [e18]
  refine Lt.Ok.bind (clone_ok (ho.gr g) (by omega) rfl) fun w A ⟨gA, hw, _, _⟩ => ?_
  dsimp only
  refine Lt.Ok.bind (r29_ok (k := k + 1) hw (orders_keys hst) (i := i) (by omega)) fun q B ⟨gB, hq⟩ => ?_
  dsimp only
  subst hq
  obtain ⟨t1, t2⟩ := often_text hst hlt
  have hnm := hst.nm _ (List.getElem_mem hlt)
  have et : (ByteArray.mk #[111, 102, 116, 101, 110, 32]) ++ ((C.now C.at').leaves[i]).1 = wOften ++ (sp1 ++ ((C.now C.at').leaves[i]).1) := by
   apply Lb_inj
   simp only [Lb_app]
   rfl
  have z1 : (ByteArray.mk #[111, 102, 116, 101, 110, 32]).size = 6 := rfl
  refine Lt.Ok.ck (by omega) ?_
  rw [et]
  have gAB := (g.trans gA).trans gB
  refine Lt.Ok.bind (ask_ok (k := k + 2) (h.gr gAB) hC (text := wOften ++ (sp1 ++ ((C.now C.at').leaves[i]).1)) fun b P hst' => ask_often (k := k) hst' hst (by rw [← et]; simp only [ByteArray.size_append]; omega) t1) fun r E ⟨gE, hr⟩ => ?_
  dsimp only
  rw [t2] at hr
  subst hr
  refine Lt.Ok.neg (by simp) (Lt.Ok.neg (by simp) ?_)
  have hc := cntI_le (i : Int) (C.now C.at').orders
  have key : ∀ k : Nat, k < 41 → (itoaA (k : Int)).size ≤ 4 := by decide +kernel
  have hk := key (cntI (i : Int) (C.now C.at').orders) (by omega)
  have g1 := Gr.push E (.cells [.int .i64 ((cntI (i : Int) (C.now C.at').orders : Nat) : Int)] false)
  refine Lt.Ok.bind (words1_ok (k := k + 1) (one_cell _) (by omega) (by omega)) fun w2 I ⟨gI, hw2⟩ => ?_
  dsimp only
  subst hw2
  have z2 : (ByteArray.mk #[111, 102, 116, 101, 110]).size = 5 := rfl
  have z3 : (ByteArray.mk #[32]).size = 1 := rfl
  refine Lt.Ok.ck (by simp only [ByteArray.size_append]; omega) ?_
  have e : strEq (wOften ++ (sp1 ++ itoaA ((cntI (i : Int) (C.now C.at').orders : Nat) : Int))) ((ByteArray.mk #[111, 102, 116, 101, 110]) ++ (ByteArray.mk #[32] ++ itoaA ((cntI (i : Int) (C.now C.at').orders : Nat) : Int))) = true := strEq_iff.2 rfl
  rw [e]
  unfold r5_j4
  refine Lt.Ok.neg (by simp) ?_
  rw [w64_succ (by omega)]
  exact ih (m - 1) _ I (by omega) ⟨i + 1, rfl, by omega, (gAB.trans gE).trans (g1.trans gI)⟩
 ·refine Lt.Ok.neg (by omega) ?_
  rw [app16]
  exact Lt.Ok.ret rfl
theorem r5_l0_ok {k : Nat} {H : Hp} {c : Nat} {pv : Sl} {C : Chs} {t : Nat} {vo vn vq vh : Sl} {q : List Ct} {m : Nat} (h : ChAt H c pv C t) (hC : C.Ok) (hn : SL H vn (nmsS (C.now C.at'))) (ho : SL H vo (C.now C.at').orders) (hq : SL H vq q) (hp : q.Perm (mg m (C.now C.at').orders)) (hm : 1 ≤ m ∧ m ≤ 8) (hh : SL H vh (heavyL (m : Int) (C.now C.at').orders)) :
  Lt.Ok (r5_l0 (appA (k + 2)) FUEL c 0 vn vo vq 0 (joinA (wHeavy :: (heavyL (m : Int) (C.now C.at').orders).map (nameOf (C.now C.at'))) sp1) 0 wHeavy vh (vh.len : Int) 0 H) fun r _ => r = true := by
 have hst := hC.st _ hC.cur
 have l6 := hst.l6
 have hlen := hh.len
 have h16 := heavyL_len (m : Int) (C.now C.at').orders
 have hrng := heavyL_rng hst (n := (m : Int))
 have hnl := hn.len
 rw [nms_len] at hnl
 have hml := (mg_ok m hm.1 (C.now C.at').orders).len
 have hheavy : ∀ x ∈ heavyL (m : Int) (C.now C.at').orders, ∃ d ∈ q, d.1 = x := fun x hx => by
  unfold heavyL at hx
  obtain ⟨y, hy, rfl⟩ := List.mem_map.1 hx
  obtain ⟨d, hd, e⟩ := heavy_short hm.1 (by simpa using (List.mem_filter.1 hy).2)
  exact ⟨d, hp.mem_iff.2 hd, e⟩
 have hql : q.length ≤ 8 := by rw [hp.length_eq]; omega
 rw [hlen]
 generalize heavyL (m : Int) (C.now C.at').orders = hv at *
 refine Lt.Ok.loop (L := fun K (u : ByteArray × Int) D => r5_l0 (appA (k + 2)) K c 0 vn vo vq 0 (joinA (wHeavy :: hv.map (nameOf (C.now C.at'))) sp1) 0 u.1 vh (hv.length : Int) u.2 D) (fun m u D => ∃ i : Nat, u.2 = (i : Int) ∧ i + m = hv.length ∧ u.1 = joinS wHeavy ((hv.take i).map (nameOf (C.now C.at'))) ∧ Gr H D) ?_ FUEL hv.length (wHeavy, 0) H (by unfold FUEL; omega) ⟨0, rfl, by omega, rfl, .refl _⟩
 rintro K n ⟨a, j⟩ D ⟨i, hj, him, ha, g⟩ ih
 dsimp only at *
 subst hj; subst ha
 rw [r5_l0]
 by_cases hlt : i < hv.length
 ·obtain ⟨r0, r1⟩ := hrng _ (List.getElem_mem hlt)
  refine Lt.Ok.pos (by omega) (Lt.Ok.ck (by omega) (Lt.Ok.ld ((hh.gr g).ldI (i := i) (j := 0) (n := hv[i]) hlt rfl) ?_))
  refine alo1 fun E gE hE => ?_
  have hx : E.ldI .i64 D.n 0 = some hv[i] := ldI_get hE rfl
  refine Lt.Ok.ld hx (Lt.Ok.neg (by omega) (Lt.Ok.ld hx (Lt.Ok.neg (by omega) ?_)))
  have gHE := g.trans gE
  have hs : SaysB (appA (k + 2)) (.fn 28 [] [.ptr D.n 0]) (fun d => decide (d.1 = hv[i])) E := saysKey (rf := r28) hE (fun _ _ _ _ _ => rfl) fun x A => rfl
  have e27 : Lt.Ok (r27 (appA (k + 2)) vq (.fn 28 [] [.ptr D.n 0]) E) fun r A => Gr E A ∧ r = true := by
   unfold r27
   refine Lt.Ok.bind (r73_ok hs (hq.gr gHE) (by omega)) fun r A ⟨gA, hr⟩ => ?_
   dsimp only
   refine Lt.Ok.ret ⟨gA, ?_⟩
   subst hr
   obtain ⟨d, hd, e⟩ := hheavy _ (List.getElem_mem hlt)
   cases hf : q.findIdx? fun d => decide (d.1 = hv[i]) with
   | none => rw [List.findIdx?_eq_none_iff] at hf; have := hf d hd; simp [e] at this
   | some z => simp [idxI]
  refine Lt.Ok.bind e27 fun r A ⟨gA, hr⟩ => ?_
  subst hr
  dsimp only
  unfold r5_j1
  refine Lt.Ok.neg (by simp) ?_
  obtain ⟨y, hy⟩ := Int.eq_ofNat_of_zero_le r0
  have hyl : y < (C.now C.at').leaves.length := by omega
  have hxA : A.ldI .i64 D.n 0 = some hv[i] := ldI_get ((gA.2 _ (Hp.get_lt hE)).trans hE) rfl
  have gHA := gHE.trans gA
  have e4 : A.ldStr vn.b (vn.o + hv[i].toNat * 1) = some (nameOf (C.now C.at') hv[i]) := by
   rw [hy, Int.toNat_natCast, nameOf_at hyl, ← nms_at hyl]
   exact SL.ldStr (hn.gr gHA) (i := y) (j := 0) (by rw [nms_len]; exact hyl) rfl
  have hz := nameOf_le hst ⟨r0, r1⟩
  have hjs := joinS_size (B := 8) wHeavy ((hv.take i).map (nameOf (C.now C.at'))) fun x hx => by
   obtain ⟨y, hy, rfl⟩ := List.mem_map.1 hx
   exact nameOf_le hst (hrng _ (List.mem_of_mem_take hy))
  rw [List.length_map, List.length_take] at hjs
  have zw : wHeavy.size = 5 := rfl
  have z3 : (ByteArray.mk #[32]).size = 1 := rfl
  refine Lt.Ok.ld hxA (Lt.Ok.ck (by omega) (Lt.Ok.ld e4 (Lt.Ok.ck (by omega) (Lt.Ok.ck (by simp only [ByteArray.size_append]; omega) ?_))))
  rw [w64_succ (by omega)]
  refine ih (n - 1) (_, _) A (by omega) ⟨i + 1, rfl, by omega, ?_, gHA⟩
  rw [List.take_succ_eq_append_getElem hlt, List.map_append, List.map_cons, List.map_nil, joinS_snoc]
  rfl
 ·have : i = hv.length := by omega
  subst this
  rw [List.take_length, joinS_eq]
  refine Lt.Ok.neg (by omega) (Lt.Ok.neg (by simp) (Lt.Ok.neg (by simp) ?_))
  rw [strEq_iff.2 rfl]
  unfold r5_j2
  refine Lt.Ok.neg (by simp) ?_
  exact r5_l3_ok (k := k) (h.gr g) hC (hn.gr g) (ho.gr g)
theorem topHeavyLaw {k : Nat} {H : Hp} {v : Sl} {l : List ByteArray} {n : Int} (hv : SL H v l) (hl : ∀ x ∈ l, x.size ≤ 1048576) :
  Lt.Ok (r5 (appA (k + 2)) v n H) fun r _ => r = true := by
 unfold r5
 have e10 : ∃ m : Nat, m < 10 ∧ w64 (Int.tmod (IntKind.wrap .u64 n) 10) = (m : Int) := by
  obtain ⟨_, q, hq, e⟩ := umod n (n := 10) (by omega) (by omega)
  rw [wrapU_id (n := ((10 : Nat) : Int)) (by omega) (by omega)] at e
  exact ⟨q, hq, e⟩
 obtain ⟨m, hm, e10⟩ := e10
 rw [e10]
 refine Lt.Ok.bind (opened_ok (k := k) hv (fun x hx => Nat.le_trans (hl x hx) (by decide))) fun r A ⟨h0, gA, hc, pv, C, t, hA, hC, hp⟩ => ?_
 obtain ⟨c, o⟩ := r
 dsimp only at h0 hA ⊢
 subst h0
 refine Lt.Ok.bind (lread_ok (k := k + 1) hA hC) fun p2 B ⟨gB, q1, q2, q3, q4, q5⟩ => ?_
 obtain ⟨n2, s2, o2, x0, x1, x2, x3, f2⟩ := p2
 dsimp only at q1 q2 q3 q4 q5 ⊢
 refine copied fun D gD => ?_
 have hD := (hA.gr gB).gr gD
 have hst := hC.st _ hC.cur
 have o40 := hst.o40
 have q3D := q3.gr gD
 have q1D := q1.gr gD
 have e18 : ∀ v H, r18 v H = cloneR 1 v H := fun _ _ => rfl
 rw [e18]
 refine Lt.Ok.bind (clone_ok q3D.1 (by omega) rfl) fun w1 E ⟨gE, hw1, _, _⟩ => ?_
 dsimp only
 refine Lt.Ok.bind (r25_ok (k := k + 1) hw1 (orders_keys hst) (m : Int)) fun r5' F ⟨gF, hr5⟩ => ?_
 dsimp only
 rw [e18]
 refine Lt.Ok.bind (clone_ok ((q3D.gr gE).gr gF).1 (by omega) rfl) fun w2 G ⟨gG, hw2, _, _⟩ => ?_
 dsimp only
 refine Lt.Ok.bind (r26_ok (k := k) hw2 (orders_keys hst) (m : Int)) fun r7' I ⟨gI, hr7⟩ => ?_
 dsimp only
 have hi : (itoaA (m : Int)).size ≤ 4 := by
  have key : ∀ k : Nat, k < 10 → (itoaA (k : Int)).size ≤ 4 := by decide +kernel
  exact key m hm
 have g1 := Gr.push I (.cells [.int .i64 (m : Int)] false)
 refine Lt.Ok.bind (words1_ok (k := k + 1) (one_cell _) (by omega) (by omega)) fun w3 J ⟨gJ, hw3⟩ => ?_
 dsimp only
 subst hw3
 have z2 : (ByteArray.mk #[104, 101, 97, 118, 121]).size = 5 := rfl
 have z3 : (ByteArray.mk #[32]).size = 1 := rfl
 refine Lt.Ok.ck (by simp only [ByteArray.size_append]; omega) ?_
 have et : (ByteArray.mk #[104, 101, 97, 118, 121]) ++ (ByteArray.mk #[32] ++ itoaA (m : Int)) = wHeavy ++ (sp1 ++ itoaA (m : Int)) := rfl
 rw [et]
 have gDJ := gE.trans (gF.trans (gG.trans (gI.trans (g1.trans gJ))))
 obtain ⟨t1, t2⟩ := heavy_text (m := (m : Int)) (by omega) (by omega) (C.now C.at')
 refine Lt.Ok.bind (ask_ok (k := k + 2) (hD.gr gDJ) hC (text := wHeavy ++ (sp1 ++ itoaA (m : Int))) fun b P hst' => ask_heavy (k := k) hst' hst (by rw [← et]; simp only [ByteArray.size_append]; omega) t1) fun r10' L ⟨gL, hr10⟩ => ?_
 dsimp only
 rw [t2] at hr10
 subst hr10
 have gDL := gDJ.trans gL
 by_cases hc : 1 ≤ (m : Int) ∧ (m : Int) ≤ 8
 ·rw [if_pos hc] at hr5 hr7 ⊢
  obtain ⟨v5, e5⟩ := r5'
  obtain ⟨v7, e7⟩ := r7'
  dsimp only at hr5 hr7 ⊢
  obtain ⟨rfl, h5⟩ := hr5
  obtain ⟨rfl, q, h7, hperm⟩ := hr7
  refine Lt.Ok.neg (by simp) ?_
  rw [Int.toNat_natCast] at hperm
  have gF2 := gG.trans (gI.trans (g1.trans (gJ.trans gL)))
  have gI2 := g1.trans (gJ.trans gL)
  exact r5_l0_ok (k := k) (hD.gr gDL) hC (q1D.gr gDL).1 (q3D.gr gDL).1 (h7.gr gI2) hperm (by omega) (h5.gr gF2)
 ·rw [if_neg hc] at hr5 hr7 ⊢
  subst hr5; subst hr7
  dsimp only
  refine Lt.Ok.pos (by decide) (Lt.Ok.pos rfl (Lt.Ok.pos rfl (Lt.Ok.pos (by decide +kernel) ?_)))
  rw [app16]
  exact Lt.Ok.ret rfl
theorem lawCall5 (H : Hp) (xs : List AV) (_ : NoOwn H) (h : B.RdAs 1048576 H [.sl .str, .int .i64] xs) : ∃ H1, CallSim Tryz.prog 5 xs H (.bool true) H1 := by
 obtain ⟨x, _, rfl, hx, u, _, rfl, ⟨n, hu, _⟩, rfl⟩ := h
 obtain ⟨v, l, rfl, hv, _, hl⟩ := B.rd_slP (B.encP_str) (by decide) hx
 injection hu with hu _
 subst hu
 obtain ⟨b, H1, h1, rfl⟩ := topHeavyLaw (k := 18) hv hl
 exact ⟨H1, sim5 (happ := appASim 20) h1⟩
end Go.Lt.P10
