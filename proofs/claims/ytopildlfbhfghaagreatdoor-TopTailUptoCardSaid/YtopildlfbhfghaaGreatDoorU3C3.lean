/- PLAIN LAWS OF WHAT IS COMPUTED, for the statement 'TopTail'. Nothing is asked of the input. -/
import Derived.Test.YtopildlfbhfghaaGreatDoorU3COp
import Derived.Test.YtopildlfbhfghaaGreatDoorLB
set_option linter.unusedVariables false
set_option linter.unusedSimpArgs false
set_option maxHeartbeats 4000000
namespace Go.Lt.P10
open Go Go.Lt Go.Proofs
theorem tail_asked (s : St) : askV f0 wTail wTail (fTail s) = (wTail ++ (sp1 ++ qS (tailS s.t0 s.t1 s.t2 s.t3)), 0) := by
 unfold askV
 have e : readS f0 wTail = some ([], []) := by decide +kernel
 rw [e]
 dsimp only
 unfold fTail
 dsimp only
 rw [if_pos rfl]
 exact congrArg (fun x => (x, (0 : Int))) (join_two _ _)
theorem topTailLaw {k : Nat} {H : Hp} {v : Sl} {l : List ByteArray} (hv : SL H v l) (hl : ∀ x ∈ l, x.size ≤ 1048576) :
  Lt.Ok (r3 (appA (k + 10)) v H) fun r _ => r = true := by
 unfold r3
 refine Lt.Ok.bind (opened_ok (k := k + 8) hv (fun x hx => Nat.le_trans (hl x hx) (by decide))) fun r A ⟨h0, gA, hc, pv, C, t, hA, hC, hp⟩ => ?_
 obtain ⟨c, o⟩ := r
 dsimp only at h0 hA ⊢
 subst h0
 refine Lt.Ok.bind (lread_ok (k := k + 9) hA hC) fun p2 B ⟨gB, q1, q2, q3, q4, q5⟩ => ?_
 obtain ⟨n2, s2, o2, x0, x1, x2, x3, f2⟩ := p2
 dsimp only at q1 q2 q3 q4 q5 ⊢
 have hst := hC.st _ hC.cur
 have hin := ts_in hst
 have e0 := congrArg (fun z => z.1) q4
 have e1 := congrArg (fun z => z.2.1) q4
 have e2 := congrArg (fun z => z.2.2.1) q4
 have e3 := congrArg (fun z => z.2.2.2.1) q4
 dsimp only at e0 e1 e2 e3
 rw [← e0, ← e1, ← e2, ← e3] at hin
 refine Lt.Ok.alo (.nil B) fun D gD cD => ?_
 have hD := cD.e _ (.head _)
 dsimp only at hD
 have hcD := (hA.gr gB).gr gD
 refine Lt.Ok.ck (by decide) (Lt.Ok.ck (by decide) ?_)
 obtain ⟨E, hE, d1, d2, d3⟩ := push1 D (.cells [.sl ⟨false, B.n, 0 + (0 : Int).toNat * 1, (2 : Int).toNat - (0 : Int).toNat, (2 : Int).toNat - (0 : Int).toNat, 0⟩, .sl ⟨false, B.n, 0 + (2 : Int).toNat * 1, (4 : Int).toNat - (2 : Int).toNat, (4 : Int).toNat - (2 : Int).toNat, 0⟩] false)
 rw [hE]
 have hBE := (d3.2 _ (Hp.get_lt hD)).trans hD
 have hT : T2 E ⟨false, D.n, 0, 2, 2, 0⟩ ⟨false, B.n, 0, 2, 2, 0⟩ ⟨false, B.n, 2, 2, 2, 0⟩ x0 x1 x2 x3 := ⟨rfl, ldSl_get d1 rfl, ldSl_get d1 rfl, sub2 hBE rfl rfl, sub2 hBE rfl rfl⟩
 refine Lt.Ok.ld (r12_ok hT hin) (Lt.Ok.pos rfl ?_)
 dsimp only
 have hBP : (E.push (.cells [.int .i64 x0, .int .i64 x1] false)).get B.n = _ := (Hp.get_push_old _ _ (Hp.get_lt hBE)).trans hBE
 refine Lt.Ok.ld (ldI_get hBE (n := x0) rfl) (Lt.Ok.ld (ldI_get hBE (n := x1) rfl) (Lt.Ok.ld (ldI_get hBP (n := x2) rfl) (Lt.Ok.ld (ldI_get hBP (n := x3) rfl) ?_)))
 obtain ⟨F, hF, f1, f2', f3, f4, f5⟩ := push2 E (.cells [.int .i64 x0, .int .i64 x1] false) (.cells [.int .i64 x2, .int .i64 x3] false)
 rw [hF, f5]
 obtain ⟨G, hG, g1, g2, g3⟩ := push1 F (.cells [.sl ⟨false, E.n, 0, 2, 2, 0⟩, .sl ⟨false, E.n + 1, 0, 2, 2, 0⟩] false)
 rw [hG]
 have a1 := (g3.2 _ (by omega)).trans f1
 have a2 := (g3.2 _ (by omega)).trans f2'
 have hT2 : T2 G ⟨false, F.n, 0, 2, 2, 0⟩ ⟨false, E.n, 0, 2, 2, 0⟩ ⟨false, E.n + 1, 0, 2, 2, 0⟩ x0 x1 x2 x3 := ⟨rfl, ldSl_get g1 rfl, ldSl_get g1 rfl, sub2 a1 rfl rfl, sub2 a2 rfl rfl⟩
 refine Lt.Ok.bind (r13_ok (k := k + 1) hT2 hin) fun q I ⟨gI, hq⟩ => ?_
 subst hq
 dsimp only
 refine Lt.Ok.alo (.nil I) fun J gJ cJ => ?_
 have hJ := cJ.e _ (.head _)
 dsimp only at hJ
 have gDJ := d3.trans (f4.trans (g3.trans (gI.trans gJ)))
 refine Lt.Ok.bind (ask_ok (k := k + 10) (hcD.gr gDJ) hC (text := wTail) fun b P hst' => ask_tail (k := k) hst' hst (by decide) (by decide +kernel)) fun r L ⟨gL, hr⟩ => ?_
 rw [tail_asked] at hr
 subst hr
 dsimp only
 have hJL := (gL.2 _ (Hp.get_lt hJ)).trans hJ
 refine Lt.Ok.pos rfl (Lt.Ok.pos rfl (Lt.Ok.ld (ldI_get hJL rfl) (Lt.Ok.ld (ldI_get hJL rfl) ?_)))
 have h64 := tailS_64 x0 x1 x2 x3
 refine Lt.Ok.bind (r15_ok (k := k + 9) (one_pair (tailS x0 x1 x2 x3)) h64) fun w M ⟨gM, hw⟩ => ?_
 subst hw
 dsimp only
 have hsz := qS_size h64
 have z1 : (ByteArray.mk #[116, 97, 105, 108]).size = 4 := rfl
 have z2 : sp1.size = 1 := rfl
 refine Lt.Ok.ck (by simp only [ByteArray.size_append]; omega) ?_
 rw [← e0, ← e1, ← e2, ← e3]
 refine Lt.Ok.pos (strEq_iff.2 rfl) ?_
 rw [app16]
 exact Lt.Ok.ret rfl
theorem lawCall3 (H : Hp) (xs : List AV) (_ : NoOwn H) (h : B.RdAs 1048576 H [.sl .str] xs) : ∃ H1, CallSim Tryz.prog 3 xs H (.bool true) H1 := by
 obtain ⟨x, _, rfl, hx, rfl⟩ := h
 obtain ⟨v, l, rfl, hv, _, hl⟩ := B.rd_slP (B.encP_str) (by decide) hx
 obtain ⟨b, H1, h1, rfl⟩ := topTailLaw (k := 10) hv hl
 exact ⟨H1, sim3 (happ := appASim 20) h1⟩
end Go.Lt.P10
