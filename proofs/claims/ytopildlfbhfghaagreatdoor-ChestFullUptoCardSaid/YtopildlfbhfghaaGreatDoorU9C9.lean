/- PLAIN LAWS OF WHAT IS COMPUTED, for the statement 'ChestFull'. Nothing is asked of the input. -/
import Derived.Test.YtopildlfbhfghaaGreatDoorU9CQd
import Derived.Test.YtopildlfbhfghaaGreatDoorU9CRl
import Derived.Test.YtopildlfbhfghaaGreatDoorLB
set_option linter.unusedVariables false
set_option linter.unusedSimpArgs false
set_option maxHeartbeats 4000000
namespace Go.Lt.P10
open Go Go.Lt Go.Proofs
def offLine (i : Nat) : ByteArray := ((ByteArray.mk #[111, 102, 102, 101, 114, 32] ++ itoaA ((i % 31 : Nat) : Int)) ++ ByteArray.mk #[32]) ++ itoaA ((i / 31 : Nat) : Int)
theorem chs_bytes_len {C : Chs} (hC : C.Ok) : C.bytes.length ≤ 1000000 := by
  have hm := hC.most
  have := bytesP_len (C.pages.drop 1) fun p hp => by
    have hp := List.mem_of_mem_drop hp
    obtain ⟨j, hj, rfl⟩ := List.mem_iff_getElem.1 hp
    rw [chg_get hj]; exact chg_le hC hj
  rw [List.length_drop] at this
  unfold Chs.bytes
  omega
theorem full_end {k : Nat} {c d : Nat} {pv pw : Sl} {C : Chs} {H : Hp} {line : ByteArray} (hB : Both H c pv C d pw C) (hC : C.Ok) (hs : line.size ≤ 1048576) :
    Lt.Ok (r9_j3 (appA (k + 200)) line c 0 d 0 false H) fun r _ => r = true := by
  unfold r9_j3
  refine Lt.Ok.neg (by simp) (Lt.Ok.bind (hB.do1 (k := k + 198) hC hs) fun r A ⟨hr, pv', hA, _⟩ => ?_)
  dsimp only
  refine Lt.Ok.bind (hA.do2 (k := k) hC hs) fun q D ⟨hq, pw', hD, _⟩ => ?_
  dsimp only
  have hC2 := Chs.do_ok hC line
  subst hr; subst hq
  refine Lt.Ok.pos (strEq_iff.2 rfl) (Lt.Ok.pos rfl (Lt.Ok.bind (alike_ok (k := k) hD.ch.at hD.rc hC2) fun z E ⟨gE, hz⟩ => ?_))
  subst hz
  dsimp only
  refine Lt.Ok.pos rfl ?_
  rw [app34]
  exact Lt.Ok.ret rfl
theorem full_read {k : Nat} {c d : Nat} {pv pw : Sl} {C : Chs} {H : Hp} {line : ByteArray} {K n i : Nat} (hB : Both H c pv C d pw C) (hC : C.Ok) (hs : line.size ≤ 1048576) (hn : n ≤ i) :
    Lt.Ok (r9_l1 (appA (k + 200)) (K + 1) line c 0 d 0 (n : Int) (i : Int) H) fun r _ => r = true := by
  rw [r9_l1]
  refine Lt.Ok.neg (by omega) ?_
  have hbl := chs_bytes_len hC
  refine Lt.Ok.bind (bytes_ok hB.ch.at hC) fun b A ⟨gA, hb⟩ => ?_
  dsimp only at hb ⊢
  have hrd : Chs.rd (C.bytes.length + 1) Chs.new C.bytes = some ⟨C.pages, 0⟩ := by
    have := hC.most
    rw [← Chs.rd_fuel (C.bytes.length + 1 + C.pages.length) _ _ (by omega)]
    exact Chs.rd_bytes hC (by omega)
  refine Lt.Ok.bind (read_ok (k := k + 198) hb.1.sl hbl) fun r E ⟨gE, hr⟩ => ?_
  rw [hrd] at hr
  obtain ⟨e, pe, t2, rfl, he, hX, _, _⟩ := hr
  have hBE := (hB.gr gA).gr gE
  dsimp only
  refine Lt.Ok.bind (alike_ok (k := k) hBE.ch.at hBE.rc hC) fun z F ⟨gF, hz⟩ => ?_
  subst hz
  dsimp only
  refine Lt.Ok.pos rfl (Lt.Ok.neg (by simp) ?_)
  simp only [AV.isp, AV.asP, Option.bind_some, if_true]
  refine Lt.Ok.bind (bytes_ok (he.gr gF) hX) fun b3 G ⟨gG, hb3⟩ => ?_
  dsimp only at hb3 ⊢
  have hXb : (⟨C.pages, 0⟩ : Chs).bytes = C.bytes := rfl
  rw [hXb] at hb3
  have hBG := (hBE.gr gF).gr gG
  refine Lt.Ok.bind (bytes_okR hBG.rc hC) fun b4 I ⟨gI, hb4⟩ => ?_
  dsimp only at hb4 ⊢
  refine is (bEq_ok (hb3.1.sl.gr gI) hb4.1.sl) ?_
  dsimp only
  exact full_end (hBG.gr gI) hC hs
theorem full_loop {k : Nat} {c d : Nat} {pv pw : Sl} {C : Chs} {H : Hp} {line : ByteArray} {n : Nat} (hB : Both H c pv C d pw C) (hC : C.Ok) (hs : line.size ≤ 1048576) (hn : n ≤ 300) :
    Lt.Ok (r9_l1 (appA (k + 200)) FUEL line c 0 d 0 (n : Int) 0 H) fun r _ => r = true := by
  refine Lt.Ok.loop (L := fun K (i : Int) D => r9_l1 (appA (k + 200)) K line c 0 d 0 (n : Int) i D) (fun m i' D => ∃ (i : Nat) (pv pw : Sl) (E : Chs), i' = (i : Int) ∧ i + m = n ∧ E.Ok ∧ Both D c pv E d pw E) ?_ FUEL n 0 H (by unfold FUEL; omega) ⟨0, pv, pw, C, rfl, by omega, hC, hB⟩
  rintro K m i' D ⟨i, pv, pw, E, rfl, him, hE, hD⟩ ih
  by_cases hlt : i < n
  · rw [r9_l1]
    refine Lt.Ok.pos (by omega) (Lt.Ok.bind (hD.go1 (k := k + 199) hE 2) fun r A ⟨hr, hA⟩ => ?_)
    dsimp only
    refine Lt.Ok.bind (hA.go2 2) fun q B ⟨hq, hB⟩ => ?_
    dsimp only
    subst hr; subst hq
    have hE2 := Chs.go_ok hE 2
    generalize (E.go 2).1 = F at *
    refine Lt.Ok.neg (by simp) ?_
    have e1 : Int.tmod (i : Int) 31 = ((i % 31 : Nat) : Int) := rfl
    have e2 : w64 (Int.tdiv (i : Int) 31) = ((i / 31 : Nat) : Int) := by
      have : Int.tdiv (i : Int) 31 = ((i / 31 : Nat) : Int) := rfl
      rw [this, w64_id (by omega) (by omega)]
    rw [e1, e2]
    rw [app33]
    unfold itoaP
    rw [if_pos (by omega)]
    simp only [Option.bind_some, AV.asStr]
    have z1 := itoa_small (n := ((i % 31 : Nat) : Int)) (by omega) (by omega)
    have z2 := itoa_small (n := ((i / 31 : Nat) : Int)) (by omega) (by omega)
    have z3 : (ByteArray.mk #[111, 102, 102, 101, 114, 32]).size = 6 := rfl
    have z4 : (ByteArray.mk #[32]).size = 1 := rfl
    refine Lt.Ok.ck (by omega) (Lt.Ok.ck (by simp only [ByteArray.size_append]; omega) ?_)
    rw [app33]
    unfold itoaP
    rw [if_pos (by omega)]
    simp only [Option.bind_some, AV.asStr]
    refine Lt.Ok.ck (by simp only [ByteArray.size_append]; omega) ?_
    have z5 : (offLine i).size ≤ 1048576 := by unfold offLine; simp only [ByteArray.size_append]; omega
    refine Lt.Ok.bind (hB.do1 (k := k + 198) hE2 (line := offLine i) z5) fun r A ⟨hr, pv', hA, _⟩ => ?_
    dsimp only
    refine Lt.Ok.bind (hA.do2 (k := k) hE2 (line := offLine i) z5) fun q G ⟨hq, pw', hG, _⟩ => ?_
    dsimp only
    subst hr; subst hq
    have hE3 := Chs.do_ok hE2 (offLine i)
    refine Lt.Ok.pos (strEq_iff.2 rfl) ?_
    unfold r9_j2
    refine Lt.Ok.neg (by simp) ?_
    rw [w64_succ (by omega)]
    exact ih (m - 1) _ G (by omega) ⟨i + 1, pv', pw', _, rfl, by omega, hE3, hG⟩
  · exact full_read hD hE hs (by omega)
def la20 : ByteArray := ByteArray.mk #[108, 101, 97, 102, 32, 97, 32, 50, 48]
def lb20 : ByteArray := ByteArray.mk #[108, 101, 97, 102, 32, 98, 32, 50, 48]
theorem fullLaw {k : Nat} {H : Hp} {n : Int} {line : ByteArray} (hs : line.size ≤ 1048576) : Lt.Ok (r9 (appA (k + 200)) n line H) fun r _ => r = true := by
  unfold r9
  refine Both.new (f := fun p => lt (p.2.2.push (.cells [.str la20, .str lb20] false)) fun H3 => r9_l0 (appA (k + 200)) FUEL n line p.1.1 p.1.2 p.2.1.1 p.2.1.2 ⟨false, p.2.2.n, 0, 2, 2, 0⟩ ((⟨false, p.2.2.n, 0, 2, 2, 0⟩ : Sl).len : Int) 0 H3) fun c d A pv pw gA hc hd hB => ?_
  refine Lt.Ok.lt ?_
  have gp := Gr.push A (.cells [.str la20, .str lb20] false)
  have hB3 := hB.gr gp
  have hg := Hp.get_push_new A (.cells [.str la20, .str lb20] false)
  have l1 := Hp.get_lt hB.ch.get
  have l2 := hB.pvlt
  have l3 := Hp.get_lt hB.rc.get
  have l4 := Hp.get_lt hB.rc.pg
  generalize A.push (.cells [.str la20, .str lb20] false) = B at *
  dsimp only
  refine Lt.Ok.loop (L := fun K (i : Int) D => r9_l0 (appA (k + 200)) K n line c 0 d 0 ⟨false, A.n, 0, 2, 2, 0⟩ 2 i D) (fun m i' D => ∃ (i : Nat) (pv pw : Sl) (E : Chs), i' = (i : Int) ∧ i + m = 2 ∧ E.Ok ∧ Both D c pv E d pw E ∧ D.get A.n = some (.cells [.str la20, .str lb20] false) ∧ pv.b ≠ A.n ∧ pw.b ≠ A.n) ?_ FUEL 2 0 B (by unfold FUEL; omega) ⟨0, pv, pw, Chs.new, rfl, rfl, Chs.new_ok, hB3, hg, by omega, by omega⟩
  rintro K m i' D ⟨i, pv, pw, E, rfl, him, hE, hD, hgD, n1, n2⟩ ih
  rw [r9_l0]
  refine Lt.Ok.ite (fun hlt => ?_) fun hlt => ?_
  · have hil : i < 2 := by omega
    obtain ⟨x, hx, hxs⟩ : ∃ x, D.ldStr A.n (0 + (i : Int).toNat * 1) = some x ∧ x.size ≤ 1048576 := by
      rcases (show i = 0 ∨ i = 1 by omega) with rfl | rfl
      · exact ⟨la20, by simp [Hp.ldStr, ld_of_get hgD, AV.asStr], by decide⟩
      · exact ⟨lb20, by simp [Hp.ldStr, ld_of_get hgD, AV.asStr], by decide⟩
    refine Lt.Ok.ck (by dsimp only; omega) (Lt.Ok.ld hx ?_)
    have hAn := Hp.get_lt hgD
    refine Lt.Ok.bind (hD.do1 (k := k + 198) hE hxs) fun r F ⟨hr, pv', hF, sF⟩ => ?_
    obtain ⟨a1, a2, a3⟩ := sF.ok hAn (by omega) (Ne.symm n1)
    dsimp only
    refine Lt.Ok.bind (hF.do2 (k := k) hE hxs) fun q G ⟨hq, pw', hG, sG⟩ => ?_
    obtain ⟨b1, b2, b3⟩ := sG.ok a1 (by omega) (Ne.symm n2)
    dsimp only
    rw [w64_succ (by omega)]
    exact ih (m - 1) _ G (by omega) ⟨i + 1, pv', pw', _, rfl, by omega, Chs.do_ok hE x, hG, by rw [b3, a3]; exact hgD, Ne.symm a2, Ne.symm b2⟩
  · have e : ∃ q : Nat, q ≤ 300 ∧ w64 (190 + (w64 (Int.tmod (IntKind.wrap .u64 n) 15))) = (q : Int) := by
      obtain ⟨_, q, hq, e⟩ := umod n (n := 15) (by omega) (by omega)
      rw [wrapU_id (n := ((15 : Nat) : Int)) (by omega) (by omega)] at e
      refine ⟨190 + q, by omega, ?_⟩
      have e : w64 (Int.tmod (IntKind.wrap .u64 n) 15) = (q : Int) := e
      rw [e, w64_id (by omega) (by omega)]
      omega
    obtain ⟨q, hq, e⟩ := e
    rw [e]
    exact full_loop hD hE hs hq
theorem lawCall9 (H : Hp) (xs : List AV) (_ : NoOwn H) (h : B.RdAs 1048576 H [.int .i64, .str] xs) : ∃ H1, CallSim Tryz.prog 9 xs H (.bool true) H1 := by
  obtain ⟨x, _, rfl, ⟨n, hx, hn⟩, y, _, rfl, ⟨s, hy, hs⟩, rfl⟩ := h
  injection hx with hx _
  injection hy with hy _
  subst hx; subst hy
  obtain ⟨b, H1, h1, rfl⟩ := fullLaw (k := 0) (H := H) (n := n) hs
  exact ⟨H1, sim9 (happ := appASim 200) h1⟩
end Go.Lt.P10
