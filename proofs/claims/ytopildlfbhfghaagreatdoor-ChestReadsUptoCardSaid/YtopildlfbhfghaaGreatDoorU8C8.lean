/- PLAIN LAWS OF WHAT IS COMPUTED, for the statement 'ChestReads'. Nothing is asked of the input. -/
import Derived.Test.YtopildlfbhfghaaGreatDoorU8CRx
import Derived.Test.YtopildlfbhfghaaGreatDoorU8CRm
import Derived.Test.YtopildlfbhfghaaGreatDoorLB
set_option linter.unusedVariables false
set_option linter.unusedSimpArgs false
set_option maxHeartbeats 4000000
namespace Go.Lt.P10
open Go Go.Lt Go.Proofs
theorem readsLaw {k : Nat} {H : Hp} {s : ByteArray} (hs : s.size ≤ 1048576) : Lt.Ok (r8 (appA (k + 200)) s H) fun r _ => r = true := by
  unfold r8
  refine Lt.Ok.ck (by split <;> omega) ?_
  generalize hx : s.extract (0 : Int).toNat ((if 3000 < (s.size : Int) then 3000 else (s.size : Int)) : Int).toNat = x
  have hxs : x.size ≤ 3000 := by
    rw [← hx, ByteArray.size_extract]
    split <;> omega
  have hxl : x.data.toList.length = x.size := by rw [Array.length_toList]; rfl
  have sl : ∀ A : Hp, SL (A.push (.cells (bytesAV x) false)) ⟨false, A.n, 0, x.size, x.size, 1⟩ x.data.toList := fun A =>
    SL.of_get (ro := false) (by rw [bytes_encs]; exact Hp.get_push_new _ _) rfl hxl.symm (Nat.le_refl _) (.inr rfl) rfl
  refine Lt.Ok.bind (read_ok (k := k + 198) (sl H) (by omega)) fun r A ⟨gA, hr⟩ => ?_
  dsimp only
  refine Lt.Ok.bind (read_okR (k := k) (sl A) (by omega)) fun q B ⟨gB, hq⟩ => ?_
  dsimp only
  cases hrd : Chs.rd (x.data.toList.length + 1) Chs.new x.data.toList with
  | none =>
    rw [hrd] at hr hq
    dsimp only at hr hq
    subst hr; subst hq
    refine Lt.Ok.neg (by simp) ?_
    simp only [AV.isp, Option.bind_some]
    unfold r8_j0
    refine Lt.Ok.neg (by simp) ?_
    simp only [AV.isp, Option.bind_some]
    refine Lt.Ok.neg (by simp) ?_
    rw [app34]
    exact Lt.Ok.ret rfl
  | some X =>
    rw [hrd] at hr hq
    dsimp only at hr hq
    obtain ⟨d, pw, t, rfl, hd, hX, _, _⟩ := hr
    obtain ⟨e, pe, rfl, he, _, _, _⟩ := hq
    have gAB : Gr A B := (Gr.push _ _).trans gB
    have hdB := hd.gr gAB
    refine Lt.Ok.neg (by simp) ?_
    simp only [AV.isp, Option.bind_some]
    unfold r8_j0
    refine Lt.Ok.neg (by simp) ?_
    simp only [AV.isp, AV.asP, Option.bind_some, if_true]
    refine Lt.Ok.bind (alike_ok (k := k) hdB he hX) fun z D ⟨gD, hz⟩ => ?_
    subst hz
    dsimp only
    refine Lt.Ok.pos rfl ?_
    refine Lt.Ok.bind (bytes_ok (hdB.gr gD) hX) fun w E ⟨gE, hw⟩ => ?_
    dsimp only
    have hb : X.bytes = x.data.toList := by
      have := Chs.rd_back _ _ _ _ (by decide) hrd
      rw [this]; rfl
    rw [hb] at hw
    refine is (bEq_ok (hw.1.sl.gr (Gr.push _ _)) (sl E)) ?_
    dsimp only
    refine Lt.Ok.pos rfl ?_
    rw [app34]
    exact Lt.Ok.ret rfl
theorem lawCall8 (H : Hp) (xs : List AV) (_ : NoOwn H) (h : B.RdAs 1048576 H [.str] xs) : ∃ H1, CallSim Tryz.prog 8 xs H (.bool true) H1 := by
  obtain ⟨x, _, rfl, ⟨s, hx, hs⟩, rfl⟩ := h
  injection hx with hx _
  subst hx
  obtain ⟨b, H1, h1, rfl⟩ := readsLaw (k := 0) (H := H) hs
  exact ⟨H1, sim8 (happ := appASim 200) h1⟩
end Go.Lt.P10
