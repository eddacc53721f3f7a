/- PLAIN LAWS OF WHAT IS COMPUTED, for the statement 'PairsSpread'. Nothing is asked of the input. -/
import Derived.Test.YthmhdbmpeepmaaaU12URows
set_option linter.unusedVariables false
set_option linter.unusedSimpArgs false
namespace Go.Lt.P8
open Go Go.Lt Go.Proofs

def zeros (n : Nat) : List Int := List.replicate (2 * n) 0
theorem zerosA_ints (k : Nat) : zerosA [.int .i64 0] k = (List.replicate k (0 : Int)).map (.int .i64) := by
  unfold zerosA
  apply List.ext_getElem
  · simp
  · intro i h1 h2
    simp [Nat.mod_one]

section
variable {σ : Type} {nx : σ → List Int → σ} {ct : σ → List Int → Bool} {V : σ → Hp → Prop} {n a0 : Nat} {s : Int} {fv : AV} {H : Hp} {st0 : σ}

theorem rows_spec (hfv : fv.isU = false) (hf1 : fv.one = true) (hn1 : 1 ≤ n) (hn : n ≤ 32) (hs1 : 1 ≤ s) (hs2 : s ≤ 64) (hVs : ∀ st H' l, V st H' → V st (H'.set (H.n + 3) l)) (hV0 : ∀ H', Gr H H' → V st0 H')
    (hv : ∀ a, a0 ≤ a → ∀ row st H', row.length = 2 * n → Env (H.n + 4) (H.n + 2) H.n (H.n + 1) (H.n + 5) (H.n + 3) (2 * n) n s fv H' → V st H' → RowAt (H.n + 3) H' row → H.n + 6 ≤ H'.n →
      ∃ H'', callv (app a) fv [.sl ⟨false, H.n + 3, 0, 2 * n, 2 * n, 0⟩] H' = some (.bool (ct st row), H'') ∧ Env (H.n + 4) (H.n + 2) H.n (H.n + 1) (H.n + 5) (H.n + 3) (2 * n) n s fv H'' ∧ V (nx st row) H'' ∧ RowAt (H.n + 3) H'' row ∧ H.n + 6 ≤ H''.n)
    {f : Nat} (hf : n < f) : ∃ H', r73 (app (a0 + f)) n s fv H = some ((), H') ∧ V (run nx ct (gen n s f (zeros n) 0) st0).1 H' := by
  unfold r73
  rw [ck, if_pos hf1]
  simp only [lt]
  have e1 : (((H.push (.cells [.int .i64 (n : Int)] false)).push (.cells [.int .i64 s] false)).push (.cells [fv] false)).ldI .i64 H.n 0 = some (n : Int) := by
    unfold Hp.ldI
    rw [ld_push_old _ _ _ (by simp; omega), ld_push_old _ _ _ (by simp), ld_push_new]
    simp [AV.asI]
  rw [e1]
  simp only [Option.bind_some]
  have ew : w64 (2 * (n : Int)) = ((2 * n : Nat) : Int) := by rw [w64_id (by omega) (by omega)]; push_cast; rfl
  simp only [ew, ck]
  rw [if_pos (by omega)]
  simp only [Int.toNat_natCast, Nat.mul_one, zerosA_ints]
  generalize hA : (((H.push (.cells [.int .i64 (n : Int)] false)).push (.cells [.int .i64 s] false)).push (.cells [fv] false)) = A
  have hAn : A.n = H.n + 3 := by rw [← hA]; simp
  have gA : Gr H A := by rw [← hA]; exact ((Gr.push _ _).trans (Gr.push _ _)).trans (Gr.push _ _)
  have a0' : A.ld H.n 0 = some (.int .i64 n) := by rw [← hA, ld_push_old _ _ _ (by simp; omega), ld_push_old _ _ _ (by simp), ld_push_new]; rfl
  have a1' : A.ld (H.n + 1) 0 = some (.int .i64 s) := by
    rw [← hA, ld_push_old _ _ _ (by simp), show H.n + 1 = (H.push (.cells [.int .i64 (n : Int)] false)).n by simp, ld_push_new]; rfl
  have a2' : A.ld (H.n + 2) 0 = some fv := by
    rw [← hA, show H.n + 2 = ((H.push (.cells [.int .i64 (n : Int)] false)).push (.cells [.int .i64 s] false)).n by simp, ld_push_new]; rfl
  clear hA e1
  generalize hB : A.push (.cells ((List.replicate (2 * n) (0 : Int)).map (.int .i64)) false) = B
  have hBn : B.n = H.n + 4 := by rw [← hB]; simp [hAn]
  have gB : Gr A B := by rw [← hB]; exact Gr.push _ _
  have rB : RowAt (H.n + 3) B (zeros n) := by unfold RowAt; rw [← hB, ← hAn, Hp.get_push_new]; rfl
  clear hB
  have gC : Gr B (B.push (.cells [.sl ⟨true, 0, 0, 0, 0, 0⟩] false)) := Gr.push _ _
  rw [st_eq (b := B.n) (cs := [.sl ⟨true, 0, 0, 0, 0, 0⟩]) (by simp) (by simp)]
  simp only [Option.bind_some, List.set_cons_zero, hAn, hBn]
  generalize hC : (B.push (.cells [.sl ⟨true, 0, 0, 0, 0, 0⟩] false)).set (H.n + 4) (.cells [.sl ⟨false, H.n + 3, 0, 2 * n, 2 * n, 0⟩] false) = C
  have hCn : C.n = H.n + 5 := by rw [← hC]; simp [hBn]
  have gC : Gr B C := ⟨by omega, fun b hb => by rw [← hC, Hp.get_set_other _ _ (by omega), Hp.get_push_old _ _ hb]⟩
  have c4 : C.ld (H.n + 4) 0 = some (.sl ⟨false, H.n + 3, 0, 2 * n, 2 * n, 0⟩) := by rw [← hC, ld_set_same _ _ _ _ (by simp [hBn])]; rfl
  clear hC
  rw [st_eq (b := C.n) (cs := [.nilfn]) (by simp) (by simp)]
  simp only [Option.bind_some, List.set_cons_zero, hCn, Hp.n_push]
  generalize hD : (C.push (.cells [.nilfn] false)).set (H.n + 5) _ = D
  have hDn : D.n = H.n + 6 := by rw [← hD]; simp [hCn]
  have gD : Gr C D := ⟨by omega, fun b hb => by rw [← hD, Hp.get_set_other _ _ (by omega), Hp.get_push_old _ _ hb]⟩
  have d5 : D.ld (H.n + 5) 0 = some (.fn 107 [] [.ptr (H.n + 4) 0, .ptr (H.n + 2) 0, .ptr H.n 0, .ptr (H.n + 1) 0, .ptr (H.n + 5) 0]) := by
    rw [← hD, ld_set_same _ _ _ _ (by simp [hCn])]; rfl
  clear hD
  have gBD := gC.trans gD
  have gAD := gB.trans gBD
  have env : Env (H.n + 4) (H.n + 2) H.n (H.n + 1) (H.n + 5) (H.n + 3) (2 * n) n s fv D := ⟨gD.ld c4, gAD.ld a2', gAD.ld a0', gAD.ld a1', d5⟩
  have row : RowAt (H.n + 3) D (zeros n) := by unfold RowAt; rw [gBD.2 _ (by omega)]; exact rB
  simp only [Hp.ldV, d5, Option.bind_some, AV.isU, Bool.false_eq_true, if_false]
  have setE : ∀ {H' l}, Env (H.n + 4) (H.n + 2) H.n (H.n + 1) (H.n + 5) (H.n + 3) (2 * n) n s fv H' → Env (H.n + 4) (H.n + 2) H.n (H.n + 1) (H.n + 5) (H.n + 3) (2 * n) n s fv (H'.set (H.n + 3) l) := fun h =>
    ⟨by rw [ld_set_other _ _ _ (by omega)]; exact h.h0, by rw [ld_set_other _ _ _ (by omega)]; exact h.h1, by rw [ld_set_other _ _ _ (by omega)]; exact h.h2, by rw [ld_set_other _ _ _ (by omega)]; exact h.h3, by rw [ld_set_other _ _ _ (by omega)]; exact h.h4⟩
  obtain ⟨H', hc, ⟨_, hV, _⟩, _⟩ := fill_spec (nx := nx) (ct := ct) (Q := fun st H' => Env (H.n + 4) (H.n + 2) H.n (H.n + 1) (H.n + 5) (H.n + 3) (2 * n) n s fv H' ∧ V st H' ∧ H.n + 6 ≤ H'.n) (a0 := a0) (n := n) (s := s) hfv (fun _ _ h => h.1)
    (fun st H' l h => ⟨setE h.1, hVs _ _ _ h.2.1, by simpa using h.2.2⟩) (by omega) (by omega) hs1 hs2
    (fun a ha row st H' hl hq hr => by
      obtain ⟨H'', h1, h2, h3, h4, h5⟩ := hv a ha row st H' hl hq.1 hq.2.1 hr hq.2.2
      exact ⟨H'', h1, ⟨h2, h3, h5⟩, h4⟩) f (zeros n) 0 st0 D (by simp [zeros]) ⟨env, hV0 D (gA.trans gAD), by omega⟩ row (by simp [zeros]; omega)
  rw [hc]
  exact ⟨H', rfl, hV⟩
end
theorem gen_mem (n : Nat) (s : Int) : ∀ (f : Nat) (row : List Int) (u : Int), ∀ r ∈ gen n s f row u, r.length = row.length := by
  intro f
  induction f with
  | zero => intro row u r h; simp [gen] at h
  | succ f ih =>
    intro row u r h
    rw [gen] at h
    split at h
    · simp at h; rw [h]
    · simp only [List.mem_flatMap] at h
      obtain ⟨k, _, h⟩ := h
      unfold genK at h
      split at h
      · simp at h
      · have := ih _ _ r h
        simpa using this
theorem gen_len (n : Nat) (hn : n ≤ 8) (s : Int) : ∀ (f : Nat) (row : List Int) (u : Int), (gen n s f row u).length ≤ 8 ^ f := by
  intro f
  induction f with
  | zero => intro row u; simp [gen]
  | succ f ih =>
    intro row u
    rw [gen]
    split
    · have := Nat.pow_pos (n := f + 1) (show 0 < 8 by omega)
      simp only [List.length_cons, List.length_nil]
      omega
    · have : ∀ (m k : Nat), ((List.range' k m).flatMap fun k => genK (gen n s f) s row u (idxF row 0 0) k).length ≤ m * 8 ^ f := by
        intro m
        induction m with
        | zero => intro k; simp
        | succ m ihm =>
          intro k
          rw [List.range'_succ, List.flatMap_cons, List.length_append, Nat.succ_mul]
          have := ihm (k + 1)
          have h2 : (genK (gen n s f) s row u (idxF row 0 0) k).length ≤ 8 ^ f := by
            unfold genK
            split
            · simp
            · exact ih _ _
          omega
      refine Nat.le_trans (this n 1) ?_
      rw [Nat.pow_succ, Nat.mul_comm]
      exact Nat.mul_le_mul_left _ hn

end Go.Lt.P8
