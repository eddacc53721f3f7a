/- THE LIBRARY OF THESE PROOFS, A PART: an abstract heap, and that the model's steps keep to it. Nothing is asked of the input. -/
import Derived.Test.YthmhdbmpeepmaaaLPrs
set_option linter.unusedVariables false
namespace Go.Lt
/-- a set of pairs, kept as a map to true -/
def pk (p : Int × Int) : AV := .agg [.int .i64 p.1, .int .i64 p.2]
def ent (p : Int × Int) : AV × AV := (pk p, .bool true)
def MapP (H : Hp) (b : Nat) (S : List (Int × Int)) : Prop := H.get b = some (.map (.arr 2 .i64) (S.map ent)) ∧ S.Nodup
theorem pk_keq (p q : Int × Int) : (pk p).keq (pk q) = decide (p = q) := by
  obtain ⟨a, b⟩ := p
  obtain ⟨c, d⟩ := q
  simp only [pk, AV.keq, AV.keqs, AV.keq1, Bool.and_true, Prod.mk.injEq]
  rw [Bool.eq_iff_iff]
  simp
theorem afind_ent (p : Int × Int) (S : List (Int × Int)) : afind (pk p) (S.map ent) = S.findIdx? (fun q => decide (p = q)) := by
  unfold afind
  rw [List.findIdx?_map]
  congr 1
  funext q
  exact pk_keq p q
theorem find_mem {p : Int × Int} {S : List (Int × Int)} (h : p ∈ S) : ∃ i, ∃ (hi : i < S.length), S.findIdx? (fun q => decide (p = q)) = some i ∧ S[i] = p := by
  cases hf : S.findIdx? (fun q => decide (p = q)) with
  | none =>
    rw [List.findIdx?_eq_none_iff] at hf
    have := hf p h
    simp at this
  | some i =>
    rw [List.findIdx?_eq_some_iff_getElem] at hf
    obtain ⟨hi, h1, _⟩ := hf
    exact ⟨i, hi, rfl, by simpa using (of_decide_eq_true h1).symm⟩
theorem find_not {p : Int × Int} {S : List (Int × Int)} (h : p ∉ S) : S.findIdx? (fun q => decide (p = q)) = none := by
  rw [List.findIdx?_eq_none_iff]
  intro x hx
  exact decide_eq_false (fun e => h (e ▸ hx))
theorem pk_ok (p : Int × Int) : (KT.arr 2 .i64).ok (pk p) = true := by simp [KT.ok, pk, AV.isInt]

theorem MapP.get {H : Hp} {b : Nat} {S : List (Int × Int)} (h : MapP H b S) (p : Int × Int) : H.mgetT (.arr 2 .i64) b (pk p) = some (if p ∈ S then some (.bool true) else none) := by
  unfold Hp.mgetT
  rw [h.1]
  simp only [pk_ok, and_self, if_true, afind_ent]
  by_cases hp : p ∈ S
  · obtain ⟨i, hi, e1, e2⟩ := find_mem hp
    rw [if_pos hp, e1]
    simp [ent, hi]
  · rw [if_neg hp, find_not hp]
    rfl
theorem MapP.set {H : Hp} {b : Nat} {S : List (Int × Int)} (h : MapP H b S) (p : Int × Int) :
    H.msetT (.arr 2 .i64) b (pk p) (.bool true) = some (H.set b (.map (.arr 2 .i64) ((if p ∈ S then S else S ++ [p]).map ent))) ∧ MapP (H.set b (.map (.arr 2 .i64) ((if p ∈ S then S else S ++ [p]).map ent))) b (if p ∈ S then S else S ++ [p]) := by
  refine ⟨?_, Hp.get_set_same H _ (Hp.get_lt h.1), ?_⟩
  · unfold Hp.msetT Hp.mset
    rw [h.1]
    simp only [pk_ok, if_true, afind_ent]
    by_cases hp : p ∈ S
    · obtain ⟨i, hi, e1, e2⟩ := find_mem hp
      rw [if_pos hp, e1]
      simp only
      congr 3
      apply List.ext_getElem
      · simp
      · intro j h1 h2
        simp only [List.getElem_set, List.getElem_map]
        split
        · rename_i e; subst e; rw [e2]; rfl
        · rfl
    · rw [if_neg hp, find_not hp]
      simp [ent]
  · split
    · exact h.2
    · rename_i hp
      rw [List.nodup_append]
      exact ⟨h.2, by simp, by simpa using fun a b ha => by rintro rfl; exact hp ha⟩
theorem MapP.del {H : Hp} {b : Nat} {S : List (Int × Int)} (h : MapP H b S) (p : Int × Int) :
    H.mdelT (.arr 2 .i64) b (pk p) = some (H.set b (.map (.arr 2 .i64) ((S.erase p).map ent))) ∧ MapP (H.set b (.map (.arr 2 .i64) ((S.erase p).map ent))) b (S.erase p) := by
  refine ⟨?_, Hp.get_set_same H _ (Hp.get_lt h.1), h.2.erase p⟩
  unfold Hp.mdelT Hp.mdel
  rw [h.1]
  simp only [pk_ok, if_true, afind_ent]
  by_cases hp : p ∈ S
  · obtain ⟨i, hi, e1, e2⟩ := find_mem hp
    rw [e1]
    simp only
    have : S.erase p = S.eraseIdx i := by
      rw [List.erase_eq_eraseIdx]
      have e3 : List.idxOf? p S = some i := by
        rw [← e1]
        unfold List.idxOf?
        congr 1
        funext q
        rw [Bool.eq_iff_iff]
        simp only [beq_iff_eq, decide_eq_true_eq]
        exact eq_comm
      rw [e3]
    rw [this]
    have hm : ∀ (l : List (Int × Int)) (i : Nat), (l.map ent).eraseIdx i = (l.eraseIdx i).map ent := by
      intro l
      induction l with
      | nil => intro i; simp
      | cons x l ih => intro i; cases i with
        | zero => rfl
        | succ i => simp [ih]
    rw [hm]
  · rw [find_not hp, List.erase_of_not_mem hp]
theorem MapP.keep {H H' : Hp} {b : Nat} {S : List (Int × Int)} (h : MapP H b S) (hg : H'.get b = H.get b) : MapP H' b S := ⟨by rw [hg]; exact h.1, h.2⟩
end Go.Lt
