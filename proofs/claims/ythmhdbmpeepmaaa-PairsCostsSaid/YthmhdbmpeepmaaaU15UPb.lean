/- PLAIN LAWS OF WHAT IS COMPUTED, for the statement 'PairsCosts'. Nothing is asked of the input. -/
import Derived.Test.YthmhdbmpeepmaaaU15UPa
import Derived.Test.YthmhdbmpeepmaaaU15UPins
set_option linter.unusedVariables false
set_option linter.unusedSimpArgs false
namespace Go.Lt.P8
open Go Go.Lt Go.Proofs
/-- what a closure says of a list -/
def Says (a : App) (fv : AV) (p : List Int → Bool) : Prop := ∀ H x l, SL H x l → l.length ≤ 1000 → Ok (callv a fv [.sl x] H) fun r H' => Gr H H' ∧ r = .bool (p l)
theorem says84 (k : Nat) : Says (app (k + 1)) (.fn 84 [] []) (fun l => !pinsF l) := by
  intro H x l hx hl
  show Ok ((r84 x H).map fun p => (AV.bool p.1, p.2)) _
  show Ok (((r82 x H).bind fun p1 => some ((!p1.1), p1.2)).map fun p => (AV.bool p.1, p.2)) _
  obtain ⟨H', e, g⟩ := r82_spec hx.is hl
  rw [e]
  exact Ok.ret ⟨g, rfl⟩
theorem r99_ok {a : App} {fv : AV} {p : List Int → Bool} (hp : Says a fv p) {H : Hp} {v : Sl} {vs : List Sl} {ls : List (List Int)} (hv : SLL H v vs ls) (hl : ∀ l ∈ ls, l.length ≤ 1000) (hb : ls.length ≤ 1000000) :
    Ok (r99 a v fv H) fun i H' => Gr H H' ∧ ((i = -1 ∧ ∀ l ∈ ls, p l = false) ∨ ∃ t, ∃ (h : t < ls.length), i = t ∧ p ls[t] = true ∧ ∀ j (hj : j < t), p ls[j] = false) := by
  unfold r99
  have hlen := hv.len
  rw [hlen]
  refine Ok.loop (L := fun K (s : Int) H' => r99_l0 a K v fv ls.length s H') (fun m s H' => ∃ i : Nat, s = i ∧ i + m = ls.length ∧ Gr H H' ∧ ∀ j (hj : j < ls.length), j < i → p ls[j] = false) ?_ FUEL ls.length 0 H (by unfold FUEL; omega) ⟨0, rfl, by omega, .refl _, fun j _ h => by omega⟩
  rintro K m s H1 ⟨i, rfl, hm, g, hi⟩ ih
  try dsimp only at *
  rw [r99_l0]
  by_cases h : i < ls.length
  · refine Ok.pos (by omega) (Ok.ck (by omega) (Ok.ld ((hv.gr g).ldSl (i := i) h) ?_))
    refine Ok.bind (hp H1 _ _ ((hv.gr g).get h) (hl _ (List.getElem_mem h))) fun r H2 ⟨g2, hr⟩ => ?_
    subst hr
    refine Ok.ld rfl (Ok.ite (fun hc => Ok.ret ⟨g.trans g2, .inr ⟨i, h, rfl, hc, fun j hj => hi j (by omega) hj⟩⟩) fun hc => ?_)
    rw [w64_succ (by omega)]
    refine ih (m - 1) _ H2 (by omega) ⟨i + 1, rfl, by omega, g.trans g2, fun j hj hj2 => ?_⟩
    by_cases e : j = i
    · subst e; simpa using hc
    · exact hi j hj (by omega)
  · refine Ok.neg (by omega) (Ok.ret ⟨g, .inl ⟨rfl, fun l hl => ?_⟩⟩)
    obtain ⟨j, hj, rfl⟩ := List.mem_iff_getElem.1 hl
    exact hi j hj (by omega)
theorem sts_block {b : Nat} : ∀ (xs : List AV) (o : Nat) (H : Hp) (cs : List AV), H.get b = some (.cells cs false) → o + xs.length ≤ cs.length →
    ∃ H', H.sts b o xs = some H' ∧ H'.get b = some (.cells (cs.take o ++ xs ++ cs.drop (o + xs.length)) false) ∧ H'.n = H.n ∧ ∀ c, c ≠ b → H'.get c = H.get c := by
  intro xs
  induction xs with
  | nil => intro o H cs hg h; exact ⟨H, rfl, by simpa using hg, rfl, fun _ _ => rfl⟩
  | cons x xs ih =>
    intro o H cs hg h
    simp only [List.length_cons] at h
    simp only [Hp.sts]
    rw [st_eq hg (by omega)]
    simp only [Option.bind_some]
    obtain ⟨H', h1, h2, h3, h4⟩ := ih (o + 1) (H.set b (.cells (cs.set o x) false)) (cs.set o x) (Hp.get_set_same _ _ (Hp.get_lt hg)) (by simp; omega)
    refine ⟨H', h1, ?_, by rw [h3]; simp, fun c hc => by rw [h4 c hc, Hp.get_set_other _ _ hc]⟩
    rw [h2]
    congr 2
    rw [List.drop_set_of_lt (by omega), List.take_succ_eq_append_getElem (by simp; omega), List.getElem_set_self, List.take_set_of_le (Nat.le_refl _)]
    simp only [List.append_assoc, List.singleton_append, List.cons_append, List.nil_append, List.length_cons]
    rw [show o + 1 + xs.length = o + (xs.length + 1) by omega]
theorem zerosA_len (z : AV) (k : Nat) : (zerosA [z] k).length = k := by simp [zerosA]
theorem hide_swap {H H' : Hp} {v : Sl} (hn : v.nil = false) (h : ∀ c, c ≠ v.b → H'.get c = H.get c) : Sub (H.hide v) (H'.hide v) := fun b cs ro e => by
  obtain ⟨e1, e2⟩ := hide_get e
  rw [get_hide e2, h b (e2 hn)]; exact e1
end Go.Lt.P8
