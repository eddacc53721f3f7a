/- PLAIN LAWS OF WHAT IS COMPUTED, for the statement 'PairsCosts'. Nothing is asked of the input. -/
import Derived.Test.YthmhdbmpeepmaaaU15UPb
set_option linter.unusedVariables false
set_option linter.unusedSimpArgs false
namespace Go.Lt.P8
open Go Go.Lt Go.Proofs
theorem All.take {H : Hp} {T : Type} [El T] {vs : List Sl} {ls : List (List T)} (h : All H vs ls) (n : Nat) : All H (vs.take n) (ls.take n) :=
  ⟨by simp [h.1], fun i h1 h2 => by
    simp only [List.length_take] at h1 h2
    rw [List.getElem_take, List.getElem_take]; exact h.2 i (by omega) (by omega)⟩
theorem filter_take_none {α : Type} {p : α → Bool} {l : List α} {t : Nat} (h : ∀ j (hj : j < l.length), j < t → p l[j] = true) : (l.take t).filter p = l.take t := by
  rw [List.filter_eq_self]
  intro a ha
  obtain ⟨j, hj, rfl⟩ := List.mem_iff_getElem.1 ha
  simp only [List.length_take] at hj
  rw [List.getElem_take]
  exact h j (by omega) (by omega)
theorem r83_ok {a : App} {fv : AV} {p : List Int → Bool} (hp : Says a fv p) {H0 H : Hp} {v : Sl} {vs : List Sl} {ls : List (List Int)} (hv : AccS H0.n H v vs ls) (g0 : Gr H0 H) (hl : ∀ l ∈ ls, l.length ≤ 1000) (hb : ls.length ≤ 1000000) :
    Ok (r83 a v fv H) fun w H' => Gr H0 H' ∧ ∃ ws, SLL H' w ws (ls.filter fun l => !p l) := by
  unfold r83
  have hlen := hv.sll.len
  refine Ok.bind (r99_ok hp hv.sll hl hb) fun i H1 ⟨g1, hi⟩ => ?_
  have hv1 := hv.gr g1
  rcases hi with ⟨rfl, hi⟩ | ⟨t, ht, rfl, hi, hj⟩
  · refine Ok.pos rfl (Ok.ret ⟨g0.trans g1, vs, ?_⟩)
    rw [List.filter_eq_self.2 (fun l hl => by simp [hi l hl])]
    exact hv1.sll
  · refine Ok.neg (by simp) ?_
    have hll : ls ≠ [] := fun e => by rw [e] at ht; simp at ht
    rcases hv1.1 with ⟨rfl, e⟩ | ⟨h1, h2, h3, h4, h5, h6, h7⟩
    · have := hv.2.1
      rw [List.map_eq_nil_iff.1 e] at this
      exact absurd (List.length_eq_zero_iff.1 this.symm) hll
    have hvl := hv.2.1
    rw [w64_succ (by omega)]
    refine Ok.loop (L := fun K (s : Int × Int) H' => r83_l0 a K v fv s.1 s.2 H') (fun m s H' => ∃ i j : Nat, s = ((i : Int), (j : Int)) ∧ j + m = ls.length ∧ i < j ∧ Gr H0 H' ∧ ∃ ws, ws.length = vs.length ∧ H'.get v.b = some (.cells (ws.map .sl) false) ∧ All (H'.hide v) vs ls ∧
        All (H'.hide v) (ws.take i) ((ls.take j).filter fun l => !p l) ∧ (∀ k (hk : k < ws.length) (hk2 : k < vs.length), j ≤ k → ws[k] = vs[k])) ?_ FUEL (ls.length - (t + 1)) ((t : Int), ((t + 1 : Nat) : Int)) H1 (by unfold FUEL; omega)
      ⟨t, t + 1, rfl, by omega, by omega, g0.trans g1, vs, rfl, h6, hv1.2, ?_, fun k _ _ _ => rfl⟩
    · rintro K m ⟨s1, s2⟩ H2 ⟨i, j, he, hm, hij, g, ws, hw, hg, ha, hf, hk⟩ ih
      obtain ⟨rfl, rfl⟩ := Prod.mk.inj he
      try dsimp only at *
      rw [r83_l0]
      have hwl : (ws.map AV.sl).length = v.len * 1 := by simp; omega
      have hcs := Cs.of_get (es := 1) hg h2 hwl
      by_cases h : j < ls.length
      · have hld : H2.ldSl v.b (v.o + j * 1) = some (vs[j]'(by omega)) := by
          have := hcs.ld (i := j) (by simp; omega)
          simp only [List.getElem_map] at this
          rw [hk j (by omega) (by omega) (Nat.le_refl _)] at this
          simp [Hp.ldSl, this, AV.asSl]
        refine Ok.pos (by omega) (Ok.ck (by omega) (Ok.ld hld ?_))
        refine Ok.bind (hp H2 _ _ ((ha.2 j (by omega) h).sub hide_sub) (hl _ (List.getElem_mem h))) fun r H3 ⟨g3, hr⟩ => ?_
        subst hr
        have hvb : v.nil = false → v.b < H2.n := fun _ => Hp.get_lt hg
        have s3 := (Gr.hide g3 hvb).sub
        have hg3 : H3.get v.b = some (.cells (ws.map .sl) false) := by rw [g3.2 _ (Hp.get_lt hg)]; exact hg
        refine Ok.ld rfl (Ok.ite (fun hc => ?_) fun hc => ?_)
        · rw [w64_succ (by omega)]
          refine ih (m - 1) _ H3 (by omega) ⟨i, j + 1, rfl, by omega, by omega, g.trans g3, ws, hw, hg3, ha.sub s3, ?_, fun k h1 h2 h3 => hk k h1 h2 (by omega)⟩
          rw [List.take_succ_eq_append_getElem h, List.filter_append, List.filter_cons_of_neg (by simp [hc])]
          simpa using hf.sub s3
        · simp only [Bool.not_eq_true] at hc
          refine Ok.ck (by omega) ?_
          refine Ok.st hg3 (by simp; omega) fun H4 e4 hg4 => ?_
          have s4 : Sub (H3.hide v) (H4.hide v) := hide_swap h1 fun c hc => by rw [e4, Hp.get_set_other _ _ hc]
          rw [w64_succ (by omega), w64_succ (by omega)]
          refine ih (m - 1) _ H4 (by omega) ⟨i + 1, j + 1, rfl, by omega, by omega, e4 ▸ (g.trans g3).set h5, ws.set i (vs[j]'(by omega)), by simp [hw], ?_, (ha.sub s3).sub s4, ?_, fun k h1 h2 h3 => ?_⟩
          · rw [hg4, h2, List.map_set]
            simp
          · rw [List.take_succ_eq_append_getElem h, List.filter_append, List.filter_cons_of_pos (by simp [hc]), List.filter_nil, List.take_succ_eq_append_getElem (by simp; omega), List.getElem_set_self, List.take_set_of_le (Nat.le_refl _)]
            exact ((hf.sub s3).sub s4).append (All.one (((ha.2 j (by omega) h).sub s3).sub s4))
          · rw [List.getElem_set_ne (by omega)]
            exact hk k (by simpa using h1) h2 (by omega)
      · have hil : i ≤ ls.length := by omega
        refine Ok.neg (by omega) (Ok.ck ⟨by omega, .inr h3⟩ ?_)
        have ecut : v.cut 1 i v.len = ⟨false, v.b, v.o + i * 1, v.len - i, v.cap - i, v.opn⟩ := by simp [Sl.cut, h1]
        simp only [Int.toNat_natCast]
        rw [ecut]
        dsimp only
        obtain ⟨H3, e3, hg3, n3, o3⟩ := sts_block (zerosA [.sl ⟨true, 0, 0, 0, 0, 0⟩] ((v.len - i) * 1)) (v.o + i * 1) H2 (ws.map .sl) hg (by rw [zerosA_len]; simp; omega)
        refine Ok.ld e3 (Ok.ck ⟨by omega, .inr h3⟩ (Ok.ret ⟨⟨by rw [n3]; exact g.1, fun c hc => by rw [o3 c (by omega), g.2 c hc]⟩, ws.take i, ?_⟩))
        rw [List.take_of_length_le (show ls.length ≤ j by omega)] at hf
        have s3 : Sub (H2.hide v) (H3.hide v) := hide_swap h1 o3
        have ecut2 : v.cut 1 (0 : Int).toNat i = ⟨false, v.b, v.o, i, v.cap, v.opn⟩ := by simp [Sl.cut, h1]
        rw [ecut2]
        refine ⟨⟨by simp; omega, ?_⟩, by simp; omega, .inr h3, fun e => by simp at e, (hf.sub s3).sub hide_sub⟩
        refine lds_of_get fun k hk2 => ?_
        simp only [List.length_map, List.length_take] at hk2
        rw [ld_of_get hg3, h2]
        simp only [Nat.mul_one, Nat.zero_add]
        rw [List.append_assoc, List.getElem?_append_left (by simp; omega)]
        simp
        rw [List.getElem?_take_of_lt (by omega), List.getElem?_map, List.getElem?_eq_getElem (by omega)]
        rfl
    · rw [List.take_succ_eq_append_getElem ht, List.filter_append, List.filter_cons_of_neg (by simp [hi]), List.filter_nil, List.append_nil, filter_take_none (fun j h1 h2 => by simp [hj j h2])]
      exact All.take hv1.2 t
end Go.Lt.P8
