/- PLAIN LAWS OF WHAT IS COMPUTED, for the statement 'PairsRenamed'. Nothing is asked of the input. -/
import Derived.Test.YthmhdbmpeepmaaaLB
import Derived.Test.YthmhdbmpeepmaaaU17URrP
import Derived.Test.YthmhdbmpeepmaaaG17A
set_option linter.unusedVariables false
set_option linter.unusedSimpArgs false
namespace Go.Lt.P8
open Go Go.Lt Go.Proofs
def cutR (ls : List (List Pr)) : List (List Pr) := (ls.take 10).map fun r => r.take 7
theorem cutR_succ (ls : List (List Pr)) (i : Nat) (h : i < ls.length) : cutR (ls.take (i + 1)) = cutR (ls.take i) ++ if i < 10 then [ls[i].take 7] else [] := by
  unfold cutR
  rw [List.take_succ_eq_append_getElem h, List.take_append, List.map_append]
  congr 1
  simp only [List.length_take, Nat.min_eq_left (Nat.le_of_lt h)]
  split
  · rw [show 10 - i = (9 - i) + 1 by omega]; simp
  · rw [show 10 - i = 0 by omega]; simp
/-- each of these is nil, or held by none else, and no two are the same -/
def Sep (H : Hp) (lo : Nat) (ws : List Sl) (ls : List (List Pr)) : Prop := (∀ i (h : i < ws.length) (h' : i < ls.length), ws[i].nil = false → Own H ws[i] ls[i] ∧ lo ≤ ws[i].b) ∧
  ∀ i j (h : i < ws.length) (h' : j < ws.length), ws[i].nil = false → ws[j].nil = false → i ≠ j → ws[i].b ≠ ws[j].b
/-- rounds: a copy -/
theorem r63_ok {H : Hp} {v : Sl} {vs : List Sl} {ls : List (List Pr)} (hv : SLL H v vs ls) (hb : ls.length < 9223372036854775808) :
    Ok (r63 v H) fun w H' => Gr H H' ∧ ∃ ws, AccS H.n H' w ws (cutR ls) ∧ Sep (H'.hide w) H.n ws (cutR ls) := by
  unfold r63
  have hlen := hv.len
  rw [hlen]
  refine Ok.loop (L := fun K (s : Sl × Int) H' => r63_l0 K s.1 v ls.length s.2 H') (fun m s H' => ∃ i : Nat, s.2 = i ∧ i + m = ls.length ∧ Gr H H' ∧ ∃ ws, AccS H.n H' s.1 ws (cutR (ls.take i)) ∧ Sep (H'.hide s.1) H.n ws (cutR (ls.take i))) ?_ FUEL ls.length (⟨true, 0, 0, 0, 0, 0⟩, 0) H (by unfold FUEL; omega)
    ⟨0, rfl, by omega, .refl _, [], by simp [cutR]; exact .nilS, by simp [cutR, Sep]⟩
  rintro K m ⟨w, s⟩ H1 ⟨i, rfl, hm, g1, ws, h1, h2⟩ ih
  try dsimp only at *
  rw [r63_l0]
  by_cases h : i < ls.length
  · refine Ok.pos (by omega) (Ok.ck (by omega) (Ok.ld ((hv.gr g1).ldSl (i := i) h) ?_))
    have hx := (hv.gr g1).get h
    have hxl := hx.len
    have hxc := hx.cap
    have hxo : (vs[i]'(by rw [hv.vlen]; exact h)).opn = 0 ∨ (vs[i]'(by rw [hv.vlen]; exact h)).opn = 2 := hx.opn
    rw [w64_succ (by omega)]
    generalize vs[i]'(by rw [hv.vlen]; exact h) = x at hx hxl hxc hxo ⊢
    by_cases h10 : i < 10
    · refine Ok.pos (by omega) ?_
      generalize hmm : (if 7 < (x.len : Int) then (7 : Int) else (x.len : Int)) = mm
      have hmm' : mm = ((min x.len 7 : Nat) : Int) := by rw [← hmm]; split <;> omega
      subst hmm'
      refine Ok.ck ⟨by omega, hxo⟩ ?_
      have hcut := hx.cut (lo := 0) (hi := min x.len 7) (by omega) (by omega)
      have ecut : (ls[i].drop 0).take (min x.len 7 - 0) = ls[i].take 7 := by
        rw [List.drop_zero, Nat.sub_zero, Nat.min_comm, hxl]
        rw [List.take_eq_take_iff]; omega
      rw [ecut] at hcut
      have hcl : Ok (r103 (x.cut 2 (0 : Int).toNat ((min x.len 7 : Nat) : Int).toNat) H1) _ := clone_ok hcut (by simp; omega) rfl
      refine Ok.bind hcl fun w2 H2 ⟨g2, hw2, hn2, ho2⟩ => ?_
      have hlt : w.nil = false → w.b < H1.n := fun e => h1.1.lt e
      have hne : w.nil = false → w2.nil = false → w2.b ≠ w.b := fun e1 e2 => by
        have := hlt e1
        have := (ho2 (by rw [← hn2]; exact e2)).2
        have h1' : H1.n ≤ w2.b := this
        omega
      have hcl : (cutR (ls.take i)).length ≤ 10 := by simp [cutR]; omega
      refine Ok.bind ((h1.gr g2).push (g1.trans g2) (hw2.hide hne) (by omega)) fun w3 H3 ⟨h3, g3, b3, e3⟩ => ?_
      refine ih (m - 1) (w3, _) H3 (by omega) ⟨i + 1, rfl, by omega, g3, ws ++ [w2], by rw [cutR_succ _ _ h, if_pos h10]; exact h3, ?_⟩
      rw [cutR_succ _ _ h, if_pos h10]
      have hwl := h1.2.1
      have g2n := g2.1
      have g1n := g1.1
      try dsimp only at g2n b3 e3 hlt
      have hkeep : ∀ b cs ro, (H1.hide w).get b = some (.cells cs ro) → (H3.hide w3).get b = some (.cells cs ro) := fun b cs ro e => by
        obtain ⟨e1, e2⟩ := hide_get e
        have hb := Hp.get_lt e1
        rw [get_hide, b3.2 b (by omega) e2, g2.2 b hb, e1]
        intro hn
        rcases e3 with rfl | e3
        · exact e2 hn
        · omega
      have hold : ∀ j (hj : j < ws.length), ws[j].nil = false → ws[j].b < H1.n := fun j hj hn => by
        have := Hp.get_lt (hide_get (h2.1 j hj (by omega) hn).1.get).1
        exact this
      refine ⟨fun j hj hj' hn => ?_, fun j k hj hk n1 n2 hjk => ?_⟩
      · simp only [List.length_append, List.length_singleton] at hj hj'
        by_cases hjl : j < ws.length
        · simp only [List.getElem_append_left hjl] at hn ⊢
          rw [List.getElem_append_left (by omega)]
          obtain ⟨o, lo⟩ := h2.1 j hjl (by omega) hn
          exact ⟨⟨o.nn, o.o, o.len, o.cap, o.opn, hkeep _ _ _ o.get⟩, lo⟩
        · have hjw : j = ws.length := by omega
          subst hjw
          simp only [List.getElem_concat_length] at hn ⊢
          rw [List.getElem_append_right (by omega)]
          simp only [hwl, Nat.sub_self, List.getElem_cons_zero]
          obtain ⟨o, lo⟩ := ho2 (by rw [← hn2]; exact hn)
          refine ⟨⟨o.nn, o.o, o.len, o.cap, o.opn, ?_⟩, by omega⟩
          have hb := Hp.get_lt o.get
          rw [get_hide, b3.2 _ hb (fun e => hne e hn)]
          · exact o.get
          · intro hn3
            rcases e3 with rfl | e3
            · exact hne hn3 hn
            · omega
      · simp only [List.length_append, List.length_singleton] at hj hk
        by_cases hjl : j < ws.length <;> by_cases hkl : k < ws.length
        · simp only [List.getElem_append_left hjl, List.getElem_append_left hkl] at n1 n2 ⊢
          exact h2.2 j k hjl hkl n1 n2 hjk
        · have hkw : k = ws.length := by omega
          subst hkw
          simp only [List.getElem_concat_length, List.getElem_append_left hjl] at n1 n2 ⊢
          have := hold j hjl n1
          have := (ho2 (by rw [← hn2]; exact n2)).2
          have h1' : H1.n ≤ w2.b := this
          omega
        · have hjw : j = ws.length := by omega
          subst hjw
          simp only [List.getElem_concat_length, List.getElem_append_left hkl] at n1 n2 ⊢
          have := hold k hkl n2
          have := (ho2 (by rw [← hn2]; exact n1)).2
          have h1' : H1.n ≤ w2.b := this
          omega
        · omega
    · refine Ok.neg (by omega) ?_
      refine ih (m - 1) (w, _) H1 (by omega) ⟨i + 1, rfl, by omega, g1, ws, ?_, ?_⟩
      · rw [cutR_succ _ _ h, if_neg h10, List.append_nil]; exact h1
      · rw [cutR_succ _ _ h, if_neg h10, List.append_nil]; exact h2
  · refine Ok.neg (by omega) ?_
    rw [List.take_of_length_le (by omega)] at h1 h2
    exact Ok.ret ⟨g1, ws, h1, h2⟩
end Go.Lt.P8
