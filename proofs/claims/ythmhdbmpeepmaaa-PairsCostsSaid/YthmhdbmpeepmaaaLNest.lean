/- THE LIBRARY OF THESE PROOFS, A PART: an abstract heap, and that the model's steps keep to it. Nothing is asked of the input. -/
import Derived.Test.YthmhdbmpeepmaaaLAuto
set_option linter.unusedVariables false
namespace Go.Lt
open Go.RowKit
/-! ### slices of slices -/
/-- what lies in cells in the one lies so in the other -/
def Sub (A B : Hp) : Prop := ∀ b cs ro, A.get b = some (.cells cs ro) → B.get b = some (.cells cs ro)
theorem Sub.refl (A : Hp) : Sub A A := fun _ _ _ h => h
theorem Sub.trans {A B C : Hp} (h : Sub A B) (k : Sub B C) : Sub A C := fun b cs ro e => k b cs ro (h b cs ro e)
theorem Gr.sub {A B : Hp} (g : Gr A B) : Sub A B := fun b cs ro e => by rw [g.2 b (Hp.get_lt e)]; exact e
theorem Sub.ld {A B : Hp} (h : Sub A B) {b o : Nat} {x : AV} (e : A.ld b o = some x) : B.ld b o = some x := by
  unfold Hp.ld at *
  split at e
  · rename_i cs ro hg; rw [h b cs ro hg]; exact e
  · cases e
theorem Sub.lds {A B : Hp} (h : Sub A B) {b : Nat} : ∀ {n o : Nat} {xs : List AV}, A.lds b o n = some xs → B.lds b o n = some xs := by
  intro n
  induction n with
  | zero => intro o xs e; exact e
  | succ n ih =>
    intro o xs e
    obtain ⟨x, ys, rfl, h1, h2⟩ := lds_cons_inv e
    exact lds_cons (h.ld h1) (ih h2)
theorem SL.sub {T : Type} [El T] {A B : Hp} {v : Sl} {l : List T} (h : SL A v l) (s : Sub A B) : SL B v l := ⟨⟨h.cs.1, s.lds h.cs.2⟩, h.cap, h.opn, h.nil⟩
/-- all but a slice's block -/
def Hp.hide (H : Hp) (v : Sl) : Hp := if v.nil then H else H.set v.b .dead
theorem hide_get {H : Hp} {v : Sl} {b : Nat} {cs : List AV} {ro : Bool} (h : (H.hide v).get b = some (.cells cs ro)) : H.get b = some (.cells cs ro) ∧ (v.nil = false → b ≠ v.b) := by
  unfold Hp.hide at h
  split at h
  · rename_i hn; exact ⟨h, fun e => by rw [hn] at e; cases e⟩
  · by_cases e : b = v.b
    · subst e
      have hlt := Hp.get_lt h
      simp only [Hp.n_set] at hlt
      rw [Hp.get_set_same _ _ hlt] at h
      cases h
    · rw [Hp.get_set_other _ _ e] at h
      exact ⟨h, fun _ => e⟩
theorem hide_sub {H : Hp} {v : Sl} : Sub (H.hide v) H := fun b cs ro h => (hide_get h).1
theorem get_hide {H : Hp} {v : Sl} {b : Nat} (h : v.nil = false → b ≠ v.b) : (H.hide v).get b = H.get b := by
  unfold Hp.hide
  split
  · rfl
  · rename_i hn
    rw [Hp.get_set_other _ _ (h (by simpa using hn))]
theorem ld_hide {H : Hp} {v : Sl} {b o : Nat} (h : v.nil = false → b ≠ v.b) : (H.hide v).ld b o = H.ld b o := by unfold Hp.ld; rw [get_hide h]
theorem lds_hide {H : Hp} {v : Sl} {b : Nat} (h : v.nil = false → b ≠ v.b) : ∀ {n o : Nat}, (H.hide v).lds b o n = H.lds b o n := by
  intro n
  induction n with
  | zero => intro o; rfl
  | succ n ih => intro o; simp only [Hp.lds, ld_hide h, ih]
section
variable {T : Type} [El T]
theorem SL.hide {H : Hp} {v w : Sl} {l : List T} (h : SL H w l) (hne : v.nil = false → w.nil = false → w.b ≠ v.b) : SL (H.hide v) w l := by
  cases hn : w.nil with
  | true => obtain ⟨rfl, rfl⟩ := h.nil hn; exact SL.nilS
  | false => exact ⟨⟨h.cs.1, by rw [lds_hide (fun e => hne e hn)]; exact h.cs.2⟩, h.cap, h.opn, h.nil⟩
theorem Gr.hide {H H' : Hp} (g : Gr H H') {v : Sl} (hb : v.nil = false → v.b < H.n) : Gr (H.hide v) (H'.hide v) := by
  unfold Hp.hide
  split
  · exact g
  · rename_i hn
    have hlt := hb (by simpa using hn)
    refine ⟨by simpa using g.1, fun b h => ?_⟩
    simp only [Hp.n_set] at h
    by_cases e : b = v.b
    · subst e; rw [Hp.get_set_same _ _ hlt, Hp.get_set_same _ _ (by have := g.1; omega)]
    · rw [Hp.get_set_other _ _ e, Hp.get_set_other _ _ e, g.2 b h]
/-- each of these slices holds such a list -/
def All (H : Hp) (vs : List Sl) (ls : List (List T)) : Prop := vs.length = ls.length ∧ ∀ i (h : i < vs.length) (h' : i < ls.length), SL H vs[i] ls[i]
theorem All.sub {A B : Hp} {vs : List Sl} {ls : List (List T)} (h : All A vs ls) (s : Sub A B) : All B vs ls := ⟨h.1, fun i a b => (h.2 i a b).sub s⟩
theorem All.nil {H : Hp} : All (T := T) H [] [] := ⟨rfl, fun i h => absurd h (by simp)⟩
theorem All.append {H : Hp} {vs ws : List Sl} {ls ms : List (List T)} (h : All H vs ls) (k : All H ws ms) : All H (vs ++ ws) (ls ++ ms) := by
  refine ⟨by simp [h.1, k.1], fun i h1 h2 => ?_⟩
  by_cases hlt : i < vs.length
  · rw [List.getElem_append_left hlt, List.getElem_append_left (by have := h.1; omega)]
    exact h.2 i hlt (by have := h.1; omega)
  · have e := h.1
    have h1' := h1
    have h2' := h2
    simp only [List.length_append] at h1' h2'
    rw [List.getElem_append_right (by omega), List.getElem_append_right (by omega)]
    have := k.2 (i - vs.length) (by omega) (by omega)
    simp only [e] at this ⊢
    exact this
theorem All.one {H : Hp} {w : Sl} {l : List T} (h : SL H w l) : All H [w] [l] := ⟨rfl, fun i h1 h2 => by
  have : i = 0 := by simpa using h1
  subst this; exact h⟩
/-- a slice of slices as one meets it -/
structure SLL (H : Hp) (v : Sl) (vs : List Sl) (ls : List (List T)) : Prop where
  cs : Cs H 1 v (vs.map .sl)
  cap : v.len ≤ v.cap
  opn : v.opn = 0 ∨ v.opn = 1
  nil : v.nil = true → v = nilS ∧ vs = []
  all : All H vs ls
theorem SLL.sub {A B : Hp} {v : Sl} {vs : List Sl} {ls : List (List T)} (h : SLL A v vs ls) (s : Sub A B) : SLL B v vs ls := ⟨⟨h.cs.1, s.lds h.cs.2⟩, h.cap, h.opn, h.nil, h.all.sub s⟩
theorem SLL.gr {A B : Hp} {v : Sl} {vs : List Sl} {ls : List (List T)} (h : SLL A v vs ls) (g : Gr A B) : SLL B v vs ls := h.sub g.sub
theorem SLL.len {H : Hp} {v : Sl} {vs : List Sl} {ls : List (List T)} (h : SLL H v vs ls) : v.len = ls.length := by
  have h1 := h.cs.1
  have h2 := h.all.1
  simp at h1
  omega
theorem SLL.vlen {H : Hp} {v : Sl} {vs : List Sl} {ls : List (List T)} (h : SLL H v vs ls) : vs.length = ls.length := h.all.1
theorem SLL.ldSl {H : Hp} {v : Sl} {vs : List Sl} {ls : List (List T)} (h : SLL H v vs ls) {i : Nat} (hi : i < ls.length) : H.ldSl v.b (v.o + i * 1) = some (vs[i]'(by rw [h.vlen]; exact hi)) := by
  have hl := h.vlen
  have := h.cs.ld (i := i) (by simp; omega)
  simp only [List.getElem_map] at this
  simp [Hp.ldSl, this, AV.asSl]
theorem SLL.get {H : Hp} {v : Sl} {vs : List Sl} {ls : List (List T)} (h : SLL H v vs ls) {i : Nat} (hi : i < ls.length) : SL H (vs[i]'(by rw [h.vlen]; exact hi)) ls[i] := h.all.2 i _ hi
theorem SLL.lds {H : Hp} {v : Sl} {vs : List Sl} {ls : List (List T)} (h : SLL H v vs ls) : H.lds v.b v.o (v.len * 1) = some (vs.map .sl) := h.cs.lds
theorem SLL.nilS {H : Hp} : SLL (T := T) H ⟨true, 0, 0, 0, 0, 0⟩ [] [] := ⟨⟨rfl, rfl⟩, Nat.le_refl _, .inl rfl, fun _ => ⟨rfl, rfl⟩, .nil⟩
/-- what one appends slices to -/
def AccS (n0 : Nat) (H : Hp) (v : Sl) (vs : List Sl) (ls : List (List T)) : Prop := Acc n0 1 H v (vs.map .sl) ∧ All (H.hide v) vs ls
theorem AccS.nilS {n0 : Nat} {H : Hp} : AccS (T := T) n0 H ⟨true, 0, 0, 0, 0, 0⟩ [] [] := ⟨Acc.nilS, .nil⟩
theorem AccS.gr {n0 : Nat} {H H' : Hp} {v : Sl} {vs : List Sl} {ls : List (List T)} (h : AccS n0 H v vs ls) (g : Gr H H') : AccS n0 H' v vs ls :=
  ⟨Acc.gr g h.1, h.2.sub (Gr.hide g (h.1.lt)).sub⟩
theorem AccS.sll {n0 : Nat} {H : Hp} {v : Sl} {vs : List Sl} {ls : List (List T)} (h : AccS n0 H v vs ls) : SLL H v vs ls := by
  refine ⟨h.1.cs, ?_, ?_, ?_, h.2.sub hide_sub⟩ <;> rcases h.1 with ⟨rfl, e⟩ | ⟨h1, h2, h3, h4, h5, h6, h7⟩
  · simp [Lt.nilS]
  · omega
  · simp [Lt.nilS]
  · exact .inr h3
  · intro _; exact ⟨rfl, List.map_eq_nil_iff.1 e⟩
  · intro e; rw [h1] at e; cases e
theorem AccS.app {H0 H : Hp} {v : Sl} {vs ws : List Sl} {ls ms : List (List T)} (h : AccS H0.n H v vs ls) (g : Gr H0 H) (hw : All (H.hide v) ws ms) {cs : List AV} {n : Nat} (hcs : cs = ws.map .sl) (hn : n = ws.length) (hb : ls.length + ms.length ≤ 4294967296) :
    Ok (H.app 1 v cs n) fun v' H' => AccS H0.n H' v' (vs ++ ws) (ls ++ ms) ∧ Gr H0 H' ∧ But v H H' ∧ (v' = v ∨ H.n ≤ v'.b) := by
  subst hcs; subst hn
  have hl := h.sll.len
  obtain ⟨v', H', h1, h2, h3, h4, h5, h6, h7⟩ := Acc.app (k := ws.length) (xs := ws.map .sl) h.1 (by omega) (by simp) (by have := hw.1; omega) g.1
  have s : Sub (H.hide v) (H'.hide v') := fun b cs ro e => by
    obtain ⟨e1, e2⟩ := hide_get e
    have hlt := Hp.get_lt e1
    rw [get_hide, h3.2 b hlt e2, e1]
    intro hn
    rcases h4 with rfl | h4
    · exact e2 hn
    · omega
  refine ⟨v', H', h1, ⟨?_, (h.2.append hw).sub s⟩, h3.gr h.1 g, h3, h4⟩
  rw [List.map_append]
  exact h2
theorem AccS.push {H0 H : Hp} {v w : Sl} {vs : List Sl} {ls : List (List T)} {l : List T} (h : AccS H0.n H v vs ls) (g : Gr H0 H) (hw : SL (H.hide v) w l) (hb : ls.length < 4294967296) :
    Ok (H.apN 1 v [.sl w] 1) fun v' H' => AccS H0.n H' v' (vs ++ [w]) (ls ++ [l]) ∧ Gr H0 H' ∧ But v H H' ∧ (v' = v ∨ H.n ≤ v'.b) := by
  have gp := Gr.push H (.cells [.sl w] false)
  have hw' : All ((H.push (.cells [.sl w] false)).hide v) [w] [l] := (All.one hw).sub (Gr.hide gp h.1.lt).sub
  refine ((h.gr gp).app (g.trans gp) hw' (cs := [.sl w]) (n := 1) rfl rfl (by simp; omega)).mono fun v' H' ⟨a, b, c, d⟩ => ⟨a, b, ⟨by have := gp.1; have := c.1; omega, fun x hx hne => by rw [c.2 x (by simp; omega) hne, gp.2 x hx]⟩, ?_⟩
  rcases d with d | d
  · exact .inl d
  · simp at d; exact .inr (by omega)
end
end Go.Lt
