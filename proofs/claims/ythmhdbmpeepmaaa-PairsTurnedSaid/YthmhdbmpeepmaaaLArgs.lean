/- THE LIBRARY OF THESE PROOFS, A PART: an abstract heap, and that the model's steps keep to it. Nothing is asked of the input. -/
import Derived.Test.YthmhdbmpeepmaaaLRow
import Derived.Deep.Slices
set_option linter.unusedVariables false
namespace Go.Lt
open Go.ChangeShapes Go.WideShapes Go.ChangeAt Go.RowKit

/-- the shape of a datum -/
inductive Sh where
  | bool
  | int (k : IntKind)
  | str
  | sl (s : Sh)
  | rep (n : Nat) (s : Sh)
  | unit
  | pair (a b : Sh)
def Sh.cells : Sh → Nat
  | .rep n s => n * s.cells
  | .unit => 0
  | .pair a b => a.cells + b.cells
  | _ => 1
def Sh.agg : Sh → Bool
  | .rep .. => true
  | .unit => true
  | .pair .. => true
  | _ => false

def SlOk (H : Hp) (v : Sl) : Prop := v = ⟨true, 0, 0, 0, 0, 0⟩ ∨ (v.nil = false ∧ v.opn = 0 ∧ v.o = 0 ∧ v.len ≤ v.cap ∧ v.cap ≤ maxLen ∧ v.b < H.n)
/-- what cells hold -/
def Rd (H : Hp) : Sh → List AV → Prop
  | .bool, xs => ∃ b, xs = [.bool b]
  | .int k, xs => ∃ n, xs = [.int k n] ∧ (Lit.int k n).wf = true
  | .str, xs => ∃ s, xs = [.str s] ∧ s.size ≤ maxLen
  | .unit, xs => xs = []
  | .pair a b, xs => ∃ ys zs, xs = ys ++ zs ∧ Rd H a ys ∧ Rd H b zs
  | .rep n s, xs => ∃ l : List (List AV), l.length = n ∧ xs = l.flatten ∧ ∀ y ∈ l, Rd H s y
  | .sl s, xs => ∃ v : Sl, xs = [.sl v] ∧ SlOk H v ∧ ∃ l : List (List AV), l.length = v.len ∧ H.lds v.b v.o (v.len * s.cells) = some l.flatten ∧ ∀ y ∈ l, Rd H s y
/-- one argument -/
def RdA (H : Hp) (s : Sh) (x : AV) : Prop := if s.agg = true then ∃ xs, x = .agg xs ∧ Rd H s xs else Rd H s [x]
def RdAs (H : Hp) : List Sh → List AV → Prop
  | [], xs => xs = []
  | s :: ss, xs => ∃ y ys, xs = y :: ys ∧ RdA H s y ∧ RdAs H ss ys

/-- a heap that has grown -/
def Gr (H H' : Hp) : Prop := H.n ≤ H'.n ∧ ∀ b, b < H.n → H'.get b = H.get b
theorem Gr.refl (H : Hp) : Gr H H := ⟨Nat.le_refl _, fun _ _ => rfl⟩
theorem Gr.trans {a b c : Hp} (h : Gr a b) (k : Gr b c) : Gr a c := ⟨Nat.le_trans h.1 k.1, fun i hi => (k.2 i (Nat.lt_of_lt_of_le hi h.1)).trans (h.2 i hi)⟩
theorem Gr.push (H : Hp) (k : Blk) : Gr H (H.push k) := ⟨by simp, fun b hb => Hp.get_push_old H k hb⟩
theorem ld_lt {H : Hp} {b o : Nat} {x : AV} (h : H.ld b o = some x) : b < H.n := by
  unfold Hp.ld at h
  split at h
  · rename_i hg; exact Hp.get_lt hg
  · cases h
theorem Gr.ld {H H' : Hp} (g : Gr H H') {b o : Nat} {x : AV} (h : H.ld b o = some x) : H'.ld b o = some x := by
  have hb := ld_lt h
  unfold Hp.ld at h ⊢
  rw [g.2 b hb]
  exact h
theorem Gr.lds {H H' : Hp} (g : Gr H H') {b : Nat} : ∀ {n o : Nat} {xs : List AV}, H.lds b o n = some xs → H'.lds b o n = some xs := by
  intro n
  induction n with
  | zero => intro o xs h; exact h
  | succ n ih =>
    intro o xs h
    simp only [Hp.lds, Option.bind_eq_some_iff, Option.map_eq_some_iff] at h ⊢
    obtain ⟨x, h1, y, h2, e⟩ := h
    exact ⟨x, g.ld h1, y, ih h2, e⟩
theorem Rd.mono {H H' : Hp} (g : Gr H H') : ∀ {s : Sh} {xs : List AV}, Rd H s xs → Rd H' s xs := by
  intro s
  induction s with
  | bool => intro xs h; exact h
  | int k => intro xs h; exact h
  | str => intro xs h; exact h
  | unit => intro xs h; exact h
  | pair a b iha ihb => rintro xs ⟨ys, zs, rfl, h1, h2⟩; exact ⟨ys, zs, rfl, iha h1, ihb h2⟩
  | rep n s ih => rintro xs ⟨l, hl, rfl, h⟩; exact ⟨l, hl, rfl, fun y hy => ih (h y hy)⟩
  | sl s ih =>
    rintro xs ⟨v, rfl, hv, l, hl, hd, h⟩
    refine ⟨v, rfl, ?_, l, hl, g.lds hd, fun y hy => ih (h y hy)⟩
    rcases hv with hv | ⟨a, b, c, d, e, f⟩
    · exact .inl hv
    · exact .inr ⟨a, b, c, d, e, Nat.lt_of_lt_of_le f g.1⟩
theorem RdA.mono {H H' : Hp} (g : Gr H H') {s : Sh} {x : AV} (h : RdA H s x) : RdA H' s x := by
  unfold RdA at h ⊢
  split
  · rw [if_pos (by assumption)] at h
    obtain ⟨xs, e, h⟩ := h
    exact ⟨xs, e, h.mono g⟩
  · rw [if_neg (by assumption)] at h
    exact h.mono g

/-! ### shapes of types -/
def shFields (P : Program) (f : TypeId → Option Sh) : Nat → List Field → Option Sh
  | _, [] => some .unit
  | off, x :: xs => (f x.type).bind fun s => if x.offset = off ∧ P.cellsOf x.type = s.cells then (shFields P f (off + s.cells) xs).map (.pair s) else none
def shOf (P : Program) : Nat → TypeId → Option Sh
  | 0, _ => none
  | n + 1, t =>
    match P.underlying t with
    | some .bool => some .bool
    | some (.int k) => some (.int k)
    | some .string => some .str
    | some (.slice e) => (shOf P n e).bind fun s => if P.cellsOf e = s.cells ∧ 0 < s.cells then some (.sl s) else none
    | some (.array k e) => (shOf P n e).bind fun s => if P.cellsOf e = s.cells ∧ P.cellsOf t = k * s.cells then some (.rep k s) else none
    | some (.struct fs) => (shFields P (shOf P n) 0 fs.toList).bind fun s => if P.cellsOf t = s.cells then some s else none
    | _ => none
def shsOf (P : Program) (n : Nat) : List TypeId → Option (List Sh)
  | [] => some []
  | t :: ts => (shOf P n t).bind fun s => (shsOf P n ts).map (s :: ·)

/-! ### reading -/
def NoOwn (H : Hp) : Prop := ∀ b k, H.get b = some k → k.owned = false
structure In0 (W : World) (m : Nat → Loc) (H : Hp) : Prop where
  inv : Inv W.heap.size W m H W
  own : NoOwn H

def Readable (W : World) (s : Sh) (cs : List Value) : Prop := ∀ m H, In0 W m H → ∃ m' H' xs, Gr H H' ∧ Ext H.n m m' ∧ In0 W m' H' ∧ RVs m' H'.n xs cs ∧ Rd H' s xs

theorem In0.push {W : World} {m : Nat → Loc} {H : Hp} (h : In0 W m H) (k : Blk) (l : Loc) (ho : k.owned = false) (hk : BlkRel W.heap.size (newLoc H m l) (H.n + 1) W H.n k) : In0 W (newLoc H m l) (H.push k) where
  inv :=
    { below := h.inv.below
      hB := h.inv.hB
      rel := fun b k' hg => by
        rw [Hp.get_push] at hg
        by_cases e : b = H.n
        · subst e
          rw [if_pos rfl] at hg
          cases hg
          exact hk
        · rw [if_neg e] at hg
          exact (h.inv.rel b k' hg).mono (newLoc_ext H m l) (by simp) (Hp.get_lt hg) (fun _ => rfl)
      excl := fun b b' k1 k2 hne h1 h2 ho1 hl2 => by
        exfalso
        rw [Hp.get_push] at h1
        by_cases e : b = H.n
        · rw [if_pos e] at h1
          cases h1
          rw [ho] at ho1
          cases ho1
        · rw [if_neg e] at h1
          have := h.own b k1 h1
          rw [this] at ho1
          cases ho1 }
  own := fun b k' hg => by
    rw [Hp.get_push] at hg
    by_cases e : b = H.n
    · rw [if_pos e] at hg; cases hg; exact ho
    · rw [if_neg e] at hg; exact h.own b k' hg

theorem readable_many {W : World} {s : Sh} : ∀ (L : List (List Value)), (∀ cs ∈ L, Readable W s cs) → ∀ m H, In0 W m H →
    ∃ (m' : Nat → Loc) (H' : Hp) (l : List (List AV)), Gr H H' ∧ Ext H.n m m' ∧ In0 W m' H' ∧ l.length = L.length ∧ RVs m' H'.n l.flatten L.flatten ∧ (∀ y ∈ l, Rd H' s y) := by
  intro L
  induction L with
  | nil => intro _ m H h; exact ⟨m, H, [], .refl _, .refl _ _, h, rfl, .nil, by simp⟩
  | cons cs L ih =>
    intro hL m H h
    obtain ⟨m1, H1, xs, g1, e1, i1, r1, d1⟩ := hL cs (by simp) m H h
    obtain ⟨m2, H2, l, g2, e2, i2, hl, r2, d2⟩ := ih (fun c hc => hL c (by simp [hc])) m1 H1 i1
    refine ⟨m2, H2, xs :: l, g1.trans g2, e1.trans e2 g1.1, i2, by simp [hl], (r1.mono e2 g2.1).append r2, fun y hy => ?_⟩
    rcases List.mem_cons.1 hy with rfl | hy
    · exact d1.mono g2
    · exact d2 y hy
theorem readable_pair {W : World} {a b : Sh} {cs ds : List Value} (h1 : Readable W a cs) (h2 : Readable W b ds) : Readable W (.pair a b) (cs ++ ds) := by
  intro m H h
  obtain ⟨m1, H1, xs, g1, e1, i1, r1, d1⟩ := h1 m H h
  obtain ⟨m2, H2, ys, g2, e2, i2, r2, d2⟩ := h2 m1 H1 i1
  exact ⟨m2, H2, xs ++ ys, g1.trans g2, e1.trans e2 g1.1, i2, (r1.mono e2 g2.1).append r2, xs, ys, rfl, d1.mono g2, d2⟩
theorem readable_rep {W : World} {n : Nat} {s : Sh} {L : List (List Value)} (hn : L.length = n) (h : ∀ cs ∈ L, Readable W s cs) : Readable W (.rep n s) L.flatten := by
  intro m H hi
  obtain ⟨m', H', l, g, e, i, hl, r, d⟩ := readable_many L h m H hi
  exact ⟨m', H', l.flatten, g, e, i, r, l, by omega, rfl, d⟩
theorem lds_cells {H : Hp} {b : Nat} {ro : Bool} : ∀ (cs pre : List AV), H.get b = some (.cells (pre ++ cs) ro) → H.lds b pre.length cs.length = some cs := by
  intro cs
  induction cs with
  | nil => intro pre h; rfl
  | cons c cs ih =>
    intro pre h
    refine lds_cons ?_ ?_
    · simp [Hp.ld, h]
    · have := ih (pre ++ [c]) (by simpa using h)
      simpa using this

/-- a slice -/
theorem readable_sl {W : World} {s : Sh} {a : Addr} {len cap : Nat} {L : List (List Value)} (hc : 0 < s.cells) (hn : L.length = len) (hlc : len ≤ cap) (hm : cap ≤ maxLen) (hL : ∀ cs ∈ L, cs.length = s.cells)
    (h : ∀ cs ∈ L, Readable W s cs) (hcell : 0 < cap → ∃ c e fr, W.heap[a.block]? = some (.cells c e fr) ∧ a.spot = none ∧ a.off + len * s.cells ≤ c.size ∧ ∀ i (hi : i < L.flatten.length), c[a.off + i]? = some L.flatten[i]) :
    Readable W (.sl s) [.slice (some a) len cap] := by
  intro m H hi
  obtain ⟨m1, H1, l, g, e, i1, hl, r, d⟩ := readable_many L h m H hi
  by_cases h0 : cap = 0
  · subst h0
    have hl0 : len = 0 := by omega
    subst hl0
    have hp := i1.push .dead ⟨0, 0, 0⟩ rfl trivial
    refine ⟨_, _, [.sl ⟨false, H1.n, 0, 0, 0, 0⟩], g.trans (.push _ _), e.trans (newLoc_ext H1 m1 _) g.1, hp, .cons (.sle _ _ _ (by simp) a) .nil, _, rfl, .inr ⟨rfl, rfl, rfl, by simp, by simp [maxLen], by simp⟩, [], rfl, by simp [Hp.lds], by simp⟩
  · obtain ⟨c, el, fr, hb, hs, hsz, hcs⟩ := hcell (by omega)
    have hlen : l.flatten.length = L.flatten.length := r.1
    have hfl : L.flatten.length = len * s.cells := by
      rw [← hn]
      clear hcell h hn r d i1 hl hcs hsz hlen
      induction L with
      | nil => simp
      | cons x L ih => simp only [List.flatten_cons, List.length_append, List.length_cons]; rw [ih (fun c hc => hL c (by simp [hc])), hL x (by simp)]; rw [Nat.succ_mul]; omega
    have hp := i1.push (.cells l.flatten true) ⟨a.block, a.off, c.size⟩ rfl (by
      refine ⟨c, el, fr, by rw [newLoc_new]; exact hb, by rw [newLoc_new], by rw [newLoc_new]; simp only; omega, ?_, by simp⟩
      intro i hi'
      rw [newLoc_new]
      exact ⟨_, hcs i (by omega), (r.2 i hi' (by omega)).mono (newLoc_ext H1 m1 _) (Nat.le_succ _)⟩)
    have g1 : Gr H1 (H1.push (.cells l.flatten true)) := .push _ _
    refine ⟨_, _, [.sl ⟨false, H1.n, 0, len, cap, 0⟩], g.trans g1, e.trans (newLoc_ext H1 m1 _) g.1, hp, .cons ?_ .nil, _, rfl, .inr ⟨rfl, rfl, rfl, hlc, hm, by simp⟩, l, by simp; omega, ?_, fun y hy => (d y hy).mono g1⟩
    · have := RV.sl (m := newLoc H1 m1 ⟨a.block, a.off, c.size⟩) (n := (H1.push (.cells l.flatten true)).n) H1.n 0 len cap (by simp) hlc
      rw [newLoc_new] at this
      obtain ⟨blk, off, spot⟩ := a
      simp only at hs
      subst hs
      exact this
    · have := lds_cells (H := H1.push (.cells l.flatten true)) (b := H1.n) (ro := true) l.flatten [] (by simp)
      rw [hlen, hfl] at this
      exact this

theorem chunks {α : Type} (c : Nat) : ∀ (k : Nat) (cs : List α), cs.length = k * c → ((List.range k).map fun i => (cs.drop (i * c)).take c).flatten = cs := by
  intro k
  induction k with
  | zero => intro cs h; simp at h; simp [h]
  | succ k ih =>
    intro cs h
    rw [List.range_succ_eq_map, List.map_cons, List.map_map, List.flatten_cons]
    have h1 := ih (cs.drop c) (by rw [List.length_drop, h, Nat.succ_mul]; omega)
    have e : ((fun i => (cs.drop (i * c)).take c) ∘ Nat.succ) = fun i => ((cs.drop c).drop (i * c)).take c := by
      funext i
      simp only [Function.comp, List.drop_drop, Nat.succ_mul]
      rw [Nat.add_comm]
    rw [e, h1]
    simp

variable {K : Type} {enc : TypeId × Value → K} {P : Program} {W : World}
theorem fields_readable {n : Nat} {cs : List Value} (ih : ∀ (t : TypeId) (s : Sh) (fuel : Nat) (cs : List Value) (x : DataW K × List MemPlace), shOf P n t = some s → DataW.trod enc P W 0 (fun _ => true) true fuel t cs = some x → cs.length = s.cells ∧ Readable W s cs) :
    ∀ (fs : List Field) (off : Nat) (s : Sh), shFields P (shOf P n) off fs = some s → cs.length = off + s.cells →
      (∀ f ∈ fs, ∃ fuel x, DataW.trod enc P W 0 (fun _ => true) true fuel f.type ((cs.drop f.offset).take (P.cellsOf f.type)) = some x) → Readable W s (cs.drop off) := by
  intro fs
  induction fs with
  | nil =>
    intro off s h hl _
    simp only [shFields, Option.some.injEq] at h
    subst h
    simp only [Sh.cells, Nat.add_zero] at hl
    rw [← hl, List.drop_length]
    exact fun m H hi => ⟨m, H, [], .refl _, .refl _ _, hi, .nil, rfl⟩
  | cons f fs ihf =>
    intro off s h hl hf
    simp only [shFields, Option.bind_eq_some_iff] at h
    obtain ⟨s0, h0, h⟩ := h
    split at h
    · rename_i hc
      simp only [Option.map_eq_some_iff] at h
      obtain ⟨s1, h1, rfl⟩ := h
      obtain ⟨fuel, x, hx⟩ := hf f (by simp)
      rw [hc.1, hc.2] at hx
      have r0 := (ih _ _ _ _ _ h0 hx).2
      have r1 := ihf (off + s0.cells) s1 h1 (by simp only [Sh.cells] at hl; omega) (fun g hg => hf g (by simp [hg]))
      have e : cs.drop off = (cs.drop off).take s0.cells ++ cs.drop (off + s0.cells) := by
        rw [← List.drop_drop, List.take_append_drop]
      rw [e]
      exact readable_pair r0 r1
    · cases h

theorem cell_add {W : World} {a : Addr} {i : Nat} {v : Value} {c : Array Value} {e : TypeId} {fr : Nat × Nat} (h : W.cell? (a.add i) = some v) (hb : W.heap[a.block]? = some (.cells c e fr)) (hs : a.spot = none) : c[a.off + i]? = some v := by
  have eb : (a.add i).block = a.block := by unfold Addr.add; split <;> rfl
  have eo : (a.add i).off = a.off + i := by unfold Addr.add; split <;> simp_all
  have es : (a.add i).spot = none := by unfold Addr.add; split <;> simp_all
  unfold World.cell? at h
  rw [eb, hb] at h
  simp only [es, eo] at h
  exact h

theorem trod_readable : ∀ (n : Nat) (t : TypeId) (s : Sh) (fuel : Nat) (cs : List Value) (x : DataW K × List MemPlace), shOf P n t = some s → DataW.trod enc P W 0 (fun _ => true) true fuel t cs = some x → cs.length = s.cells ∧ Readable W s cs := by
  intro n
  induction n with
  | zero => intro t s fuel cs x h; simp [shOf] at h
  | succ n ih =>
    intro t s fuel cs x h hx
    unfold shOf at h
    split at h
    · rename_i hu
      cases h
      obtain ⟨b, rfl, _⟩ := DataW.trod_bool hu hx
      exact ⟨rfl, fun m H hi => ⟨m, H, [.bool b], .refl _, .refl _ _, hi, .cons (.bool b) .nil, b, rfl⟩⟩
    · rename_i k hu
      cases h
      obtain ⟨b, rfl, _, hw⟩ := DataW.trod_int hu hx
      exact ⟨rfl, fun m H hi => ⟨m, H, [.int k b], .refl _, .refl _ _, hi, .cons (.int k b) .nil, b, rfl, hw⟩⟩
    · rename_i hu
      cases h
      obtain ⟨b, rfl, _, hw⟩ := DataW.trod_string hu hx
      exact ⟨rfl, fun m H hi => ⟨m, H, [.str b], .refl _, .refl _ _, hi, .cons (.str b) .nil, b, rfl, hw⟩⟩
    · rename_i e hu
      simp only [Option.bind_eq_some_iff] at h
      obtain ⟨s0, h0, h⟩ := h
      split at h
      · rename_i hc
        cases h
        rcases Deep.open_slice hu hx with ⟨rfl, _⟩ | ⟨a, len, cap, m, n', D, Pl, rfl, _, hlc, hm, hmm, rfl, hel⟩
        · exact ⟨rfl, fun m H hi => ⟨m, H, [.sl ⟨true, 0, 0, 0, 0, 0⟩], .refl _, .refl _ _, hi, .cons .slnil .nil, _, rfl, .inl rfl, [], rfl, by simp [Hp.lds], by simp⟩⟩
        · simp only [if_true] at hmm
          subst hmm
          refine ⟨rfl, ?_⟩
          obtain ⟨C, hC⟩ := Deep.choose_lt hel
          rw [hc.1] at hC
          refine readable_sl (L := (List.range len).map C) hc.2 (by simp) hlc hm ?_ ?_ ?_
          · intro cs hcs
            simp only [List.mem_map, List.mem_range] at hcs
            obtain ⟨i, hi, rfl⟩ := hcs
            exact (ih _ _ _ _ _ h0 (hC i (by omega)).2).1
          · intro cs hcs
            simp only [List.mem_map, List.mem_range] at hcs
            obtain ⟨i, hi, rfl⟩ := hcs
            exact (ih _ _ _ _ _ h0 (hC i (by omega)).2).2
          · intro hpos
            have key : ∀ i, i < m → ∀ j, j < s0.cells → W.cell? (a.add (i * s0.cells + j)) = (C i)[j]? ∧ (C i).length = s0.cells := by
              intro i hi j hj
              obtain ⟨_, hl, hcell⟩ := World.cells?_some (hC i hi).1
              rw [← Deep.add_add]
              exact ⟨hcell j hj, hl⟩
            have h00 := key 0 hpos 0 hc.2
            have hv : ∃ v, W.cell? a = some v := by
              have e0 : a.add (0 * s0.cells + 0) = a := by simp [Addr.add]
              rw [e0] at h00
              exact ⟨(C 0)[0]'(by have := h00.2; have := hc.2; omega), h00.1.trans (List.getElem?_eq_getElem _)⟩
            obtain ⟨v, hv⟩ := hv
            have hsp := World.cell?_spot hv
            unfold World.cell? at hv
            split at hv
            · rename_i c el fr hblk
              refine ⟨c, el, fr, hblk, hsp, ?_, ?_⟩
              · by_cases hz : len = 0
                · subst hz
                  simp only [Nat.zero_mul, Nat.add_zero]
                  rw [hsp] at hv
                  simp only [Option.isSome_none, Bool.false_eq_true, if_false] at hv
                  have := (Array.getElem?_eq_some_iff.1 hv).1
                  omega
                · have hk := key (len - 1) (by omega) (s0.cells - 1) (by omega)
                  have hk2 := cell_add (hk.1.trans (List.getElem?_eq_getElem (by have := hk.2; have := hc.2; omega))) hblk hsp
                  have := (Array.getElem?_eq_some_iff.1 hk2).1
                  have e3 : (len - 1) * s0.cells + s0.cells = len * s0.cells := by rw [← Nat.succ_mul]; congr 1; omega
                  have := hc.2
                  omega
              · intro i hi
                have hflat : ∀ (k : Nat) (hk : k ≤ m), ∀ i (hi : i < ((List.range k).map C).flatten.length), W.cell? (a.add i) = some (((List.range k).map C).flatten[i]) ∧ ((List.range k).map C).flatten.length = k * s0.cells := by
                  intro k
                  induction k with
                  | zero => intro _ i hi; simp at hi
                  | succ k ihk =>
                    intro hk i hi
                    have hlen : ((List.range k).map C).flatten.length = k * s0.cells := by
                      cases k with
                      | zero => simp
                      | succ k =>
                        refine (ihk (by omega) 0 ?_).2
                        have := (key 0 (by omega) 0 hc.2).2
                        rw [List.range_succ_eq_map]
                        simp only [List.map_cons, List.flatten_cons, List.length_append]
                        have := hc.2
                        omega
                    have hke := fun j hj => key k (by omega) j hj
                    have hCk : (C k).length = s0.cells := (hke 0 hc.2).2
                    have e : ((List.range (k + 1)).map C).flatten = ((List.range k).map C).flatten ++ C k := by
                      rw [List.range_succ]; simp
                    simp only [e] at hi ⊢
                    refine ⟨?_, by rw [List.length_append, hlen, hCk, Nat.succ_mul]⟩
                    by_cases hlt : i < ((List.range k).map C).flatten.length
                    · rw [List.getElem_append_left hlt]
                      exact (ihk (by omega) i hlt).1
                    · rw [List.length_append] at hi
                      rw [List.getElem_append_right (by omega)]
                      have := (hke (i - ((List.range k).map C).flatten.length) (by omega)).1
                      rw [← hlen] at this
                      rw [show ((List.range k).map C).flatten.length + (i - ((List.range k).map C).flatten.length) = i by omega] at this
                      rw [this, List.getElem?_eq_getElem]
                exact cell_add (hflat len hlc i hi).1 hblk hsp
            · cases hv
      · cases h
    · rename_i k e hu
      simp only [Option.bind_eq_some_iff] at h
      obtain ⟨s0, h0, h⟩ := h
      split at h
      · rename_i hc
        cases h
        obtain ⟨xs, m, _, rfl, hl, hxl, hel⟩ := DataW.trod_array hu hx
        rw [hc.2] at hl
        refine ⟨hl, ?_⟩
        rw [← chunks s0.cells k cs hl]
        refine readable_rep (by simp) fun c hcm => ?_
        simp only [List.mem_map, List.mem_range] at hcm
        obtain ⟨i, hi, rfl⟩ := hcm
        have := hel i hi
        rw [hc.1, List.getElem?_eq_getElem (by omega)] at this
        exact (ih _ _ _ _ _ h0 this).2
      · cases h
    · rename_i fs hu
      simp only [Option.bind_eq_some_iff] at h
      obtain ⟨s0, h0, h⟩ := h
      split at h
      · rename_i hc
        cases h
        obtain ⟨xs, m, _, rfl, hl, hxl, hel⟩ := DataW.trod_struct hu hx
        rw [hc] at hl
        refine ⟨hl, ?_⟩
        have := fields_readable (cs := cs) ih fs.toList 0 _ h0 (by omega) (fun f hf => by
          obtain ⟨i, hi, rfl⟩ := List.mem_iff_getElem.1 hf
          have hi' : i < fs.size := by simpa using hi
          have h2 := hel i _ (Array.getElem?_eq_getElem hi')
          rw [List.getElem?_eq_getElem (l := xs) (by omega)] at h2
          exact ⟨m, _, by simpa using h2⟩)
        simpa using this
      · cases h
    · cases h

theorem shFields_agg {f : TypeId → Option Sh} : ∀ {fs : List Field} {off : Nat} {s : Sh}, shFields P f off fs = some s → s.agg = true := by
  intro fs off s h
  cases fs with
  | nil => simp only [shFields, Option.some.injEq] at h; subst h; rfl
  | cons x xs =>
    simp only [shFields, Option.bind_eq_some_iff] at h
    obtain ⟨s0, h0, h⟩ := h
    split at h
    · simp only [Option.map_eq_some_iff] at h
      obtain ⟨s1, h1, rfl⟩ := h
      rfl
    · cases h

theorem shOf_one {n : Nat} {t : TypeId} {s : Sh} {b : Nat} {v : Value} (h : shOf P n t = some s) (hv : Value.okWide P W .any b t v) : if s.agg = true then ∃ cs, v = .agg cs else v.cells = #[v] := by
  cases n with
  | zero => simp [shOf] at h
  | succ n =>
    unfold shOf at h
    split at h
    · rename_i hu
      cases h
      obtain ⟨_, rfl⟩ := okWide_bool hu hv
      rfl
    · rename_i k hu
      cases h
      obtain ⟨_, rfl⟩ := okWide_int hu hv
      rfl
    · rename_i hu
      cases h
      obtain ⟨_, rfl⟩ := okWide_string hu hv
      rfl
    · rename_i e hu
      simp only [Option.bind_eq_some_iff] at h
      obtain ⟨s0, h0, h⟩ := h
      split at h
      · cases h
        obtain ⟨_, _, _, rfl⟩ := okWide_slice hu hv
        rfl
      · cases h
    · rename_i k e hu
      simp only [Option.bind_eq_some_iff] at h
      obtain ⟨s0, h0, h⟩ := h
      split at h
      · cases h
        simp only [Value.okWide, hu] at hv
        obtain ⟨cs, rfl, _⟩ := hv
        exact ⟨cs, rfl⟩
      · cases h
    · rename_i fs hu
      simp only [Option.bind_eq_some_iff] at h
      obtain ⟨s0, h0, h⟩ := h
      split at h
      · cases h
        rw [if_pos (shFields_agg h0)]
        simp only [Value.okWide, hu] at hv
        obtain ⟨cs, rfl, _⟩ := hv
        exact ⟨cs, rfl⟩
      · cases h
    · cases h

theorem arg_read {n : Nat} {t : TypeId} {s : Sh} {b : Nat} {v : Value} {d : DataW K} {ps : List MemPlace} (h : shOf P n t = some s) (hv : Value.okWide P W .any b t v)
    (ht : DataW.Trod enc P W 0 (fun _ => true) true t v d ps) (m : Nat → Loc) (H : Hp) (hi : In0 W m H) :
    ∃ m' H' x, Gr H H' ∧ Ext H.n m m' ∧ In0 W m' H' ∧ RV m' H'.n x v ∧ RdA H' s x := by
  obtain ⟨fuel, ht⟩ := ht
  obtain ⟨_, hr⟩ := trod_readable _ _ _ _ _ _ h ht
  obtain ⟨m', H', xs, g, e, i, r, d⟩ := hr m H hi
  have h1 := shOf_one h hv
  unfold RdA
  by_cases ha : s.agg = true
  · rw [if_pos ha] at h1
    obtain ⟨cs, rfl⟩ := h1
    refine ⟨m', H', .agg xs, g, e, i, .agg xs cs (by simpa [Value.cells] using r.1) (fun i h1 h2 => by simpa [Value.cells] using r.2 i h1 (by simpa [Value.cells] using h2)), ?_⟩
    rw [if_pos ha]
    exact ⟨xs, rfl, d⟩
  · rw [if_neg ha] at h1
    rw [h1] at r
    have hl := r.1
    match xs, hl with
    | [x], _ =>
      refine ⟨m', H', x, g, e, i, ?_, ?_⟩
      · obtain ⟨_, _, e, hx, _⟩ := r.cons_inv
        simp only [List.cons.injEq] at e
        rw [e.1]
        exact hx
      · rw [if_neg ha]
        exact d

theorem RdAs.mono {H H' : Hp} (g : Gr H H') : ∀ {ss : List Sh} {xs : List AV}, RdAs H ss xs → RdAs H' ss xs := by
  intro ss
  induction ss with
  | nil => intro xs h; exact h
  | cons s ss ih =>
    rintro xs ⟨y, ys, rfl, h1, h2⟩
    exact ⟨y, ys, rfl, h1.mono g, ih h2⟩

theorem args_read {n : Nat} {b : Nat} : ∀ {ts : List TypeId} {ss : List Sh} {vs : List Value} {ds : List (DataW K)} {ps : List MemPlace}, shsOf P n ts = some ss →
    (∀ (j : Nat) t v, ts[j]? = some t → vs[j]? = some v → Value.okWide P W .any b t v) → DataW.TrodAll enc P W 0 (fun _ => true) true ts vs ds ps →
    ∀ m H, In0 W m H → ∃ m' H' xs, Gr H H' ∧ Ext H.n m m' ∧ In0 W m' H' ∧ RVs m' H'.n xs vs ∧ RdAs H' ss xs := by
  intro ts
  induction ts with
  | nil =>
    intro ss vs ds ps h hv ht m H hi
    simp only [shsOf, Option.some.injEq] at h
    subst h
    cases vs <;> cases ds <;> simp only [DataW.TrodAll] at ht
    exact ⟨m, H, [], .refl _, .refl _ _, hi, .nil, rfl⟩
  | cons t ts ih =>
    intro ss vs ds ps h hv ht m H hi
    simp only [shsOf, Option.bind_eq_some_iff, Option.map_eq_some_iff] at h
    obtain ⟨s0, h0, ss1, h1, rfl⟩ := h
    cases vs <;> cases ds <;> simp only [DataW.TrodAll] at ht
    rename_i v vs d ds
    obtain ⟨p, q, h2, h3, rfl⟩ := ht
    obtain ⟨m1, H1, x, g1, e1, i1, r1, d1⟩ := arg_read h0 (hv 0 t v rfl rfl) h2 m H hi
    obtain ⟨m2, H2, xs, g2, e2, i2, r2, d2⟩ := ih h1 (fun j t v a b => hv (j + 1) t v (by simpa using a) (by simpa using b)) h3 m1 H1 i1
    exact ⟨m2, H2, x :: xs, g1.trans g2, e1.trans e2 g1.1, i2, .cons (r1.mono e2 g2.1) r2, x, xs, rfl, d1.mono g2, d2⟩

def H0 : Hp := ⟨[]⟩
theorem In0.empty (W : World) (m : Nat → Loc) : In0 W m H0 where
  inv :=
    { below := .refl _ _
      hB := Nat.le_refl _
      rel := fun b k h => by have := Hp.get_lt h; simp [H0, Hp.n] at this
      excl := fun b b' k k' _ h => by have := Hp.get_lt h; simp [H0, Hp.n] at this }
  own := fun b k h => by have := Hp.get_lt h; simp [H0, Hp.n] at this

/-- THE LAW's CONTRACT, out of the call on the abstract heap. -/
theorem law_contract {fi : FuncId} {f : Func} {s : ChangeSpec} {apart fresh handsOn again : Bool} {args : Array Value} {ds gs : List (DataW K)} {before : List MemPlace} {b : TypeId} {base n : Nat} {ss : List Sh}
    (hvars : s.vars = []) (hfn : ∀ ds : List (DataW K), ds.length = f.params.size → s.fn K ds = { results := [.lit (.bool true)], args := ds })
    (hres : f.resultTypes = #[b]) (hb : P.underlying b = some .bool) (hl : laidOutB P = true) (hp : parOk P f.params.toList = true) (hs : shsOf P n f.params.toList = some ss)
    (hlaw : ∀ (H : Hp) (xs : List AV), NoOwn H → RdAs H ss xs → ∃ H1, CallSim P fi xs H (.bool true) H1)
    (hval : ∀ (j : Nat) t v, f.params[j]? = some t → args[j]? = some v → Value.okWide P W .any base t v)
    (hW : DataW.Whole enc P f.params.toList s.vars apart W args.toList ds gs before) :
    Calls P fi args W fun e W' => ∃ v, e = .returned v ∧ s.post enc P f apart fresh handsOn again W args v W' := by
  have hW' := hW
  obtain ⟨p, q, hA, _⟩ := hW
  obtain ⟨m, H, xs, _, _, hi, hr, hd⟩ := args_read hs (fun j t v a b => hval j t v (by simpa using a) (by simpa using b)) hA (fun _ => ⟨0, 0, 0⟩) H0 (.empty W _)
  obtain ⟨H1, hle, hc⟩ := hlaw H xs hi.own hd
  refine (hc _ _ _ _ _ hr hi.inv).mono fun e W' ⟨v', m', he, _, hv, hi'⟩ => ?_
  subst he
  rw [hv.bool_inv]
  exact ⟨_, rfl, law_post hvars hfn hres hb hl hp hW' hi'.below⟩
end Go.Lt
