/- THE LIBRARY OF THESE PROOFS, A PART: an abstract heap, and that the model's steps keep to it. Nothing is asked of the input. -/
import Derived.Test.YthmhdbmpeepmaaaLArgs
set_option linter.unusedVariables false
namespace Go.Lt
open Go.RowKit

theorem w64_id {n : Int} (h : -9223372036854775808 ≤ n) (h' : n < 9223372036854775808) : w64 n = n := by
  simp only [w64, IntKind.wrap, IntKind.signed, IntKind.bits]
  simp
  omega

/-- a slice that holds these cells -/
def Cs (H : Hp) (es : Nat) (v : Sl) (cs : List AV) : Prop := cs.length = v.len * es ∧ H.lds v.b v.o cs.length = some cs
/-- a slice that holds these numbers -/
def Ints (H : Hp) (v : Sl) (l : List Int) : Prop := Cs H 1 v (l.map (.int .i64))

theorem lds_get {H : Hp} {b : Nat} : ∀ {n o : Nat} {cs : List AV}, H.lds b o n = some cs → cs.length = n ∧ ∀ i (h : i < cs.length), H.ld b (o + i) = some cs[i] := by
  intro n
  induction n with
  | zero => intro o cs h; cases h; exact ⟨rfl, fun i h => absurd h (by simp)⟩
  | succ n ih =>
    intro o cs h
    simp only [Hp.lds, Option.bind_eq_some_iff, Option.map_eq_some_iff] at h
    obtain ⟨x, h1, y, h2, rfl⟩ := h
    obtain ⟨hl, hg⟩ := ih h2
    refine ⟨by simp [hl], fun i hi => ?_⟩
    cases i with
    | zero => exact h1
    | succ i =>
      have := hg i (by simpa using hi)
      rw [show o + 1 + i = o + (i + 1) by omega] at this
      simpa using this
theorem lds_of_get {H : Hp} {b : Nat} : ∀ {cs : List AV} {o : Nat}, (∀ i (h : i < cs.length), H.ld b (o + i) = some cs[i]) → H.lds b o cs.length = some cs := by
  intro cs
  induction cs with
  | nil => intro o h; rfl
  | cons c cs ih =>
    intro o h
    refine lds_cons (by have := h 0 (by simp); rwa [Nat.add_zero] at this) (ih fun i hi => ?_)
    have := h (i + 1) (by simpa using hi)
    rw [show o + 1 + i = o + (i + 1) by omega]
    simpa using this

theorem Ints.len {H : Hp} {v : Sl} {l : List Int} (h : Ints H v l) : v.len = l.length := by
  have := h.1; simp at this; omega
theorem Ints.ld {H : Hp} {v : Sl} {l : List Int} (h : Ints H v l) {i : Nat} (hi : i < l.length) : H.ld v.b (v.o + i) = some (.int .i64 l[i]) := by
  have := (lds_get h.2).2 i (by simpa using hi)
  simpa using this
theorem Ints.ldI {H : Hp} {v : Sl} {l : List Int} (h : Ints H v l) {i : Nat} (hi : i < l.length) : H.ldI .i64 v.b (v.o + i) = some l[i] := by
  simp [Hp.ldI, h.ld hi, AV.asI]
theorem Ints.lds {H : Hp} {v : Sl} {l : List Int} (h : Ints H v l) : H.lds v.b v.o v.len = some (l.map (.int .i64)) := by
  have := h.2
  rw [List.length_map, ← h.len] at this
  exact this
theorem Ints.mk {H : Hp} {v : Sl} {l : List Int} (hl : v.len = l.length) (h : ∀ i (hi : i < l.length), H.ld v.b (v.o + i) = some (.int .i64 l[i])) : Ints H v l :=
  ⟨by simp [hl], lds_of_get fun i hi => by simpa using h i (by simpa using hi)⟩
theorem Ints.gr {H H' : Hp} (g : Gr H H') {v : Sl} {l : List Int} (h : Ints H v l) : Ints H' v l := ⟨h.1, g.lds h.2⟩
theorem Ints.nil {H : Hp} {v : Sl} (h : v.len = 0) : Ints H v [] := ⟨by simp [h], rfl⟩

/-! ### a call on its own heap -/
def AV.plain : AV → Bool
  | .bool _ => true
  | .int .. => true
  | .str _ => true
  | .nilptr => true
  | .nilmap => true
  | .nilfn => true
  | .niliface => true
  | _ => false
theorem RV.plain {m m' : Nat → Loc} {n n' : Nat} {x : AV} {v : Value} (h : RV m n x v) (hx : x.plain = true) : RV m' n' x v := by
  cases h <;> first | (simp [AV.plain] at hx; done) | constructor
/-- the heap is as it was, though the call made blocks of its own -/
theorem CallSim.own {P : Program} {f : FuncId} {args : List AV} {v : AV} {H1 : Hp} (h : CallSim P f args H0 v H1) (ha : args.all AV.plain = true) (hv : v.plain = true) (H : Hp) : CallSim P f args H v H := by
  refine ⟨Nat.le_refl _, fun B w0 m w args' hr hi => ?_⟩
  have hr0 : RVs m H0.n args args'.toList := ⟨hr.1, fun i h1 h2 => (hr.2 i h1 h2).plain (List.all_eq_true.1 ha _ (List.getElem_mem h1))⟩
  refine (h.2 w.heap.size w m w args' hr0 (In0.empty w m).inv).mono fun e W' ⟨v', m', he, _, hv', hi'⟩ => ?_
  refine ⟨v', m, he, .refl _ _, hv'.plain hv, ?_⟩
  have hb := hi'.below
  exact ⟨hi.below.trans (hb.mono hi.hB), Nat.le_trans hi.hB hb.size, fun b k hg => by
    by_cases hl : k.live = true
    · exact (hi.rel b k hg).mono (.refl _ _) (Nat.le_refl _) (Hp.get_lt hg) (fun _ => hb.block _ (hi.blk_lt hg hl))
    · cases k <;> simp_all [Blk.live, BlkRel], hi.excl⟩
end Go.Lt
