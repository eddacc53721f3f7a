/- THE LIBRARY OF THESE PROOFS, A PART: an abstract heap, and that the model's steps keep to it. Nothing is asked of the input. -/
import Derived.Below
import Derived.Orders
set_option linter.unusedVariables false
set_option linter.unusedSimpArgs false
namespace Go.Lt
open Go.RowKit

/-- A slice: nil or not, its block, where it begins, its length, what is known of its capacity; opn: 0 where the capacity is known, else one more than ... -/
structure Sl where
  nil : Bool
  b : Nat
  o : Nat
  len : Nat
  cap : Nat
  opn : Nat
  deriving DecidableEq, Inhabited

inductive AV where
  | undef
  | bool (b : Bool)
  | int (k : IntKind) (n : Int)
  | str (s : ByteArray)
  | ptr (b o : Nat)
  | nilptr
  | sl (s : Sl)
  | map (b : Nat)
  | nilmap
  | fn (f : FuncId) (first caps : List AV)
  | yld (l : Nat)
  | nilfn
  | iface (t : TypeId) (v : AV)
  | niliface
  | agg (cs : List AV)
  | tup (vs : List AV)
  | gptr (g : Nat)
  deriving Inhabited

structure Loc where
  blk : Nat
  sh : Nat
  sz : Nat

inductive RV (m : Nat → Loc) (n : Nat) : AV → Value → Prop where
  | undef (v : Value) : RV m n .undef v
  | bool (b : Bool) : RV m n (.bool b) (.bool b)
  | int (k : IntKind) (i : Int) : RV m n (.int k i) (.int k i)
  | str (s : ByteArray) : RV m n (.str s) (.string s)
  | ptr (b o : Nat) (h : b < n) : RV m n (.ptr b o) (.pointer (some ⟨(m b).blk, (m b).sh + o, none⟩))
  | nilptr : RV m n .nilptr (.pointer none)
  | slnil : RV m n (.sl ⟨true, 0, 0, 0, 0, 0⟩) (.slice none 0 0)
  | sl (b o len cap : Nat) (h : b < n) (hl : len ≤ cap) : RV m n (.sl ⟨false, b, o, len, cap, 0⟩) (.slice (some ⟨(m b).blk, (m b).sh + o, none⟩) len cap)
  | slo (b o len cap p cap' : Nat) (h : b < n) (hl : len ≤ cap) (hc : cap ≤ cap') (hz : (m b).sh + o + cap' * (p + 1) ≤ (m b).sz) :
      RV m n (.sl ⟨false, b, o, len, cap, p + 1⟩) (.slice (some ⟨(m b).blk, (m b).sh + o, none⟩) len cap')
  | sle (b o p : Nat) (h : b < n) (a : Addr) : RV m n (.sl ⟨false, b, o, 0, 0, p⟩) (.slice (some a) 0 0)
  | map (b : Nat) (h : b < n) : RV m n (.map b) (.map (some (m b).blk))
  | nilmap : RV m n .nilmap (.map none)
  | fn (f : FuncId) (xs ys : List AV) (us vs : Array Value) (hx : xs.length = us.size) (hy : ys.length = vs.size)
      (h : ∀ i (h1 : i < xs.length) (h2 : i < us.size), RV m n xs[i] us[i]) (h' : ∀ i (h1 : i < ys.length) (h2 : i < vs.size), RV m n ys[i] vs[i]) :
      RV m n (.fn f xs ys) (.func (.func f) us vs)
  | yld (l : Nat) (h : l < n) : RV m n (.yld l) (.func (.yield (m l).blk) #[] #[])
  | nilfn : RV m n .nilfn .nilFunc
  | iface (t : TypeId) (x : AV) (v : Value) (h : RV m n x v) : RV m n (.iface t x) (.iface t v)
  | niliface : RV m n .niliface .nilIface
  | agg (xs : List AV) (vs : Array Value) (hx : xs.length = vs.size) (h : ∀ i (h1 : i < xs.length) (h2 : i < vs.size), RV m n xs[i] vs[i]) :
      RV m n (.agg xs) (.agg vs)
  | tup (xs : List AV) (vs : Array Value) (hx : xs.length = vs.size) (h : ∀ i (h1 : i < xs.length) (h2 : i < vs.size), RV m n xs[i] vs[i]) :
      RV m n (.tup xs) (.tuple vs)
  | gptr (g : Nat) : RV m n (.gptr g) (.pointer (some ⟨g, 0, none⟩))

/-- many values -/
def RVs (m : Nat → Loc) (n : Nat) (xs : List AV) (vs : List Value) : Prop :=
  xs.length = vs.length ∧ ∀ i (h1 : i < xs.length) (h2 : i < vs.length), RV m n xs[i] vs[i]

def Ext (n : Nat) (m m' : Nat → Loc) : Prop := ∀ b, b < n → m' b = m b
theorem Ext.refl (n : Nat) (m : Nat → Loc) : Ext n m m := fun _ _ => rfl
theorem Ext.trans {n n' : Nat} {a b c : Nat → Loc} (h : Ext n a b) (k : Ext n' b c) (hn : n ≤ n') : Ext n a c :=
  fun i hi => (k i (by omega)).trans (h i hi)

theorem RV.mono {m m' : Nat → Loc} {n n' : Nat} {x : AV} {v : Value} (h : RV m n x v) (he : Ext n m m') (hn : n ≤ n') : RV m' n' x v := by
  induction h with
  | undef v => exact .undef v
  | bool b => exact .bool b
  | int k i => exact .int k i
  | str s => exact .str s
  | ptr b o h => rw [← he b h]; exact .ptr b o (by omega)
  | nilptr => exact .nilptr
  | slnil => exact .slnil
  | sl b o len cap h hl => rw [← he b h]; exact .sl b o len cap (by omega) hl
  | slo b o len cap p cap' h hl hc hz => rw [← he b h] at hz ⊢; exact .slo b o len cap p cap' (by omega) hl hc hz
  | sle b o p h a => exact .sle b o p (by omega) a
  | map b h => rw [← he b h]; exact .map b (by omega)
  | nilmap => exact .nilmap
  | fn f xs ys us vs hx hy h h' ih ih' => exact .fn f xs ys us vs hx hy ih ih'
  | yld l h => rw [← he l h]; exact .yld l (by omega)
  | nilfn => exact .nilfn
  | iface t x v h ih => exact .iface t x v ih
  | niliface => exact .niliface
  | agg xs vs hx h ih => exact .agg xs vs hx ih
  | tup xs vs hx h ih => exact .tup xs vs hx ih
  | gptr g => exact .gptr g

theorem RVs.mono {m m' : Nat → Loc} {n n' : Nat} {xs : List AV} {vs : List Value} (h : RVs m n xs vs) (he : Ext n m m') (hn : n ≤ n') : RVs m' n' xs vs :=
  ⟨h.1, fun i h1 h2 => (h.2 i h1 h2).mono he hn⟩
theorem RVs.nil {m : Nat → Loc} {n : Nat} : RVs m n [] [] := ⟨rfl, fun i h => absurd h (by simp)⟩
theorem RVs.cons {m : Nat → Loc} {n : Nat} {x : AV} {v : Value} {xs : List AV} {vs : List Value} (h : RV m n x v) (hs : RVs m n xs vs) :
    RVs m n (x :: xs) (v :: vs) := by
  refine ⟨by simp [hs.1], fun i h1 h2 => ?_⟩
  cases i with
  | zero => exact h
  | succ i => exact hs.2 i (by simpa using h1) (by simpa using h2)
theorem RVs.cons_inv {m : Nat → Loc} {n : Nat} {x : AV} {xs : List AV} {us : List Value} (h : RVs m n (x :: xs) us) :
    ∃ v vs, us = v :: vs ∧ RV m n x v ∧ RVs m n xs vs := by
  obtain ⟨hl, h⟩ := h
  cases us with
  | nil => simp at hl
  | cons v vs => exact ⟨v, vs, rfl, h 0 (by simp) (by simp), by simpa using hl, fun i h1 h2 => h (i + 1) (by simpa using h1) (by simpa using h2)⟩
theorem RVs.nil_inv {m : Nat → Loc} {n : Nat} {us : List Value} (h : RVs m n [] us) : us = [] := by
  have := h.1
  cases us with
  | nil => rfl
  | cons _ _ => simp at this
theorem RVs.append {m : Nat → Loc} {n : Nat} {xs ys : List AV} {us vs : List Value} (h : RVs m n xs us) (k : RVs m n ys vs) : RVs m n (xs ++ ys) (us ++ vs) := by
  induction xs generalizing us with
  | nil => rw [h.nil_inv]; exact k
  | cons x xs ih =>
    obtain ⟨v, vs', rfl, hv, hvs⟩ := h.cons_inv
    exact .cons hv (ih hvs)

/-! ### the heap -/
/-- the kinds of keys -/
inductive KT where
  | int (k : IntKind)
  | str
  | arr (n : Nat) (k : IntKind)
  deriving DecidableEq, Inhabited
def AV.isInt (k : IntKind) : AV → Bool
  | .int k' _ => decide (k' = k)
  | _ => false
def KT.ok : KT → AV → Bool
  | .int k, x => x.isInt k
  | .str, .str _ => true
  | .arr n k, .agg xs => xs.length == n && xs.all (AV.isInt k)
  | _, _ => false

inductive Blk where
  | cells (cs : List AV) (ro : Bool)
  | map (kt : KT) (es : List (AV × AV))
  | iter (s : ByteArray) (pos : Nat)
  | dead
  deriving Inhabited

def Blk.owned : Blk → Bool
  | .cells _ ro => !ro
  | .map .. => true
  | .iter .. => true
  | .dead => false
def Blk.live : Blk → Bool
  | .dead => false
  | _ => true

/-- the newest block stands first -/
structure Hp where
  bs : List Blk
def Hp.n (H : Hp) : Nat := H.bs.length
def Hp.get (H : Hp) (b : Nat) : Option Blk := if b < H.bs.length then H.bs[H.bs.length - 1 - b]? else none
def Hp.push (H : Hp) (k : Blk) : Hp := ⟨k :: H.bs⟩
def Hp.set (H : Hp) (b : Nat) (k : Blk) : Hp := if b < H.bs.length then ⟨H.bs.set (H.bs.length - 1 - b) k⟩ else H

theorem Hp.get_lt {H : Hp} {b : Nat} {k : Blk} (h : H.get b = some k) : b < H.n := by
  unfold Hp.get at h
  split at h
  · assumption
  · cases h
@[simp] theorem Hp.n_push (H : Hp) (k : Blk) : (H.push k).n = H.n + 1 := rfl
@[simp] theorem Hp.n_set (H : Hp) (b : Nat) (k : Blk) : (H.set b k).n = H.n := by
  unfold Hp.set Hp.n
  split <;> simp
@[simp] theorem Hp.get_push_new (H : Hp) (k : Blk) : (H.push k).get H.n = some k := by
  simp [Hp.get, Hp.push, Hp.n]
theorem Hp.get_push_old (H : Hp) (k : Blk) {b : Nat} (h : b < H.n) : (H.push k).get b = H.get b := by
  have hb : b < H.bs.length := h
  unfold Hp.get Hp.push
  simp only [List.length_cons]
  rw [if_pos (by omega), if_pos hb]
  rw [show H.bs.length + 1 - 1 - b = (H.bs.length - 1 - b) + 1 by omega]
  simp
theorem Hp.get_push (H : Hp) (k : Blk) (b : Nat) : (H.push k).get b = if b = H.n then some k else H.get b := by
  by_cases h : b = H.n
  · subst h; simp
  · rw [if_neg h]
    by_cases h2 : b < H.n
    · exact Hp.get_push_old H k h2
    · unfold Hp.get Hp.push
      simp only [List.length_cons]
      unfold Hp.n at h h2
      rw [if_neg (by omega), if_neg (by omega)]
theorem Hp.get_set_same (H : Hp) (k : Blk) {b : Nat} (h : b < H.n) : (H.set b k).get b = some k := by
  have hb : b < H.bs.length := h
  unfold Hp.get Hp.set
  rw [if_pos hb]
  simp only [List.length_set]
  rw [if_pos hb]
  rw [List.getElem?_set_self (by omega)]
theorem Hp.get_set_other (H : Hp) (k : Blk) {b b' : Nat} (h : b' ≠ b) : (H.set b k).get b' = H.get b' := by
  unfold Hp.get Hp.set
  by_cases hb : b < H.bs.length
  · rw [if_pos hb]
    simp only [List.length_set]
    by_cases hb' : b' < H.bs.length
    · rw [if_pos hb', if_pos hb']
      rw [List.getElem?_set_ne (by omega)]
    · rw [if_neg hb', if_neg hb']
  · rw [if_neg hb]

/-! ### what the heap says of a world -/
def CellsAt (m : Nat → Loc) (n : Nat) (c : Array Value) (sh : Nat) (cs : List AV) : Prop :=
  ∀ i (h : i < cs.length), ∃ v, c[sh + i]? = some v ∧ RV m n cs[i] v

/-- nothing of so many cells is frozen -/
def NotFr (fr : Nat × Nat) (n : Nat) : Prop := ∀ i, i < n → ¬ (fr.1 ≤ i ∧ i < fr.2)
theorem NotFr.zero (n : Nat) : NotFr (0, 0) n := fun i _ h => by simp at h

def BlkRel (B : Nat) (m : Nat → Loc) (n : Nat) (w : World) (b : Nat) : Blk → Prop
  | .cells cs ro => ∃ c e fr, w.heap[(m b).blk]? = some (.cells c e fr) ∧ c.size = (m b).sz ∧ (m b).sh + cs.length ≤ c.size ∧
      CellsAt m n c (m b).sh cs ∧ (ro = false → NotFr fr c.size ∧ B ≤ (m b).blk)
  | .map kt es => ∃ ents clock, w.heap[(m b).blk]? = some (.map ents clock) ∧ B ≤ (m b).blk ∧ ents.size = es.length ∧ (∀ e, e ∈ es → kt.ok e.1 = true) ∧
      ∀ i (h1 : i < es.length) (h2 : i < ents.size), RV m n es[i].1 ents[i].key ∧ RV m n es[i].2 ents[i].val
  | .iter s pos => w.heap[(m b).blk]? = some (.stringIter s pos) ∧ B ≤ (m b).blk
  | .dead => True

structure Inv (B : Nat) (w0 : World) (m : Nat → Loc) (H : Hp) (w : World) : Prop where
  below : Below B w0 w
  hB : B ≤ w.heap.size
  rel : ∀ b k, H.get b = some k → BlkRel B m H.n w b k
  excl : ∀ b b' k k', b ≠ b' → H.get b = some k → H.get b' = some k' → k.owned = true → k'.live = true → (m b).blk ≠ (m b').blk

end Go.Lt
